/- The framework, part 14: pure data of a value; zero rows; pieces of lists. -/
import Derived.Test.YthlajkcfbpfmdaaFw13
namespace Go.Pf
open Go Go.RowKit

def seg {α : Type} (l : List α) (o n : Nat) : List α := (l.drop o).take n
def splice {α : Type} (l : List α) (o : Nat) (xs : List α) : List α := l.take o ++ (xs ++ l.drop (o + xs.length))

theorem splice_length {α : Type} {l : List α} {o : Nat} {xs : List α} (h : o + xs.length ≤ l.length) : (splice l o xs).length = l.length := by
  simp only [splice, List.length_append, List.length_take, List.length_drop]; omega

theorem seg_get {α : Type} (l : List α) (o n j : Nat) : (seg l o n)[j]? = if j < n then l[o + j]? else none := by
  simp [seg, List.getElem?_take, List.getElem?_drop]

theorem splice_get {α : Type} {l : List α} {o : Nat} {xs : List α} (h : o + xs.length ≤ l.length) (j : Nat) :
    (splice l o xs)[j]? = if j < o then l[j]? else if j < o + xs.length then xs[j - o]? else l[j]? := by
  simp only [splice, List.getElem?_append, List.length_take, List.getElem?_take, List.getElem?_drop]
  have e : min o l.length = o := by omega
  rw [e]
  by_cases h1 : j < o
  · simp [h1]
  · simp only [h1, if_false]
    by_cases h2 : j < o + xs.length
    · rw [if_pos (by omega), if_pos h2]
    · rw [if_neg (by omega), if_neg h2]
      congr 1; omega

theorem seg_splice_other {α : Type} {l : List α} {o : Nat} {xs : List α} (h : o + xs.length ≤ l.length) {p n : Nat} (hd : p + n ≤ o ∨ o + xs.length ≤ p) : seg (splice l o xs) p n = seg l p n := by
  apply List.ext_getElem?
  intro j
  rw [seg_get, seg_get]
  by_cases hj : j < n
  · simp only [hj, if_true]
    rw [splice_get h]
    by_cases h1 : p + j < o
    · simp [h1]
    · rw [if_neg h1, if_neg (by omega)]
  · simp [hj]

theorem seg_splice_in {α : Type} {l : List α} {o : Nat} {xs : List α} (h : o + xs.length ≤ l.length) {p n : Nat} (h1 : p ≤ o) (h2 : o + xs.length ≤ p + n) (hpn : p + n ≤ l.length) : seg (splice l o xs) p n = splice (seg l p n) (o - p) xs := by
  have hl : (seg l p n).length = n := by simp [seg]; omega
  apply List.ext_getElem?
  intro j
  rw [seg_get (splice l o xs), splice_get h, splice_get (l := seg l p n) (by rw [hl]; omega), seg_get]
  by_cases hj : j < n
  · simp only [hj, if_true]
    by_cases h3 : p + j < o
    · rw [if_pos h3, if_pos (by omega)]
    · rw [if_neg h3]
      by_cases h4 : p + j < o + xs.length
      · rw [if_pos h4, if_neg (by omega), if_pos (by omega)]; congr 1; omega
      · rw [if_neg h4, if_neg (by omega), if_neg (by omega)]
  · simp only [hj, if_false]
    rw [if_neg (by omega), if_neg (by omega)]

section
variable {P : Program} {E : Env} {nt : Nat} {g g' : Gh} {F : Frm} {H H' : Hp} {a : Act} {tmps : Array Value} {w w' : World} {o : Oper} {out : Out}

theorem RC_one {I : Nat → Prop} {x : PV} {v : Value} (_ : RC I w x [v]) (_ : x.one = true) : True := trivial

theorem VR_own_data (hr : Rel E nt g F H tmps w) {id lo len ext : Nat} {cap : Option Nat} {v : Value} {hb : HB} (h : VR g H w (.own id lo len ext cap) v) (e : H[id]? = some hb) (hl : hb.rows.length = ext) (hp : hb.pu = true) :
    ∃ g', Rel E nt g' F (H.set id { hb with fz := true }) tmps w ∧ Nx g g' H (H.set id { hb with fz := true }) w w ∧ g'.β = g.β ∧ g'.ρ = g.ρ ∧ RC g'.I w (.data ((hb.rows.drop lo).take len)) [v] := by
  simp only [VR] at h
  obtain ⟨hb', ad, c, e', hle, hv, hc, hm, hcc, hcond⟩ := h
  rw [e] at e'; cases e'
  obtain ⟨b, o1, hρ, hle2, had, _, _⟩ := hcond hl
  obtain ⟨g', b', o', h1, h2, h3, h4, h5, h6, h7, h8⟩ := hr.freeze e hp
  rw [hρ] at h5; cases h5
  refine ⟨g', h1, h2, h4, h3, ?_⟩
  simp only [RC]
  refine ⟨some ad, len, c, by rw [hv], ?_, hc, hm, ?_⟩
  · rw [List.length_take, List.length_drop]; omega
  · by_cases hz : len = 0
    · subst hz; left; simp
    · right
      exact ⟨b, o1 + lo * hb.esz, hb.esz, by rw [had (by omega)], h6, h8, RowsC_seg h7 lo len⟩

theorem purify1_sound (hr : Rel E nt g F H tmps w) {p q : PV} {v : Value} (h : VR g H w p v) (hq : purify1 H p = some (q, H')) :
    ∃ g', Rel E nt g' F H' tmps w ∧ Nx g g' H H' w w ∧ g'.β = g.β ∧ g'.ρ = g.ρ ∧ RC g'.I w q [v] ∧ q.one = true := by
  unfold purify1 at hq
  split at hq
  · cases hq; simp only [VR] at h; subst h
    exact ⟨g, hr, Nx.refl g H w, rfl, rfl, by simp [RC], rfl⟩
  · cases hq; simp only [VR] at h; obtain ⟨rfl, h⟩ := h
    exact ⟨g, hr, Nx.refl g H w, rfl, rfl, by simp only [RC]; exact ⟨trivial, h⟩, rfl⟩
  · cases hq; simp only [VR] at h; subst h
    exact ⟨g, hr, Nx.refl g H w, rfl, rfl, by simp only [RC]; exact ⟨_, _, _, rfl, rfl, Nat.le_refl _, Nat.zero_le _, .inl trivial⟩, rfl⟩
  · cases hq; simp only [VR] at h; obtain ⟨ad, rfl⟩ := h
    exact ⟨g, hr, Nx.refl g H w, rfl, rfl, by simp only [RC]; exact ⟨_, _, _, rfl, rfl, Nat.le_refl _, Nat.zero_le _, .inl trivial⟩, rfl⟩
  · cases hq; simp only [VR] at h; obtain ⟨ad, c, rfl, hc, _⟩ := h
    exact ⟨g, hr, Nx.refl g H w, rfl, rfl, by simp only [RC]; exact ⟨_, _, _, rfl, rfl, Nat.zero_le _, hc, .inl trivial⟩, rfl⟩
  · cases hq; simp only [VR] at h
    exact ⟨g, hr, Nx.refl g H w, rfl, rfl, h, rfl⟩
  · split at hq
    · rename_i hb e
      split at hq
      · rename_i hc
        cases hq
        obtain ⟨g', h1, h2, h3, h4, h5⟩ := VR_own_data hr h e hc.1 hc.2.2
        exact ⟨g', h1, h2, h3, h4, h5, rfl⟩
      · cases hq
    · cases hq
  · cases hq

theorem purifyL_sound : ∀ (cs ds : List PV) (vs : List Value) (H H' : Hp) (g : Gh), Rel E nt g F H tmps w → VCs g H w cs vs → purifyL H cs = some (ds, H') →
    ∃ g', Rel E nt g' F H' tmps w ∧ Nx g g' H H' w w ∧ g'.β = g.β ∧ g'.ρ = g.ρ ∧ CellsC g'.I w ds vs
  | [], ds, vs, H, H', g, hr, h, hq => by
    simp only [purifyL, Option.some.injEq, Prod.mk.injEq] at hq
    obtain ⟨rfl, rfl⟩ := hq
    simp only [VCs] at h; subst h
    exact ⟨g, hr, Nx.refl g H w, rfl, rfl, by simp [CellsC]⟩
  | x :: r, ds, vs, H, H', g, hr, h, hq => by
    simp only [purifyL] at hq
    split at hq
    · rename_i y H1 hy
      split at hq
      · rename_i ys H2 hys
        cases hq
        simp only [VCs] at h
        obtain ⟨v, vr, rfl, ho, h1, h2⟩ := h
        obtain ⟨g1, r1, n1, b1, p1, c1, o1⟩ := purify1_sound hr h1 hy
        obtain ⟨g2, r2, n2, b2, p2, c2⟩ := purifyL_sound r ys vr H1 H' g1 r1 (VCs_on n1.on r vr h2) hys
        refine ⟨g2, r2, n1.trans n2, b2.trans b1, p2.trans p1, ?_⟩
        simp only [CellsC]
        exact ⟨v, vr, rfl, o1, RC_keep n2.on.keeps y [v] c1, c2⟩
      · cases hq
    · cases hq

theorem purify_sound {H' : Hp} (hr : Rel E nt g F H tmps w) {p q : PV} {v : Value} (h : VR g H w p v) (hq : purify H p = some (q, H')) :
    ∃ g', Rel E nt g' F H' tmps w ∧ Nx g g' H H' w w ∧ g'.β = g.β ∧ g'.ρ = g.ρ ∧ RC g'.I w q v.cells.toList ∧ VP1 g'.I w q v := by
  have scalar : ∀ {q : PV}, purify1 H p = some (q, H') → ∃ g', Rel E nt g' F H' tmps w ∧ Nx g g' H H' w w ∧ g'.β = g.β ∧ g'.ρ = g.ρ ∧ RC g'.I w q v.cells.toList ∧ VP1 g'.I w q v := by
    intro q hq
    obtain ⟨g', h1, h2, h3, h4, h5, h6⟩ := purify1_sound hr h hq
    have hv : v.cells.toList = [v] := by
      cases q <;> simp only [RC] at h5 <;> first
        | (simp only [List.cons.injEq, and_true] at h5; subst h5; rfl)
        | (obtain ⟨e, _⟩ := h5; simp only [List.cons.injEq, and_true] at e; subst e; rfl)
        | (obtain ⟨_, _, _, e, _⟩ := h5; simp only [List.cons.injEq, and_true] at e; subst e; rfl)
        | exact h5.elim
        | simp [PV.one] at h6
    refine ⟨g', h1, h2, h3, h4, by rw [hv]; exact h5, ?_⟩
    cases q <;> simp only [VP1] <;> first | exact h5 | (simp only [RC] at h5; done) | (simp [PV.one] at h6; done)
  unfold purify at hq
  split at hq
  · rename_i cs
    simp only [Option.map_eq_some_iff] at hq
    obtain ⟨⟨ys, H1⟩, hys, e⟩ := hq
    cases e
    simp only [VR] at h
    obtain ⟨vs, rfl, hvs⟩ := h
    obtain ⟨g', h1, h2, h3, h4, h5⟩ := purifyL_sound cs ys vs H _ g hr hvs hys
    exact ⟨g', h1, h2, h3, h4, by simpa only [RC, Value.cells] using h5, by simp only [VP1]; exact ⟨vs, rfl, h5⟩⟩
  · exact scalar hq

theorem VP1_keep {I I' : Nat → Prop} (k : Keeps I I' w w') {x : PV} {v : Value} (h : VP1 I w x v) : VP1 I' w' x v := by
  cases x <;> simp only [VP1] at h ⊢ <;> first
    | (obtain ⟨b, o, esz, e, h1, h2, h3, h4⟩ := h; exact ⟨b, o, esz, e, (k b h1).1, h2, h3, RowsC_keep k _ _ _ _ h1 h4⟩)
    | exact RC_keep k _ _ h
    | exact h
    | (obtain ⟨vs, e, h⟩ := h; exact ⟨vs, e, CellsC_keep k _ _ h⟩)

theorem purifyAll_sound : ∀ (cs ds : List PV) (vs : List Value) (H H' : Hp) (g : Gh), Rel E nt g F H tmps w → VRs g H w cs vs → purifyAll H cs = some (ds, H') →
    ∃ g', Rel E nt g' F H' tmps w ∧ Nx g g' H H' w w ∧ g'.β = g.β ∧ g'.ρ = g.ρ ∧ VPs g'.I w ds vs
  | [], ds, vs, H, H', g, hr, h, hq => by
    simp only [purifyAll, Option.some.injEq, Prod.mk.injEq] at hq
    obtain ⟨rfl, rfl⟩ := hq
    simp only [VRs] at h; subst h
    exact ⟨g, hr, Nx.refl g H w, rfl, rfl, by simp [VPs]⟩
  | x :: r, ds, vs, H, H', g, hr, h, hq => by
    simp only [purifyAll] at hq
    split at hq
    · rename_i y H1 hy
      split at hq
      · rename_i ys H2 hys
        cases hq
        simp only [VRs] at h
        obtain ⟨v, vr, rfl, h1, h2⟩ := h
        obtain ⟨g1, r1, n1, b1, p1, _, c1⟩ := purify_sound hr h1 hy
        obtain ⟨g2, r2, n2, b2, p2, c2⟩ := purifyAll_sound r ys vr H1 H' g1 r1 (VRs_on n1.on r vr h2) hys
        refine ⟨g2, r2, n1.trans n2, b2.trans b1, p2.trans p1, ?_⟩
        simp only [VPs]
        exact ⟨v, vr, rfl, VP1_keep n2.on.keeps c1, c2⟩
      · cases hq
    · cases hq

/-- Memory that nobody speaks of. -/
theorem Rel.alloc (h : Rel E nt g F H tmps w) (ob : Obj) : Rel E nt g F H tmps (w.alloc ob) ∧ Nx g g H H w (w.alloc ob) := by
  have hon := On.alloc (g := g) (H := H) h.imm ob
  refine ⟨h.upd hon rfl (by simp) (fun s b hb => ⟨alloc_old w _ (h.bimm s b hb).2, (h.bimm s b hb).1, fun ⟨id, o, hr⟩ => h.brho s b id o hb hr⟩) ?_ h.dist h.rsome (fun b hb => by have := h.imm b hb; simp; omega), ?_⟩
  · intro id hb e
    obtain ⟨b, o, hk⟩ := h.heap id hb e
    exact ⟨b, o, BlkR_on hon hk (alloc_old w _ (h.brng ⟨id, o, hk.at_⟩)) rfl (fun x => x)⟩
  · exact ⟨rfl, rfl, rfl, Nat.le_refl _, by simp, fun b hb _ _ => alloc_old w _ hb, fun _ _ x => x, fun _ _ x => .inl x, fun _ _ x => x, hon⟩

theorem dataNil_RC {x : PV} {v : Value} {I : Nat → Prop} (hc : cellConst v = some x) (hp : pureCell (dataNil x) = true) : RC I w (dataNil x) [v] ∧ (dataNil x).one = true := by
  unfold cellConst at hc
  split at hc
  · cases hc; simp [dataNil, RC, PV.one]
  · split at hc
    · rename_i hk; cases hc; simp only [dataNil, RC]; exact ⟨⟨trivial, hk⟩, rfl⟩
    · cases hc
  · cases hc; simp only [dataNil, RC]; exact ⟨⟨_, _, _, rfl, rfl, Nat.le_refl _, Nat.zero_le _, .inl trivial⟩, rfl⟩
  · cases hc; simp [dataNil, pureCell] at hp
  · cases hc; simp [dataNil, pureCell] at hp
  · cases hc

theorem dataNils_CellsC {I : Nat → Prop} : ∀ (l : List Value) (ps : List PV), cellsConst l = some ps → (ps.map dataNil).all pureCell = true → CellsC I w (ps.map dataNil) l
  | [], ps, h, _ => by simp [cellsConst] at h; subst h; simp [CellsC]
  | v :: r, ps, h, hp => by
    simp only [cellsConst] at h
    split at h
    · rename_i x l h1 h2
      cases h
      simp only [List.map_cons, List.all_cons, Bool.and_eq_true] at hp
      obtain ⟨c1, c2⟩ := dataNil_RC (I := I) (w := w) h1 hp.1
      simp only [List.map_cons, CellsC]
      exact ⟨v, r, rfl, c2, c1, dataNils_CellsC r l h2 hp.2⟩
    · cases h

theorem zeroRow_run {t : TypeId} {pu np : Bool} {z : PV} (h : zeroRow P t np = some (pu, z)) : ∃ i v, P.info? t = some i ∧ i.zero = some v ∧ v.cells.size = i.size ∧ RowR g H w z v.cells.toList ∧ (pu = true → RC g.I w z v.cells.toList) := by
  unfold zeroRow at h
  split at h
  · rename_i p hp
    obtain ⟨i, v, hi, hv, _, _, hrow, hsz⟩ := zeroB_run (P := P) (g := g) (H := H) (w := w) hp
    simp only [Option.some.injEq] at h
    split at h
    · rename_i hpure
      have hpure := (Bool.and_eq_true_iff.1 hpure).1
      cases h
      have hrc : RC g.I w (dataNils p) v.cells.toList := by
        unfold zeroB at hp
        rw [hi] at hp
        simp only [hv] at hp
        split at hp
        · rename_i p' hp'
          split at hp
          · cases hp
            unfold pvConst at hp'
            split at hp'
            · rename_i cs
              split at hp'
              · rename_i l hl
                cases hp'
                simp only [dataNils, RC, Value.cells]
                exact dataNils_CellsC _ _ hl (by simpa [dataNils, pureRow] using hpure)
              · cases hp'
            · rename_i v' hnagg
              have hone := (cellConst_sound (g := g) (H := H) (w := w) hp').1
              have e1 : dataNils p = dataNil p := by cases p <;> simp [dataNils, PV.one] at hone ⊢
              have e2 : pureRow (dataNils p) = pureCell (dataNil p) := by
                rw [e1]; cases p <;> simp [dataNil, pureRow, PV.one] at hone ⊢
              have e3 : v.cells.toList = [v] := by
                cases v <;> simp [Value.cells]
                exact absurd rfl (hnagg _)
              rw [e1, e3]
              exact (dataNil_RC hp' (by rw [← e2]; exact hpure)).1
          · cases hp
        · cases hp
      exact ⟨i, v, hi, hv, hsz, RowR_of_RC _ _ hrc, fun _ => hrc⟩
    · cases h
      exact ⟨i, v, hi, hv, hsz, hrow, fun hpu => by cases hpu⟩
  · cases h
end
end Go.Pf
