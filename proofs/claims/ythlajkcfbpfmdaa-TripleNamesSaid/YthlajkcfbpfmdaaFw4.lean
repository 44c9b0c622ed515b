/- The framework, part 4: what stands stays standing when the world goes on. -/
import Derived.Test.YthlajkcfbpfmdaaFw3
namespace Go.Pf
open Go Go.RowKit

theorem fget_fset (F : Frm) (s k : Nat) (y : FV) : fget (fset F s y) k = if k = s then some y else fget F k := by
  induction F with
  | nil =>
    simp only [fset, fget]
    by_cases h : k = s
    · simp [h]
    · simp [h, Ne.symm h]
  | cons a r ih =>
    obtain ⟨j, x⟩ := a
    simp only [fset]
    by_cases h1 : s < j
    · simp only [h1, if_true, fget]
      by_cases h : k = s
      · simp [h]
      · simp [h, Ne.symm h]
    · simp only [h1, if_false]
      by_cases h2 : j = s
      · subst h2
        simp only [if_true, fget]
        by_cases h : k = j
        · simp [h]
        · simp [h, Ne.symm h]
      · simp only [h2, if_false, fget, ih]
        by_cases h : j = k
        · subst h; simp [h2]
        · simp [h]

theorem fget_fdel (F : Frm) (s k : Nat) : fget (fdel F s) k = if k = s then none else fget F k := by
  induction F with
  | nil => simp [fdel, fget]
  | cons a r ih =>
    obtain ⟨j, x⟩ := a
    simp only [fdel]
    by_cases h2 : j = s
    · subst h2
      simp only [if_true, ih, fget]
      by_cases h : k = j
      · simp [h]
      · simp [h, Ne.symm h]
    · simp only [h2, if_false, fget, ih]
      by_cases h : j = k
      · subst h; simp [h2]
      · simp [h]

theorem fget_fdels (l : List Nat) : ∀ (F : Frm) (k : Nat) (y : FV), fget (fdels F l) k = some y → fget F k = some y := by
  induction l with
  | nil => intro F k y h; exact h
  | cons s l ih =>
    intro F k y h
    have := ih (fdel F s) k y h
    rw [fget_fdel] at this
    split at this
    · cases this
    · exact this

theorem noBp_fdel {d k : Nat} : ∀ (F : Frm), noBp F d = true → noBp (fdel F k) d = true
  | [], _ => rfl
  | (j, y) :: r, h => by
    simp only [fdel]
    split
    · exact noBp_fdel r (by cases y <;> simp [noBp] at h <;> first | exact h | exact h.2)
    · cases y <;> simp [noBp] at h ⊢ <;> first | exact noBp_fdel r h | exact ⟨h.1, noBp_fdel r h.2⟩

theorem delBp_less (F : Frm) (d : Nat) : ∀ s x, fget (delBp F d) s = some x → fget F s = some x := by
  induction F with
  | nil => intro s x h; exact h
  | cons a r ih =>
    obtain ⟨k, y⟩ := a
    have keep : ∀ s x, fget ((k, y) :: delBp r d) s = some x → fget ((k, y) :: r) s = some x := by
      intro s x h
      simp only [fget] at h ⊢
      split at h
      · rename_i e; rw [if_pos e]; exact h
      · rename_i e; rw [if_neg e]; exact ih s x h
    intro s x h
    cases y with
    | bp s' o =>
      simp only [delBp] at h
      split at h
      · rw [fget_fdel] at h
        split at h
        · cases h
        · rename_i e
          simp only [fget]
          rw [if_neg (fun e2 => e e2.symm)]
          exact ih s x h
      · exact keep s x h
    | v p => exact keep s x h
    | box r' => exact keep s x h

theorem noBp_delBp (F : Frm) (d : Nat) : noBp (delBp F d) d = true := by
  induction F with
  | nil => rfl
  | cons a r ih =>
    obtain ⟨k, x⟩ := a
    cases x with
    | bp s o =>
      simp only [delBp]
      split
      · exact noBp_fdel _ ih
      · rename_i hne; simp [noBp, ih, hne]
    | v p => simpa only [delBp, noBp] using ih
    | box r => simpa only [delBp, noBp] using ih

theorem delBp_same (F : Frm) (d : Nat) (h : noBp F d = true) : delBp F d = F := by
  induction F with
  | nil => rfl
  | cons a r ih =>
    obtain ⟨k, x⟩ := a
    cases x with
    | bp s o =>
      simp only [noBp, Bool.and_eq_true, Bool.not_eq_true', beq_eq_false_iff_ne, ne_eq] at h
      simp only [delBp]
      rw [if_neg h.1, ih h.2]
    | v p => simp only [noBp] at h; simp only [delBp, ih h]
    | box r => simp only [noBp] at h; simp only [delBp, ih h]

/-- What has gone on: data are kept, the evaluator's heap has grown, blocks are there. -/
structure On (g g' : Gh) (H H' : Hp) (w w' : World) : Prop where
  keeps : Keeps g.I g'.I w w'
  hext : HExt g g' H H'
  shape : ∀ (b : Nat) (cur : Array Value) (T : TypeId), w.heap[b]? = some (Obj.cells cur T (0, 0)) → ∃ cur' : Array Value, w'.heap[b]? = some (Obj.cells cur' T (0, 0)) ∧ cur'.size = cur.size
  lam : g'.lam = g.lam

theorem On.refl (g : Gh) (H : Hp) (w : World) : On g g H H w w := ⟨fun _ h => ⟨h, rfl⟩, HExt.refl g H, fun _ cur _ h => ⟨cur, h, rfl⟩, rfl⟩
theorem Gh.okF_lam {g g' : Gh} (e : ∀ k l, g.lam k = some l → g'.lam k = some l) {f : Fn} (h : g.okF f) : g'.okF f ∧ g'.tr f = g.tr f := by
  cases f with
  | yield k =>
    simp only [Gh.okF] at h ⊢
    obtain ⟨l, hl⟩ := Option.isSome_iff_exists.1 h
    have h2 := e k l hl
    exact ⟨by rw [h2]; rfl, by simp only [Gh.tr]; rw [h2, hl]⟩
  | _ => exact ⟨trivial, rfl⟩
theorem On.trans {a b c : Gh} {H1 H2 H3 : Hp} {w1 w2 w3 : World} (h : On a b H1 H2 w1 w2) (k : On b c H2 H3 w2 w3) : On a c H1 H3 w1 w3 := by
  refine ⟨fun i hi => ?_, h.hext.trans k.hext, fun i cur T e => ?_, k.lam.trans h.lam⟩
  · obtain ⟨h1, h2⟩ := h.keeps i hi
    obtain ⟨h3, h4⟩ := k.keeps i h1
    exact ⟨h3, h4.trans h2⟩
  · obtain ⟨c1, e1, s1⟩ := h.shape i cur T e
    obtain ⟨c2, e2, s2⟩ := k.shape i c1 T e1
    exact ⟨c2, e2, s2.trans s1⟩

theorem OwnR_on {g g' : Gh} {H H' : Hp} {w w' : World} (k : On g g' H H' w w') {id lo len ext : Nat} {cap : Option Nat} {v : Value} (h : OwnR g H w id lo len ext cap v) : OwnR g' H' w' id lo len ext cap v := by
  obtain ⟨hb, a, c, e, hx, hv, hc, hm, hcc, hr⟩ := h
  obtain ⟨hb', e', hz, hp, hl⟩ := k.hext id hb e
  refine ⟨hb', a, c, e', ?_, hv, hc, hm, hcc, ?_⟩
  · rcases hl with hl | ⟨hl, _⟩ <;> omega
  · intro hext
    have hsame : hb.rows.length = hb'.rows.length ∧ g'.ρ id = g.ρ id := by
      rcases hl with hl | hl
      · omega
      · exact hl
    obtain ⟨b, o, hρ, hle, ha, hcap, cur, T, hh, hfit⟩ := hr (by omega)
    obtain ⟨cur', hh', hs⟩ := k.shape b cur T hh
    refine ⟨b, o, hsame.2.trans hρ, hle, ?_, hcap, cur', T, hh', ?_⟩
    · rw [hz]; exact ha
    · rw [hz, hs]; exact hfit

theorem PtrR_on {g g' : Gh} {H H' : Hp} {w w' : World} (k : On g g' H H' w w') {id ext i off : Nat} {v : Value} (h : PtrR g H id ext i off v) : PtrR g' H' id ext i off v := by
  obtain ⟨hb, a, e, hx, hv, hr⟩ := h
  obtain ⟨hb', e', hz, hp, hl⟩ := k.hext id hb e
  refine ⟨hb', a, e', ?_, hv, ?_⟩
  · rcases hl with hl | ⟨hl, _⟩ <;> omega
  · intro hext
    have hsame : hb.rows.length = hb'.rows.length ∧ g'.ρ id = g.ρ id := by
      rcases hl with hl | hl
      · omega
      · exact hl
    obtain ⟨b, o, hρ, hi, ha⟩ := hr (by omega)
    exact ⟨b, o, hsame.2.trans hρ, hi, by rw [hz]; exact ha⟩

theorem EptrR_on {g g' : Gh} {H H' : Hp} {w w' : World} (k : On g g' H H' w w') {rows : List PV} {i off : Nat} {v : Value} (h : EptrR g w rows i off v) : EptrR g' w' rows i off v := by
  obtain ⟨b, o, esz, hv, hI, hz, hi, hr⟩ := h
  exact ⟨b, o, esz, hv, (k.keeps b hI).1, hz, hi, RowsC_keep k.keeps rows esz b o hI hr⟩

mutual
theorem VR_on {g g' : Gh} {H H' : Hp} {w w' : World} (k : On g g' H H' w w') : ∀ (x : PV) (v : Value), VR g H w x v → VR g' H' w' x v
  | .bool b, v, h => by simpa only [VR] using h
  | .int q n, v, h => by simpa only [VR] using h
  | .nilp, v, h => by simpa only [VR] using h
  | .nils, v, h => by simpa only [VR] using h
  | .emp, v, h => by simpa only [VR] using h
  | .mt _, v, h => by simpa only [VR] using h
  | .nilf, v, h => by simpa only [VR] using h
  | .ptr id ext i off, v, h => by simp only [VR] at h ⊢; exact PtrR_on k h
  | .eptr rows i off, v, h => by simp only [VR] at h ⊢; exact EptrR_on k h
  | .data rows, v, h => by simp only [VR] at h ⊢; exact RC_keep k.keeps _ _ h
  | .own id lo len ext cap, v, h => by simp only [VR] at h ⊢; exact OwnR_on k h
  | .sub id ext i off n _, v, h => by simp only [VR] at h ⊢; obtain ⟨a, h1, h2, h3⟩ := h; exact ⟨a, PtrR_on k h1, h2, h3⟩
  | .fn f a b, v, h => by
    simp only [VR] at h ⊢
    obtain ⟨as, bs, e, h1, h2, h3⟩ := h
    obtain ⟨h4, h5⟩ := Gh.okF_lam (fun i l e => by rw [k.lam]; exact e) h3
    exact ⟨as, bs, by rw [h5]; exact e, VRs_on k a as h1, VRs_on k b bs h2, h4⟩
  | .agg cs, v, h => by
    simp only [VR] at h ⊢
    obtain ⟨vs, e, h1⟩ := h
    exact ⟨vs, e, VCs_on k cs vs h1⟩
  | .tup ps, v, h => by
    simp only [VR] at h ⊢
    obtain ⟨vs, e, h1⟩ := h
    exact ⟨vs, e, VRs_on k ps vs h1⟩
theorem VRs_on {g g' : Gh} {H H' : Hp} {w w' : World} (k : On g g' H H' w w') : ∀ (l : List PV) (vs : List Value), VRs g H w l vs → VRs g' H' w' l vs
  | [], vs, h => by simpa only [VRs] using h
  | x :: r, vs, h => by
    simp only [VRs] at h ⊢
    obtain ⟨v, vr, e, h1, h2⟩ := h
    exact ⟨v, vr, e, VR_on k x v h1, VRs_on k r vr h2⟩
theorem VCs_on {g g' : Gh} {H H' : Hp} {w w' : World} (k : On g g' H H' w w') : ∀ (l : List PV) (vs : List Value), VCs g H w l vs → VCs g' H' w' l vs
  | [], vs, h => by simpa only [VCs] using h
  | x :: r, vs, h => by
    simp only [VCs] at h ⊢
    obtain ⟨v, vr, e, o, h1, h2⟩ := h
    exact ⟨v, vr, e, o, VR_on k x v h1, VCs_on k r vr h2⟩
end

theorem RowR_on {g g' : Gh} {H H' : Hp} {w w' : World} (k : On g g' H H' w w') : ∀ (x : PV) (vs : List Value), RowR g H w x vs → RowR g' H' w' x vs := by
  intro x vs h
  cases x <;> simp only [RowR] at h ⊢ <;> first
    | exact VCs_on k _ _ h
    | (obtain ⟨o, v, e, h1⟩ := h; exact ⟨o, v, e, VR_on k _ _ h1⟩)

theorem RowsR_on {g g' : Gh} {H H' : Hp} {w w' : World} (k : On g g' H H' w w') (esz b : Nat) (hb : w'.heap[b]? = w.heap[b]?) : ∀ (l : List PV) (o : Nat), RowsR g H w l esz b o → RowsR g' H' w' l esz b o
  | [], _, _ => by simp only [RowsR]
  | x :: r, o, h => by
    simp only [RowsR] at h ⊢
    obtain ⟨⟨vs, hl, h1, h2⟩, h3⟩ := h
    exact ⟨⟨vs, hl, RowR_on k x vs h1, h2.keep hb⟩, RowsR_on k esz b hb r (o + esz) h3⟩

theorem BlkR_on {g g' : Gh} {H H' : Hp} {w w' : World} (k : On g g' H H' w w') {id : Nat} {hb : HB} {b o : Nat} (h : BlkR g H w id hb b o) (hw : w'.heap[b]? = w.heap[b]?) (hρ : g'.ρ id = g.ρ id) (hI : g'.I b → g.I b) : BlkR g' H' w' id hb b o := by
  obtain ⟨h1, h2, ⟨cur, T, h3, h4⟩, h5, h6, h7, h8⟩ := h
  refine ⟨hρ.trans h1, h2, ⟨cur, T, hw.trans h3, h4⟩, RowsR_on k _ _ hw _ _ h5, fun hp => ?_, fun hf => (k.keeps b (h7 hf)).1, fun hf hi => h8 hf (hI hi)⟩
  have := h6 hp
  clear h5
  revert this
  generalize hb.rows = l
  intro h
  have key : ∀ (l : List PV) (o : Nat), RowsC g.I w l hb.esz b o → RowsC g'.I w' l hb.esz b o := by
    intro l
    induction l with
    | nil => intro o _; simp only [RowsC]
    | cons x r ih =>
      intro o h
      simp only [RowsC] at h ⊢
      obtain ⟨⟨vs, hl, h1, h2⟩, h3⟩ := h
      exact ⟨⟨vs, hl, RC_keep k.keeps x vs h1, h2.keep hw⟩, ih (o + hb.esz) h3⟩
  exact key l o h

theorem BoxR_on {g g' : Gh} {H H' : Hp} {w w' : World} (k : On g g' H H' w w') {row : PV} {b : Nat} (h : BoxR g H w row b) (hw : w'.heap[b]? = w.heap[b]?) (hI : g'.I b → g.I b) : BoxR g' H' w' row b := by
  obtain ⟨h0, cur, T, h1, h2⟩ := h
  exact ⟨fun hi => h0 (hI hi), cur, T, hw.trans h1, RowR_on k row _ h2⟩

/-- A frame relation is kept where the slot's value and variable are. -/
theorem FRel_on {g g' : Gh} {H H' : Hp} {w w' : World} (k : On g g' H H' w w') {tmps tmps' : Array Value} {s : Nat} {fv : FV} (h : FRel g H w tmps s fv)
    (ht : tmps'.getD s undef = tmps.getD s undef) (hβ : ∀ s, g'.β s = g.β s) (hw : ∀ s b, g.β s = some b → w'.heap[b]? = w.heap[b]?) (hI : ∀ s b, g.β s = some b → ¬ g'.I b) : FRel g' H' w' tmps' s fv := by
  cases fv with
  | v p => simp only [FRel] at h ⊢; rw [ht]; exact VR_on k p _ h
  | box row =>
    simp only [FRel] at h ⊢
    obtain ⟨b, h1, h2, h3⟩ := h
    exact ⟨b, (hβ s).trans h1, ht.trans h2, BoxR_on k h3 (hw s b h1) (fun hi => (hI s b h1 hi).elim)⟩
  | bp s' off =>
    simp only [FRel] at h ⊢
    obtain ⟨b, h1, h2⟩ := h
    exact ⟨b, (hβ s').trans h1, ht.trans h2⟩

end Go.Pf
