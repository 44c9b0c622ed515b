/- The framework, part 19: calls; what a function's frame begins with and what it hands back. -/
import Derived.Test.YthlajkcfbpfmdaaFw18
namespace Go.Pf
open Go Go.RowKit

/-- A call by its number ends so. -/
def CallR (P : Program) (f : FuncId) (args : Array Value) (w : World) (Q : Value → World → Prop) : Prop :=
  match (callFunc f args).run P w with
  | .ok (.value v) w' => Q v w'
  | .ok (.enter f' args') w' => Calls P f' args' w' (fun e w'' => match e with | .returned v => Q v w'' | _ => False)
  | _ => False

theorem CallR.mono {P : Program} {f : FuncId} {args : Array Value} {w : World} {Q Q' : Value → World → Prop} (h : CallR P f args w Q) (hq : ∀ v w', Q v w' → Q' v w') : CallR P f args w Q' := by
  unfold CallR at h ⊢
  split at h
  · exact hq _ _ h
  · refine Calls.mono h fun e w'' he => ?_
    cases e <;> first | exact hq _ _ he | exact he
  · exact h.elim

/-- Package variables hold what is told of them. -/
def GlobOk (G : Nat → Option PV) (I : Nat → Prop) (w : World) : Prop := ∀ n x, G n = some x → I n ∧ ∃ vs : List Value, 0 < vs.length ∧ RC I w x vs ∧ At w n 0 vs
/-- What a call of a function answers for pure arguments, whatever the world where the package variables are so. -/
def SumOk (P : Program) (G : Nat → Option PV) (f : FuncId) (as : List PV) (r : PV) : Prop :=
  ∀ (I : Nat → Prop) (w : World) (vs : List Value), (∀ b, I b → b < w.heap.size) → GlobOk G I w → VPs I w as vs →
    CallR P f vs.toArray w fun v w' => Bel w.heap.size w w' ∧ VP (fun b => I b ∨ (w.heap.size ≤ b ∧ b < w'.heap.size)) w' r v

section
variable {P : Program} {E : Env} {nt : Nat} {g g' : Gh} {F : Frm} {H H' : Hp} {a : Act} {tmps : Array Value} {w w' : World} {o : Oper}

theorem RC_oneCell {I : Nat → Prop} {x : PV} {v : Value} (h : RC I w x [v]) (hx : ∀ cs, x ≠ .agg cs) : x.one = true := by
  cases x <;> first | rfl | exact absurd rfl (hx _) | (simp only [RC] at h)

theorem VR_of_VP1 {x : PV} {v : Value} (h : VP1 g.I w x v) : VR g H w x v := by
  cases x with
  | agg cs =>
    simp only [VP1] at h
    obtain ⟨vs, rfl, h⟩ := h
    simp only [VR]
    exact ⟨vs, rfl, VCs_of_CellsC _ _ h⟩
  | tup ps => simp only [VP1] at h
  | nils => simp only [VP1] at h; simp only [VR]; exact h
  | eptr rows i off => simp only [VP1] at h; simp only [VR]; exact h
  | _ => simp only [VP1] at h; exact VR_of_RC _ _ (RC_oneCell h (fun _ e => by cases e)) h

theorem VRs_of_VPs : ∀ (l : List PV) (vs : List Value), VPs g.I w l vs → VRs g H w l vs
  | [], vs, h => by simpa only [VPs, VRs] using h
  | x :: r, vs, h => by
    simp only [VPs] at h
    obtain ⟨v, vr, rfl, h1, h2⟩ := h
    simp only [VRs]
    exact ⟨v, vr, rfl, VR_of_VP1 h1, VRs_of_VPs r vr h2⟩

theorem VR_of_VP {x : PV} {v : Value} (h : VP g.I w x v) : VR g H w x v := by
  cases x with
  | tup ps =>
    simp only [VP] at h
    obtain ⟨vs, rfl, h⟩ := h
    simp only [VR]
    exact ⟨vs, rfl, VRs_of_VPs _ _ h⟩
  | _ => simp only [VP] at h; exact VR_of_VP1 h

theorem scal_VR {x : PV} {v : Value} {I : Nat → Prop} (hs : x.scal = true) (h : RC I w x [v]) : VR g H w' x v := by
  cases x <;> simp [PV.scal] at hs
  · simp only [RC, List.cons.injEq, and_true] at h; simp only [VR]; exact h
  · simp only [RC, List.cons.injEq, and_true] at h; simp only [VR]; exact h

theorem scalL_VCs {I : Nat → Prop} : ∀ (l : List PV) (vs : List Value), scalL l = true → CellsC I w l vs → VCs g H w' l vs
  | [], vs, _, h => by simpa only [CellsC, VCs] using h
  | x :: r, vs, hs, h => by
    simp only [scalL, Bool.and_eq_true] at hs
    simp only [CellsC] at h
    obtain ⟨v, vr, rfl, ho, h1, h2⟩ := h
    simp only [VCs]
    exact ⟨v, vr, rfl, ho, scal_VR hs.1 h1, scalL_VCs r vr hs.2 h2⟩

theorem scal1_VR {x : PV} {v : Value} {I : Nat → Prop} (hs : (match x with | .agg cs => scalL cs | x => x.scal) = true) (h : VP1 I w x v) : VR g H w' x v := by
  cases x with
  | agg cs =>
    simp only [VP1] at h
    obtain ⟨vs, rfl, h⟩ := h
    simp only [VR]
    exact ⟨vs, rfl, scalL_VCs _ _ hs h⟩
  | bool b => simp only [VP1] at h; exact scal_VR hs h
  | int k n => simp only [VP1] at h; exact scal_VR hs h
  | _ => simp [PV.scal] at hs

theorem scalar_VR {x : PV} {v : Value} {I : Nat → Prop} (hs : x.scalar = true) (h : VP I w x v) : VR g H w' x v := by
  unfold PV.scalar at hs
  split at hs
  · simp only [VP] at h; exact scal1_VR (x := .agg _) hs h
  · simp only [VP, VPs] at h
    obtain ⟨vs, rfl, rfl⟩ := h
    simp only [VR, VRs]; exact ⟨_, rfl, rfl⟩
  · simp only [VP, VPs] at h
    obtain ⟨vs, rfl, v, vr, rfl, h1, rfl⟩ := h
    simp only [VR, VRs]
    exact ⟨_, rfl, _, _, rfl, scal1_VR hs h1, rfl⟩
  · simp only [VP, VPs] at h
    obtain ⟨vs, rfl, v, vr, rfl, h1, v2, vr2, rfl, h2, rfl⟩ := h
    simp only [Bool.and_eq_true] at hs
    simp only [VR, VRs]
    exact ⟨_, rfl, _, _, rfl, scal1_VR hs.1 h1, _, _, rfl, scal1_VR hs.2 h2, rfl⟩
  · simp only [VP, VPs] at h
    obtain ⟨vs, rfl, v, vr, rfl, h1, v2, vr2, rfl, h2, v3, vr3, rfl, h3, rfl⟩ := h
    simp only [Bool.and_eq_true] at hs
    simp only [VR, VRs]
    exact ⟨_, rfl, _, _, rfl, scal1_VR hs.1 h1, _, _, rfl, scal1_VR hs.2.1 h2, _, _, rfl, scal1_VR hs.2.2 h3, rfl⟩
  · rename_i h1 h2 h3 h4 h5
    cases x with
    | bool b => simp only [VP] at h; exact scal1_VR (x := .bool b) rfl h
    | int k n => simp only [VP] at h; exact scal1_VR (x := .int k n) rfl h
    | _ => simp [PV.scal] at hs

/-- Numbers and truths stand for what they are in whatever heap. -/
theorem scal_any {g2 : Gh} {H2 : Hp} {w2 : World} {x : PV} {v : Value} (hs : x.scal = true) (h : VR g H w x v) : VR g2 H2 w2 x v := by
  cases x <;> simp [PV.scal] at hs
  · simpa only [VR] using h
  · simpa only [VR] using h
theorem scalL_any {g2 : Gh} {H2 : Hp} {w2 : World} : ∀ (l : List PV) (vs : List Value), scalL l = true → VCs g H w l vs → VCs g2 H2 w2 l vs
  | [], vs, _, h => by simpa only [VCs] using h
  | x :: r, vs, hs, h => by
    simp only [scalL, Bool.and_eq_true] at hs
    simp only [VCs] at h ⊢
    obtain ⟨v, vr, rfl, ho, h1, h2⟩ := h
    exact ⟨v, vr, rfl, ho, scal_any hs.1 h1, scalL_any r vr hs.2 h2⟩
theorem scal1_any {g2 : Gh} {H2 : Hp} {w2 : World} {x : PV} {v : Value} (hs : (match x with | .agg cs => scalL cs | x => x.scal) = true) (h : VR g H w x v) : VR g2 H2 w2 x v := by
  cases x with
  | agg cs =>
    simp only [VR] at h ⊢
    obtain ⟨vs, rfl, h⟩ := h
    exact ⟨vs, rfl, scalL_any _ _ hs h⟩
  | bool b => exact scal_any hs h
  | int k n => exact scal_any hs h
  | _ => simp [PV.scal] at hs
theorem scalar_any {g2 : Gh} {H2 : Hp} {w2 : World} {x : PV} {v : Value} (hs : x.scalar = true) (h : VR g H w x v) : VR g2 H2 w2 x v := by
  unfold PV.scalar at hs
  split at hs
  · exact scal1_any (x := .agg _) hs h
  · simpa only [VR, VRs] using h
  · simp only [VR, VRs] at h ⊢
    obtain ⟨vs, rfl, v, vr, rfl, h1, rfl⟩ := h
    exact ⟨_, rfl, _, _, rfl, scal1_any hs h1, rfl⟩
  · simp only [VR, VRs] at h ⊢
    obtain ⟨vs, rfl, v, vr, rfl, h1, v2, vr2, rfl, h2, rfl⟩ := h
    simp only [Bool.and_eq_true] at hs
    exact ⟨_, rfl, _, _, rfl, scal1_any hs.1 h1, _, _, rfl, scal1_any hs.2 h2, rfl⟩
  · simp only [VR, VRs] at h ⊢
    obtain ⟨vs, rfl, v, vr, rfl, h1, v2, vr2, rfl, h2, v3, vr3, rfl, h3, rfl⟩ := h
    simp only [Bool.and_eq_true] at hs
    exact ⟨_, rfl, _, _, rfl, scal1_any hs.1 h1, _, _, rfl, scal1_any hs.2.1 h2, _, _, rfl, scal1_any hs.2.2 h3, rfl⟩
  · rename_i h1 h2 h3 h4 h5
    cases x with
    | bool b => exact scal_any rfl h
    | int k n => exact scal_any rfl h
    | _ => simp [PV.scal] at hs
/-- Behind a call: the caller's frame stands again. -/
theorem Rel.back (h : Rel E nt g F H tmps w) {nt2 : Nat} {g2 : Gh} {F2 : Frm} {tmps2 : Array Value} (hn : Nx { g with β := fun _ => none } g2 H H' w w') (h2 : Rel E nt2 g2 F2 H' tmps2 w') :
    Rel E nt { g2 with β := g.β } F H' tmps w' ∧ Nx g { g2 with β := g.β } H H' w w' := by
  have hon : On g { g2 with β := g.β } H H' w w' := ⟨hn.on.keeps, hn.on.hext, hn.on.shape, hn.on.lam⟩
  have hon2 : On g2 { g2 with β := g.β } H' H' w' w' := ⟨fun _ x => ⟨x, rfl⟩, fun _ hb x => ⟨hb, x, rfl, rfl, .inr ⟨rfl, rfl⟩⟩, fun _ cur _ x => ⟨cur, x, rfl⟩, rfl⟩
  refine ⟨h.upd hon rfl hn.size (fun s b hb => ?_) (fun id hb e => ?_) h2.dist h2.rsome h2.imm, ?_⟩
  · have hlt := (h.bimm s b hb).2
    have hnr : ¬ RngR g b := fun ⟨id, oo, hr⟩ => h.brho s b id oo hb hr
    refine ⟨hn.kept b hlt hnr (fun ⟨s, hs⟩ => by simp at hs), fun hi => ?_, fun hr => hnr (hn.rng b hlt hr)⟩
    rcases hn.immb b hlt hi with h3 | h3
    · exact (h.bimm s b hb).1 h3
    · exact hnr h3
  · obtain ⟨b, oo, hk⟩ := h2.heap id hb e
    exact ⟨b, oo, BlkR_on hon2 hk rfl rfl (fun x => x)⟩
  · exact ⟨hn.os, hn.tape, hn.output, hn.drawn, hn.size, fun b hb hr _ => hn.kept b hb hr (fun ⟨s, hs⟩ => by simp at hs), hn.rng, hn.immb, fun b _ hm => hm, hon⟩

/-- A frame that has just begun. -/
theorem Rel.enter (h : Rel E nt g F H tmps w) {args : List PV} {vs : List Value} (hv : VRs g H w args vs) (n : Nat) :
    Rel E n { g with β := fun _ => none } (frame0 0 args) H (vs.toArray ++ Array.replicate (n - vs.toArray.size) undef) w := by
  have hon : On g { g with β := fun _ => none } H H w w := ⟨fun _ x => ⟨x, rfl⟩, fun _ hb x => ⟨hb, x, rfl, rfl, .inr ⟨rfl, rfl⟩⟩, fun _ cur _ x => ⟨cur, x, rfl⟩, rfl⟩
  refine { size := by simp; omega, frame := ?_, heap := fun id hb e => ?_, dist := h.dist, rsome := h.rsome, bdist := fun s s' b e => by simp at e, brho := fun s b id o e => by simp at e, bimm := fun s b e => by simp at e, imm := h.imm, glob := h.glob }
  · have key : ∀ (args : List PV) (vs : List Value) (i : Nat), VRs g H w args vs → ∀ s fv, fget (frame0 i args) s = some fv → ∃ p v, fv = .v p ∧ i ≤ s ∧ vs[s - i]? = some v ∧ VR g H w p v := by
      intro args
      induction args with
      | nil => intro vs i _ s fv e; simp [frame0, fget] at e
      | cons x r ih =>
        intro vs i hv s fv e
        simp only [VRs] at hv
        obtain ⟨v, vr, rfl, h1, h2⟩ := hv
        simp only [frame0, fget] at e
        split at e
        · rename_i hs
          cases e
          subst hs
          exact ⟨x, v, rfl, Nat.le_refl _, by simp, h1⟩
        · obtain ⟨p, u, e1, e2, e3, e4⟩ := ih vr (i + 1) h2 s fv e
          refine ⟨p, u, e1, by omega, ?_, e4⟩
          have : s - i = (s - (i + 1)) + 1 := by omega
          rw [this]; simpa using e3
    intro s fv e
    obtain ⟨p, v, rfl, _, hv', hp⟩ := key args vs 0 hv s fv e
    simp only [FRel]
    have : (vs.toArray ++ Array.replicate (n - vs.toArray.size) undef).getD s undef = v := by
      simp only [Nat.sub_zero] at hv'
      obtain ⟨hlt, e⟩ := List.getElem?_eq_some_iff.1 hv'
      simp [Array.getD_eq_getD_getElem?, Array.getElem?_append, hlt, e]
    rw [this]
    exact VR_on hon p v hp
  · obtain ⟨b, oo, hk⟩ := h.heap id hb e
    exact ⟨b, oo, BlkR_on hon hk rfl rfl (fun x => x)⟩

theorem mapM_run {α β : Type} (f : α → Sem β) (w : World) : ∀ (l : List α) (r : List β), l.length = r.length → (∀ (i : Nat) (x : α) (y : β), l[i]? = some x → r[i]? = some y → (f x).run P w = .ok y w) → (l.mapM f).run P w = .ok r w
  | [], [], _, _ => by simp
  | [], _ :: _, h, _ => by simp at h
  | _ :: _, [], h, _ => by simp at h
  | x :: l, y :: r, h, hf => by
    have h1 := hf 0 x y rfl rfl
    have h2 := mapM_run f w l r (by simpa using h) (fun i a b ha hb => hf (i + 1) a b ha hb)
    simp [List.mapM_cons, h1, h2]

/-- What one result is read from. -/
def resRun (tmps : Array Value) : ResultVar → Sem Value
  | .tmp t => pure (tmps.getD t undef)
  | .cell a t => do loadVar t (← asAddr (tmps.getD a undef))

theorem results_eq (fn : Func) (tmps : Array Value) : results fn tmps = (do let vs ← fn.results.mapM (resRun tmps); pure (if h : vs.size = 1 then vs[0] else .tuple vs)) := by
  unfold results
  congr 1

theorem resOf_sound (hr : Rel E nt g F H tmps w) {rv : ResultVar} {x : ARes} {p : PV} (hc : compRes P [rv] = some [x]) (h : resOf F H x = some p) :
    ∃ v, (resRun tmps rv).run P w = .ok v w ∧ VR g H w p v := by
  cases rv with
  | tmp t =>
    simp [compRes] at hc
    subst hc
    simp only [resOf] at h
    split at h
    · rename_i q hq
      cases h
      have := hr.frame t _ hq
      simp only [FRel] at this
      exact ⟨_, rfl, this⟩
    · cases h
  | cell ad t =>
    simp only [compRes] at hc
    split at hc
    · rename_i gg i l hg hi hl
      simp at hl
      subst hl
      simp at hc
      subst hc
      simp only [resOf] at h
      split at h
      · rename_i row hrow
        have hf := hr.frame ad _ hrow
        simp only [FRel] at hf
        obtain ⟨b, hβ, ht, hnI, cur, T, hcur, hrr⟩ := hf
        have hat : At w b 0 cur.toList := At.of_cells hcur (by simp [List.take_of_length_le])
        obtain ⟨v, h1, h2⟩ := loadVar_sound (P := P) (RowR_cells hrr) hat h hg hi
        refine ⟨v, ?_, h2⟩
        simpa [resRun, ht, asAddr] using h1
      · rename_i id ext i0 off hpt
        have hf := hr.frame ad _ hpt
        simp only [FRel, VR] at hf
        obtain ⟨hb, a0, hH, hle, hv, hcond⟩ := hf
        split at h
        · rename_i hb' hH'
          rw [hH] at hH'; cases hH'
          split at h
          · rename_i hext
            split at h
            · rename_i row hrow
              obtain ⟨b, oo, hρ, hi0, ha⟩ := hcond hext
              obtain ⟨b', o', hk⟩ := hr.heap id hb hH
              have e0 := hk.at_
              rw [hρ] at e0; cases e0
              obtain ⟨vs, hl, hrr, hat⟩ := RowsR_get _ _ _ _ _ _ hk.rows hrow
              obtain ⟨v, h1, h2⟩ := loadVar_sound (P := P) (RowR_cells hrr) hat h hg hi
              refine ⟨v, ?_, h2⟩
              simp only [resRun, hv, ha]
              simpa [asAddr] using h1
            · cases h
          · cases h
        · cases h
      · cases h
    · cases hc
end
end Go.Pf
