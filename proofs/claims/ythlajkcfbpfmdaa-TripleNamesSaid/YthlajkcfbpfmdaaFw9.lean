/- The framework, part 9: operands; the operations that only compute. -/
import Derived.Test.YthlajkcfbpfmdaaFw7
import Derived.Test.YthlajkcfbpfmdaaFw8
namespace Go.Pf
open Go Go.RowKit
section
variable {P : Program} {E : Env} {nt : Nat} {g g' : Gh} {F : Frm} {H H' : Hp} {a : Act} {w w' : World}

def FVal (g : Gh) (H : Hp) (w : World) : FV → Value → Prop
  | .v p, v => VR g H w p v
  | .bp s o, v => ∃ b, g.β s = some b ∧ v = .pointer (some ⟨b, o, none⟩)
  | .box _, _ => False

theorem VR_int {k : IntKind} {n : Int} (h : inK k n) : VR g H w (.int k n) (.int k n) := by
  unfold VR; exact ⟨rfl, h⟩
theorem VR_bool (b : Bool) : VR g H w (.bool b) (.bool b) := by
  unfold VR; rfl

theorem cellConst_sound {v : Value} {p : PV} (h : cellConst v = some p) : p.one = true ∧ VR g H w p v := by
  unfold cellConst at h
  split at h
  · cases h; exact ⟨rfl, by simp [VR]⟩
  · split at h
    · rename_i hk; cases h; exact ⟨rfl, VR_int hk⟩
    · cases h
  · cases h; exact ⟨rfl, by simp [VR]⟩
  · cases h; exact ⟨rfl, by simp [VR]⟩
  · cases h; exact ⟨rfl, by simp [VR]⟩
  · cases h

theorem cellsConst_sound : ∀ (l : List Value) (ps : List PV), cellsConst l = some ps → VCs g H w ps l
  | [], ps, h => by simp [cellsConst] at h; subst h; simp [VCs]
  | v :: r, ps, h => by
    simp only [cellsConst] at h
    split at h
    · rename_i x l h1 h2
      cases h
      obtain ⟨o, hv⟩ := cellConst_sound (g := g) (H := H) (w := w) h1
      simp only [VCs]
      exact ⟨v, r, rfl, o, hv, cellsConst_sound r l h2⟩
    · cases h

theorem pvConst_sound {v : Value} {p : PV} (h : pvConst v = some p) : VR g H w p v := by
  unfold pvConst at h
  split at h
  · rename_i cs
    split at h
    · rename_i l hl
      cases h
      simp only [VR]
      exact ⟨cs.toList, by simp, cellsConst_sound _ _ hl⟩
    · cases h
  · exact (cellConst_sound h).2

theorem ev_sound (hr : Rel E nt g F H a.tmps w) {x : Operand} {x' : Opd} {fv : FV} (hx : opd x = some x') (h : ev E F x' = some fv) : FVal g H w fv (a.eval x) := by
  cases x with
  | tmp t =>
    simp only [opd, Option.some.injEq] at hx
    subst hx
    simp only [ev] at h
    simp only [Act.eval]
    cases hf : fget F t with
    | none => rw [hf] at h; cases h
    | some y =>
      rw [hf] at h
      have := hr.frame t y hf
      cases y with
      | v p => simp at h; subst h; exact this
      | box row =>
        simp at h; subst h
        obtain ⟨b, h1, h2, _⟩ := this
        exact ⟨b, h1, h2⟩
      | bp s o => simp at h; subst h; exact this
  | const v =>
    simp only [opd] at hx
    split at hx
    · rename_i p hp
      cases hx
      simp only [ev, Option.some.injEq] at h
      subst h
      exact pvConst_sound hp
    · cases hx
  | global n =>
    simp only [opd, Option.some.injEq] at hx
    subst hx
    simp only [ev] at h
    split at h
    · rename_i y hy
      cases h
      obtain ⟨hI, vs, hl, hrc, hat⟩ := hr.glob n y hy
      simp only [FVal, VR, Act.eval]
      refine ⟨n, 0, vs.length, by simp, hI, hl, by simp, ?_⟩
      simp only [RowsC]
      exact ⟨⟨vs, rfl, hrc, hat⟩, trivial⟩
    · cases h
  | func n =>
    simp only [opd, Option.some.injEq] at hx
    subst hx
    simp only [ev, Option.some.injEq] at h
    subst h
    simp only [FVal, VR, Act.eval]
    exact ⟨[], [], rfl, by simp [VRs], by simp [VRs], trivial⟩

theorem evV_sound (hr : Rel E nt g F H a.tmps w) {x : Operand} {x' : Opd} {p : PV} (hx : opd x = some x') (h : evV E F x' = some p) : VR g H w p (a.eval x) := by
  unfold evV at h
  split at h
  · rename_i q hq
    cases h
    exact ev_sound hr hx hq
  · cases h

theorem evInt_sound (hr : Rel E nt g F H a.tmps w) {x : Operand} {x' : Opd} {n : Int} (hx : opd x = some x') (h : evInt E F x' = some n) : ∃ k, a.eval x = .int k n ∧ inK k n := by
  unfold evInt at h
  split at h
  · rename_i k m hq
    cases h
    have := evV_sound hr hx hq
    simp only [VR] at this
    exact ⟨k, this⟩
  · cases h

theorem evs_sound (hr : Rel E nt g F H a.tmps w) : ∀ (xs : List Operand) (xs' : List Opd) (ps : List PV), opds xs = some xs' → evs E F xs' = some ps → VRs g H w ps (xs.map a.eval)
  | [], xs', ps, hx, h => by
    simp only [opds, Option.some.injEq] at hx; subst hx
    simp only [evs, Option.some.injEq] at h; subst h
    simp [VRs]
  | x :: r, xs', ps, hx, h => by
    simp only [opds] at hx
    split at hx
    · rename_i x' r' h1 h2
      cases hx
      simp only [evs] at h
      split at h
      · rename_i p hp
        split at h
        · rename_i ps' hps
          cases h
          simp only [VRs, List.map_cons]
          exact ⟨_, _, rfl, evV_sound hr h1 hp, evs_sound hr r r' ps' h2 hps⟩
        · cases h
      · cases h
    · cases hx

/-- What an operation has done. -/
def XR (g : Gh) (H : Hp) (w : World) : Option FV → Value → Prop
  | some (.v p), v => VR g H w p v
  | some (.bp s o), v => ∃ b, g.β s = some b ∧ v = .pointer (some ⟨b, o, none⟩)
  | some (.box _), _ => False
  | none, _ => True

def OpR (E : Env) (nt : Nat) (g : Gh) (F : Frm) (H : Hp) (tmps : Array Value) (w : World) (out : Out) (r : Result Next) : Prop :=
  ∃ v w' g', (r = .ok (.value v) w' ∨ (r = .ok .skip w' ∧ v = undef)) ∧ Nx g g' H out.h w w' ∧ Rel E nt g' (putBx F out.bx) out.h tmps w' ∧ XR g' out.h w' out.x v

theorem OpR.val (hr : Rel E nt g F H a.tmps w) {p : PV} {v : Value} {r : Result Next} (h : r = .ok (.value v) w) (hv : VR g H w p v) : OpR E nt g F H a.tmps w ⟨some (.v p), none, H⟩ r :=
  ⟨v, w, g, .inl h, Nx.refl g H w, hr, hv⟩

theorem outV_eq {p : PV} {H : Hp} {out : Out} (h : outV p H = some out) : out = ⟨some (.v p), none, H⟩ := by
  simp only [outV, Option.some.injEq] at h; exact h.symm

section pureOps
variable {o : Oper} {out : Out}

theorem op_move (hr : Rel E nt g F H a.tmps w) {x : Operand} {x' : Opd} (ho : o.op = .move x ∨ o.op = .assign x) (hx : opd x = some x') {call} (h : opOut E call F H (.mv x') = some out) :
    OpR E nt g F H a.tmps w out ((execOp a.eval o).run P w) := by
  simp only [opOut] at h
  split at h
  · rename_i p hp
    rw [outV_eq h]
    refine OpR.val hr ?_ (evV_sound hr hx hp)
    rcases ho with ho | ho <;> simp [execOp, ho]
  · cases h

theorem op_pick (hr : Rel E nt g F H a.tmps w) {c x y : Operand} {c' x' y' : Opd} (ho : o.op = .pick c x y) (hc : opd c = some c') (hx : opd x = some x') (hy : opd y = some y') {call} (h : opOut E call F H (.pick c' x' y') = some out) :
    OpR E nt g F H a.tmps w out ((execOp a.eval o).run P w) := by
  simp only [opOut] at h
  split at h
  · rename_i hcv
    split at h
    · rename_i p hp
      rw [outV_eq h]
      refine OpR.val hr ?_ (evV_sound hr hx hp)
      have := evV_sound hr hc hcv
      simp only [VR] at this
      simp [execOp, ho, this, asBool]
    · cases h
  · rename_i hcv
    split at h
    · rename_i p hp
      rw [outV_eq h]
      refine OpR.val hr ?_ (evV_sound hr hy hp)
      have := evV_sound hr hc hcv
      simp only [VR] at this
      simp [execOp, ho, this, asBool]
    · cases h
  · cases h

theorem wrap_inK (k : IntKind) (n : Int) : inK k (k.wrap n) := by
  unfold inK IntKind.wrap IntKind.min IntKind.max
  have h1 := Int.emod_nonneg n (show (2 ^ k.bits : Int) ≠ 0 by cases k <;> decide)
  have h2 := Int.emod_lt_of_pos n (show (0 : Int) < 2 ^ k.bits by cases k <;> decide)
  cases k <;> simp [IntKind.signed, IntKind.bits] at h1 h2 ⊢ <;> (try split) <;> omega

theorem run_binI {op : BinOp} {k : IntKind} {x y : Int} {p : PV} (hk : op ≠ .shl) (hk' : op ≠ .shr) (hx : inK k x) (hy : inK k y) (h : binI op k x y = some p) (t : TypeId) :
    ∃ v, (binOp op t (.int k x) (.int k y)).run P w = .ok v w ∧ VR g H w p v := by
  cases op <;> simp only [binI] at h <;> (try (cases h)) <;> first
    | (refine ⟨_, ?_, VR_int (wrap_inK _ _)⟩; unfold binOp; simp only [ne_eq, not_true_eq_false, if_false]; rfl)
    | (refine ⟨_, ?_, VR_bool _⟩; unfold binOp; simp only [ne_eq, not_true_eq_false, if_false]; rfl)
    | skip
  · split at h
    · cases h
    · rename_i hy0
      cases h
      exact ⟨_, by simp [binOp, Op.intDiv, hy0], VR_int (wrap_inK _ _)⟩
  · split at h
    · cases h
    · rename_i hy0
      cases h
      refine ⟨.int k (x.tmod y), by simp [binOp, Op.intDiv, hy0], VR_int ?_⟩
      unfold inK at hx ⊢
      have ha := Int.natAbs_tmod x y
      rcases Int.le_total 0 x with hx0 | hx0
      · have h1 := Int.tmod_nonneg y hx0
        have h2 : x.tmod y ≤ x := by
          have : (x.tmod y).natAbs ≤ x.natAbs := by rw [ha]; exact Nat.mod_le _ _
          omega
        have : k.min ≤ 0 := by cases k <;> decide
        omega
      · have h1 : x.tmod y ≤ 0 := by
          have := Int.tmod_nonneg y (show 0 ≤ -x by omega)
          rw [Int.neg_tmod] at this; omega
        have h2 : x ≤ x.tmod y := by
          have : (x.tmod y).natAbs ≤ x.natAbs := by rw [ha]; exact Nat.mod_le _ _
          omega
        have : 0 ≤ k.max := by cases k <;> decide
        omega
end pureOps
end
end Go.Pf
