/- The framework, part 11: the operations that read. -/
import Derived.Test.YthlajkcfbpfmdaaFw10
namespace Go.Pf
open Go Go.RowKit
section
variable {P : Program} {E : Env} {nt : Nat} {g g' : Gh} {F : Frm} {H H' : Hp} {a : Act} {w w' : World} {o : Oper} {out : Out}

theorem op_eqA (hr : Rel E nt g F H a.tmps w) {op : BinOp} {neg : Bool} {t t' : TypeId} {idx : List (Nat × Option IntKind)} {x y : Operand} {x' y' : Opd} (ho : o.op = .binOp op t x y t') (hn : (op = .eql ∧ neg = false) ∨ (op = .neq ∧ neg = true))
    (hf : flatT P 12 t 0 = some idx) (hk : P.keyTypeAt 8 t = true) (hs : (∃ fs, P.underlying t = some (.struct fs)) ∨ ∃ n e, P.underlying t = some (.array n e)) (hg : P.eqGuardType P.depth t = false)
    (hx : opd x = some x') (hy : opd y = some y') {call} (h : opOut E call F H (.eqA neg (P.cellsOf t) idx x' y') = some out) :
    OpR E nt g F H a.tmps w out ((execOp a.eval o).run P w) := by
  simp only [opOut] at h
  split at h
  · rename_i p q hp hq
    split at h
    · rename_i hl
      split at h
      · rename_i r hrr
        rw [outV_eq h]
        have h1 := evV_sound hr hx hp
        have h2 := evV_sound hr hy hq
        simp only [VR] at h1 h2
        obtain ⟨xs, e1, v1⟩ := h1
        obtain ⟨ys, e2, v2⟩ := h2
        have he := run_equal_flat (P := P) hf hk hs hl.1 hl.2 v1 v2 hrr
        have hgd : (eqGuard op t x y (.agg xs.toArray) (.agg ys.toArray)).run P w = .ok () w := by
          rcases hn with ⟨rfl, _⟩ | ⟨rfl, _⟩ <;> (unfold eqGuard; simp [hg])
        refine OpR.val hr ?_ (VR_bool _)
        rcases hn with ⟨rfl, rfl⟩ | ⟨rfl, rfl⟩
        · simp only [execOp, ho, Sem.run_bind, e1, e2, hgd, Result.andThen_ok, binOp, he]
          rfl
        · simp only [execOp, ho, Sem.run_bind, e1, e2, hgd, Result.andThen_ok, binOp, he]
          rfl
      · cases h
    · cases h
  · cases h

theorem VR_slice_some {p : PV} {v : Value} (h : VR g H w p v) (hp : (∃ x r, p = .data (x :: r)) ∨ ∃ i l n e c, p = .own i l n e c) : ∃ ad len c, v = .slice (some ad) len c := by
  rcases hp with ⟨x, r, rfl⟩ | ⟨i, l, n, e, c, rfl⟩
  · simp only [VR, RC] at h
    obtain ⟨ad, len, cap, e, _, _, _, h⟩ := h
    simp only [List.cons.injEq, and_true] at e
    rcases h with h | ⟨b, o, esz, rfl, _⟩
    · cases h
    · exact ⟨_, _, _, e⟩
  · simp only [VR] at h
    obtain ⟨hb, ad, c', _, _, e, _⟩ := h
    exact ⟨_, _, _, e⟩

theorem isNilC_eq {y : Operand} (h : isNilC y = true) : a.eval y = .slice none 0 0 := by
  unfold isNilC at h
  split at h
  · rfl
  · cases h

theorem op_eqN (hr : Rel E nt g F H a.tmps w) {op : BinOp} {neg : Bool} {t t' e : TypeId} {x y z : Operand} {z' : Opd} (ho : o.op = .binOp op t x y t') (hn : (op = .eql ∧ neg = false) ∨ (op = .neq ∧ neg = true)) (ht : P.underlying t = some (.slice e))
    (hz : (z = x ∧ isNilC y = true) ∨ (z = y ∧ isNilC x = true)) (hz' : opd z = some z') {call} (h : opOut E call F H (.eqN neg z') = some out) :
    OpR E nt g F H a.tmps w out ((execOp a.eval o).run P w) := by
  have key : ∀ (b : Bool) (k : Option Addr) (l c : Nat), a.eval z = .slice k l c → k.isNone = b → out = ⟨some (.v (.bool (if neg then !b else b))), none, H⟩ → OpR E nt g F H a.tmps w out ((execOp a.eval o).run P w) := by
    intro b k l c hev hb ho'
    subst ho'; subst hb
    have h1 : (Op.equal t (.slice k l c) (.slice none 0 0)).run P w = .ok k.isNone w := by
      have : ∀ d, (Op.equalIn (d + 1) t (.slice k l c) (.slice none 0 0)).run P w = .ok k.isNone w := by
        intro d; cases k <;> simp [Op.equalIn, run_underlying ht]
      exact this 9999
    have h2 : (Op.equal t (.slice none 0 0) (.slice k l c)).run P w = .ok k.isNone w := by
      have : ∀ d, (Op.equalIn (d + 1) t (.slice none 0 0) (.slice k l c)).run P w = .ok k.isNone w := by
        intro d; cases k <;> simp [Op.equalIn, run_underlying ht]
      exact this 9999
    refine OpR.val hr ?_ (VR_bool _)
    rcases hz with ⟨rfl, hy⟩ | ⟨rfl, hx⟩
    · have hy' := isNilC_eq (a := a) hy
      rcases hn with ⟨rfl, rfl⟩ | ⟨rfl, rfl⟩
      · simp only [execOp, ho, Sem.run_bind, hev, hy', run_eqGuard_slice, Result.andThen_ok, binOp, h1]; rfl
      · simp only [execOp, ho, Sem.run_bind, hev, hy', run_eqGuard_slice, Result.andThen_ok, binOp, h1]; rfl
    · have hx' := isNilC_eq (a := a) hx
      rcases hn with ⟨rfl, rfl⟩ | ⟨rfl, rfl⟩
      · simp only [execOp, ho, Sem.run_bind, hev, hx', run_eqGuard_slice, Result.andThen_ok, binOp, h2]; rfl
      · simp only [execOp, ho, Sem.run_bind, hev, hx', run_eqGuard_slice, Result.andThen_ok, binOp, h2]; rfl
  simp only [opOut] at h
  split at h
  · rename_i hp
    have h1 := evV_sound hr hz' hp
    simp only [VR] at h1
    exact key true _ _ _ h1 rfl (by rw [outV_eq h]; cases neg <;> rfl)
  · rename_i b hp
    have h1 := evV_sound hr hz' hp
    simp only [VR] at h1
    obtain ⟨k, c, h1, _, hb⟩ := h1
    exact key b _ _ _ h1 hb (outV_eq h)
  · rename_i x r hp
    obtain ⟨ad, l, c, e⟩ := VR_slice_some (evV_sound hr hz' hp) (.inl ⟨_, _, rfl⟩)
    exact key false _ _ _ e rfl (by rw [outV_eq h]; cases neg <;> rfl)
  · rename_i hp
    obtain ⟨ad, l, c, e⟩ := VR_slice_some (evV_sound hr hz' hp) (.inr ⟨_, _, _, _, _, rfl⟩)
    exact key false _ _ _ e rfl (by rw [outV_eq h]; cases neg <;> rfl)
  · cases h

theorem op_un (hr : Rel E nt g F H a.tmps w) {op : UnOp} {t : TypeId} {x : Operand} {x' : Opd} (ho : o.op = .unOp op t x) (hx : opd x = some x') {call} (h : opOut E call F H (.un op x') = some out) :
    OpR E nt g F H a.tmps w out ((execOp a.eval o).run P w) := by
  simp only [opOut] at h
  split at h
  · rename_i p hp
    split at h
    · rename_i r hrr
      rw [outV_eq h]
      have h1 := evV_sound hr hx hp
      unfold unV at hrr
      split at hrr
      · rename_i k n
        simp only [VR] at h1
        obtain ⟨h1, hk⟩ := h1
        split at hrr
        · cases hrr
          exact OpR.val hr (by simp only [execOp, ho, h1, Op.unary, Op.intArith]; rfl) (VR_int (wrap_inK _ _))
        · cases hrr
          exact OpR.val hr (by simp only [execOp, ho, h1, Op.unary, Op.intBits]; rfl) (VR_int (wrap_inK _ _))
        · cases hrr
      · rename_i b
        simp only [VR] at h1
        split at hrr
        · cases hrr
          exact OpR.val hr (by simp only [execOp, ho, h1, Op.unary]; rfl) (VR_bool _)
        · cases hrr
      · cases hrr
    · cases h
  · cases h

theorem op_conv (hr : Rel E nt g F H a.tmps w) {s d : TypeId} {k : IntKind} {x : Operand} {x' : Opd} {ds : TypeDesc} (ho : o.op = .convert s d x) (hs : P.underlying s = some ds) (hd : P.underlying d = some (.int k)) (hx : opd x = some x') {call} (h : opOut E call F H (.conv k x') = some out) :
    OpR E nt g F H a.tmps w out ((execOp a.eval o).run P w) := by
  simp only [opOut] at h
  split at h
  · rename_i q n hp
    rw [outV_eq h]
    have h1 := evV_sound hr hx hp
    simp only [VR] at h1
    refine OpR.val hr ?_ (VR_int (wrap_inK k n))
    simp [execOp, ho, h1.1, convert, run_underlying hs, run_underlying hd, Conv.intToInt]
  · cases h

theorem op_mkFn (hr : Rel E nt g F H a.tmps w) {n : FuncId} {xs ys : Array Operand} {xs' ys' : List Opd} (ho : o.op = .makeFunc (.func n) xs ys) (hx : opds xs.toList = some xs') (hy : opds ys.toList = some ys') {call} (h : opOut E call F H (.mkFn (.func n) xs' ys') = some out) :
    OpR E nt g F H a.tmps w out ((execOp a.eval o).run P w) := by
  simp only [opOut] at h
  split at h
  · rename_i p q hp hq
    rw [outV_eq h]
    refine OpR.val hr (v := .func (.func n) (xs.map a.eval) (ys.map a.eval)) (by simp [execOp, ho, Instr.makeFunc]) ?_
    simp only [VR]
    refine ⟨xs.toList.map a.eval, ys.toList.map a.eval, ?_, evs_sound hr _ _ _ hx hp, evs_sound hr _ _ _ hy hq, trivial⟩
    rw [← Array.toList_map, ← Array.toList_map]
    rfl
  · cases h

theorem VRs_get : ∀ (l : List PV) (vs : List Value) (i : Nat) (x : PV), VRs g H w l vs → l[i]? = some x → ∃ v, vs[i]? = some v ∧ VR g H w x v
  | [], vs, i, x, h, e => by simp at e
  | y :: r, vs, 0, x, h, e => by
    simp only [VRs] at h
    obtain ⟨v, vr, rfl, h1, h2⟩ := h
    simp at e; subst e
    exact ⟨v, rfl, h1⟩
  | y :: r, vs, i + 1, x, h, e => by
    simp only [VRs] at h
    obtain ⟨v, vr, rfl, h1, h2⟩ := h
    simp at e
    simpa using VRs_get r vr i x h2 e

theorem op_ext (hr : Rel E nt g F H a.tmps w) {x : Operand} {x' : Opd} {i : Nat} (ho : o.op = .extract x i) (hx : opd x = some x') {call} (h : opOut E call F H (.ext x' i) = some out) :
    OpR E nt g F H a.tmps w out ((execOp a.eval o).run P w) := by
  simp only [opOut] at h
  split at h
  · rename_i vs hp
    split at h
    · rename_i p hi
      rw [outV_eq h]
      have h1 := evV_sound hr hx hp
      simp only [VR] at h1
      obtain ⟨us, e, hus⟩ := h1
      obtain ⟨v, hv, hvr⟩ := VRs_get vs us i p hus hi
      exact OpR.val hr (by simp [execOp, ho, e, Instr.extract, hv]) hvr
    · cases h
  · cases h

theorem lenV_sound {p : PV} {v : Value} {n : Nat} (h : VR g H w p v) (hn : lenV p = some n) : ∃ k c, v = .slice k n c ∧ n ≤ c ∧ c ≤ maxLen ∧ (k = none → n = 0) := by
  unfold lenV at hn
  split at hn
  · cases hn; simp only [VR] at h; exact ⟨_, _, h, Nat.le_refl _, Nat.zero_le _, fun _ => rfl⟩
  · cases hn; simp only [VR] at h; obtain ⟨k, h⟩ := h; exact ⟨_, _, h, Nat.le_refl _, Nat.zero_le _, fun _ => rfl⟩
  · cases hn; simp only [VR] at h; obtain ⟨k, c, h, hc, _⟩ := h; exact ⟨_, _, h, Nat.zero_le _, hc, fun _ => rfl⟩
  · rename_i rows
    cases hn
    simp only [VR, RC] at h
    obtain ⟨k, len, cap, e, hl, hc, hm, h⟩ := h
    simp only [List.cons.injEq, and_true] at e
    subst hl
    refine ⟨k, cap, e, hc, hm, fun hk => ?_⟩
    rcases h with rfl | ⟨b, o, esz, rfl, _⟩
    · rfl
    · cases hk
  · cases hn
    simp only [VR] at h
    obtain ⟨hb, ad, c, _, _, e, hc, hm, _⟩ := h
    exact ⟨_, _, e, hc, hm, fun hk => by cases hk⟩
  · cases hn
    simp only [VR] at h
    obtain ⟨ad, _, e, hm⟩ := h
    exact ⟨_, _, e, Nat.le_refl _, by unfold maxLen; omega, fun hk => by cases hk⟩
  · cases hn

theorem nat_inK {n : Nat} (h : n ≤ maxLen) : inK .i64 n := by
  unfold maxLen at h
  unfold inK
  have h1 : IntKind.min .i64 = -9223372036854775808 := by decide
  have h2 : IntKind.max .i64 = 9223372036854775807 := by decide
  rw [h1, h2]; omega

theorem op_len (hr : Rel E nt g F H a.tmps w) {c : Call} {x : Operand} {x' : Opd} {t e : TypeId} (ho : o.op = .call c) (hc : c.callee = .builtin .len) (hargs : c.args.toList = [x]) (ht : c.argTypes[0]? = some t) (hu : P.underlying t = some (.slice e)) (hx : opd x = some x') {call} (h : opOut E call F H (.len x') = some out) :
    OpR E nt g F H a.tmps w out ((execOp a.eval o).run P w) := by
  simp only [opOut] at h
  split at h
  · rename_i p hp
    split at h
    · rename_i n hn
      rw [outV_eq h]
      obtain ⟨k, cc, e1, h1, h2, _⟩ := lenV_sound (evV_sound hr hx hp) hn
      refine OpR.val hr ?_ (VR_int (nat_inK (Nat.le_trans h1 h2)))
      have ha : c.args = #[x] := by rw [← Array.toList_inj]; simpa using hargs
      simp [execOp, ho, resolve, hc, ha, invoke, builtin, Builtin.len_, ht, e1, run_underlying hu, goInt]
    · cases h
  · cases h

theorem capV_sound {p : PV} {v : Value} {n : Nat} (h : VR g H w p v) (hn : capV p = some n) : ∃ k l, v = .slice k l n ∧ n ≤ maxLen := by
  unfold capV at hn
  split at hn
  · cases hn; simp only [VR] at h; exact ⟨_, _, h, Nat.zero_le _⟩
  · cases hn; simp only [VR] at h; obtain ⟨k, h⟩ := h; exact ⟨_, _, h, Nat.zero_le _⟩
  · rename_i id lo len ext c
    cases hn
    simp only [VR] at h
    obtain ⟨hb, ad, c', e, _, ev, hc, hm, hcc, hk⟩ := h
    cases hcc _ rfl
    exact ⟨_, _, ev, hm⟩
  · cases hn

theorem op_cap (hr : Rel E nt g F H a.tmps w) {c : Call} {x : Operand} {x' : Opd} {t e : TypeId} (ho : o.op = .call c) (hc : c.callee = .builtin .cap) (hargs : c.args.toList = [x]) (ht : c.argTypes[0]? = some t) (hu : P.underlying t = some (.slice e)) (hx : opd x = some x') {call} (h : opOut E call F H (.cap x') = some out) :
    OpR E nt g F H a.tmps w out ((execOp a.eval o).run P w) := by
  simp only [opOut] at h
  split at h
  · rename_i p hp
    split at h
    · rename_i n hn
      rw [outV_eq h]
      obtain ⟨k, cc, e1, h1⟩ := capV_sound (evV_sound hr hx hp) hn
      refine OpR.val hr ?_ (VR_int (nat_inK h1))
      have ha : c.args = #[x] := by rw [← Array.toList_inj]; simpa using hargs
      simp [execOp, ho, resolve, hc, ha, invoke, builtin, Builtin.cap_, ht, e1, run_underlying hu, goInt]
    · cases h
  · cases h

theorem minmax_run (mx : Bool) : ∀ (ps : List PV) (p r : PV) (v : Value) (vs : List Value), VR g H w p v → VRs g H w ps vs → minmaxV mx p ps = some r →
    ∃ u, (vs.foldlM (if mx then Builtin.max2 else Builtin.min2) v).run P w = .ok u w ∧ VR g H w r u
  | [], p, r, v, vs, hp, hps, h => by
    simp only [VRs] at hps; subst hps
    simp [minmaxV] at h; subst h
    exact ⟨v, by simp, hp⟩
  | q :: ps, p, r, v, vs, hp, hps, h => by
    simp only [VRs] at hps
    obtain ⟨u, us, rfl, hq, hps⟩ := hps
    unfold minmaxV at h
    split at h
    · rename_i heq; cases heq
    · rename_i k m k' n rest e
      split at h
      · rename_i hk; subst hk
        cases e
        simp only [VR] at hp hq
        obtain ⟨rfl, hp⟩ := hp
        obtain ⟨rfl, hq⟩ := hq
        obtain ⟨u', hu', hv'⟩ := minmax_run mx ps _ r (.int k (if mx then (if n > m then n else m) else (if n < m then n else m))) us (VR_int (by cases mx <;> simp <;> split <;> assumption)) hps h
        refine ⟨u', ?_, hv'⟩
        rw [List.foldlM_cons]
        cases mx
        · simp only [Bool.false_eq_true, if_false] at hu' ⊢
          simp only [Sem.run_bind, Builtin.min2, Sem.run_pure, Result.andThen_ok]
          exact hu'
        · simp only [if_true] at hu' ⊢
          simp only [Sem.run_bind, Builtin.max2, Sem.run_pure, Result.andThen_ok]
          exact hu'
      · cases h
    · cases h

theorem op_minmax (hr : Rel E nt g F H a.tmps w) {c : Call} {mx : Bool} {xs' : List Opd} (ho : o.op = .call c) (hc : c.callee = .builtin (if mx then .max else .min)) (hx : opds c.args.toList = some xs') {call} (h : opOut E call F H (.minmax mx xs') = some out) :
    OpR E nt g F H a.tmps w out ((execOp a.eval o).run P w) := by
  simp only [opOut] at h
  split at h
  · rename_i p ps hps
    split at h
    · rename_i r hrr
      rw [outV_eq h]
      have hvs := evs_sound hr _ _ _ hx hps
      simp only [VRs] at hvs
      obtain ⟨v, vs, e, hv, hvs⟩ := hvs
      obtain ⟨u, hu, hur⟩ := minmax_run (P := P) mx ps p r v vs hv hvs hrr
      refine OpR.val hr ?_ hur
      have he : (c.args.map a.eval).toList = v :: vs := by simpa using e
      cases mx
      · simp only [Bool.false_eq_true, if_false] at hc hu
        simp only [execOp, ho, resolve, hc, pure_bind, invoke, builtin, Builtin.min_, he, Sem.run_bind, hu]; rfl
      · simp only [if_true] at hc hu
        simp only [execOp, ho, resolve, hc, pure_bind, invoke, builtin, Builtin.max_, he, Sem.run_bind, hu]; rfl
    · cases h
  · cases h
end
end Go.Pf
