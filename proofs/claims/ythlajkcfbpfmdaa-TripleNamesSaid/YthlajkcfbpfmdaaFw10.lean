/- The framework, part 10: the operations that only compute, continued. -/
import Derived.Test.YthlajkcfbpfmdaaFw9
import Derived.DeepKeys
namespace Go.Pf
open Go Go.RowKit
section
variable {P : Program} {E : Env} {nt : Nat} {g g' : Gh} {F : Frm} {H H' : Hp} {a : Act} {w w' : World} {o : Oper} {out : Out}

theorem run_eqGuard_int (op : BinOp) (t : TypeId) (x y : Operand) (k k' : IntKind) (m n : Int) : (eqGuard op t x y (.int k m) (.int k' n)).run P w = .ok () w := by
  unfold eqGuard; cases op <;> rfl
theorem run_eqGuard_bool (op : BinOp) (t : TypeId) (x y : Operand) (p q : Bool) : (eqGuard op t x y (.bool p) (.bool q)).run P w = .ok () w := by
  unfold eqGuard; cases op <;> rfl
theorem run_eqGuard_slice (op : BinOp) (t : TypeId) (x y : Operand) (p q : Option Addr) (l c l' c' : Nat) : (eqGuard op t x y (.slice p l c) (.slice q l' c')).run P w = .ok () w := by
  unfold eqGuard; cases op <;> rfl

theorem fdiv_inK {k : IntKind} {x : Int} (n : Nat) (hx : inK k x) : inK k (x.fdiv (2 ^ n)) := by
  have hp : (0 : Int) < 2 ^ n := by exact_mod_cast Nat.two_pow_pos n
  rw [Int.fdiv_eq_ediv_of_nonneg _ (Int.le_of_lt hp)]
  unfold inK at hx ⊢
  have h0 : k.min ≤ 0 := by cases k <;> decide
  have h1 : 0 ≤ k.max := by cases k <;> decide
  rcases Int.le_total 0 x with h | h
  · have := Int.ediv_nonneg h (Int.le_of_lt hp)
    have := Int.ediv_le_self (2 ^ n) h
    omega
  · have h2 : x ≤ x / 2 ^ n := by
      apply Int.le_ediv_of_mul_le hp
      have : x * (2 ^ n - 1) ≤ 0 := Int.mul_nonpos_of_nonpos_of_nonneg h (by omega)
      rw [Int.mul_sub] at this
      omega
    have h3 : x / 2 ^ n ≤ 0 := by
      have := Int.ediv_le_ediv hp h
      simpa using this
    omega

theorem run_shiftI {op : BinOp} {k k' : IntKind} {x y : Int} {p : PV} (hop : op = .shl ∨ op = .shr) (hx : inK k x) (h : shiftI op k x y = some p) (t : TypeId) :
    ∃ v, (binOp op t (.int k x) (.int k' y)).run P w = .ok v w ∧ VR g H w p v := by
  unfold shiftI at h
  split at h
  · cases h
  · rename_i hy
    rcases hop with rfl | rfl
    · simp only [Option.some.injEq] at h
      subst h
      exact ⟨_, by simp [binOp, Op.shift, hy], VR_int (wrap_inK _ _)⟩
    · simp only [Option.some.injEq] at h
      subst h
      exact ⟨_, by simp [binOp, Op.shift, hy], VR_int (fdiv_inK _ hx)⟩

theorem run_binV {op : BinOp} {x y p : PV} {vx vy : Value} (hx : VR g H w x vx) (hy : VR g H w y vy) (h : binV op x y = some p) (t : TypeId) (ox oy : Operand) :
    ∃ v, (do eqGuard op t ox oy vx vy; binOp op t vx vy : Sem Value).run P w = .ok v w ∧ VR g H w p v := by
  unfold binV at h
  split at h
  · rename_i k m k' n
    simp only [VR] at hx hy
    obtain ⟨rfl, hx⟩ := hx
    obtain ⟨rfl, hy⟩ := hy
    have key : ∃ v, (binOp op t (.int k m) (.int k' n)).run P w = .ok v w ∧ VR g H w p v := by
      split at h
      · exact run_shiftI (.inl rfl) hx h t
      · exact run_shiftI (.inr rfl) hx h t
      · rename_i h1 h2
        split at h
        · rename_i e; subst e
          exact run_binI h1 h2 hx hy h t
        · cases h
    obtain ⟨v, hr, hv⟩ := key
    exact ⟨v, by simp [run_eqGuard_int, hr], hv⟩
  · cases h

theorem op_bin (hr : Rel E nt g F H a.tmps w) {op : BinOp} {t t' : TypeId} {x y : Operand} {x' y' : Opd} (ho : o.op = .binOp op t x y t') (hx : opd x = some x') (hy : opd y = some y') {call} (h : opOut E call F H (.bin op x' y') = some out) :
    OpR E nt g F H a.tmps w out ((execOp a.eval o).run P w) := by
  simp only [opOut] at h
  split at h
  · rename_i p q hp hq
    split at h
    · rename_i r hrr
      rw [outV_eq h]
      obtain ⟨v, h1, h2⟩ := run_binV (P := P) (evV_sound hr hx hp) (evV_sound hr hy hq) hrr t x y
      refine OpR.val hr ?_ h2
      simp only [execOp, ho, Sem.run_bind]
      simp only [Sem.run_bind] at h1
      rw [h1]; rfl
    · cases h
  · cases h

theorem run_equalIn_bool {t : TypeId} (ht : P.underlying t = some .bool) (d : Nat) (p q : Bool) : (Op.equalIn (d + 1) t (.bool p) (.bool q)).run P w = .ok (p == q) w := by
  simp [Op.equalIn, run_underlying ht]

theorem op_eqB (hr : Rel E nt g F H a.tmps w) {op : BinOp} {neg : Bool} {t t' : TypeId} {x y : Operand} {x' y' : Opd} (ho : o.op = .binOp op t x y t') (hn : (op = .eql ∧ neg = false) ∨ (op = .neq ∧ neg = true)) (ht : P.underlying t = some .bool)
    (hx : opd x = some x') (hy : opd y = some y') {call} (h : opOut E call F H (.eqB neg x' y') = some out) :
    OpR E nt g F H a.tmps w out ((execOp a.eval o).run P w) := by
  simp only [opOut] at h
  split at h
  · rename_i p q hp hq
    rw [outV_eq h]
    have h1 := evV_sound hr hx hp
    have h2 := evV_sound hr hy hq
    simp only [VR] at h1 h2
    have heq : ∀ p q : Bool, (Op.equal t (.bool p) (.bool q)).run P w = .ok (p == q) w := fun p q => run_equalIn_bool ht 9999 p q
    refine OpR.val hr ?_ (VR_bool _)
    rcases hn with ⟨rfl, rfl⟩ | ⟨rfl, rfl⟩
    · simp only [execOp, ho, Sem.run_bind, h1, h2, run_eqGuard_bool, Result.andThen_ok, binOp, heq]
      rfl
    · simp only [execOp, ho, Sem.run_bind, h1, h2, run_eqGuard_bool, Result.andThen_ok, binOp, heq]
      rfl
  · cases h

/-- The literal of a cell. -/
def lookLit (cs : List Value) (x : Nat × Option IntKind) : Option Lit :=
  match cs[x.1]?, x.2 with
  | some (.bool b), none => some (.bool b)
  | some (.int q n), some q' => if q = q' ∧ (Lit.int q' n).wf = true then some (.int q' n) else none
  | _, _ => none

theorem mapM_append_some {α β : Type} {f : α → Option β} : ∀ (l1 l2 : List α) {r1 r2 : List β}, l1.mapM f = some r1 → l2.mapM f = some r2 → (l1 ++ l2).mapM f = some (r1 ++ r2)
  | [], l2, r1, r2, h1, h2 => by simp at h1; subst h1; simpa using h2
  | x :: l, l2, r1, r2, h1, h2 => by
    rw [List.mapM_cons] at h1
    simp only [Option.bind_eq_bind, Option.bind_eq_some_iff, Option.pure_def, Option.some.injEq] at h1
    obtain ⟨y, hy, ys, hys, rfl⟩ := h1
    rw [List.cons_append, List.mapM_cons, hy]
    simp [mapM_append_some l l2 hys h2]

theorem mapM_append_inv {α β : Type} {f : α → Option β} : ∀ (l1 l2 : List α) {r : List β}, (l1 ++ l2).mapM f = some r → ∃ r1 r2, r = r1 ++ r2 ∧ l1.mapM f = some r1 ∧ l2.mapM f = some r2
  | [], l2, r, h => ⟨[], r, rfl, by simp, by simpa using h⟩
  | x :: l, l2, r, h => by
    rw [List.cons_append, List.mapM_cons] at h
    simp only [Option.bind_eq_bind, Option.bind_eq_some_iff, Option.pure_def, Option.some.injEq] at h
    obtain ⟨y, hy, ys, hys, rfl⟩ := h
    obtain ⟨r1, r2, rfl, h1, h2⟩ := mapM_append_inv l l2 hys
    exact ⟨y :: r1, r2, rfl, by rw [List.mapM_cons, hy]; simp [h1], h2⟩

theorem flatFs_lits (P : Program) (sz d : Nat) (rc : TypeId → Nat → Option (List (Nat × Option IntKind)))
    (ih : ∀ (t : TypeId) (off : Nat) (idx : List (Nat × Option IntKind)) (cs : List Value) (L : List Lit), rc t off = some idx → off + P.cellsOf t ≤ cs.length → idx.mapM (lookLit cs) = some L → P.keyLits d t ((cs.drop off).take (P.cellsOf t)) = some L) :
    ∀ (fs : List Field) (off : Nat) (idx : List (Nat × Option IntKind)) (cs : List Value) (L : List Lit),
    flatFs P sz rc fs off = some idx → off + sz ≤ cs.length → idx.mapM (lookLit cs) = some L →
    ((fs.mapM fun f => P.keyLits d f.type ((((cs.drop off).take sz).drop f.offset).take (P.cellsOf f.type))).map List.flatten) = some L
  | [], off, idx, cs, L, h, _, hm => by
    simp [flatFs] at h; subst h
    simp at hm; subst hm
    simp
  | f :: r, off, idx, cs, L, h, hl, hm => by
    unfold flatFs at h
    split at h
    · rename_i hsz
      split at h
      · rename_i i1 i2 e1 e2
        cases h
        obtain ⟨L1, L2, rfl, hm1, hm2⟩ := mapM_append_inv i1 i2 hm
        have hA := ih f.type (off + f.offset) i1 cs L1 e1 (by omega) hm1
        have hB := flatFs_lits P sz d rc ih r off i2 cs L2 e2 hl hm2
        have hseg : (((cs.drop off).take sz).drop f.offset).take (P.cellsOf f.type) = (cs.drop (off + f.offset)).take (P.cellsOf f.type) := by
          rw [List.drop_take, List.drop_drop, List.take_take, Nat.min_eq_left (by omega)]
        rw [List.mapM_cons, hseg, hA]
        simp only [Option.map_eq_some_iff] at hB
        obtain ⟨LL, hLL, rfl⟩ := hB
        simp [hLL]
      · cases h
    · cases h

theorem flatA_lits (P : Program) (e : TypeId) (sz d : Nat) (rc : Nat → Option (List (Nat × Option IntKind)))
    (ih : ∀ (off : Nat) (idx : List (Nat × Option IntKind)) (cs : List Value) (L : List Lit), rc off = some idx → off + P.cellsOf e ≤ cs.length → idx.mapM (lookLit cs) = some L → P.keyLits d e ((cs.drop off).take (P.cellsOf e)) = some L) :
    ∀ (n k off : Nat) (idx : List (Nat × Option IntKind)) (cs : List Value) (L : List Lit),
    flatA (P.cellsOf e) rc n (off + k * P.cellsOf e) = some idx → (k + n) * P.cellsOf e ≤ sz → off + sz ≤ cs.length → idx.mapM (lookLit cs) = some L →
    (((List.range' k n).mapM fun i => P.keyLits d e ((((cs.drop off).take sz).drop (i * P.cellsOf e)).take (P.cellsOf e))).map List.flatten) = some L
  | 0, k, off, idx, cs, L, h, _, _, hm => by
    simp [flatA] at h; subst h
    simp at hm; subst hm
    simp
  | n + 1, k, off, idx, cs, L, h, hs, hl, hm => by
    unfold flatA at h
    split at h
    · rename_i i1 i2 e1 e2
      cases h
      obtain ⟨L1, L2, rfl, hm1, hm2⟩ := mapM_append_inv i1 i2 hm
      have hk : (k + 1) * P.cellsOf e ≤ sz := Nat.le_trans (Nat.mul_le_mul_right _ (by omega)) hs
      rw [Nat.add_mul, Nat.one_mul] at hk
      have hA := ih (off + k * P.cellsOf e) i1 cs L1 e1 (by omega) hm1
      have hB := flatA_lits P e sz d rc ih n (k + 1) off i2 cs L2 (by rw [Nat.add_mul, Nat.one_mul, ← Nat.add_assoc]; exact e2) (by rw [Nat.add_right_comm, Nat.add_assoc]; exact hs) hl hm2
      have hseg : (((cs.drop off).take sz).drop (k * P.cellsOf e)).take (P.cellsOf e) = (cs.drop (off + k * P.cellsOf e)).take (P.cellsOf e) := by
        rw [List.drop_take, List.drop_drop, List.take_take, Nat.min_eq_left (by omega)]
      rw [List.range'_succ, List.mapM_cons, hseg, hA]
      simp only [Option.map_eq_some_iff] at hB
      obtain ⟨LL, hLL, rfl⟩ := hB
      simp [hLL]
    · cases h

theorem flatT_lits (P : Program) : ∀ (d : Nat) (t : TypeId) (off : Nat) (idx : List (Nat × Option IntKind)) (cs : List Value) (L : List Lit),
    flatT P d t off = some idx → off + P.cellsOf t ≤ cs.length → idx.mapM (lookLit cs) = some L → P.keyLits d t ((cs.drop off).take (P.cellsOf t)) = some L
  | 0, t, off, idx, cs, L, h, _, _ => by simp [flatT] at h
  | d + 1, t, off, idx, cs, L, h, hl, hm => by
    have one : P.cellsOf t = 1 → ∃ v, cs[off]? = some v ∧ (cs.drop off).take 1 = [v] := by
      intro h1
      rw [h1] at hl
      have hlt : off < cs.length := by omega
      exact ⟨cs[off], List.getElem?_eq_getElem hlt, by rw [List.drop_eq_getElem_cons hlt]; rfl⟩
    unfold flatT at h
    unfold Program.keyLits
    split at h
    · rename_i hu
      split at h
      · rename_i h1
        cases h
        obtain ⟨v, hv, hc⟩ := one h1
        rw [h1, hc, hu]
        rw [List.mapM_cons] at hm
        simp only [lookLit, hv, Option.bind_eq_bind, Option.bind_eq_some_iff, List.mapM_nil, Option.pure_def, Option.some.injEq, exists_eq_left'] at hm
        obtain ⟨l, h2, rfl⟩ := hm
        split at h2 <;> first | (rename_i hvv; simp at hvv; subst hvv; cases h2; rfl) | simp_all
      · cases h
    · rename_i q hu
      split at h
      · rename_i h1
        cases h
        obtain ⟨v, hv, hc⟩ := one h1
        rw [h1, hc, hu]
        rw [List.mapM_cons] at hm
        simp only [lookLit, hv, Option.bind_eq_bind, Option.bind_eq_some_iff, List.mapM_nil, Option.pure_def, Option.some.injEq, exists_eq_left'] at hm
        obtain ⟨l, h2, rfl⟩ := hm
        split at h2
        · simp_all
        · rename_i q' n q'' e1 e2
          simp at e1 e2; subst e1; subst e2
          simp only
          split at h2
          · rename_i hq; cases h2; rw [if_pos hq]
          · cases h2
        · cases h2
      · cases h
    · rename_i fs hu
      split at h
      · rename_i hn
        have hlen : ((cs.drop off).take (P.cellsOf t)).length = P.cellsOf t := by
          rw [List.length_take, List.length_drop]; omega
        rw [hu]
        simp only [hlen, hn, and_self, if_true]
        exact flatFs_lits P (P.cellsOf t) d (flatT P d) (flatT_lits P d) fs.toList off idx cs L h hl hm
      · cases h
    · rename_i n e hu
      split at h
      · rename_i hn
        have hlen : ((cs.drop off).take (P.cellsOf t)).length = P.cellsOf t := by
          rw [List.length_take, List.length_drop]; omega
        rw [hu]
        simp only [hlen, if_true]
        rw [List.range_eq_range']
        exact flatA_lits P e (P.cellsOf t) d (flatT P d e) (flatT_lits P d e) n 0 off idx cs L (by rw [Nat.zero_mul, Nat.add_zero]; exact h) (by rw [Nat.zero_add]; exact hn) hl hm
      · cases h
    · cases h

theorem VCs_length : ∀ (l : List PV) (vs : List Value), VCs g H w l vs → vs.length = l.length
  | [], vs, h => by simp only [VCs] at h; subst h; rfl
  | x :: r, vs, h => by
    simp only [VCs] at h
    obtain ⟨v, vr, rfl, _, _, h2⟩ := h
    simp [VCs_length r vr h2]

theorem VCs_get : ∀ (l : List PV) (vs : List Value) (i : Nat) (x : PV), VCs g H w l vs → l[i]? = some x → ∃ v, vs[i]? = some v ∧ x.one = true ∧ VR g H w x v
  | [], vs, i, x, h, e => by simp at e
  | y :: r, vs, 0, x, h, e => by
    simp only [VCs] at h
    obtain ⟨v, vr, rfl, o, h1, h2⟩ := h
    simp at e; subst e
    exact ⟨v, rfl, o, h1⟩
  | y :: r, vs, i + 1, x, h, e => by
    simp only [VCs] at h
    obtain ⟨v, vr, rfl, o, h1, h2⟩ := h
    simp at e
    simpa using VCs_get r vr i x h2 e

/-- The cells compared, and the literals. -/
theorem eqL_lits {a b : List PV} {xs ys : List Value} (ha : VCs g H w a xs) (hb : VCs g H w b ys) : ∀ (idx : List (Nat × Option IntKind)) (r : Bool), eqL a b idx = some r →
    ∃ la lb, idx.mapM (lookLit xs) = some la ∧ idx.mapM (lookLit ys) = some lb ∧ (r = true ↔ la = lb)
  | [], r, h => by simp [eqL] at h; subst h; exact ⟨[], [], by simp, by simp, by simp⟩
  | (i, k) :: rest, r, h => by
    simp only [eqL] at h
    split at h
    · rename_i x y hx hy
      split at h
      · rename_i p q hp hq
        cases h
        obtain ⟨vx, e1, _, v1⟩ := VCs_get a xs i x ha hx
        obtain ⟨vy, e2, _, v2⟩ := VCs_get b ys i y hb hy
        obtain ⟨la, lb, h1, h2, h3⟩ := eqL_lits ha hb rest q hq
        have key : ∃ l1 l2, lookLit xs (i, k) = some l1 ∧ lookLit ys (i, k) = some l2 ∧ (p = true ↔ l1 = l2) := by
          unfold eq1 at hp
          split at hp
          · split at hp
            · rename_i hk
              obtain ⟨rfl, rfl⟩ := hk
              cases hp
              simp only [VR] at v1 v2
              obtain ⟨rfl, w1⟩ := v1
              obtain ⟨rfl, w2⟩ := v2
              refine ⟨_, _, by simp only [lookLit, e1]; rw [if_pos ⟨trivial, by simpa [Lit.wf, inK] using w1⟩], by simp only [lookLit, e2]; rw [if_pos ⟨trivial, by simpa [Lit.wf, inK] using w2⟩], by simp⟩
            · cases hp
          · rename_i b1 b2
            cases hp
            simp only [VR] at v1 v2
            subst v1; subst v2
            exact ⟨_, _, by simp [lookLit, e1]; rfl, by simp [lookLit, e2]; rfl, by simp⟩
          · cases hp
        obtain ⟨l1, l2, k1, k2, k3⟩ := key
        refine ⟨l1 :: la, l2 :: lb, by rw [List.mapM_cons, k1]; simp [h1], by rw [List.mapM_cons, k2]; simp [h2], ?_⟩
        simp [Bool.and_eq_true, k3, h3]
      · cases h
    · cases h

theorem run_equal_flat {t : TypeId} {idx : List (Nat × Option IntKind)} {a b : List PV} {xs ys : List Value} {r : Bool} (hf : flatT P 12 t 0 = some idx) (hk : P.keyTypeAt 8 t = true) (hs : (∃ fs, P.underlying t = some (.struct fs)) ∨ ∃ n e, P.underlying t = some (.array n e))
    (hla : a.length = P.cellsOf t) (hlb : b.length = P.cellsOf t) (ha : VCs g H w a xs) (hb : VCs g H w b ys) (h : eqL a b idx = some r) : (Op.equal t (.agg xs.toArray) (.agg ys.toArray)).run P w = .ok r w := by
  obtain ⟨la, lb, h1, h2, h3⟩ := eqL_lits ha hb idx r h
  have lx := VCs_length a xs ha
  have ly := VCs_length b ys hb
  have k1 := flatT_lits P 12 t 0 idx xs la hf (by omega) h1
  have k2 := flatT_lits P 12 t 0 idx ys lb hf (by omega) h2
  simp only [List.drop_zero] at k1 k2
  rw [List.take_of_length_le (by omega)] at k1 k2
  have fo : ∀ zs : List Value, zs.length = P.cellsOf t → (Value.agg zs.toArray).formed P t = true := by
    intro zs hz
    rcases hs with ⟨fs, hs⟩ | ⟨n, e, hs⟩
    · simp [Value.formed, hs, hz]
    · simp [Value.formed, hs, hz]
  obtain ⟨r', hr', hiff⟩ := run_equalIn_deep (P := P) (10000 - 8) 8 t hk w 12 12 (.agg xs.toArray) (.agg ys.toArray) la lb (fo xs (by omega)) (fo ys (by omega)) (by simpa [Value.cells] using k1) (by simpa [Value.cells] using k2)
  have e : r' = r := by
    rw [Bool.eq_iff_iff, hiff, h3]
  rw [← e]; exact hr'
end
end Go.Pf
