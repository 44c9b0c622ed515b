/- The framework, part 25: regions with a draw are sound. -/
import Derived.Test.YthlajkcfbpfmdaaFw24
import Derived.Test.YthlajkcfbpfmdaaFw21
namespace Go.Pf
open Go Go.RowKit

section
variable {E : Env} {F F' : Frm} {H H' H1 : Hp} {call : Nat → List PV → Hp → Option (PV × Hp)}

theorem putDst_of {dst : Option Nat} {x : Option FV} {F1 : Frm} (h : putDstU F dst x = some F1) (hb : ∀ row d, x = some (.box row) → dst = some d → noBp F d = true) : putDst F dst x = some F1 := by
  cases dst with
  | none => cases x with
    | none => exact h
    | some fv => cases fv <;> exact h
  | some d => cases x with
    | none => exact h
    | some fv =>
      cases fv with
      | box row => simp only [putDst]; rw [delBp_same _ _ (hb row d rfl rfl)]; exact h
      | _ => exact h

inductive Loc where
  | sl (s : Nat)
  | bk (id : Nat)
  | len
inductive LV where
  | f (x : Option FV)
  | b (x : Option HB)
  | n (k : Nat)

def look (S : Frm × Hp) : Loc → LV
  | .sl s => .f (fget S.1 s)
  | .bk id => .b S.2[id]?
  | .len => .n S.2.length

def RdP (p : FP) : Loc → Prop
  | .sl s => s ∈ p.rd
  | .bk id => id ∈ p.hr ∨ id ∈ p.hw ∨ p.all = true
  | .len => p.push = true ∨ p.all = true
def WrP (p : FP) : Loc → Prop
  | .sl s => s ∈ p.wr
  | .bk id => id ∈ p.hw ∨ p.all = true
  | .len => p.push = true ∨ p.all = true

theorem guard_ag {gd : Option (Nat × Bool)} (h : AgF (gSlots gd) F F') : guardOk F' gd = guardOk F gd := by
  cases gd with
  | none => rfl
  | some x =>
    obtain ⟨s, want⟩ := x
    simp only [guardOk, h s (by simp [gSlots])]

theorem fget_putBx (F : Frm) (bx : Option (Nat × PV)) (k : Nat) : fget (putBx F bx) k = match bx with | some (s, row) => if k = s then some (.box row) else fget F k | none => fget F k := by
  cases bx with
  | none => rfl
  | some x => obtain ⟨s, row⟩ := x; simp only [putBx, fget_fset]

/-- A step beside a state that agrees with its footprint. -/
theorem stepU_loc {o : AOper} {S1 : Frm × Hp} (h : stepU E call o (F, H) = some S1) (S' : Frm × Hp) (hag : ∀ l, RdP (fpOper E F H o) l → look S' l = look (F, H) l) :
    ∃ T', stepU E call o S' = some T' ∧ (∀ l, WrP (fpOper E F H o) l → look T' l = look S1 l) ∧ (∀ l, ¬ WrP (fpOper E F H o) l → look T' l = look S' l) := by
  obtain ⟨F', H'⟩ := S'
  have hF : AgF (fpOper E F H o).rd F F' := fun s hs => by
    have := hag (.sl s) hs
    simpa [look] using this
  unfold stepU at h ⊢
  simp only [] at h ⊢
  unfold fpOper at hag hF ⊢
  split at h
  · cases h
  · -- the guard says no
    rename_i hg
    rw [hg] at hag hF ⊢
    simp only [] at hag hF ⊢
    rw [guard_ag hF, hg]
    simp only []
    cases hd : o.dst with
    | none =>
      rw [hd] at h
      cases h
      exact ⟨_, rfl, fun l hl => by cases l <;> simp [WrP] at hl, fun _ _ => rfl⟩
    | some d =>
      rw [hd] at h
      cases h
      refine ⟨_, rfl, fun l hl => ?_, fun l hl => ?_⟩
      · cases l <;> simp [WrP] at hl
        subst hl
        simp [look, fget_fset]
      · cases l with
        | sl s =>
          simp [WrP] at hl
          simp [look, fget_fset, hl]
        | _ => rfl
  · rename_i hg
    rw [hg] at hag hF ⊢
    simp only [] at hag hF ⊢
    rw [AgF_append] at hF
    rw [guard_ag hF.1, hg]
    simp only []
    split at h
    · cases h
    · rename_i out x bx H2 hout
      simp only [Option.map_eq_some_iff] at h
      obtain ⟨F1, hput, e⟩ := h
      subst e
      have hall : (fpOp E F H o.op).all = true → H' = H := fun ha => List.ext_getElem? fun k => by
        have := hag (.bk k) (.inr (.inr ha))
        simpa [look] using this
      have hH : AgH (fpOp E F H o.op) H H' := by
        refine ⟨fun id hid => ?_, fun hp => ?_, hall⟩
        · have := hag (.bk id) (hid.elim .inl fun x => .inr (.inl x))
          simpa [look] using this
        · have := hag .len (.inl hp)
          simpa [look] using this
      obtain ⟨H2', h1, h2⟩ := opOut_heap hH hout
      have h3 : opOut E call F' H' o.op = some ⟨x, bx, H2'⟩ := by
        rw [opOut_frame (F := F) (H := H') (by rw [fpOp_rd o.op H' H]; exact hF.2)]; exact h1
      rw [h3]
      simp only []
      -- the frames behind
      have hput' : ∃ F1', putDstU (putBx F' bx) o.dst x = some F1' ∧ (∀ s, s ∈ o.dst.toList ++ (fpOp E F H o.op).wr → fget F1' s = fget F1 s) ∧ (∀ s, s ∉ o.dst.toList ++ (fpOp E F H o.op).wr → fget F1' s = fget F' s) := by
        have hbx : ∀ s row, bx = some (s, row) → s ∈ (fpOp E F H o.op).wr := fun s row e => (opOut_bx hout e).1
        have hin : ∀ s, s ∈ (fpOp E F H o.op).wr → fget (putBx F' bx) s = fget (putBx F bx) s := by
          intro s hs
          rw [fget_putBx, fget_putBx]
          have := hF.2 s (wr_rd _ _ hs)
          cases bx with
          | none => exact this
          | some y => obtain ⟨s', row⟩ := y; simp only [this]
        have hnin : ∀ s, s ∉ (fpOp E F H o.op).wr → fget (putBx F' bx) s = fget F' s := by
          intro s hs
          rw [fget_putBx]
          cases bx with
          | none => rfl
          | some y =>
            obtain ⟨s', row⟩ := y
            simp only []
            have hne : ¬ s = s' := fun e => hs (e ▸ hbx s' row rfl)
            rw [if_neg hne]
        cases hdst : o.dst with
        | none =>
          rw [hdst] at hput
          have hx : ∀ G : Frm, putDstU G none x = some G := by
            cases x with
            | none => intro G; rfl
            | some fv => cases fv with
              | box row => simp [putDstU] at hput
              | _ => intro G; rfl
          rw [hx] at hput
          cases hput
          refine ⟨_, hx _, fun s hs => hin s (by simpa using hs), fun s hs => hnin s (by simpa using hs)⟩
        | some d =>
          rw [hdst] at hput
          have key : ∀ (G : Frm), ∃ G1, putDstU G (some d) x = some G1 ∧ fget G1 d = x ∧ ∀ s, s ≠ d → fget G1 s = fget G s := by
            intro G
            cases x with
            | none => exact ⟨_, rfl, by simp [fget_fdel], fun s hs => by simp [fget_fdel, hs]⟩
            | some fv => exact ⟨_, rfl, by simp [fget_fset], fun s hs => by simp [fget_fset, hs]⟩
          obtain ⟨G1, k1, k2, k3⟩ := key (putBx F bx)
          rw [k1] at hput
          cases hput
          obtain ⟨G2, k4, k5, k6⟩ := key (putBx F' bx)
          refine ⟨G2, k4, fun s hs => ?_, fun s hs => ?_⟩
          · by_cases e : s = d
            · subst e; rw [k2, k5]
            · rw [k6 s e, k3 s e]
              simp only [Option.toList_some, List.mem_append, List.mem_singleton, e, false_or] at hs
              exact hin s hs
          · simp only [Option.toList_some, List.mem_append, List.mem_singleton, not_or] at hs
            rw [k6 s hs.1]
            exact hnin s hs.2
      obtain ⟨F1', e1, e2, e3⟩ := hput'
      rw [e1]
      refine ⟨(F1', H2'), rfl, fun l hl => ?_, fun l hl => ?_⟩
      · cases l with
        | sl s => simp only [WrP] at hl; simp only [look, e2 s hl]
        | bk id =>
          simp only [WrP] at hl
          simp only [look]
          rcases hl with hl | hl
          · cases ha : (fpOp E F H o.op).all
            · rw [h2.inn ha id hl]
            · rw [h2.all ha]
          · rw [h2.all hl]
        | len =>
          simp only [WrP] at hl
          simp only [look]
          rcases hl with hl | hl
          · rw [h2.push hl]
          · rw [h2.all hl]
      · cases l with
        | sl s => simp only [WrP] at hl; simp only [look, e3 s hl]
        | bk id =>
          simp only [WrP, not_or] at hl
          simp only [look]
          rw [(h2.out (by simpa using hl.2) id hl.1).2]
        | len =>
          simp only [WrP, not_or] at hl
          simp only [look]
          rw [(h2.len (by simpa using hl.1) (by simpa using hl.2)).2]

theorem eqFn_eq {f g : Fn} (h : eqFn f g = true) : f = g := by
  unfold eqFn at h
  split at h
  · rw [eq_of_beq h]
  · rw [eq_of_beq h]
  · exact of_decide_eq_true h
theorem eqFn_refl (f : Fn) : eqFn f f = true := by
  cases f <;> simp [eqFn]
mutual
theorem eqP_refl : ∀ (x : PV), eqP x x = true
  | .bool _ | .int _ _ | .nilp | .nils | .emp | .nilf | .mt _ | .ptr _ _ _ _ | .own _ _ _ _ _ | .sub _ _ _ _ _ _ => by simp [eqP]
  | .eptr r _ _ => by simp [eqP, eqPL_refl r]
  | .data r => by simp [eqP, eqPL_refl r]
  | .agg r => by simp [eqP, eqPL_refl r]
  | .tup r => by simp [eqP, eqPL_refl r]
  | .fn f a b => by simp [eqP, eqFn_refl f, eqPL_refl a, eqPL_refl b]
theorem eqPL_refl : ∀ (x : List PV), eqPL x x = true
  | [] => rfl
  | x :: r => by simp [eqPL, eqP_refl x, eqPL_refl r]
end
theorem eqHB_refl (b : HB) : eqHB b b = true := by simp [eqHB, eqPL_refl]
/-- A block that is as it was is not told of. -/
theorem chgH_same : ∀ (i : Nat) (H H1 : Hp), H1.length = H.length → ∀ id, H1[id]? = H[id]? → i + id ∉ chgH i H H1
  | i, [], [], _, id, _ => by simp [chgH, chgH0]
  | i, a :: r, b :: s, hl, id, h => by
    have hl' : s.length = r.length := by simpa using hl
    have hin : ∀ (k : Nat) (H H1 : Hp) (x : Nat), x ∈ chgH k H H1 → k ≤ x := by
      intro k H
      induction H generalizing k with
      | nil =>
        intro H1
        induction H1 generalizing k with
        | nil => intro x hx; simp [chgH, chgH0] at hx
        | cons _ s ih =>
          intro x hx
          simp only [chgH, chgH0, List.mem_cons] at hx
          rcases hx with rfl | hx
          · exact Nat.le_refl _
          · have := ih (k + 1) x hx; omega
      | cons a r ih =>
        intro H1 x hx
        cases H1 with
        | nil =>
          simp only [chgH, List.mem_cons] at hx
          rcases hx with rfl | hx
          · exact Nat.le_refl _
          · have := ih (k + 1) [] x hx; omega
        | cons b s =>
          simp only [chgH] at hx
          split at hx
          · have := ih (k + 1) s x hx; omega
          · simp only [List.mem_cons] at hx
            rcases hx with rfl | hx
            · exact Nat.le_refl _
            · have := ih (k + 1) s x hx; omega
    cases id with
    | zero =>
      simp only [List.getElem?_cons_zero, Option.some.injEq] at h
      subst h
      simp only [chgH, eqHB_refl, if_true]
      intro hm
      have := hin _ _ _ _ hm
      omega
    | succ id =>
      have h2 : s[id]? = r[id]? := by simpa using h
      have := chgH_same (i + 1) r s hl' id h2
      rw [show i + 1 + id = i + (id + 1) by omega] at this
      simp only [chgH]
      split
      · exact this
      · simp only [List.mem_cons, not_or]
        exact ⟨by omega, this⟩
  | i, [], _ :: _, hl, _, _ => by simp at hl
  | i, _ :: _, [], hl, _, _ => by simp at hl

mutual
theorem eqP_eq : ∀ (x y : PV), eqP x y = true → x = y
  | .bool a, y, h => by cases y <;> simp [eqP] at h; rw [h]
  | .int k a, y, h => by cases y <;> simp [eqP] at h; rw [h.1, h.2]
  | .nilp, y, h => by cases y <;> simp [eqP] at h; rfl
  | .nils, y, h => by cases y <;> simp [eqP] at h; rfl
  | .emp, y, h => by cases y <;> simp [eqP] at h; rfl
  | .nilf, y, h => by cases y <;> simp [eqP] at h; rfl
  | .mt a, y, h => by cases y <;> simp [eqP] at h; rw [h]
  | .ptr .., y, h => by cases y <;> simp [eqP] at h; rw [h.1, h.2.1, h.2.2.1, h.2.2.2]
  | .own .., y, h => by cases y <;> simp [eqP] at h; rw [h.1, h.2.1, h.2.2.1, h.2.2.2.1, h.2.2.2.2]
  | .sub .., y, h => by cases y <;> simp [eqP] at h; rw [h.1, h.2.1, h.2.2.1, h.2.2.2.1, h.2.2.2.2.1, h.2.2.2.2.2]
  | .eptr r i o, y, h => by cases y <;> simp [eqP] at h; rw [eqPL_eq _ _ h.1, h.2.1, h.2.2]
  | .data a, y, h => by cases y <;> simp only [eqP, Bool.false_eq_true] at h; rw [eqPL_eq _ _ h]
  | .agg a, y, h => by cases y <;> simp only [eqP, Bool.false_eq_true] at h; rw [eqPL_eq _ _ h]
  | .tup a, y, h => by cases y <;> simp only [eqP, Bool.false_eq_true] at h; rw [eqPL_eq _ _ h]
  | .fn f a b, y, h => by
    cases y with
    | fn f' a' b' =>
      simp only [eqP, Bool.and_eq_true] at h
      rw [eqFn_eq h.1, eqPL_eq _ _ h.2.1, eqPL_eq _ _ h.2.2]
    | _ => simp [eqP] at h
theorem eqPL_eq : ∀ (x y : List PV), eqPL x y = true → x = y
  | [], y, h => by cases y <;> simp [eqPL] at h; rfl
  | x :: a, y, h => by
    cases y with
    | nil => simp [eqPL] at h
    | cons z b =>
      simp only [eqPL, Bool.and_eq_true] at h
      rw [eqP_eq _ _ h.1, eqPL_eq _ _ h.2]
end
theorem eqHB_eq {a b : HB} (h : eqHB a b = true) : a = b := by
  obtain ⟨f1, p1, e1, r1⟩ := a
  obtain ⟨f2, p2, e2, r2⟩ := b
  simp only [eqHB, Bool.and_eq_true, beq_iff_eq] at h
  obtain ⟨h1, h2, h3, h4⟩ := h
  rw [h1, h2, h3, eqPL_eq _ _ h4]
theorem chgH_not : ∀ (i : Nat) (H H1 : Hp) (id : Nat), i + id ∉ chgH i H H1 → H1[id]? = H[id]?
  | _, [], [], id, _ => rfl
  | i, a :: r, b :: s, id, h => by
    simp only [chgH] at h
    cases id with
    | zero =>
      split at h
      · rename_i e; simp [eqHB_eq e]
      · simp at h
    | succ id =>
      have : i + 1 + id ∉ chgH (i + 1) r s := by
        rw [show i + 1 + id = i + (id + 1) by omega]
        split at h
        · exact h
        · exact fun hm => h (List.mem_cons_of_mem _ hm)
      simpa using chgH_not (i + 1) r s id this
  | i, _ :: r, [], id, h => by
    simp only [chgH] at h
    cases id with
    | zero => simp at h
    | succ id =>
      have : i + 1 + id ∉ chgH (i + 1) r [] := by
        rw [show i + 1 + id = i + (id + 1) by omega]
        exact fun hm => h (List.mem_cons_of_mem _ hm)
      simpa using chgH_not (i + 1) r [] id this
  | i, [], _ :: s, id, h => by
    simp only [chgH, chgH0] at h
    cases id with
    | zero => simp at h
    | succ id =>
      have : i + 1 + id ∉ chgH (i + 1) [] s := by
        rw [show i + 1 + id = i + (id + 1) by omega]
        exact fun hm => h (List.mem_cons_of_mem _ hm)
      simpa using chgH_not (i + 1) [] s id this
/-- The same, beside a state that agrees with what the step reads. -/
theorem stepU_tight {o : AOper} {S1 : Frm × Hp} (h : stepU E call o (F, H) = some S1) (S' : Frm × Hp) (hag : ∀ l, RdP ((fpOper E F H o).tight H S1.2) l → look S' l = look (F, H) l) :
    ∃ T', stepU E call o S' = some T' ∧ (∀ l, WrP ((fpOper E F H o).tight H S1.2) l → look T' l = look S1 l) ∧ (∀ l, ¬ WrP ((fpOper E F H o).tight H S1.2) l → look T' l = look S' l) := by
  unfold FP.tight at hag ⊢
  cases ha : (fpOper E F H o).all with
  | false =>
    rw [ha] at hag
    simp only [Bool.false_eq_true, if_false] at hag ⊢
    exact stepU_loc h S' hag
  | true =>
    rw [ha] at hag
    simp only [if_true] at hag ⊢
    have hlen : S'.2.length = H.length := by
      have := hag .len (.inl rfl)
      simpa [look] using this
    have hbk : ∀ id : Nat, S'.2[id]? = H[id]? := by
      intro id
      by_cases hid : id < H.length
      · have := hag (.bk id) (.inl (List.mem_range.2 hid))
        simpa [look] using this
      · rw [List.getElem?_eq_none (by omega), List.getElem?_eq_none (by omega)]
    obtain ⟨T', h1, h2, h3⟩ := stepU_loc h S' fun l hl => by
      cases l with
      | sl s => exact hag (.sl s) hl
      | bk id => simp [look, hbk id]
      | len => simp [look, hlen]
    refine ⟨T', h1, fun l hl => ?_, fun l hl => ?_⟩
    · cases l with
      | sl s => exact h2 (.sl s) hl
      | bk id => exact h2 (.bk id) (.inr ha)
      | len => exact h2 .len (.inr ha)
    · cases l with
      | sl s => exact h3 (.sl s) hl
      | bk id =>
        have e1 := h2 (.bk id) (.inr ha)
        have hn : id ∉ chgH 0 H S1.2 := fun hm => hl (.inl hm)
        have e2 := chgH_not 0 H S1.2 id (by rw [Nat.zero_add]; exact hn)
        rw [e1]
        simp only [look]
        rw [e2, hbk id]
      | len => exact absurd (.inl rfl) hl

/-! The states of a run. -/

def stAt (E : Env) (call : Nat → List PV → Hp → Option (PV × Hp)) : List AOper → Nat → Frm × Hp → Frm × Hp
  | [], _, S => S
  | _ :: _, 0, S => S
  | o :: r, i + 1, S => match stepU E call o S with
    | some S' => stAt E call r i S'
    | none => S

theorem runFps_states : ∀ (l : List AOper) (F : Frm) (H : Hp) (F' : Frm) (H' : Hp) (ps : List FP), runFps E call l F H = some (F', H', ps) →
    ps.length = l.length ∧ stAt E call l 0 (F, H) = (F, H) ∧ stAt E call l l.length (F, H) = (F', H') ∧
    ∀ (i : Nat) (o : AOper), l[i]? = some o → stepU E call o (stAt E call l i (F, H)) = some (stAt E call l (i + 1) (F, H)) ∧ ps[i]? = some ((fpOper E (stAt E call l i (F, H)).1 (stAt E call l i (F, H)).2 o).tight (stAt E call l i (F, H)).2 (stAt E call l (i + 1) (F, H)).2)
  | [], F, H, F', H', ps, h => by
    simp only [runFps, Option.some.injEq, Prod.mk.injEq] at h
    obtain ⟨rfl, rfl, rfl⟩ := h
    exact ⟨rfl, rfl, rfl, fun i o e => by simp at e⟩
  | o :: r, F, H, F', H', ps, h => by
    simp only [runFps] at h
    split at h
    · rename_i F1 H1 hs
      split at h
      · rename_i F2 H2 ps' hr
        cases h
        obtain ⟨h1, h2, h3, h4⟩ := runFps_states r F1 H1 F' H' ps' hr
        have hs' : stepU E call o (F, H) = some (F1, H1) := hs
        refine ⟨by simp [h1], rfl, by simp only [List.length_cons, stAt, hs']; exact h3, fun i o' e => ?_⟩
        cases i with
        | zero =>
          simp only [List.getElem?_cons_zero, Option.some.injEq] at e
          subst e
          have e0 : stAt E call (o :: r) 0 (F, H) = (F, H) := rfl
          have e1 : stAt E call (o :: r) (0 + 1) (F, H) = (F1, H1) := by simp only [stAt, hs']; exact h2
          rw [e0, e1]
          exact ⟨hs', rfl⟩
        | succ i =>
          simp only [List.getElem?_cons_succ] at e
          obtain ⟨h5, h6⟩ := h4 i o' e
          have e1 : ∀ k, stAt E call (o :: r) (k + 1) (F, H) = stAt E call r k (F1, H1) := fun k => by simp only [stAt, hs']
          rw [e1, e1]
          exact ⟨h5, by simpa using h6⟩
      · cases h
    · cases h

theorem meets_false {a b : List Nat} (h : meets a b = false) : ∀ s ∈ a, s ∉ b := by
  induction a with
  | nil => intro s hs; simp at hs
  | cons x r ih =>
    simp only [meets, Bool.or_eq_false_iff] at h
    intro s hs
    rcases List.mem_cons.1 hs with rfl | hs
    · intro hb
      have := h.1
      simp [hb] at this
    · exact ih h.2 s hs

theorem free_of_clash {p q : FP} (h : clash p q = false) : ∀ l, ¬ (WrP p l ∧ (RdP q l ∨ WrP q l)) ∧ ¬ (WrP q l ∧ RdP p l) := by
  simp only [clash, Bool.or_eq_false_iff] at h
  obtain ⟨⟨⟨⟨⟨⟨⟨⟨h1, h2⟩, h3⟩, h4⟩, h5⟩, h6⟩, h7⟩, h8⟩, h9⟩ := h
  have heapyP : p.heapy = false ↔ p.push = false ∧ p.all = false ∧ p.hr = [] ∧ p.hw = [] := by
    simp [FP.heapy, and_assoc]
  have heapyQ : q.heapy = false ↔ q.push = false ∧ q.all = false ∧ q.hr = [] ∧ q.hw = [] := by
    simp [FP.heapy, and_assoc]
  intro l
  cases l with
  | sl s =>
    refine ⟨fun ⟨a, b⟩ => ?_, fun ⟨a, b⟩ => meets_false h3 s a b⟩
    rcases b with b | b
    · exact meets_false h1 s a b
    · exact meets_false h2 s a b
  | bk id =>
    have pall : p.all = true → q.push = false ∧ q.all = false ∧ q.hr = [] ∧ q.hw = [] := fun e => by rw [e] at h4; exact heapyQ.1 (by simpa using h4)
    have qall : q.all = true → p.push = false ∧ p.all = false ∧ p.hr = [] ∧ p.hw = [] := fun e => by rw [e] at h5; exact heapyP.1 (by simpa using h5)
    constructor
    · rintro ⟨a, b⟩
      simp only [WrP, RdP] at a b
      rcases a with a | a
      · rcases b with (b | b | b) | (b | b)
        · exact meets_false h7 id a b
        · exact meets_false h8 id a b
        · have := (qall b).2.2.2; rw [this] at a; cases a
        · exact meets_false h8 id a b
        · have := (qall b).2.2.2; rw [this] at a; cases a
      · obtain ⟨q1, q2, q3, q4⟩ := pall a
        rcases b with (b | b | b) | (b | b)
        · rw [q3] at b; cases b
        · rw [q4] at b; cases b
        · rw [q2] at b; cases b
        · rw [q4] at b; cases b
        · rw [q2] at b; cases b
    · rintro ⟨a, b⟩
      simp only [WrP, RdP] at a b
      rcases a with a | a
      · rcases b with b | b | b
        · exact meets_false h9 id a b
        · exact meets_false h8 id b a
        · have := (pall b).2.2.2; rw [this] at a; cases a
      · obtain ⟨q1, q2, q3, q4⟩ := qall a
        rcases b with b | b | b
        · rw [q3] at b; cases b
        · rw [q4] at b; cases b
        · rw [q2] at b; cases b
  | len =>
    have pall : p.all = true → q.push = false ∧ q.all = false := fun e => by rw [e] at h4; have := heapyQ.1 (by simpa using h4); exact ⟨this.1, this.2.1⟩
    have qall : q.all = true → p.push = false ∧ p.all = false := fun e => by rw [e] at h5; have := heapyP.1 (by simpa using h5); exact ⟨this.1, this.2.1⟩
    have hpp : p.push = true → q.push = true → False := fun a b => by rw [a, b] at h6; cases h6
    have both : WrP p .len → WrP q .len → False := by
      simp only [WrP]
      rintro (a | a) (b | b)
      · exact hpp a b
      · have := (qall b).1; rw [a] at this; cases this
      · have := (pall a).1; rw [b] at this; cases this
      · have := (pall a).2; rw [b] at this; cases this
    exact ⟨fun ⟨a, b⟩ => both a (b.elim id id), fun ⟨a, b⟩ => both b a⟩

theorem apart_get {ps : List FP} : ∀ (pairs : List (Nat × Nat)), apart ps pairs = true → ∀ i j, (i, j) ∈ pairs → ∃ p q, ps[i]? = some p ∧ ps[j]? = some q ∧ clash p q = false
  | [], _, i, j, h => by simp at h
  | (a, b) :: r, h, i, j, hm => by
    simp only [apart, Bool.and_eq_true] at h
    rcases List.mem_cons.1 hm with e | hm
    · cases e
      have h1 := h.1
      split at h1
      · rename_i p q hp hq; exact ⟨p, q, hp, hq, by simpa using h1⟩
      · cases h1
    · exact apart_get r h.2 i j hm

/-! The variables. -/

theorem noBp_fset {d k : Nat} {x : FV} : ∀ (F : Frm), noBp F d = true → (∀ off, x ≠ .bp d off) → noBp (fset F k x) d = true
  | [], _, hx => by
    cases x with
    | bp s off => simp only [fset, noBp, Bool.and_true, Bool.not_eq_true', beq_eq_false_iff_ne]; exact fun e => hx off (by rw [e])
    | _ => simp [fset, noBp]
  | (j, y) :: r, h, hx => by
    have hy : noBp r d = true ∧ ∀ (z : FV), noBp ((j, z) :: r) d = (match z with | .bp s _ => !(s == d) && noBp r d | _ => noBp r d) := by
      refine ⟨?_, fun z => by cases z <;> rfl⟩
      cases y <;> simp [noBp] at h <;> first | exact h | exact h.2
    have hput : ∀ (j : Nat) (r : Frm), noBp r d = true → noBp ((j, x) :: r) d = true := by
      intro j r hr
      cases x with
      | bp s off =>
        simp only [noBp, hr, Bool.and_true, Bool.not_eq_true', beq_eq_false_iff_ne]
        exact fun e => hx off (by rw [e])
      | _ => simpa [noBp] using hr
    simp only [fset]
    split
    · exact hput _ _ h
    · split
      · exact hput _ _ hy.1
      · have ih := noBp_fset (k := k) r hy.1 hx
        cases y <;> simp [noBp] at h ⊢ <;> first | exact ih | exact ⟨h.1, ih⟩

theorem dstCount_pos {d : Nat} : ∀ {l : List AOper} {o : AOper}, o ∈ l → o.dst = some d → 1 ≤ dstCount d l
  | x :: r, o, h, hd => by
    simp only [dstCount]
    rcases List.mem_cons.1 h with rfl | h
    · simp [hd]
    · have := dstCount_pos h hd; omega

/-- Where each variable is fresh, the steps are as the evaluator takes them. -/
theorem runU_fresh : ∀ (l : List AOper) (F : Frm) (H : Hp) (T : Frm × Hp), runList (stepU E call) l (F, H) = some T →
    (∀ o ∈ l, ∀ d, boxDst o = some d → noBp F d = true ∧ fget F d = none ∧ dstCount d l = 1) → runOps E call l F H = some T
  | [], F, H, T, h, _ => by simpa [runList, runOps] using h
  | o :: r, F, H, T, h, hf => by
    simp only [runList] at h
    split at h
    · rename_i S1 hs
      obtain ⟨F1, H1⟩ := S1
      have hboth : stepOp E call F H o = some (F1, H1) ∧ ∀ d, noBp F d = true → fget F d = none → o.dst ≠ some d → noBp F1 d = true ∧ fget F1 d = none := by
        unfold stepU at hs
        simp only [] at hs
        unfold stepOp
        split at hs
        · cases hs
        · rename_i hg
          refine ⟨hs, fun d h1 h2 h3 => ?_⟩
          cases hdst : o.dst with
          | none => rw [hdst] at hs; cases hs; exact ⟨h1, h2⟩
          | some d' =>
            rw [hdst] at hs; cases hs
            refine ⟨noBp_fset _ h1 (fun off e => by cases e), ?_⟩
            rw [fget_fset, if_neg (fun e => h3 (by rw [hdst, e]))]; exact h2
        · rename_i hg
          split at hs
          · cases hs
          · rename_i out x bx H2 hout
            simp only [Option.map_eq_some_iff] at hs ⊢
            obtain ⟨F2, hp, e⟩ := hs
            refine ⟨⟨F2, putDst_of hp fun row d hx hd => ?_, e⟩, fun d h1 h2 h3 => ?_⟩
            · obtain ⟨hb1, hb2⟩ := opOut_box hout hx
              have hb2' : bx = none := hb2
              rw [hb2']
              exact (hf o (by simp) d (hb1.trans hd)).1
            · cases e
              have hbx : noBp (putBx F bx) d = true ∧ fget (putBx F bx) d = none := by
                cases bx with
                | none => exact ⟨h1, h2⟩
                | some y =>
                  obtain ⟨s, row⟩ := y
                  obtain ⟨_, row0, hrow0⟩ := opOut_bx hout rfl
                  have hne : d ≠ s := fun e => by rw [e, hrow0] at h2; cases h2
                  refine ⟨noBp_fset _ h1 (fun off e => by cases e), ?_⟩
                  simp only [putBx, fget_fset, if_neg hne]
                  exact h2
              have hxbp : ∀ off, x ≠ some (.bp d off) := by
                intro off e
                rcases opOut_bp hout e with ⟨row, hr⟩ | hr
                · rw [hr] at h2; cases h2
                · rw [hr] at h1; cases h1
              cases hdst : o.dst with
              | none =>
                rw [hdst] at hp
                cases x with
                | none => simp only [putDstU, Option.some.injEq] at hp; subst hp; exact hbx
                | some fv => cases fv <;> simp only [putDstU, Option.some.injEq] at hp <;> first | (subst hp; exact hbx) | cases hp
              | some d' =>
                have hne : d ≠ d' := fun e => h3 (by rw [hdst, e])
                rw [hdst] at hp
                cases x with
                | none =>
                  simp only [putDstU, Option.some.injEq] at hp; subst hp
                  exact ⟨noBp_fdel _ hbx.1, by rw [fget_fdel, if_neg hne]; exact hbx.2⟩
                | some fv =>
                  simp only [putDstU, Option.some.injEq] at hp; subst hp
                  exact ⟨noBp_fset _ hbx.1 (fun off e => hxbp off (by rw [e])), by rw [fget_fset, if_neg hne]; exact hbx.2⟩
      obtain ⟨hstep, hkeep⟩ := hboth
      simp only [runOps, hstep]
      refine runU_fresh r F1 H1 T h fun o' ho' d hd => ?_
      obtain ⟨h1, h2, h3⟩ := hf o' (by simp [ho']) d hd
      have hdst : o'.dst = some d := by
        unfold boxDst at hd
        split at hd <;> first | exact hd | cases hd
      have hpos := dstCount_pos ho' hdst
      simp only [dstCount] at h3
      have hne : o.dst ≠ some d := by
        intro e
        rw [if_pos e] at h3; omega
      rw [if_neg hne] at h3
      obtain ⟨h4, h5⟩ := hkeep d h1 h2 hne
      exact ⟨h4, h5, by omega⟩
    · cases h

theorem boxesOk_get {all : List AOper} : ∀ (l : List AOper), boxesOk F all l = true → ∀ o ∈ l, ∀ d, boxDst o = some d → noBp F d = true ∧ fget F d = none ∧ dstCount d all = 1
  | [], _, o, h, _, _ => by simp at h
  | x :: r, h, o, ho, d, hd => by
    simp only [boxesOk, Bool.and_eq_true] at h
    rcases List.mem_cons.1 ho with rfl | ho
    · have h1 := h.1
      rw [hd] at h1
      simp only [Bool.and_eq_true, Option.isNone_iff_eq_none, beq_iff_eq] at h1
      exact ⟨h1.1.1, h1.1.2, h1.2⟩
    · exact boxesOk_get r h.2 o ho d hd

theorem dstCount_eq (d : Nat) (l : List AOper) : dstCount d l = l.countP (fun o => o.dst == some d) := by
  induction l with
  | nil => rfl
  | cons o r ih =>
    simp only [dstCount, List.countP_cons, ih]
    by_cases h : o.dst = some d
    · simp [h]; omega
    · simp [h]
end

/-! Edges. -/

theorem edgesOf_binds (o : Oper) : edgesOf o = bindsOn o := by
  unfold edgesOf bindsOn
  congr 1
  funext e
  unfold Region.binds
  cases e.ground <;> simp

def foldE (es acc : List Nat) (s : Nat) : Nat := es.foldl (fun s i => s ||| 2 ^ i ||| acc.getD i 0) s

theorem foldE_bit (acc : List Nat) (b : Nat) : ∀ (es : List Nat) (s : Nat), (foldE es acc s).testBit b = true → s.testBit b = true ∨ ∃ i ∈ es, b = i ∨ (acc.getD i 0).testBit b = true
  | [], s, h => .inl h
  | i :: r, s, h => by
    have h' : (foldE r acc (s ||| 2 ^ i ||| acc.getD i 0)).testBit b = true := h
    rcases foldE_bit acc b r _ h' with h1 | ⟨j, h1, h2⟩
    · rw [Nat.testBit_or, Nat.testBit_or, Bool.or_eq_true, Bool.or_eq_true] at h1
      rcases h1 with (h1 | h1) | h1
      · exact .inl h1
      · right
        rw [Nat.testBit_two_pow] at h1
        exact ⟨i, by simp, .inl (by simpa using (of_decide_eq_true h1).symm)⟩
      · exact .inr ⟨i, by simp, .inr h1⟩
    · exact .inr ⟨j, by simp [h1], h2⟩

theorem closeB_len : ∀ (l : List Oper) (acc : List Nat), (closeB l acc).length = acc.length + l.length
  | [], acc => by simp [closeB]
  | o :: r, acc => by simp only [closeB]; rw [closeB_len r]; simp; omega

theorem closeB_old : ∀ (l : List Oper) (acc : List Nat) (e : Nat), e < acc.length → (closeB l acc).getD e 0 = acc.getD e 0
  | [], acc, e, _ => rfl
  | o :: r, acc, e, h => by
    simp only [closeB]
    rw [closeB_old r _ e (by simp; omega)]
    simp [List.getD_eq_getElem?_getD, List.getElem?_append, h]

theorem closeB_new : ∀ (l : List Oper) (acc : List Nat) (k : Nat) (o : Oper), l[k]? = some o → ∃ acc', (closeB l acc).getD (acc.length + k) 0 = foldE (edgesOf o) acc' 0 ∧ ∀ e, (acc'.getD e 0 ≠ 0 → e < acc.length + k) ∧ (e < acc.length + k → acc'.getD e 0 = (closeB l acc).getD e 0)
  | [], acc, k, o, h => by simp at h
  | x :: r, acc, k, o, h => by
    cases k with
    | zero =>
      simp only [List.getElem?_cons_zero, Option.some.injEq] at h
      subst h
      refine ⟨acc, ?_, fun e => ⟨fun hne => ?_, fun he => (closeB_old _ acc e (by simpa using he)).symm⟩⟩
      · simp only [closeB, Nat.add_zero]
        rw [closeB_old r _ acc.length (by simp)]
        simp [List.getD_eq_getElem?_getD, foldE]
      · rcases Nat.lt_or_ge e acc.length with h1 | h1
        · simpa using h1
        · rw [List.getD_eq_getElem?_getD, List.getElem?_eq_none h1] at hne; simp at hne
    | succ k =>
      simp only [List.getElem?_cons_succ] at h
      obtain ⟨acc', h1, h2⟩ := closeB_new r (acc ++ [foldE (edgesOf x) acc 0]) k o h
      have hl : (acc ++ [foldE (edgesOf x) acc 0]).length + k = acc.length + (k + 1) := by simp; omega
      rw [hl] at h1 h2
      exact ⟨acc', h1, h2⟩

theorem edgesBack_get {l : List Oper} (h : edgesBack l = true) : ∀ (i : Nat) (o : Oper), l[i]? = some o → ∀ k ∈ edgesOf o, k < i := by
  intro i o ho k hk
  simp only [edgesBack, List.all_eq_true, List.mem_range] at h
  have hi : i < l.length := by
    rcases Nat.lt_or_ge i l.length with h1 | h1
    · exact h1
    · rw [List.getElem?_eq_none h1] at ho; cases ho
  have := h i hi
  rw [ho] at this
  simp only [List.all_eq_true, decide_eq_true_eq] at this
  exact this k hk

/-- What the closure says comes first, comes first. -/
theorem close_before {ops : Array Oper} {σ : List Nat} (hback : edgesBack ops.toList = true) (hσ : ∀ a j b, σ = a ++ j :: b → ∀ o, ops[j]? = some o → ∀ k ∈ bindsOn o, k ∈ a) :
    ∀ (j : Nat) (a b : List Nat) (i : Nat), σ = a ++ j :: b → j < ops.size → ((closeB ops.toList []).getD j 0).testBit i = true → i ∈ a := by
  intro j
  induction j using Nat.strongRecOn with
  | _ j ih =>
    intro a b i e hj hbit
    have hoj : ops.toList[j]? = some ops[j] := by simp [hj]
    obtain ⟨acc', h1, h2⟩ := closeB_new ops.toList [] j _ hoj
    simp only [List.length_nil, Nat.zero_add] at h1 h2
    rw [h1] at hbit
    rcases foldE_bit acc' i (edgesOf ops[j]) 0 hbit with h3 | ⟨k, hk, h3⟩
    · simp at h3
    · have hka : k ∈ a := hσ a j b e ops[j] (by simp [hj]) k (by rw [← edgesOf_binds]; exact hk)
      rcases h3 with rfl | h3
      · exact hka
      · have hkj : k < j := edgesBack_get hback j _ hoj k hk
        obtain ⟨a1, a2, ea⟩ := List.append_of_mem hka
        rw [(h2 k).2 hkj] at h3
        have := ih k hkj a1 (a2 ++ j :: b) i (by rw [e, ea]; simp) (by omega) h3
        rw [ea]; simp [this]

theorem mem_freePairs {cl : List Nat} {i j : Nat} (hij : i < j) (hj : j < cl.length) (hb : (cl.getD j 0).testBit i = false) : (i, j) ∈ freePairs cl := by
  simp only [freePairs, List.mem_flatMap, List.mem_range, List.mem_filterMap]
  exact ⟨j, hj, i, hij, by rw [hb]; rfl⟩

section
variable {P : Program} {E : Env}

theorem draw_sound (hE : EnvOk P E) (hm : P.follows .mixedOrders = true) : ∀ call, InlineOk P E call → DrawOk P E call := by
  intro call hc ro nt base g F H a w loc ops l F' H' id hro hl hd hb h hr hL hdf
  obtain ⟨hlen, hget⟩ := compOps_get _ _ hl
  have hsz : l.length = ops.size := by simpa using hlen
  refine wpIn_region_draw fun t => ?_
  have hsched : Region.schedule (P.follows .mixedOrders) ops t = Region.linearise.go .any ops ops.size t (Array.replicate ops.size false) [] := by
    rw [hm]; rfl
  rw [hsched]
  have hcount : (List.range ops.size).countP (fun i => !(Array.replicate ops.size false).getD i true) ≤ ops.size := by
    have := List.countP_le_length (p := fun i => !(Array.replicate ops.size false).getD i true) (l := List.range ops.size)
    simpa using this
  obtain ⟨hmem, hnd, hord⟩ := linearise_ok ops (fun i o ho k hk => edgesBack_get hb i o (by simpa using ho) k (by rw [edgesOf_binds]; exact hk)) ops.size t (Array.replicate ops.size false) (by simp) hcount
  revert hmem hnd hord
  generalize Region.linearise.go .any ops ops.size t (Array.replicate ops.size false) [] = σ
  intro hmem hnd hord
  have hmem' : ∀ i, i ∈ σ ↔ i < ops.size := by
    intro i
    rw [← hmem i]
    refine ⟨fun x => x.1, fun x => ⟨x, ?_⟩⟩
    simp [Array.getD_eq_getD_getElem?, x]
  have hord' : ∀ a j b, σ = a ++ j :: b → ∀ o, ops[j]? = some o → ∀ k ∈ bindsOn o, k ∈ a := by
    intro a j b e o ho k hk
    rcases hord a j b e o ho k hk with h1 | h1
    · simp only [Array.getD_eq_getD_getElem?, Array.getElem?_replicate] at h1
      split at h1 <;> simp at h1
    · exact h1
  have hperm : σ.Perm (List.range ops.size) := (List.perm_ext_iff_of_nodup hnd List.nodup_range).2 fun i => by rw [hmem' i, List.mem_range]
  have hlperm : (σ.filterMap (l[·]?)).Perm l := by
    have := hperm.filterMap (l[·]?)
    rw [← hsz, range_filterMap] at this
    exact this
  have hrd : Rel E nt g F H a.tmps { w with drawn := w.drawn + 1 } := hr.drew
  have hclean : ∀ (l : List AOper) (F : Frm) s x, fget (cleanB F l) s = some x → fget F s = some x := by
    intro l
    induction l with
    | nil => intro F s x e; exact e
    | cons o r ih =>
      intro F s x e
      simp only [cleanB] at e
      split at e
      · rename_i d _
        have := ih _ s x e
        rw [fget_fdel] at this
        split at this
        · cases this
        · exact delBp_less F d s x this
      · exact ih _ s x e
  -- the run in this order
  have hrun : ∃ F0 F2 H2, (∀ s x, fget F0 s = some x → fget F s = some x) ∧ runOps E call (σ.filterMap (l[·]?)) F0 H = some (F2, H2) ∧ H2 = H' ∧ ∀ s, fget F2 s = fget F' s := by
    unfold runReg at h
    cases hp : freePairs (closeB ops.toList []) with
    | nil =>
      rw [hp] at h
      have hsort : σ = List.range ops.size := by
        have key : ∀ (τ : List Nat) (k : Nat), (∀ a j b, τ = a ++ j :: b → ∀ i, k ≤ i → i < j → i ∈ a) → τ.Nodup → (∀ i, i ∈ τ ↔ k ≤ i ∧ i < ops.size) → k ≤ ops.size → τ = List.range' k (ops.size - k) := by
          intro τ
          induction τ with
          | nil =>
            intro k _ _ h3 hk
            have : ¬ (k < ops.size) := fun hlt => by have := (h3 k).2 ⟨Nat.le_refl k, hlt⟩; cases this
            have : ops.size - k = 0 := by omega
            rw [this]; rfl
          | cons x τ ih =>
            intro k h1 h2 h3 hk
            have hx := (h3 x).1 (by simp)
            have hxk : x = k := by
              rcases Nat.lt_or_ge k x with hlt | hge
              · have := h1 [] x τ rfl k (Nat.le_refl k) hlt; cases this
              · omega
            subst hxk
            have : ops.size - x = (ops.size - (x + 1)) + 1 := by omega
            rw [this, List.range'_succ]
            congr 1
            rw [List.nodup_cons] at h2
            refine ih (x + 1) (fun a j b e i hi hij => ?_) h2.2 (fun i => ?_) (by omega)
            · have := h1 (x :: a) j b (by rw [e]; rfl) i (by omega) hij
              rcases List.mem_cons.1 this with e2 | e2
              · omega
              · exact e2
            · have h4 := h3 i
              rw [List.mem_cons] at h4
              constructor
              · intro hi
                have h5 := h4.1 (.inr hi)
                have : i ≠ x := fun e => h2.1 (e ▸ hi)
                omega
              · intro hi
                rcases h4.2 ⟨by omega, hi.2⟩ with e | e
                · omega
                · exact e
        have := key σ 0 (fun a j b e i _ hij => ?_) hnd (fun i => by rw [hmem' i]; simp) (Nat.zero_le _)
        · rw [this, Nat.sub_zero, List.range_eq_range']
        · have hj : j < ops.size := (hmem' j).1 (by rw [e]; simp)
          refine close_before hb hord' j a b i e hj ?_
          cases hbit : ((closeB ops.toList []).getD j 0).testBit i
          · have := mem_freePairs hij (by rw [closeB_len]; simpa using hj) hbit
            rw [hp] at this; cases this
          · rfl
      rw [hsort, ← hsz, range_filterMap]
      exact ⟨F, F', H', fun _ _ e => e, h, rfl, fun _ => rfl⟩
    | cons pr prs =>
      rw [hp] at h
      simp only [] at h
      split at h
      · rename_i F1 H1 ps hps
        split at h
        · rename_i hok
          cases h
          rw [← hp] at hok
          have hcl := hclean l F
          obtain ⟨F0, hF0⟩ : ∃ F0, F0 = cleanB F l := ⟨_, rfl⟩
          rw [← hF0] at hps hok hcl
          obtain ⟨s1, s2, s3, s4⟩ := runFps_states _ _ _ _ _ _ hps
          let st : Nat → Frm × Hp := fun i => stAt E call l i (F0, H)
          let R : Nat → Loc → Prop := fun i x => ∃ p, ps[i]? = some p ∧ RdP p x
          let W : Nat → Loc → Prop := fun i x => ∃ p, ps[i]? = some p ∧ WrP p x
          have hlocal : Local look (stepU E call) l st R W := by
            refine ⟨fun i o ho => ?_, fun i o ho S' hag => ?_⟩
            · exact (s4 i o ho).1
            · obtain ⟨h1, h2⟩ := s4 i o ho
              obtain ⟨T', k1, k2, k3⟩ := stepU_tight h1 S' (fun x hx => hag x ⟨_, h2, hx⟩)
              refine ⟨T', k1, fun x ⟨p, e, hx⟩ => ?_, fun x hx => k3 x fun hw => hx ⟨_, h2, hw⟩⟩
              rw [h2] at e; cases e
              exact k2 x hx
          have hfree : ∀ i j, i < j → (i ∈ σ ∧ j ∈ ([] : List Nat) ∨ (∃ a b c, σ = a ++ j :: (b ++ i :: c))) → Free R W i j := by
            intro i j hij hcase
            rcases hcase with ⟨_, hx⟩ | ⟨a, b, c, e⟩
            · cases hx
            · have hj : j < ops.size := (hmem' j).1 (by rw [e]; simp)
              have hbit : ((closeB ops.toList []).getD j 0).testBit i = false := by
                cases hbit : ((closeB ops.toList []).getD j 0).testBit i
                · rfl
                · have hia := close_before hb hord' j a _ i e hj hbit
                  rw [e, List.nodup_append] at hnd
                  exact absurd rfl (hnd.2.2 i hia i (by simp))
              obtain ⟨p, q, hp1, hq1, hcl⟩ := apart_get _ hok.1 i j (mem_freePairs hij (by rw [closeB_len]; simpa using hj) hbit)
              intro x
              obtain ⟨f1, f2⟩ := free_of_clash hcl x
              refine ⟨fun ⟨⟨p', e1, w1⟩, r1⟩ => f1 ?_, fun ⟨⟨q', e1, w1⟩, ⟨p', e2, r1⟩⟩ => f2 ?_⟩
              · rw [hp1] at e1; cases e1
                refine ⟨w1, r1.imp (fun ⟨q', e2, r2⟩ => ?_) (fun ⟨q', e2, r2⟩ => ?_)⟩
                · rw [hq1] at e2; cases e2; exact r2
                · rw [hq1] at e2; cases e2; exact r2
              · rw [hq1] at e1; cases e1
                rw [hp1] at e2; cases e2
                exact ⟨w1, r1⟩
          obtain ⟨T', k1, k2⟩ := hlocal.perm σ [] (F0, H) (by simpa using hnd) (fun i => by rw [hsz, List.nil_append, hmem' i]) hfree (fun x _ => by show look (F0, H) x = look (st 0) x; rw [show st 0 = (F0, H) from s2]) (fun x i hi => by cases hi)
          have hfin : st l.length = (F', H') := s3
          rw [hfin] at k2
          have hfresh := runU_fresh _ F0 H T' k1 fun o ho d hdo => by
            obtain ⟨b1, b2, b3⟩ := boxesOk_get l hok.2 o (hlperm.mem_iff.1 ho) d hdo
            refine ⟨b1, b2, ?_⟩
            rw [dstCount_eq, hlperm.countP_eq, ← dstCount_eq]; exact b3
          refine ⟨F0, T'.1, T'.2, hcl, hfresh, List.ext_getElem? fun k => ?_, fun s => ?_⟩
          · have := k2 (.bk k); simpa [look] using this
          · have := k2 (.sl s); simpa [look] using this
        · cases h
      · cases h
  obtain ⟨F0, F2, H2, h0, h1, rfl, h3⟩ := hrun
  refine runOps_all (F' := F2) (H' := H2) hE hc hl hd hro σ g F0 H a _ (fun i hi => (hmem' i).1 hi) (hrd.less h0) (hL.nx (Nx.drew g H w)) h1 ?_
  intro a' w' g' d1 n1 r1
  exact ⟨trivial, g', (Nx.drew g H w).trans n1, r1.less fun s x hs => by rw [h3 s]; exact hs, (hdf.nx ((Nx.drew g H w).trans n1)).go d1⟩

/-- The evaluator is sound. -/
theorem inline_ok (hE : EnvOk P E) (hm : P.follows .mixedOrders = true) (n : Nat) : InlineOk P E (inline E n) :=
  (exec_sound (fun _ hE => draw_sound hE hm) n E hE).2.2.2
end
end Go.Pf
