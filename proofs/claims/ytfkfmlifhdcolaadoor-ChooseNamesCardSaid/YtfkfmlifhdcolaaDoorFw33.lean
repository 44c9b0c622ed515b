/- The framework, part 33: what the reading of a claim tells of the arguments, as pure data of a shape. -/
import Derived.Test.YtfkfmlifhdcolaaDoorFw32
import Derived.ChangeArms
import Derived.OpenShut
import Derived.ReadAgain
namespace Go.Pf
open Go

/-- Shapes of plain data. -/
inductive DS where
  | b
  | i (k : IntKind)
  | s (e : DS)
  | a (l : List DS)

def DS.isA : DS → Bool
  | .a _ => true
  | _ => false
def PV.isAgg : PV → Bool
  | .agg _ => true
  | _ => false

mutual
/-- The cells of a value of a shape. -/
def HasF : DS → List PV → Prop
  | .b, c => ∃ x, c = [.bool x]
  | .i k, c => ∃ n, c = [.int k n] ∧ inK k n
  | .s e, c => ∃ rows : List PV, c = [.data rows] ∧ rows.length ≤ maxLen ∧ ∀ x ∈ rows, x.isAgg = e.isA ∧ HasF e x.cells
  | .a l, c => HasL l c
def HasL : List DS → List PV → Prop
  | [], c => c = []
  | d :: l, c => ∃ c1 c2, c = c1 ++ c2 ∧ HasF d c1 ∧ HasL l c2
end

mutual
/-- The program's type is of the shape. -/
def tyOk (P : Program) : DS → TypeId → Bool
  | .b, t => (match P.underlying t with | some .bool => true | _ => false)
  | .i k, t => (match P.underlying t with | some (.int q) => decide (q = k) | _ => false)
  | .s e, t => (match P.underlying t with | some (.slice u) => decide (0 < P.cellsOf u) && tyOk P e u | _ => false)
  | .a l, t => (match P.underlying t with | some (.struct fs) => tyL P l (fs.toList.map (·.type)) | some (.array n u) => tyL P l (List.replicate n u) | _ => false)
def tyL (P : Program) : List DS → List TypeId → Bool
  | [], [] => true
  | d :: l, t :: r => tyOk P d t && tyL P l r
  | _, _ => false
end

theorem tyL_len (P : Program) : ∀ (l : List DS) (ts : List TypeId), tyL P l ts = true → l.length = ts.length
  | [], [], _ => rfl
  | _ :: l, _ :: r, h => by
    unfold tyL at h
    simp only [Bool.and_eq_true] at h
    simp [tyL_len P l r h.2]
  | [], _ :: _, h => by unfold tyL at h; cases h
  | _ :: _, [], h => by unfold tyL at h; cases h
theorem tyL_get (P : Program) : ∀ (l : List DS) (ts : List TypeId), tyL P l ts = true → ∀ (j : Nat) d t, l[j]? = some d → ts[j]? = some t → tyOk P d t = true
  | [], [], _, _, _, _, h, _ => by simp at h
  | d :: l, t :: r, h, 0, d', t', h1, h2 => by
    unfold tyL at h
    simp only [Bool.and_eq_true] at h
    simp only [List.getElem?_cons_zero, Option.some.injEq] at h1 h2
    subst h1; subst h2; exact h.1
  | d :: l, t :: r, h, j + 1, d', t', h1, h2 => by
    unfold tyL at h
    simp only [Bool.and_eq_true] at h
    exact tyL_get P l r h.2 j d' t' (by simpa using h1) (by simpa using h2)
  | [], _ :: _, h, _, _, _, _, _ => by unfold tyL at h; cases h
  | _ :: _, [], h, _, _, _, _, _ => by unfold tyL at h; cases h

section
variable {H : Type} {enc : TypeId × Value → H} {P : Program} {w : World} {I : Nat → Prop}

theorem CellsC_app {l1 l2 : List PV} {v1 v2 : List Value} (h1 : CellsC I w l1 v1) (h2 : CellsC I w l2 v2) : CellsC I w (l1 ++ l2) (v1 ++ v2) := CellsC_append h1 h2

/-- What opens the cells of a type. -/
def Opens (enc : TypeId × Value → H) (P : Program) (w : World) (I : Nat → Prop) (n : Nat) : Prop :=
  ∀ (d : DS) (t : TypeId) (cs : List Value) (x : DataW H × List MemPlace), t < P.types.size → tyOk P d t = true → DataW.trod enc P w 0 (fun _ => true) true n t cs = some x → (∀ p ∈ x.2, I p.block) → ∃ pcs, HasF d pcs ∧ CellsC I w pcs cs

/-- Parts side by side. -/
theorem open_parts {n : Nat} (ih : Opens enc P w I n) {l : List DS} {ts : List TypeId} (hl : tyL P l ts = true) (hrow : ∀ t ∈ ts, t < P.types.size) {cs : List Value} {xs : List (DataW H × List MemPlace)} (off : Nat → Nat)
    (hoff : ∀ j t, ts[j]? = some t → off (j + 1) = off j + P.cellsOf t) (hend : cs.length ≤ off ts.length) (hx : ∀ j t, ts[j]? = some t → DataW.trod enc P w 0 (fun _ => true) true n t ((cs.drop (off j)).take (P.cellsOf t)) = xs[j]?)
    (hxl : xs.length = ts.length) (hI : ∀ p ∈ xs.flatMap (·.2), I p.block) :
    ∀ (r j : Nat), j + r = ts.length → ∃ pcs, HasL (l.drop j) pcs ∧ CellsC I w pcs (cs.drop (off j)) := by
  have hll := tyL_len P l ts hl
  intro r
  induction r with
  | zero =>
    intro j hj
    refine ⟨[], ?_, ?_⟩
    · rw [List.drop_of_length_le (by omega)]; simp only [HasL]
    · rw [List.drop_of_length_le (by rw [show j = ts.length by omega]; exact hend)]; simp only [CellsC]
  | succ r ihr =>
    intro j hj
    obtain ⟨pcs, h1, h2⟩ := ihr (j + 1) (by omega)
    have ht : ts[j]? = some ts[j] := List.getElem?_eq_getElem (by omega)
    have hd : l[j]? = some l[j] := List.getElem?_eq_getElem (by omega)
    have hxj : xs[j]? = some xs[j] := List.getElem?_eq_getElem (by omega)
    have h := hx j _ ht
    rw [hxj] at h
    obtain ⟨pc, k1, k2⟩ := ih l[j] ts[j] _ _ (hrow _ (List.getElem_mem _)) (tyL_get P l ts hl j _ _ hd ht) h (fun p hp => hI p (List.mem_flatMap.2 ⟨xs[j], List.getElem_mem _, hp⟩))
    refine ⟨pc ++ pcs, ?_, ?_⟩
    · rw [List.drop_eq_getElem_cons (by omega)]
      simp only [HasL]
      exact ⟨pc, pcs, rfl, k1, h1⟩
    · have e : cs.drop (off j) = (cs.drop (off j)).take (P.cellsOf ts[j]) ++ cs.drop (off (j + 1)) := by
        rw [hoff j _ ht, ← List.drop_drop, List.take_append_drop]
      rw [e]
      exact CellsC_app k2 h2

/-- A row out of its cells. -/
theorem row_of {d : DS} {pcs : List PV} (h : HasF d pcs) : ∃ x : PV, x.isAgg = d.isA ∧ x.cells = pcs ∧ ∀ vs, CellsC I w pcs vs → RC I w x vs := by
  have one : ∀ y : PV, y.isAgg = false → pcs = [y] → d.isA = false → ∃ x : PV, x.isAgg = d.isA ∧ x.cells = pcs ∧ ∀ vs, CellsC I w pcs vs → RC I w x vs := by
    intro y hy e hd
    refine ⟨y, hy.trans hd.symm, ?_, ?_⟩
    · subst e; cases y <;> first | rfl | cases hy
    · intro vs hv
      subst e
      simp only [CellsC] at hv
      obtain ⟨v, vr, rfl, _, h1, rfl⟩ := hv
      exact h1
  cases d with
  | b => simp only [HasF] at h; obtain ⟨x, e⟩ := h; exact one _ rfl e rfl
  | i k => simp only [HasF] at h; obtain ⟨x, e, _⟩ := h; exact one _ rfl e rfl
  | s e => simp only [HasF] at h; obtain ⟨x, e, _⟩ := h; exact one _ rfl e rfl
  | a l => exact ⟨.agg pcs, rfl, rfl, fun vs hv => by simp only [RC]; exact hv⟩

theorem open_cells (K : Kids P (· < P.types.size)) : ∀ n, Opens enc P w I n := by
  intro n
  induction n with
  | zero => intro d t cs x _ _ h; simp [DataW.trod] at h
  | succ n ih =>
    intro d t cs x hrow hty h hI
    cases d with
    | b =>
      unfold tyOk at hty
      split at hty
      · rename_i ht
        obtain ⟨b, rfl, _⟩ := DataW.trod_bool ht h
        refine ⟨[.bool b], by simp only [HasF]; exact ⟨b, rfl⟩, ?_⟩
        simp only [CellsC, RC]
        exact ⟨_, _, rfl, rfl, rfl, rfl⟩
      · cases hty
    | i k =>
      unfold tyOk at hty
      split at hty
      · rename_i q ht
        simp only [decide_eq_true_eq] at hty
        subst hty
        obtain ⟨m, rfl, _, hw⟩ := DataW.trod_int ht h
        have hk : inK q m := by
          unfold inK
          simpa [Lit.wf] using hw
        refine ⟨[.int q m], by simp only [HasF]; exact ⟨m, rfl, hk⟩, ?_⟩
        simp only [CellsC, RC]
        exact ⟨_, _, rfl, rfl, ⟨rfl, hk⟩, rfl⟩
      · cases hty
    | s e =>
      unfold tyOk at hty
      split at hty
      · rename_i u ht
        simp only [Bool.and_eq_true, decide_eq_true_eq] at hty
        obtain ⟨hpos, hty⟩ := hty
        rcases DataW.trod_slice ht h with ⟨rfl, _⟩ | ⟨a, len, cap, elems, rest, m, hm, rfl, rfl, _, hle, hcap, hlen, hel, _⟩
        · refine ⟨[.data []], ?_, ?_⟩
          · simp only [HasF]; exact ⟨[], rfl, by simp, by simp⟩
          · simp only [CellsC, RC]
            exact ⟨_, _, rfl, rfl, ⟨none, 0, 0, rfl, rfl, by omega, by decide, by simp⟩, rfl⟩
        · have hmn : m = n := by omega
          subst hmn
          have hru := K.slice hrow ht
          have hspot0 : len ≠ 0 → a.spot = none := by
            intro h0
            have hb := hel 0 (by omega)
            rw [List.getElem?_eq_getElem (by omega)] at hb
            obtain ⟨cs', hc, hy⟩ := Option.bind_eq_some_iff.1 hb
            obtain ⟨_, hcl, hcg⟩ := World.cells?_some hc
            have h0 := hcg 0 hpos
            rw [List.getElem?_eq_getElem (by omega)] at h0
            have e0 : (a.add (0 * P.cellsOf u)).add 0 = a := by simp [Addr.add]
            rw [e0] at h0
            unfold World.cell? at h0
            split at h0
            · split at h0
              · cases h0
              · rename_i hs; simpa using hs
            · cases h0
          have hadd : a.spot = none → ∀ k i : Nat, (a.add k).add i = ⟨a.block, a.off + k + i, none⟩ := by
            intro hs k i
            obtain ⟨ab, ao, as⟩ := a
            simp only at hs
            subst hs
            simp only [Addr.add]
            by_cases h1 : k = 0 <;> by_cases h2 : i = 0 <;> simp [h1, h2, Nat.add_assoc]
          have rowsOf : ∀ (r j : Nat), j + r = len → ∃ rows : List PV, rows.length = r ∧ (∀ x ∈ rows, x.isAgg = e.isA ∧ HasF e x.cells) ∧ (r ≠ 0 → a.spot = none ∧ I a.block) ∧ RowsC I w rows (P.cellsOf u) a.block (a.off + j * P.cellsOf u) := by
            intro r
            induction r with
            | zero => intro j _; exact ⟨[], rfl, by simp, fun h => absurd rfl h, by simp only [RowsC]⟩
            | succ r ihr =>
              intro j hj
              obtain ⟨rows, l1, l2, _, l4⟩ := ihr (j + 1) (by omega)
              have hj2 : j < elems.length := by omega
              have hb := hel j (by omega)
              rw [List.getElem?_eq_getElem hj2] at hb
              obtain ⟨cs', hc, hy⟩ := Option.bind_eq_some_iff.1 hb
              obtain ⟨_, hcl, hcg⟩ := World.cells?_some hc
              obtain ⟨pcs, k1, k2⟩ := ih e u cs' _ hru hty hy (fun p hp => hI p (by
                simp only [List.mem_append, List.mem_flatMap]
                exact .inr ⟨elems[j], .inl (List.getElem_mem _), hp⟩))
              obtain ⟨x, x1, x2, x3⟩ := row_of (I := I) (w := w) k1
              have hspot := hspot0 (by omega)
              have hIa : I a.block := hI (.cell a.block a.off) (by
                simp only [List.mem_append]
                left
                exact MemPlace.mem_row.2 ⟨0, Nat.mul_pos (by omega) hpos, rfl⟩)
              refine ⟨x :: rows, by simp [l1], ?_, fun _ => ⟨hspot, hIa⟩, ?_⟩
              · intro y hy
                rcases List.mem_cons.1 hy with rfl | hy
                · exact ⟨x1, by rw [x2]; exact k1⟩
                · exact l2 y hy
              · simp only [RowsC]
                refine ⟨⟨cs', hcl, x3 _ k2, ?_⟩, ?_⟩
                · intro i v hi
                  have hi2 : i < P.cellsOf u := by rw [← hcl]; exact (List.getElem?_eq_some_iff.1 hi).1
                  have := hcg i hi2
                  rw [hi] at this
                  rw [← this, hadd hspot]
                · rw [Nat.add_assoc, show j * P.cellsOf u + P.cellsOf u = (j + 1) * P.cellsOf u by rw [Nat.add_mul, Nat.one_mul]]
                  exact l4
          obtain ⟨rows, l1, l2, l3, l4⟩ := rowsOf len 0 (by omega)
          refine ⟨[.data rows], ?_, ?_⟩
          · simp only [HasF]; exact ⟨rows, rfl, by omega, l2⟩
          · simp only [CellsC, RC]
            refine ⟨_, _, rfl, rfl, ⟨some a, len, cap, rfl, l1.symm, hle, hcap, ?_⟩, rfl⟩
            by_cases h0 : len = 0
            · left; exact List.eq_nil_of_length_eq_zero (by omega)
            · right
              obtain ⟨hs, hIa⟩ := l3 h0
              refine ⟨a.block, a.off, P.cellsOf u, ?_, hIa, hpos, by simpa using l4⟩
              cases a; simp only at hs; subst hs; rfl
      · cases hty
    | a l =>
      unfold tyOk at hty
      split at hty
      · rename_i fs ht
        obtain ⟨xs, m, hm, rfl, hcl, hxl, hxs⟩ := DataW.trod_struct ht h
        have hmn : m = n := by omega
        subst hmn
        obtain ⟨k1, k2, k3⟩ := K.struct hrow ht
        have := open_parts ih (l := l) (ts := fs.toList.map (·.type)) hty (fun t ht => by obtain ⟨f, hf, rfl⟩ := List.mem_map.1 ht; exact k1 f hf) (cs := cs) (xs := xs) (fun j => ((fs.toList.take j).map fun f => P.cellsOf f.type).sum)
          (fun j t hj => by
            rw [List.getElem?_map, Option.map_eq_some_iff] at hj
            obtain ⟨f, hf, rfl⟩ := hj
            obtain ⟨hlt, hf2⟩ := List.getElem?_eq_some_iff.1 hf
            show ((fs.toList.take (j + 1)).map _).sum = _
            rw [List.take_add_one, hf]
            simp)
          (by simp only [List.length_map, List.take_length]; rw [hcl, k2]; exact Nat.le_refl _)
          (fun j t hj => by
            rw [List.getElem?_map, Option.map_eq_some_iff] at hj
            obtain ⟨f, hf, rfl⟩ := hj
            have := hxs j f (by simpa using hf)
            rw [← this, k3 j f hf])
          (by simp [hxl]) hI (fs.toList.map (·.type)).length 0 (by omega)
        obtain ⟨pcs, p1, p2⟩ := this
        exact ⟨pcs, by simp only [HasF]; exact p1, by simpa using p2⟩
      · rename_i q u ht
        obtain ⟨xs, m, hm, rfl, hcl, hxl, hxs⟩ := DataW.trod_array ht h
        have hmn : m = n := by omega
        subst hmn
        obtain ⟨k1, k2⟩ := K.array hrow ht
        have := open_parts ih (l := l) (ts := List.replicate q u) hty (fun t ht => by rw [(List.mem_replicate.1 ht).2]; exact k1) (cs := cs) (xs := xs) (fun j => j * P.cellsOf u)
          (fun j t hj => by
            have : t = u := (List.mem_replicate.1 (List.mem_of_getElem? hj)).2
            subst this
            show (j + 1) * _ = _
            rw [Nat.add_mul, Nat.one_mul])
          (by rw [List.length_replicate, hcl, k2]; exact Nat.le_refl _)
          (fun j t hj => by
            have e : t = u := (List.mem_replicate.1 (List.mem_of_getElem? hj)).2
            subst e
            have hlt : j < q := by have := (List.getElem?_eq_some_iff.1 hj).1; simpa using this
            exact hxs j hlt)
          (by simp [hxl]) hI (List.replicate q u).length 0 (by omega)
        obtain ⟨pcs, p1, p2⟩ := this
        exact ⟨pcs, by simp only [HasF]; exact p1, by simpa using p2⟩
      · cases hty
end
end Go.Pf
