/- The framework, part 22: operations that touch nothing of each other may change places; what an order of a region is. Plain lists. -/
import Derived.Orders
namespace Go.Pf
open Go

def runList {S O : Type} (run : O → S → Option S) : List O → S → Option S
  | [], s => some s
  | o :: r, s => match run o s with
    | some s' => runList run r s'
    | none => none

section
variable {S L V O : Type} {look : S → L → V} {run : O → S → Option S} {ops : List O} {st : Nat → S} {R W : Nat → L → Prop}

/-- The last one that writes ahead of k. -/
theorem last_writer (p : Nat → Prop) : ∀ k, (∀ i, i < k → ¬ p i) ∨ ∃ i, i < k ∧ p i ∧ ∀ j, j < k → p j → j ≤ i := by
  intro k
  induction k with
  | zero => exact .inl fun i h => absurd h (Nat.not_lt_zero i)
  | succ k ih =>
    by_cases h : p k
    · exact .inr ⟨k, Nat.lt_succ_self k, h, fun j hj _ => Nat.le_of_lt_succ hj⟩
    · rcases ih with ih | ⟨i, h1, h2, h3⟩
      · refine .inl fun i hi => ?_
        rcases Nat.lt_or_ge i k with h4 | h4
        · exact ih i h4
        · have : i = k := by omega
          subst this; exact h
      · refine .inr ⟨i, by omega, h2, fun j hj hp => ?_⟩
        rcases Nat.lt_or_ge j k with h4 | h4
        · exact h3 j h4 hp
        · have : j = k := by omega
          subst this; exact absurd hp h

structure Local (look : S → L → V) (run : O → S → Option S) (ops : List O) (st : Nat → S) (R W : Nat → L → Prop) : Prop where
  goes : ∀ (i : Nat) (o : O), ops[i]? = some o → run o (st i) = some (st (i + 1))
  loc : ∀ (i : Nat) (o : O), ops[i]? = some o → ∀ S', (∀ l, R i l → look S' l = look (st i) l) → ∃ T', run o S' = some T' ∧ (∀ l, W i l → look T' l = look (st (i + 1)) l) ∧ (∀ l, ¬ W i l → look T' l = look S' l)

theorem Local.keeps (h : Local look run ops st R W) {i : Nat} (hi : i < ops.length) {l : L} (hw : ¬ W i l) : look (st (i + 1)) l = look (st i) l := by
  obtain ⟨T', h1, h2, h3⟩ := h.loc i _ (List.getElem?_eq_getElem hi) (st i) (fun _ _ => rfl)
  rw [h.goes i _ (List.getElem?_eq_getElem hi)] at h1
  cases h1
  exact h3 l hw

theorem Local.since (h : Local look run ops st R W) {l : L} {k : Nat} : ∀ m, k + m ≤ ops.length → (∀ i, k ≤ i → i < k + m → ¬ W i l) → look (st (k + m)) l = look (st k) l := by
  intro m
  induction m with
  | zero => intro _ _; rfl
  | succ m ih =>
    intro hm hw
    have := h.keeps (i := k + m) (by omega) (hw _ (by omega) (by omega))
    rw [← Nat.add_assoc, this]
    exact ih (by omega) fun i h1 h2 => hw i h1 (by omega)

/-- Which pairs may change places. -/
def Free (R W : Nat → L → Prop) (i j : Nat) : Prop := ∀ l, ¬ (W i l ∧ (R j l ∨ W j l)) ∧ ¬ (W j l ∧ R i l)

theorem Local.perm (h : Local look run ops st R W) : ∀ (σ done : List Nat) (T : S), (done ++ σ).Nodup → (∀ i, i < ops.length ↔ i ∈ done ++ σ) →
    (∀ i j, i < j → (i ∈ σ ∧ j ∈ done ∨ (∃ a b c, σ = a ++ j :: (b ++ i :: c))) → Free R W i j) →
    (∀ l, (∀ i ∈ done, ¬ W i l) → look T l = look (st 0) l) →
    (∀ l i, i ∈ done → W i l → (∀ j ∈ done, W j l → j ≤ i) → look T l = look (st (i + 1)) l) →
    ∃ T', runList run (σ.filterMap (ops[·]?)) T = some T' ∧ ∀ l, look T' l = look (st ops.length) l
  | [], done, T, hnd, hall, _, ha, hb => by
    refine ⟨T, rfl, fun l => ?_⟩
    rcases last_writer (fun i => W i l) ops.length with h1 | ⟨i, h1, h2, h3⟩
    · have := h.since (l := l) (k := 0) ops.length (by omega) (fun i _ hi => h1 i (by omega))
      rw [Nat.zero_add] at this
      rw [this]
      exact ha l fun i hi => h1 i ((hall i).2 (by simpa using hi))
    · have hi : i ∈ done := by have := (hall i).1 h1; simpa using this
      rw [hb l i hi h2 fun j hj hw => h3 j ((hall j).2 (by simpa using hj)) hw]
      have := h.since (l := l) (k := i + 1) (ops.length - (i + 1)) (by omega) (fun j h4 h5 hw => by have := h3 j (by omega) hw; omega)
      rw [show i + 1 + (ops.length - (i + 1)) = ops.length by omega] at this
      exact this.symm
  | j :: σ, done, T, hnd, hall, hfree, ha, hb => by
    have hj : j < ops.length := (hall j).2 (by simp)
    have hjd : j ∉ done := by
      intro hx
      rw [List.nodup_append] at hnd
      exact hnd.2.2 j hx j (by simp) rfl
    have later : ∀ i, i < ops.length → i ∉ done → i ≠ j → i ∈ σ := by
      intro i hi h1 h2
      have := (hall i).1 hi
      simp only [List.mem_append, List.mem_cons] at this
      rcases this with h3 | h3 | h3
      · exact absurd h3 h1
      · exact absurd h3 h2
      · exact h3
    have freeLate : ∀ i, i < j → i ∈ σ → Free R W i j := by
      intro i hij hi
      obtain ⟨b, c, e⟩ := List.append_of_mem hi
      exact hfree i j hij (.inr ⟨[], b, c, by rw [e]; rfl⟩)
    have freeDone : ∀ i, j < i → i ∈ done → Free R W j i := fun i hij hi => hfree j i hij (.inl ⟨by simp, hi⟩)
    have agree : ∀ l, R j l → look T l = look (st j) l := by
      intro l hl
      have noBig : ∀ i ∈ done, W i l → i < j := by
        intro i hi hw
        rcases Nat.lt_or_ge i j with h1 | h1
        · exact h1
        · have hne : i ≠ j := fun e => hjd (e ▸ hi)
          exact absurd ⟨hw, hl⟩ (freeDone i (by omega) hi l).2
      rcases last_writer (fun i => W i l) j with h1 | ⟨i, h1, h2, h3⟩
      · have := h.since (l := l) (k := 0) j (by omega) (fun i _ hi => h1 i (by omega))
        rw [Nat.zero_add] at this
        rw [this]
        exact ha l fun i hi hw => h1 i (noBig i hi hw) hw
      · have hi : i ∈ done := by
          by_cases hd : i ∈ done
          · exact hd
          · exact absurd ⟨h2, .inl hl⟩ (freeLate i h1 (later i (by omega) hd (by omega)) l).1
        rw [hb l i hi h2 fun k hk hw => h3 k (noBig k hk hw) hw]
        have := h.since (l := l) (k := i + 1) (j - (i + 1)) (by omega) (fun k h4 h5 hw => by have := h3 k (by omega) hw; omega)
        rw [show i + 1 + (j - (i + 1)) = j by omega] at this
        exact this.symm
    obtain ⟨T', h1, h2, h3⟩ := h.loc j _ (List.getElem?_eq_getElem hj) T agree
    have ih := Local.perm h σ (done ++ [j]) T' (by simpa using hnd) (fun i => by rw [hall i]; simp) ?_ ?_ ?_
    · obtain ⟨T2, h4, h5⟩ := ih
      refine ⟨T2, ?_, h5⟩
      rw [List.filterMap_cons, List.getElem?_eq_getElem hj]
      simp only [runList, h1]
      exact h4
    · intro i k hik hcase
      rcases hcase with ⟨hi, hk⟩ | ⟨a, b, c, e⟩
      · simp only [List.mem_append, List.mem_singleton] at hk
        rcases hk with hk | rfl
        · exact hfree i k hik (.inl ⟨by simp [hi], hk⟩)
        · exact freeLate i hik hi
      · exact hfree i k hik (.inr ⟨j :: a, b, c, by rw [e]; rfl⟩)
    · intro l hl
      rw [h3 l (hl j (by simp))]
      exact ha l fun i hi => hl i (by simp [hi])
    · intro l i hi hw hmax
      simp only [List.mem_append, List.mem_singleton] at hi
      by_cases hwj : W j l
      · have hle := hmax j (by simp) hwj
        rcases hi with hi | rfl
        · have hne : i ≠ j := fun e => hjd (e ▸ hi)
          exact absurd ⟨hwj, .inr hw⟩ (freeDone i (by omega) hi l).1
        · exact h2 l hw
      · rcases hi with hi | rfl
        · rw [h3 l hwj]
          exact hb l i hi hw fun k hk hkw => hmax k (by simp [hk]) hkw
        · exact absurd hw hwj
end

/-! Orders. -/

/-- What an edge that binds comes from. -/
def bindsOn (o : Oper) : List Nat := o.after.toList.filterMap fun e => if Region.binds .any e then some e.on else none

theorem countP_lt {p q : Nat → Bool} : ∀ (l : List Nat) (i : Nat), i ∈ l → p i = true → q i = false → (∀ j, q j = true → p j = true) → l.countP q < l.countP p
  | [], i, h, _, _, _ => by simp at h
  | x :: l, i, h, hp, hq, himp => by
    have hle : l.countP q ≤ l.countP p := List.countP_mono_left fun j _ => himp j
    simp only [List.countP_cons]
    rcases List.mem_cons.1 h with rfl | h
    · rw [hp, hq]; simp; omega
    · have := countP_lt l i h hp hq himp
      cases hqx : q x
      · simp; omega
      · rw [himp x hqx]; simp; exact this

/-- An order of a region: every operation once, behind what its edges ask for. -/
theorem linearise_ok (ops : Array Oper) (hback : ∀ (i : Nat) (o : Oper), ops[i]? = some o → ∀ k ∈ bindsOn o, k < i) :
    ∀ (fuel t : Nat) (listed : Array Bool), listed.size = ops.size → (List.range ops.size).countP (fun i => !listed.getD i true) ≤ fuel →
      (∀ i, (i < ops.size ∧ listed.getD i true = false) ↔ i ∈ Region.linearise.go .any ops fuel t listed []) ∧ (Region.linearise.go .any ops fuel t listed []).Nodup ∧
      ∀ a j b, Region.linearise.go .any ops fuel t listed [] = a ++ j :: b → ∀ o, ops[j]? = some o → ∀ k ∈ bindsOn o, listed.getD k false = true ∨ k ∈ a := by
  intro fuel
  induction fuel with
  | zero =>
    intro t listed hsz hc
    simp only [Region.linearise.go, List.reverse_nil]
    refine ⟨fun i => ⟨fun ⟨h1, h2⟩ => ?_, fun h => by simp at h⟩, List.nodup_nil, fun a j b e => by simp at e⟩
    have := List.countP_eq_zero.1 (Nat.le_zero.1 hc) i (by simpa using h1)
    simp [h2] at this
  | succ fuel ih =>
    intro t listed hsz hc
    simp only [Region.linearise.go]
    change (∀ i, (i < ops.size ∧ listed.getD i true = false) ↔ i ∈ (match (Region.ready .any ops listed)[t % (Region.ready .any ops listed).length]? with
      | some i => Region.linearise.go .any ops fuel (t / (Region.ready .any ops listed).length) (listed.setIfInBounds i true) [i]
      | none => [].reverse)) ∧ List.Nodup (match (Region.ready .any ops listed)[t % (Region.ready .any ops listed).length]? with
      | some i => Region.linearise.go .any ops fuel (t / (Region.ready .any ops listed).length) (listed.setIfInBounds i true) [i]
      | none => [].reverse) ∧ ∀ a j b, (match (Region.ready .any ops listed)[t % (Region.ready .any ops listed).length]? with
      | some i => Region.linearise.go .any ops fuel (t / (Region.ready .any ops listed).length) (listed.setIfInBounds i true) [i]
      | none => [].reverse) = a ++ j :: b → ∀ o, ops[j]? = some o → ∀ k ∈ bindsOn o, listed.getD k false = true ∨ k ∈ a
    have hready : ∀ i, i ∈ Region.ready .any ops listed ↔ i < ops.size ∧ listed.getD i true = false ∧ ∀ o, ops[i]? = some o → ∀ k ∈ bindsOn o, listed.getD k false = true := by
      intro i
      simp only [Region.ready, List.mem_filter, List.mem_range, Bool.and_eq_true, Bool.not_eq_true']
      refine and_congr_right fun hi => and_congr_right fun hl => ?_
      have hoi : ops[i]? = some ops[i] := by simp [hi]
      rw [hoi]
      simp only [Option.map_some, Option.getD_some, Array.all_eq_true', Bool.or_eq_true, Bool.not_eq_true', Option.some.injEq, forall_eq']
      constructor
      · intro h k hk
        simp only [bindsOn, List.mem_filterMap] at hk
        obtain ⟨e, he, hk⟩ := hk
        split at hk
        · rename_i hb
          cases hk
          rcases h e (by simpa using he) with h1 | h1
          · rw [hb] at h1; cases h1
          · exact h1
        · cases hk
      · intro h e he
        by_cases hb : Region.binds .any e = true
        · right
          refine h e.on ?_
          simp only [bindsOn, List.mem_filterMap]
          exact ⟨e, by simpa using he, by rw [if_pos hb]⟩
        · left; simpa using hb
    cases hi : (Region.ready .any ops listed)[t % (Region.ready .any ops listed).length]? with
    | none =>
      have hnil : Region.ready .any ops listed = [] := by
        cases hr : Region.ready .any ops listed with
        | nil => rfl
        | cons x xs =>
          rw [hr] at hi
          have hlt : t % (x :: xs).length < (x :: xs).length := Nat.mod_lt _ (by simp)
          simp at hi
          simp at hlt
          omega
      simp only [List.reverse_nil]
      have none_left : ∀ i, ¬ (i < ops.size ∧ listed.getD i true = false) := by
        intro i
        induction i using Nat.strongRecOn with
        | _ i ihi =>
          rintro ⟨h1, h2⟩
          have : i ∈ Region.ready .any ops listed := (hready i).2 ⟨h1, h2, fun o ho k hk => by
            have hki := hback i o ho k hk
            have := ihi k hki
            have hks : k < listed.size := by omega
            have h3 : listed.getD k true = true := by
              cases h4 : listed.getD k true
              · exact absurd ⟨by omega, h4⟩ this
              · rfl
            simpa [Array.getD, hks] using h3⟩
          rw [hnil] at this
          cases this
      exact ⟨fun i => ⟨fun h => (none_left i h).elim, fun h => by simp at h⟩, List.nodup_nil, fun a j b e => by simp at e⟩
    | some i =>
      simp only []
      rw [linearise_go_acc, List.reverse_singleton, List.singleton_append]
      have him := (hready i).1 (List.mem_of_getElem? hi)
      obtain ⟨hi1, hi2, hi3⟩ := him
      have hset : ∀ k d, k ≠ i → (listed.setIfInBounds i true).getD k d = listed.getD k d := by
        intro k d hk
        simp only [Array.getD_eq_getD_getElem?, Array.getElem?_setIfInBounds]
        rw [if_neg (fun e => hk e.symm)]
      have hself : ∀ d, (listed.setIfInBounds i true).getD i d = true := by
        intro d
        simp [Array.getD_eq_getD_getElem?, hsz, hi1]
      have hcount : (List.range ops.size).countP (fun k => !(listed.setIfInBounds i true).getD k true) ≤ fuel := by
        have := countP_lt (p := fun k => !listed.getD k true) (q := fun k => !(listed.setIfInBounds i true).getD k true) (List.range ops.size) i (by simpa using hi1) (by simp [hi2]) (by simp [hself]) (fun j hj => by
          by_cases e : j = i
          · subst e; simp [hself] at hj
          · rw [hset j true e] at hj; exact hj)
        omega
      obtain ⟨h1, h2, h3⟩ := ih (t / (Region.ready .any ops listed).length) (listed.setIfInBounds i true) (by simpa using hsz) hcount
      refine ⟨fun k => ?_, ?_, ?_⟩
      · rw [List.mem_cons, ← h1 k]
        by_cases e : k = i
        · subst e; simp [hi1, hi2]
        · rw [hset k true e]; simp [e]
      · rw [List.nodup_cons]
        refine ⟨fun hm => ?_, h2⟩
        have := (h1 i).2 hm
        rw [hself] at this
        cases this.2
      · intro a j b e o ho k hk
        cases a with
        | nil =>
          simp only [List.nil_append, List.cons.injEq] at e
          obtain ⟨rfl, _⟩ := e
          exact .inl (hi3 o ho k hk)
        | cons x a =>
          simp only [List.cons_append, List.cons.injEq] at e
          obtain ⟨rfl, e⟩ := e
          rcases h3 a j b e o ho k hk with h4 | h4
          · by_cases hki : k = i
            · subst hki; right; simp
            · rw [hset k false hki] at h4; exact .inl h4
          · right; simp [h4]
end Go.Pf
