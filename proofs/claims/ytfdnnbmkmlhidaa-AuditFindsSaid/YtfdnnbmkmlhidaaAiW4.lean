/- Part 4 of what the statement rests on: a verified evaluator over pure values, the conditions of the program's functions, and their plain laws. -/
import Derived.Test.YtfdnnbmkmlhidaaAiW3
namespace Go.Pf.Vc
open Go Go.Pf
theorem countP_lt {α : Type} {p q : α → Bool} : ∀ {l : List α}, (∀ a ∈ l, p a = true → q a = true) → (∃ a ∈ l, q a = true ∧ p a = false) → l.countP p < l.countP q
 | [], _, ⟨_, h, _⟩ => by cases h
 | b :: l, h1, ⟨a, ha, hq, hp⟩ => by
   have hle : l.countP p ≤ l.countP q := List.countP_mono_left fun c hc => h1 c (List.mem_cons_of_mem _ hc)
   rw [List.countP_cons, List.countP_cons]
   rcases List.mem_cons.1 ha with rfl | ha
   · rw [hp, hq]; simp; omega
   · have := countP_lt (fun c hc => h1 c (List.mem_cons_of_mem _ hc)) ⟨a, ha, hq, hp⟩
     have hb := h1 b List.mem_cons_self
     cases hpb : p b with
     | false => simp; split <;> omega
     | true => rw [hb hpb]; simp; omega
theorem below_zero {k : Nat} {h x : List Int} (h1 : h.length = k) (h2 : x.length = k) (hx : leH h x) (e : below k h x = 0) : h = x := by
 refine leH.anti (h1.trans h2.symm) hx fun i => ?_
 unfold below at e
 rw [List.countP_eq_zero] at e
 by_cases hi : i < k
 · have := e i (List.mem_range.2 hi)
   simp at this
   exact this
 · unfold hAt
   rw [List.getD_eq_getElem?_getD, List.getD_eq_getElem?_getD, List.getElem?_eq_none (by omega), List.getElem?_eq_none (by omega)]
   exact Int.le_refl _
theorem below_less {R : List Rl} {k : Nat} {h s : List Int} (ho : rOk R k) (hl : h.length = k) (hp : ∀ i, 0 ≤ hAt h i) (hs : Sol R k s) (hx : leH h s) (least : ∀ x, Sol R k x → leH s x) (hb : below k h s ≠ 0) : below k (pass R h) s < below k h s := by
 have hle := pass_sol ho hl hs hx
 have hge := pass_ge R h (by rw [hl]; exact ho)
 have hex : ∃ i, i < k ∧ hAt h i < hAt s i := by
   have : 0 < below k h s := by omega
   unfold below at this
   rw [List.countP_pos_iff] at this
   obtain ⟨i, h1, h2⟩ := this
   exact ⟨i, List.mem_range.1 h1, by simpa using h2⟩
 let t : List Int := (List.range k).map fun i => if hAt h i < hAt s i then hAt s i - 1 else hAt s i
 have tl : t.length = k := by simp [t]
 have tat : ∀ i, i < k → hAt t i = if hAt h i < hAt s i then hAt s i - 1 else hAt s i := by
   intro i hi
   unfold hAt
   rw [List.getD_eq_getElem?_getD]
   simp only [t, List.getElem?_map, List.getElem?_range hi, Option.map_some, Option.getD_some]
   rfl
 have tno : ¬ Sol R k t := by
   intro hst
   obtain ⟨i, hi, h1⟩ := hex
   have h2 := least t hst i
   rw [tat i hi, if_pos h1] at h2
   omega
 have tpos : ∀ i, 0 ≤ hAt t i := by
   intro i
   by_cases hi : i < k
   · rw [tat i hi]
     have h1 := hp i
     have h2 := hs.pos i
     split <;> omega
   · unfold hAt
     rw [List.getD_eq_getElem?_getD, List.getElem?_eq_none (by omega)]
     exact Int.le_refl _
 have : ∃ r ∈ R, hAt t r.2.1 < hAt t r.1 + r.2.2 := by
   refine Classical.byContradiction fun hn => tno ⟨tl, tpos, fun r hr => ?_⟩
   refine Int.not_lt.1 fun hlt => hn ⟨r, hr, hlt⟩
 obtain ⟨r, hr, hlt⟩ := this
 have hob := hs.ob r hr
 obtain ⟨hr1, hr2⟩ := ho r hr
 rw [tat _ hr1, tat _ hr2] at hlt
 have hgain := pass_gain R h (by rw [hl]; exact ho) r hr
 have hs1 := hx r.1
 refine countP_lt (fun i _ hi => ?_) ⟨r.2.1, List.mem_range.2 hr2, ?_, ?_⟩
 · have h1 := hge i
   simp only [decide_eq_true_eq] at hi ⊢
   omega
 · simp only [decide_eq_true_eq]
   split at hlt <;> split at hlt <;> omega
 · simp only [decide_eq_false_iff_not, Int.not_lt]
   split at hlt <;> split at hlt <;> omega
theorem mem_sum : ∀ {l : List Nat} {a : Nat}, a ∈ l → a ≤ l.sum
 | [], _, h => by cases h
 | b :: l, a, h => by
   rw [List.sum_cons]
   rcases List.mem_cons.1 h with rfl | h
   · omega
   · have := mem_sum h; omega
theorem least_sol {R : List Rl} {k : Nat} (ho : rOk R k) {x : List Int} (hs : Sol R k x) : ∀ (m : Nat) (h : List Int), h.length = k → (∀ i, 0 ≤ hAt h i) → leH h x → ((List.range k).map fun i => (hAt x i - hAt h i).toNat).sum ≤ m → ∃ n g, iterR R n h = some g := by
 intro m
 induction m with
 | zero =>
   intro h hl hp hx hm
   refine ⟨1, h, ?_⟩
   unfold iterR
   rw [if_pos]
   have e : h = x := by
     refine leH.anti (hl.trans hs.len.symm) hx fun i => ?_
     by_cases hi : i < k
     · have h1 : (hAt x i - hAt h i).toNat ∈ (List.range k).map fun i => (hAt x i - hAt h i).toNat := List.mem_map.2 ⟨i, List.mem_range.2 hi, rfl⟩
       have h2 := mem_sum h1
       omega
     · unfold hAt
       rw [List.getD_eq_getElem?_getD, List.getD_eq_getElem?_getD, List.getElem?_eq_none (by have := hs.len; omega), List.getElem?_eq_none (by omega)]
       exact Int.le_refl _
   rw [e]
   exact (pass_fix (by rw [hs.len]; exact ho)).2 hs.ob
 | succ m ih =>
   intro h hl hp hx hm
   by_cases hf : pass R h = h
   · exact ⟨1, h, by unfold iterR; rw [if_pos hf]⟩
   · have hge := pass_ge R h (by rw [hl]; exact ho)
     have hle := pass_sol ho hl hs hx
     have hne : ∃ i, i < k ∧ hAt h i < hAt (pass R h) i := by
       refine Classical.byContradiction fun hn => hf (leH.anti (pass_len R h) (fun i => ?_) hge)
       by_cases hi : i < k
       · exact Int.not_lt.1 fun hlt => hn ⟨i, hi, hlt⟩
       · unfold hAt
         rw [List.getD_eq_getElem?_getD, List.getD_eq_getElem?_getD, List.getElem?_eq_none (by rw [pass_len]; omega), List.getElem?_eq_none (by omega)]
         exact Int.le_refl _
     obtain ⟨j, hj, hlt⟩ := hne
     have key : ∀ (l : List Nat), j ∈ l → (l.map fun i => (hAt x i - hAt (pass R h) i).toNat).sum < (l.map fun i => (hAt x i - hAt h i).toNat).sum := by
       intro l
       induction l with
       | nil => intro h; cases h
       | cons a l ihl =>
         intro hm
         simp only [List.map_cons, List.sum_cons]
         have g1 := hge a
         have hle2 : (l.map fun i => (hAt x i - hAt (pass R h) i).toNat).sum ≤ (l.map fun i => (hAt x i - hAt h i).toNat).sum := by
           clear hm ihl
           induction l with
           | nil => exact Nat.le_refl _
           | cons b l ih2 => simp only [List.map_cons, List.sum_cons]; have := hge b; omega
         rcases List.mem_cons.1 hm with e | hm
         · subst e
           have g2 := hle j
           omega
         · have := ihl hm
           omega
     have := key (List.range k) (List.mem_range.2 hj)
     obtain ⟨n, g, e⟩ := ih (pass R h) (by rw [pass_len]; exact hl) (fun i => Int.le_trans (hp i) (hge i)) hle (by omega)
     exact ⟨n + 1, g, by unfold iterR; rw [if_neg hf]; exact e⟩
theorem iterR_in {R : List Rl} {k : Nat} (ho : rOk R k) {s : List Int} (hs : Sol R k s) (least : ∀ x, Sol R k x → leH s x) : ∀ (n : Nat) (h : List Int), h.length = k → (∀ i, 0 ≤ hAt h i) → leH h s → below k h s ≤ n → iterR R (n + 1) h = some s
 | 0, h, hl, _, hx, hb => by
   have e := below_zero hl hs.len hx (by omega)
   subst e
   unfold iterR
   rw [if_pos ((pass_fix (by rw [hl]; exact ho)).2 hs.ob)]
 | n + 1, h, hl, hp, hx, hb => by
   unfold iterR
   by_cases hf : pass R h = h
   · rw [if_pos hf]
     have hsol : Sol R k h := ⟨hl, hp, (pass_fix (by rw [hl]; exact ho)).1 hf⟩
     rw [leH.anti (hl.trans hs.len.symm) hx (least h hsol)]
   · rw [if_neg hf]
     have hge := pass_ge R h (by rw [hl]; exact ho)
     refine iterR_in ho hs least n (pass R h) (by rw [pass_len]; exact hl) (fun i => Int.le_trans (hp i) (hge i)) (pass_sol ho hl hs hx) ?_
     by_cases h0 : below k h s = 0
     · have e := below_zero hl hs.len hx h0
       exact absurd ((pass_fix (by rw [hl]; exact ho)).2 (by rw [e]; exact hs.ob)) hf
     · have := below_less ho hl hp hs hx least h0
       omega
def bf (R : List Rl) (k : Nat) : Option (List Int) := iterR R (k + 1) (zeros k)
theorem zeros_len (k : Nat) : (zeros k).length = k := by simp [zeros]
theorem zeros_le {R : List Rl} {k : Nat} {x : List Int} (hs : Sol R k x) : leH (zeros k) x := fun i => by rw [zeros_at]; exact hs.pos i
theorem bf_some {R : List Rl} {k : Nat} (ho : rOk R k) {g : List Int} (e : bf R k = some g) : Sol R k g ∧ ∀ x, Sol R k x → leH g x := by
 obtain ⟨h1, _, h3⟩ := iterR_sol ho _ _ _ (zeros_len k) (fun i => by rw [zeros_at]; exact Int.le_refl _) e
 exact ⟨h1, fun x hx => h3 x hx (zeros_le hx)⟩
theorem bf_of {R : List Rl} {k : Nat} (ho : rOk R k) {x : List Int} (hs : Sol R k x) : ∃ g, bf R k = some g := by
 obtain ⟨n, g, e⟩ := least_sol ho hs _ (zeros k) (zeros_len k) (fun i => by rw [zeros_at]; exact Int.le_refl _) (zeros_le hs) (Nat.le_refl _)
 obtain ⟨h1, _, h3⟩ := iterR_sol ho _ _ _ (zeros_len k) (fun i => by rw [zeros_at]; exact Int.le_refl _) e
 refine ⟨g, iterR_in ho h1 (fun x hx => h3 x hx (zeros_le hx)) k (zeros k) (zeros_len k) (fun i => by rw [zeros_at]; exact Int.le_refl _) (zeros_le h1) ?_⟩
 unfold below
 have := List.countP_le_length (p := fun i => decide (hAt (zeros k) i < hAt g i)) (l := List.range k)
 rw [List.length_range] at this
 exact this
theorem bf_least {R : List Rl} {k : Nat} (ho : rOk R k) {g : List Int} (h1 : Sol R k g) (h2 : ∀ x, Sol R k x → leH g x) : bf R k = some g := by
 obtain ⟨g', e⟩ := bf_of ho h1
 obtain ⟨h3, h4⟩ := bf_some ho e
 rw [e, leH.anti (h3.len.trans h1.len.symm) (h4 _ h1) (h2 _ h3)]
theorem bf_same {R S : List Rl} {k : Nat} (ho : rOk R k) (h : ∀ r, r ∈ R ↔ r ∈ S) : bf R k = bf S k := by
 have ho' : rOk S k := fun r hr => ho r ((h r).2 hr)
 have hs : ∀ x, Sol R k x ↔ Sol S k x := fun x => ⟨fun q => ⟨q.len, q.pos, fun r hr => q.ob r ((h r).2 hr)⟩, fun q => ⟨q.len, q.pos, fun r hr => q.ob r ((h r).1 hr)⟩⟩
 cases e : bf R k with
 | some g =>
   obtain ⟨h1, h2⟩ := bf_some ho e
   exact (bf_least ho' ((hs g).1 h1) fun x hx => h2 x ((hs x).2 hx)).symm
 | none =>
   cases e2 : bf S k with
   | none => rfl
   | some g =>
     obtain ⟨h1, _⟩ := bf_some ho' e2
     obtain ⟨g2, e3⟩ := bf_of ho ((hs g).2 h1)
     rw [e] at e3; cases e3
def iterP (R : List Rl) : Nat → List Int → Option (List Int)
 | 0, _ => none
 | n + 1, h => if hAt (pass R h) 0 > 0 then none else if pass R h = h then some (pass R h) else iterP R n (pass R h)
theorem iterP_some {R : List Rl} : ∀ (n : Nat) (h g : List Int), iterP R n h = some g → iterR R n h = some g ∧ hAt g 0 ≤ 0
 | 0, _, _, e => by cases e
 | n + 1, h, g, e => by
   unfold iterP at e
   unfold iterR
   split at e
   · cases e
   · rename_i h0
     split at e
     · rename_i hf
       rw [if_pos hf]
       cases e
       exact ⟨by rw [hf], by omega⟩
     · rename_i hf
       rw [if_neg hf]
       exact iterP_some n _ g e
theorem iterP_of {R : List Rl} {k : Nat} (ho : rOk R k) : ∀ (n : Nat) (h g : List Int), h.length = k → (∀ i, 0 ≤ hAt h i) → iterR R n h = some g → hAt g 0 ≤ 0 → iterP R n h = some g
 | 0, _, _, _, _, e, _ => by cases e
 | n + 1, h, g, hl, hp, e, h0 => by
   have hge := pass_ge R h (by rw [hl]; exact ho)
   obtain ⟨hs, hle, _⟩ := iterR_sol ho _ _ _ hl hp e
   have h1 := pass_sol ho hl hs hle 0
   unfold iterR at e
   unfold iterP
   rw [if_neg (by omega)]
   split at e
   · rename_i hf; rw [if_pos hf, hf]; exact e
   · rename_i hf
     rw [if_neg hf]
     exact iterP_of ho n _ g (by rw [pass_len]; exact hl) (fun i => Int.le_trans (hp i) (hge i)) e h0
def bf0 (R : List Rl) (k : Nat) : Option (List Int) := match bf R k with | some g => if hAt g 0 = 0 then some g else none | none => none
theorem iterP_bf0 {R : List Rl} {k : Nat} (ho : rOk R k) : iterP R (k + 1) (zeros k) = bf0 R k := by
 unfold bf0
 have hz : ∀ i, 0 ≤ hAt (zeros k) i := fun i => by rw [zeros_at]; exact Int.le_refl _
 cases e : bf R k with
 | some g =>
   dsimp only
   obtain ⟨hs, _⟩ := bf_some ho e
   have h0 := hs.pos 0
   by_cases hg : hAt g 0 = 0
   · rw [if_pos hg]
     exact iterP_of ho _ _ g (zeros_len k) hz e (by omega)
   · rw [if_neg hg]
     cases e2 : iterP R (k + 1) (zeros k) with
     | none => rfl
     | some g2 =>
       obtain ⟨h1, h2⟩ := iterP_some _ _ _ e2
       rw [show iterR R (k + 1) (zeros k) = bf R k from rfl, e] at h1
       cases h1
       omega
 | none =>
   dsimp only
   cases e2 : iterP R (k + 1) (zeros k) with
   | none => rfl
   | some g2 =>
     obtain ⟨h1, _⟩ := iterP_some _ _ _ e2
     rw [show iterR R (k + 1) (zeros k) = bf R k from rfl, e] at h1
     cases h1
end Go.Pf.Vc
namespace Go.Pf.Vc
open Go Go.Pf
def frQ (y : Rat) : Rat := y - (y.floor : Rat)
def rkQ (ys : List Rat) (t : Rat) : Nat := ys.countP fun z => decide (frQ z < t)
def htQ (ys : List Rat) (y : Rat) : Int := ((ys.length : Int) + 1) * y.floor + rkQ ys (frQ y)
theorem rkQ_top {ys : List Rat} {y : Rat} (h : y ∈ ys) : rkQ ys (frQ y) + 1 ≤ ys.length := by
 have h1 : ys.countP (fun z => decide (frQ z < frQ y)) < ys.countP (fun _ => true) :=
   countP_lt (fun _ _ _ => rfl) ⟨y, h, rfl, by simp⟩
 have h2 : ys.countP (fun _ => true) = ys.length := by simp
 unfold rkQ
 omega
theorem rkQ_le (ys : List Rat) {t u : Rat} (h : t ≤ u) : rkQ ys t ≤ rkQ ys u :=
 List.countP_mono_left fun z _ hz => by
   simp only [decide_eq_true_eq] at hz ⊢
   grind
theorem rkQ_lt {ys : List Rat} {y : Rat} {u : Rat} (hy : y ∈ ys) (h : frQ y < u) : rkQ ys (frQ y) + 1 ≤ rkQ ys u :=
 countP_lt (fun z _ hz => by
   simp only [decide_eq_true_eq] at hz ⊢
   grind) ⟨y, hy, by simpa using h, by simp⟩
theorem mul_step {s a b : Int} (hs : 0 ≤ s) (h : a + 1 ≤ b) : s * a + s ≤ s * b := by
 have := Int.mul_le_mul_of_nonneg_left h hs
 rw [Int.mul_add, Int.mul_one] at this
 exact this
theorem htQ_le {ys : List Rat} {y z : Rat} (hy : y ∈ ys) (h : y ≤ z) : htQ ys y ≤ htQ ys z := by
 have h1 := Rat.floor_monotone h
 have h2 := rkQ_top hy
 unfold htQ
 by_cases e : y.floor = z.floor
 · have h3 := rkQ_le ys (t := frQ y) (u := frQ z) (by unfold frQ; rw [e]; grind)
   rw [e]; omega
 · have := mul_step (s := (ys.length : Int) + 1) (by omega) (show y.floor + 1 ≤ z.floor by omega)
   omega
theorem htQ_lt {ys : List Rat} {y z : Rat} (hy : y ∈ ys) (h : y < z) : htQ ys y + 1 ≤ htQ ys z := by
 have h1 := Rat.floor_monotone (show y ≤ z by grind)
 have h2 := rkQ_top hy
 unfold htQ
 by_cases e : y.floor = z.floor
 · have h3 := rkQ_lt (u := frQ z) hy (by unfold frQ; rw [e]; grind)
   rw [e]; omega
 · have := mul_step (s := (ys.length : Int) + 1) (by omega) (show y.floor + 1 ≤ z.floor by omega)
   omega
theorem htQ_add (ys : List Rat) (y : Rat) (d : Int) : htQ ys (y + (d : Rat)) = htQ ys y + ((ys.length : Int) + 1) * d := by
 have e : (y + (d : Rat)).floor = y.floor + d := Rat.floor_add_intCast
 have e2 : frQ (y + (d : Rat)) = frQ y := by
   unfold frQ
   rw [e, Rat.intCast_add]
   grind
 unfold htQ
 rw [e, e2, Int.mul_add]
 omega
theorem htQ_zero {ys : List Rat} : htQ ys 0 = 0 := by
 have e : (0 : Rat).floor = 0 := Rat.floor_intCast 0
 have e2 : frQ 0 = 0 := by unfold frQ; rw [e]; grind
 have h : rkQ ys 0 = 0 := by
   unfold rkQ
   rw [List.countP_eq_zero]
   intro z _
   have := Rat.floor_le z
   simp only [decide_eq_true_eq]
   unfold frQ
   grind
 unfold htQ
 rw [e, e2, h]
 simp
def ruleOk (ys : List Rat) (r : Rl) : Prop :=
 (∃ d : Int, ys.getD r.2.1 0 = ys.getD r.1 0 + (d : Rat) ∧ r.2.2 = ((ys.length : Int) + 1) * d) ∨ (ys.getD r.1 0 ≤ ys.getD r.2.1 0 ∧ r.2.2 = 0) ∨ (ys.getD r.1 0 < ys.getD r.2.1 0 ∧ r.2.2 = 1)
theorem hAt_map {ys : List Rat} {f : Rat → Int} {i : Nat} (hi : i < ys.length) : hAt (ys.map f) i = f (ys.getD i 0) := by
 unfold hAt
 rw [List.getD_eq_getElem?_getD, List.getD_eq_getElem?_getD, List.getElem?_map, List.getElem?_eq_getElem hi]
 rfl
theorem mem_getD {ys : List Rat} {i : Nat} (hi : i < ys.length) : ys.getD i 0 ∈ ys := by
 rw [List.getD_eq_getElem?_getD, List.getElem?_eq_getElem hi]
 exact List.getElem_mem hi
theorem sol_of_rat {ys : List Rat} {R : List Rl} (ho : rOk R ys.length) (hr : ∀ r ∈ R, ruleOk ys r) (hp : ∀ y ∈ ys, 0 ≤ y) : Sol R ys.length (ys.map (htQ ys)) where
 len := by simp
 pos := by
   intro i
   by_cases hi : i < ys.length
   · rw [hAt_map hi]
     have hm := mem_getD hi
     have h0 : (0 : Int) ≤ (ys.getD i 0).floor := by
       rw [Rat.le_floor_iff]
       exact hp _ hm
     unfold htQ
     have := Int.mul_nonneg (show 0 ≤ (ys.length : Int) + 1 by omega) h0
     omega
   · unfold hAt
     rw [List.getD_eq_getElem?_getD, List.getElem?_eq_none (by rw [List.length_map]; omega)]
     exact Int.le_refl _
 ob := by
   intro r h
   obtain ⟨h1, h2⟩ := ho r h
   rw [hAt_map h1, hAt_map h2]
   rcases hr r h with ⟨d, e1, e2⟩ | ⟨e1, e2⟩ | ⟨e1, e2⟩
   · rw [e1, e2, htQ_add]; exact Int.le_refl _
   · have := htQ_le (mem_getD h1) e1
     omega
   · have := htQ_lt (mem_getD h1) e1
     omega
theorem bf0_of_rat {ys : List Rat} {R : List Rl} (ho : rOk R ys.length) (hr : ∀ r ∈ R, ruleOk ys r) (hp : ∀ y ∈ ys, 0 ≤ y) (h0 : ys.getD 0 0 = 0) : ∃ g, bf0 R ys.length = some g := by
 have hs := sol_of_rat ho hr hp
 obtain ⟨g, e⟩ := bf_of ho hs
 obtain ⟨h1, h2⟩ := bf_some ho e
 refine ⟨g, ?_⟩
 unfold bf0
 rw [e]
 dsimp only
 rw [if_pos]
 have h3 := h2 _ hs 0
 have h4 := h1.pos 0
 have h5 : hAt (ys.map (htQ ys)) 0 = 0 := by
   by_cases hl : 0 < ys.length
   · rw [hAt_map hl, h0, htQ_zero]
   · unfold hAt
     rw [List.getD_eq_getElem?_getD, List.getElem?_eq_none (by rw [List.length_map]; omega)]
     rfl
 omega
theorem bf0_some {R : List Rl} {k : Nat} (ho : rOk R k) {g : List Int} (e : bf0 R k = some g) : Sol R k g ∧ hAt g 0 = 0 ∧ ∀ x, Sol R k x → leH g x := by
 unfold bf0 at e
 split at e
 · rename_i g' e'
   split at e
   · rename_i h0
     cases e
     obtain ⟨h1, h2⟩ := bf_some ho e'
     exact ⟨h1, h0, h2⟩
   · cases e
 · cases e
end Go.Pf.Vc
namespace Go.Pf.Vc
open Go Go.Pf
structure Cm where
 f : Rat
 t : Rat
 v : Rat
 m : Bool
instance : Inhabited Cm := ⟨⟨0, 0, 0, false⟩⟩
def encCm (c : Cm) : PV := .agg [.int .i64 c.f.num, .int .i64 c.f.den, .int .i64 c.t.num, .int .i64 c.t.den, .int .i64 c.v.num, .int .i64 c.v.den, .bool c.m]
def Qy.i64 (q : Qy) : Prop := I64 q.an ∧ I64 q.ad ∧ I64 q.bn ∧ I64 q.bd ∧ I64 q.cn ∧ I64 q.cd
theorem aorder_rv {a b c d : Int} (h : RV a b) (k : RV c d) (K : Int → Prop) : w_audit_order a b c d K = K (cmpQ (rt a b) (rt c d)) := by
 obtain ⟨h1, h2, h3⟩ := rt_of h
 obtain ⟨k1, k2, k3⟩ := rt_of k
 unfold w_audit_order wv_audit_order
 have := rCmp_eq h1 k1 (fun x _ => K x)
 rw [h2, h3, k2, k3] at this
 rw [this]
def posR (a b : Int) : Bool := decide (RV a b) && decide (0 ≤ a)
theorem pos_test {a b : Int} (ha : I64 a) (hb : I64 b) (J : Bool → Prop) : w_ratio_Check a b (fun y => cbr (y != 0) (J true) (J (decide (a < 0)))) = J (!posR a b) := by
 rw [rCheck_eq ha hb]
 unfold posR
 by_cases h : RV a b
 · rw [show chk a b = 0 from if_pos h, nz, decide_eq_true h, Bool.true_and]
   congr 1
   rw [Bool.eq_iff_iff]
   simp only [decide_eq_true_eq, Bool.not_eq_true', decide_eq_false_iff_not]
   omega
 · rw [show chk a b = 8 from if_neg h, decide_eq_false h]
   rfl
theorem pos_jn {a b : Int} (ha : I64 a) (hb : I64 b) (F : Bool → Prop) : Go.Pf.jn (fun J : Bool → Prop => w_ratio_Check a b (fun y => cbr (y != (0 : Int)) (J true) (J (decide (a < (0 : Int)))))) F = F (!posR a b) := pos_test ha hb F
def twoP (n : Int) (a b c d : Int) : Bool := decide (rt a b ≤ rt c d) && decide (rt c d ≤ (n : Rat))
def qOk (n : Int) (q : Qy) : Bool := posR q.an q.ad && (posR q.bn q.bd && (posR q.cn q.cd && (if q.kind = 1 then twoP n q.an q.ad q.bn q.bd else if q.kind = 2 then twoP n q.an q.ad q.cn q.cd else false)))
def cmOf (q : Qy) : Cm := if q.kind = 1 then ⟨rt q.an q.ad, rt q.bn q.bd, rt q.cn q.cd, false⟩ else ⟨rt q.an q.ad, rt q.cn q.cd, rt q.bn q.bd, true⟩
theorem claimed_loop {x0 : List PV → Int → Int → Int → Int → Int → Int → Int → Int → Int → Int → Int → Int → Int → Int → Int → Bool → Int → Int → Bool → Prop} {x1 : List PV → Int → Int → Int → Int → Int → Int → Bool → Bool → Prop}
   {a1 b1 a2 b2 a3 b3 : Int} (h1 : I64 a1) (k1 : I64 b1) (h2 : I64 a2) (k2 : I64 b2) (h3 : I64 a3) (k3 : I64 b3) (i1 i2 i3 i4 i5 i6 i7 i8 i9 i10 i11 i12 i13 i14 i15 : Int) (b : Bool) :
   L_audit_claimed_0_0 w_ratio_Check w_audit_order w_audit_whole x0 x1 4 [.agg [.int .i64 a1, .int .i64 b1], .agg [.int .i64 a2, .int .i64 b2], .agg [.int .i64 a3, .int .i64 b3]] i1 i2 i3 i4 i5 i6 i7 i8 i9 i10 i11 i12 i13 i14 i15 b 3 0 =
     if posR a1 b1 && (posR a2 b2 && posR a3 b3) then x0 [.agg [.int .i64 a1, .int .i64 b1], .agg [.int .i64 a2, .int .i64 b2], .agg [.int .i64 a3, .int .i64 b3]] i1 i2 i3 i4 i5 i6 i7 i8 i9 i10 i11 i12 i13 i14 i15 b 3 3 false
     else x1 [.agg [.int .i64 a1, .int .i64 b1], .agg [.int .i64 a2, .int .i64 b2], .agg [.int .i64 a3, .int .i64 b3]] 0 0 0 0 0 0 false false := by
 have e0 : IntKind.i64.wrap ((0 : Int) + 1) = 1 := by decide
 have e1 : IntKind.i64.wrap ((1 : Int) + 1) = 2 := by decide
 have e2 : IntKind.i64.wrap ((2 : Int) + 1) = 3 := by decide
 generalize hr : ([.agg [.int .i64 a1, .int .i64 b1], .agg [.int .i64 a2, .int .i64 b2], .agg [.int .i64 a3, .int .i64 b3]] : List PV) = rows
 have hl : rows.length = 3 := by rw [← hr]; rfl
 have d0 : List.getD rows (0 + (0 : Int).toNat) .nils = .agg [.int .i64 a1, .int .i64 b1] := by rw [← hr]; rfl
 have d1 : List.getD rows (0 + (1 : Int).toNat) .nils = .agg [.int .i64 a2, .int .i64 b2] := by rw [← hr]; rfl
 have d2 : List.getD rows (0 + (2 : Int).toNat) .nils = .agg [.int .i64 a3, .int .i64 b3] := by rw [← hr]; rfl
 have cw : ∀ (a b : Int) (P : Prop), asr (conf (.agg [.i .i64, .i .i64]) (.agg [.int .i64 a, .int .i64 b])) P = P := fun _ _ _ => rfl
 have c0 : ∀ a b : Int, intOfV (cellAt (.agg [.int .i64 a, .int .i64 b]) 0) = a := fun _ _ => rfl
 have c1 : ∀ a b : Int, intOfV (cellAt (.agg [.int .i64 a, .int .i64 b]) 1) = b := fun _ _ => rfl
 rw [L_audit_claimed_0_0]
 dsimp only [lt]
 simp (discharger := omega) only [hl, d0, cw, c0, c1, cbT, asT, e0, decide_true, asr_true, Bool.and_self]
 rw [pos_jn h1 k1]
 cases posR a1 b1 with
 | false => rfl
 | true =>
   rw [Bool.not_true, cbr_false, L_audit_claimed_0_0]
   dsimp only [lt]
   simp (discharger := omega) only [hl, d1, cw, c0, c1, cbT, asT, e1, decide_true, asr_true, Bool.and_self]
   rw [pos_jn h2 k2]
   cases posR a2 b2 with
   | false => rfl
   | true =>
     rw [Bool.not_true, cbr_false, L_audit_claimed_0_0]
     dsimp only [lt]
     simp (discharger := omega) only [hl, d2, cw, c0, c1, cbT, asT, e2, decide_true, asr_true, Bool.and_self]
     rw [pos_jn h3 k3]
     cases posR a3 b3 with
     | false => rfl
     | true =>
       rw [Bool.not_true, cbr_false, L_audit_claimed_0_0, cbF (by decide)]
       rfl
theorem awhole_eq (n : Int) (K : Int → Int → Prop) : w_audit_whole n K = K (n : Rat).num (n : Rat).den := rfl
theorem posR_rv {a b : Int} (h : posR a b = true) : RV a b ∧ 0 ≤ a := by
 unfold posR at h
 simpa using h
theorem small_int3 {n : Int} (h1 : -1000000000000000000 ≤ n) (h2 : n ≤ 1000000000000000000) : small (n : Rat) := ⟨h1, h2, by show ((1 : Nat) : Int) ≤ _; omega⟩
theorem two_test {n a b c d : Int} (hn : small (n : Rat)) (h : RV a b) (k : RV c d) (J : Bool → Prop) :
   w_audit_order a b c d (fun y => cbr (decide (y ≤ 0)) (w_audit_whole n (fun x z => w_audit_order c d x z (fun u => J (decide (u ≤ 0))))) (J false)) = J (twoP n a b c d) := by
 rw [aorder_rv h k, cmpQ_le]
 have hw : RV (n : Rat).num (n : Rat).den := hn.rv
 rw [awhole_eq, aorder_rv k hw, cmpQ_le, rt_self]
 unfold twoP
 rw [show decide (rt a b ≤ rt c d) = !decide (rt c d < rt a b) by rw [← decide_not]; simp [Rat.not_lt], show decide (rt c d ≤ (n : Rat)) = !decide ((n : Rat) < rt c d) by rw [← decide_not]; simp [Rat.not_lt]]
 cases decide (rt c d < rt a b) <;> rfl
theorem claimed_eq {n ag k an ad bn bd cn cd : Int} (h1 : I64 an) (h2 : I64 ad) (h3 : I64 bn) (h4 : I64 bd) (h5 : I64 cn) (h6 : I64 cd) (hn : small (n : Rat)) (K : Int → Int → Int → Int → Int → Int → Bool → Bool → Prop) :
   w_audit_claimed n ag k an ad bn bd cn cd K = if posR an ad && (posR bn bd && posR cn cd) then (if k = 1 then K an ad bn bd cn cd false (twoP n an ad bn bd) else if k = 2 then K an ad cn cd bn bd true (twoP n an ad cn cd) else K 0 0 0 0 0 0 false false) else K 0 0 0 0 0 0 false false := by
 have key : ∀ K, (if posR an ad && (posR bn bd && posR cn cd) then (if k = 1 then K an ad bn bd cn cd false (twoP n an ad bn bd) else if k = 2 then K an ad cn cd bn bd true (twoP n an ad cn cd) else K 0 0 0 0 0 0 false false) else K 0 0 0 0 0 0 false false) → w_audit_claimed n ag k an ad bn bd cn cd K := by
   intro K q
   unfold w_audit_claimed wv_audit_claimed
   refine asr_iff.2 ⟨by simp, 4, ?_⟩
   refine (claimed_loop h1 h2 h3 h4 h5 h6 ..).mpr ?_
   split at q
   · rename_i hp
     rw [if_pos hp]
     simp only [Bool.and_eq_true] at hp
     obtain ⟨p1, p2, p3⟩ := hp
     dsimp only [Go.Pf.jn]
     split at q
     · rename_i hk
       rw [ceT hk, two_test hn (posR_rv p1).1 (posR_rv p2).1 (fun b => K an ad bn bd cn cd false b)]
       exact q
     · rename_i hk
       rw [ceF hk]
       split at q
       · rename_i hk2
         rw [ceT hk2, two_test hn (posR_rv p1).1 (posR_rv p3).1 (fun b => K an ad cn cd bn bd true b)]
         exact q
       · rename_i hk2
         rw [ceF hk2]
         exact q
   · rename_i hp
     rw [if_neg hp]
     exact q
 by_cases hp : (posR an ad && (posR bn bd && posR cn cd)) = true
 · rw [if_pos hp]
   by_cases hk : k = 1
   · rw [if_pos hk]
     exact det_audit_claimed _ _ _ _ _ _ _ _ _ _ _ _ _ _ _ _ _ (fun K q => key K (by rw [if_pos hp, if_pos hk]; exact q)) K
   · rw [if_neg hk]
     by_cases hk2 : k = 2
     · rw [if_pos hk2]
       exact det_audit_claimed _ _ _ _ _ _ _ _ _ _ _ _ _ _ _ _ _ (fun K q => key K (by rw [if_pos hp, if_neg hk, if_pos hk2]; exact q)) K
     · rw [if_neg hk2]
       exact det_audit_claimed _ _ _ _ _ _ _ _ _ _ _ _ _ _ _ _ _ (fun K q => key K (by rw [if_pos hp, if_neg hk, if_neg hk2]; exact q)) K
 · rw [if_neg hp]
   exact det_audit_claimed _ _ _ _ _ _ _ _ _ _ _ _ _ _ _ _ _ (fun K q => key K (by rw [if_neg hp]; exact q)) K
structure Cm.ok (n : Int) (c : Cm) : Prop where
 f : small c.f
 t : small c.t
 v : small c.v
 f0 : 0 ≤ c.f
 v0 : 0 ≤ c.v
 ft : c.f ≤ c.t
 tn : c.t ≤ (n : Rat)
def Qy.q64 (q : Qy) : Prop := I64 q.an ∧ I64 q.ad ∧ I64 q.bn ∧ I64 q.bd ∧ I64 q.cn ∧ I64 q.cd
theorem rt_pos {a b : Int} (h : RV a b) : 0 ≤ rt a b ↔ 0 ≤ a := by
 obtain ⟨_, h2, _⟩ := rt_of h
 rw [← Rat.num_nonneg, h2]
theorem qOk_cm {n : Int} {q : Qy} (h : qOk n q = true) : (cmOf q).ok n := by
 unfold qOk at h
 simp only [Bool.and_eq_true] at h
 obtain ⟨h1, h2, h3, h4⟩ := h
 obtain ⟨r1, p1⟩ := posR_rv h1
 obtain ⟨r2, p2⟩ := posR_rv h2
 obtain ⟨r3, p3⟩ := posR_rv h3
 have s1 := (rt_of r1).1
 have s2 := (rt_of r2).1
 have s3 := (rt_of r3).1
 have q1 := (rt_pos r1).2 p1
 have q2 := (rt_pos r2).2 p2
 have q3 := (rt_pos r3).2 p3
 unfold cmOf
 by_cases hk : q.kind = 1
 · rw [if_pos hk] at h4 ⊢
   unfold twoP at h4
   simp only [Bool.and_eq_true, decide_eq_true_eq] at h4
   exact ⟨s1, s2, s3, q1, q3, h4.1, h4.2⟩
 · rw [if_neg hk] at h4 ⊢
   by_cases hk2 : q.kind = 2
   · rw [if_pos hk2] at h4
     unfold twoP at h4
     simp only [Bool.and_eq_true, decide_eq_true_eq] at h4
     exact ⟨s1, s3, s2, q1, q2, h4.1, h4.2⟩
   · rw [if_neg hk2] at h4; cases h4
theorem claimed_ok {n : Int} {q : Qy} (h64 : q.q64) (hn : small (n : Rat)) (h : qOk n q = true) (K : Int → Int → Int → Int → Int → Int → Bool → Bool → Prop) :
   w_audit_claimed n q.agent q.kind q.an q.ad q.bn q.bd q.cn q.cd K = K (cmOf q).f.num (cmOf q).f.den (cmOf q).t.num (cmOf q).t.den (cmOf q).v.num (cmOf q).v.den (cmOf q).m true := by
 obtain ⟨a1, a2, a3, a4, a5, a6⟩ := h64
 rw [claimed_eq a1 a2 a3 a4 a5 a6 hn]
 unfold qOk at h
 simp only [Bool.and_eq_true] at h
 obtain ⟨h1, h2, h3, h4⟩ := h
 obtain ⟨_, e1, e2⟩ := rt_of (posR_rv h1).1
 obtain ⟨_, e3, e4⟩ := rt_of (posR_rv h2).1
 obtain ⟨_, e5, e6⟩ := rt_of (posR_rv h3).1
 rw [if_pos (by rw [h1, h2, h3]; rfl)]
 unfold cmOf
 by_cases hk : q.kind = 1
 · rw [if_pos hk] at h4 ⊢
   rw [if_pos hk, h4]
   dsimp only
   rw [e1, e2, e3, e4, e5, e6]
 · rw [if_neg hk] at h4 ⊢
   rw [if_neg hk]
   by_cases hk2 : q.kind = 2
   · rw [if_pos hk2] at h4 ⊢
     rw [h4]
     dsimp only
     rw [e1, e2, e3, e4, e5, e6]
   · rw [if_neg hk2] at h4; cases h4
theorem claimed_no {n : Int} {q : Qy} (h64 : q.q64) (hn : small (n : Rat)) (h : qOk n q = false) {K : Int → Int → Int → Int → Int → Int → Bool → Bool → Prop} {K0 : Prop} (hK : ∀ a b c d e f g, K a b c d e f g false = K0) :
   w_audit_claimed n q.agent q.kind q.an q.ad q.bn q.bd q.cn q.cd K = K0 := by
 obtain ⟨a1, a2, a3, a4, a5, a6⟩ := h64
 rw [claimed_eq a1 a2 a3 a4 a5 a6 hn]
 unfold qOk at h
 split
 · rename_i hp
   simp only [Bool.and_eq_true] at hp
   obtain ⟨h1, h2, h3⟩ := hp
   rw [h1, h2, h3, Bool.true_and, Bool.true_and, Bool.true_and] at h
   split
   · rename_i hk; rw [if_pos hk] at h; rw [h]; exact hK ..
   · rename_i hk
     rw [if_neg hk] at h
     split
     · rename_i hk2; rw [if_pos hk2] at h; rw [h]; exact hK ..
     · exact hK ..
 · exact hK ..
end Go.Pf.Vc
namespace Go.Pf.Vc
open Go Go.Pf
def cms (l : List Cm) : List PV := l.map encCm
theorem cms_len (l : List Cm) : (cms l).length = l.length := List.length_map ..
theorem cms_at {l : List Cm} {i : Nat} (h : i < l.length) : List.getD (cms l) i .nils = encCm (l.getD i default) := by
 unfold cms
 rw [List.getD_eq_getElem?_getD, List.getD_eq_getElem?_getD, List.getElem?_map, List.getElem?_eq_getElem h]
 rfl
theorem asCm (c : Cm) (P : Prop) : asr (conf (.agg [.i .i64, .i .i64, .i .i64, .i .i64, .i .i64, .i .i64, .b]) (encCm c)) P = P := rfl
theorem encCm0 (c : Cm) : intOfV (cellAt (encCm c) 0) = c.f.num := rfl
theorem encCm1 (c : Cm) : intOfV (cellAt (encCm c) 1) = c.f.den := rfl
theorem encCm2 (c : Cm) : intOfV (cellAt (encCm c) 2) = c.t.num := rfl
theorem encCm3 (c : Cm) : intOfV (cellAt (encCm c) 3) = c.t.den := rfl
theorem encCm4 (c : Cm) : intOfV (cellAt (encCm c) 4) = c.v.num := rfl
theorem encCm5 (c : Cm) : intOfV (cellAt (encCm c) 5) = c.v.den := rfl
theorem encCm6 (c : Cm) : boolOfV (cellAt (encCm c) 6) = c.m := rfl
theorem cms_one (c : Cm) : ([.agg [.int .i64 c.f.num, .int .i64 c.f.den, .int .i64 c.t.num, .int .i64 c.t.den, .int .i64 c.v.num, .int .i64 c.v.den, .bool c.m]] : List PV) = cms [c] := rfl
theorem cms_app (a b : List Cm) : cms a ++ cms b = cms (a ++ b) := by unfold cms; rw [List.map_append]
theorem cms_take (l : List Cm) (n : Nat) : List.take n (cms l) = cms (l.take n) := by unfold cms; rw [List.map_take]
theorem encQ0 (q : Qy) : intOfV (cellAt (encQ q) 0) = q.agent := rfl
theorem encQ1 (q : Qy) : intOfV (cellAt (encQ q) 1) = q.kind := rfl
theorem encQ2 (q : Qy) : intOfV (cellAt (encQ q) 2) = q.an := rfl
theorem encQ3 (q : Qy) : intOfV (cellAt (encQ q) 3) = q.ad := rfl
theorem encQ4 (q : Qy) : intOfV (cellAt (encQ q) 4) = q.bn := rfl
theorem encQ5 (q : Qy) : intOfV (cellAt (encQ q) 5) = q.bd := rfl
theorem encQ6 (q : Qy) : intOfV (cellAt (encQ q) 6) = q.cn := rfl
theorem encQ7 (q : Qy) : intOfV (cellAt (encQ q) 7) = q.cd := rfl
theorem q64_at {log : List Qy} (h : ∀ q ∈ log, q.q64) {i : Nat} (hi : i < log.length) : (log.getD i default).q64 := by
 rw [List.getD_eq_getElem?_getD, List.getElem?_eq_getElem hi]
 exact h _ (List.getElem_mem hi)
theorem claims_loop {N : Int} (hN : small (N : Rat)) {log : List Qy} (h64 : ∀ q ∈ log, q.q64) (hl : log.length < 1000) {x0 : Int → List PV → Int → Int → Bool → Prop} {x1 : Int → Prop} {x2 : List PV → Int → List PV → Int → Int → Bool → Prop} {x3 : List PV → Int → Prop} {X : Prop} (hx3 : ∀ l, x3 l 8 = X) :
   ∀ (r i n : Nat) (acc : List Cm), i + r = log.length → r < n → acc.length ≤ i →
     L_audit_claims_0_1 w_audit_claimed x0 x1 x2 x3 n (cms acc) N (logs log) (log.length : Int) (i : Int) = if (log.drop i).all (qOk N) then x2 (cms (acc ++ (log.drop i).map cmOf)) N (logs log) (log.length : Int) (log.length : Int) false else X := by
 intro r
 induction r with
 | zero =>
   intro i n acc hi hn ha
   obtain ⟨n, rfl⟩ : ∃ m, n = m + 1 := ⟨n - 1, by omega⟩
   obtain rfl : i = log.length := by omega
   rw [L_audit_claims_0_1, cbF (by omega), List.drop_length]
   simp
 | succ r ih =>
   intro i n acc hi hn ha
   obtain ⟨n, rfl⟩ : ∃ m, n = m + 1 := ⟨n - 1, by omega⟩
   have hil : i < log.length := by omega
   have e1 := wib (n := (i : Int) + 1) (by omega) (by omega)
   have hd : log.drop i = log.getD i default :: log.drop (i + 1) := drop_cons default hil
   have hq := q64_at h64 hil
   generalize log.getD i default = q at hd hq
   have hq2 := logs_at hil
   rw [L_audit_claims_0_1, cbT (by omega)]
   dsimp only [lt]
   rw [logs_len, asT (by omega), asT (by omega), Int.toNat_natCast, hq2]
   have hge : log.getD i default = q := by
     have := congrArg List.head? hd
     rw [drop_cons default hil] at this
     simpa using this
   rw [hge, asQ, encQ0, encQ1, encQ2, encQ3, encQ4, encQ5, encQ6, encQ7, hd, List.all_cons]
   cases hk : qOk N q with
   | false =>
     rw [claimed_no hq hN hk (K0 := X) (fun a b c d e f g => by rw [Bool.not_false, cbr_true, hx3])]
     rfl
   | true =>
     rw [claimed_ok hq hN hk, Bool.not_true, cbr_false, cms_len, asE, asT (by omega), asNo (by omega), asE, asT (by show _ ≤ 35184372088832; omega), e1, cms_one, cms_app, asEE, asE, cast1, ih (i + 1) n _ (by omega) (by omega) (by simp; omega)]
     simp [List.append_assoc]
def claimsE (n : Int) (log : List Qy) : Int := if n < 1 ∨ n > 1000 then 2 else if log.length > 40 then 4 else if log.all (qOk n) then 0 else 8
theorem claims_eq {N : Int} {log : List Qy} (h64 : ∀ q ∈ log, q.q64) (hl : log.length < 1000) (K : List PV → Int → Prop) :
   w_audit_claims N (logs log) K = K (if claimsE N log = 0 then cms (log.map cmOf) else []) (claimsE N log) := by
 refine det_audit_claims _ _ _ _ (fun K k => ?_) K
 unfold w_audit_claims wv_audit_claims
 dsimp only [Go.Pf.jn]
 rw [logs_len]
 by_cases h1 : N < 1
 · have e : claimsE N log = 2 := by unfold claimsE; rw [if_pos (.inl h1)]
   rw [e] at k
   rw [cbT h1, cbr_true]; exact k
 · rw [cbF h1]
   by_cases h2 : N > 1000
   · have e : claimsE N log = 2 := by unfold claimsE; rw [if_pos (.inr h2)]
     rw [e] at k
     rw [decide_eq_true h2, cbr_true]; exact k
   · have e : claimsE N log = if log.length > 40 then 4 else if log.all (qOk N) then 0 else 8 := by unfold claimsE; rw [if_neg (by omega)]
     rw [e] at k
     clear e
     rw [decide_eq_false h2, cbr_false]
     by_cases h3 : log.length > 40
     · rw [if_pos h3] at k
       rw [cbT (by omega)]; exact k
     · rw [if_neg h3] at k
       rw [cbF (by omega)]
       have hN : small (N : Rat) := small_int3 (by omega) (by omega)
       refine ⟨log.length + 1, ?_⟩
       cases log with
       | nil =>
         rw [L_audit_claims_0_0, cbF (by simp)]
         exact k
       | cons q t =>
         have hq := h64 q List.mem_cons_self
         have e1 := wib (n := (0 : Int) + 1) (by omega) (by omega)
         have hat : List.getD (logs (q :: t)) ((0 : Int).toNat) .nils = encQ q := rfl
         rw [L_audit_claims_0_0, cbT (by simp only [List.length_cons]; omega)]
         dsimp only [lt]
         rw [logs_len, asT (by omega), asT (by simp only [List.length_cons]; omega), hat, asQ, encQ0, encQ1, encQ2, encQ3, encQ4, encQ5, encQ6, encQ7]
         rw [List.all_cons] at k
         cases hk : qOk N q with
         | false =>
           rw [hk] at k
           rw [claimed_no hq hN hk (K0 := K [] 8) (fun a b c d e f g => by rw [Bool.not_false, cbr_true])]
           exact k
         | true =>
           rw [hk, Bool.true_and] at k
           rw [claimed_ok hq hN hk, Bool.not_true, cbr_false, e1, cms_one]
           refine asr_iff.2 ⟨by simp [cms], ?_⟩
           refine (claims_loop (log := q :: t) hN h64 hl (X := K [] 8) (fun _ => rfl) t.length 1 _ [cmOf q] (by simp; omega) (by simp) (by simp)).mpr ?_
           simp only [List.drop_succ_cons, List.drop_zero]
           split
           · rename_i ht
             rw [if_pos ht] at k
             rw [asTr, cms_len, asT (by omega), ← cms_len, List.take_length]
             exact k
           · rename_i ht
             rw [if_neg ht] at k
             exact k
theorem auCheck_eq {N : Int} {log : List Qy} (h64 : ∀ q ∈ log, q.q64) (hl : log.length < 1000) (K : Int → Prop) : w_audit_Check N (logs log) K = K (claimsE N log) := by
 unfold w_audit_Check wv_audit_Check
 rw [claims_eq h64 hl]
theorem claimsE_zero {N : Int} {log : List Qy} (h : claimsE N log = 0) : 1 ≤ N ∧ N ≤ 1000 ∧ log.length ≤ 40 ∧ log.all (qOk N) = true := by
 unfold claimsE at h
 split at h
 · cases h
 · split at h
   · cases h
   · split at h
     · rename_i h1 h2 h3; exact ⟨by omega, by omega, by omega, h3⟩
     · cases h
theorem claimsE_ok {N : Int} {log : List Qy} (h : claimsE N log = 0) : ∀ c ∈ log.map cmOf, c.ok N := by
 obtain ⟨_, _, _, h4⟩ := claimsE_zero h
 intro c hc
 obtain ⟨q, hq, rfl⟩ := List.mem_map.1 hc
 exact qOk_cm (List.all_eq_true.1 h4 q hq)
end Go.Pf.Vc
namespace Go.Pf.Vc
open Go Go.Pf Go.Sort
def dedR : Rat → List Rat → List Rat
 | _, [] => []
 | p, x :: r => if x = p then dedR p r else x :: dedR x r
def compR : List Rat → List Rat
 | [] => []
 | x :: r => x :: dedR x r
theorem dedR_len : ∀ (p : Rat) (r : List Rat), (dedR p r).length ≤ r.length
 | _, [] => Nat.le_refl _
 | p, x :: r => by
   unfold dedR
   split
   · have := dedR_len p r; simp only [List.length_cons]; omega
   · have := dedR_len x r; simp only [List.length_cons]; omega
theorem dedR_is : ∀ (p : Rat) (r : List Rat), (p :: r).Pairwise (· ≤ ·) → (∀ z ∈ dedR p r, p < z) ∧ incrR (dedR p r) ∧ ∀ z, z ∈ p :: dedR p r ↔ z ∈ p :: r
 | p, [], _ => ⟨fun z hz => by simp [dedR] at hz, trivial, fun z => Iff.rfl⟩
 | p, x :: r, h => by
   rw [List.pairwise_cons] at h
   obtain ⟨h1, h2⟩ := h
   have hpx := h1 x List.mem_cons_self
   unfold dedR
   by_cases e : x = p
   · rw [if_pos e]
     subst e
     obtain ⟨i1, i2, i3⟩ := dedR_is x r h2
     refine ⟨i1, i2, fun z => ?_⟩
     rw [i3 z]
     simp
   · rw [if_neg e]
     obtain ⟨i1, i2, i3⟩ := dedR_is x r h2
     have hlt : p < x := by grind
     refine ⟨fun z hz => ?_, ⟨i1, i2⟩, fun z => ?_⟩
     · rcases List.mem_cons.1 hz with rfl | hz
       · exact hlt
       · have := i1 z hz; grind
     · rw [List.mem_cons, i3 z, List.mem_cons (a := z) (b := p)]
theorem compR_is {l : List Rat} (h : l.Pairwise (· ≤ ·)) : incrR (compR l) ∧ ∀ z, z ∈ compR l ↔ z ∈ l := by
 cases l with
 | nil => exact ⟨trivial, fun z => Iff.rfl⟩
 | cons x r =>
   obtain ⟨h1, h2, h3⟩ := dedR_is x r h
   exact ⟨⟨h1, h2⟩, h3⟩
theorem incr_unique : ∀ {a b : List Rat}, incrR a → incrR b → (∀ z, z ∈ a ↔ z ∈ b) → a = b
 | [], [], _, _, _ => rfl
 | [], y :: b, _, _, h => by have := (h y).2 List.mem_cons_self; cases this
 | x :: a, [], _, _, h => by have := (h x).1 List.mem_cons_self; cases this
 | x :: a, y :: b, h1, h2, h => by
   have e : x = y := by
     rcases List.mem_cons.1 ((h x).1 List.mem_cons_self) with e | hx
     · exact e
     · rcases List.mem_cons.1 ((h y).2 List.mem_cons_self) with e | hy
       · exact e.symm
       · have := h2.1 x hx
         have := h1.1 y hy
         grind
   subst e
   rw [incr_unique h1.2 h2.2 fun z => ?_]
   constructor
   · intro hz
     rcases List.mem_cons.1 ((h z).1 (List.mem_cons_of_mem _ hz)) with e | hz2
     · have := h1.1 z hz; subst e; exact absurd this Rat.lt_irrefl
     · exact hz2
   · intro hz
     rcases List.mem_cons.1 ((h z).2 (List.mem_cons_of_mem _ hz)) with e | hz2
     · have := h2.1 z hz; subst e; exact absurd this Rat.lt_irrefl
     · exact hz2
theorem take_set_snoc {l : List Rat} {k : Nat} {a : Rat} (h : k < l.length) : (l.set k a).take (k + 1) = l.take k ++ [a] := by
 apply List.ext_getElem?
 intro i
 rw [List.getElem?_take, List.getElem?_set]
 by_cases h1 : i < k
 · rw [if_pos (by omega), if_neg (by omega), List.getElem?_append_left (by simp; omega), List.getElem?_take, if_pos h1]
 · by_cases h2 : i = k
   · subst h2
     rw [if_pos (by omega), if_pos rfl, if_pos h, List.getElem?_append_right (by rw [List.length_take]; omega), List.length_take, Nat.min_eq_left (by omega), Nat.sub_self]
     rfl
   · rw [if_neg (by omega), List.getElem?_append_right (by rw [List.length_take]; omega)]
     rw [List.getElem?_eq_none]
     rw [List.length_take, List.length_singleton]; omega
theorem wibN {n : Nat} (h : n ≤ 9223372036854775807) : IntKind.i64.wrap (n : Int) = (n : Int) := wib (by omega) (by omega)
theorem copy_loop {orig : List Rat} (hl : orig.length < 1000000) {k0 : Nat} {a0 : T_audit_whole} {x : List PV → Nat → Nat → Int → Nat → Nat → Nat → Int → Bool → Prop} :
   ∀ (r j n : Nat) (cur : List Rat) (k : Nat), k0 + j + r = orig.length → 1 ≤ j → r < n → cur.length = orig.length → k0 ≤ k → k + 1 ≤ k0 + j → (∀ i, k0 + j ≤ i + 1 → cur.getD i 0 = orig.getD i 0) →
     ∃ cur' : List Rat, cur'.length = orig.length ∧ cur'.take (k + (dedR (orig.getD (k0 + j - 1) 0) (orig.drop (k0 + j))).length) = cur.take k ++ dedR (orig.getD (k0 + j - 1) 0) (orig.drop (k0 + j)) ∧
       L_audit_pointsOf_2_0 a0 x n (rts cur) orig.length orig.length (k : Int) k0 (orig.length - k0) orig.length (j : Int) = x (rts cur') orig.length orig.length ((k + (dedR (orig.getD (k0 + j - 1) 0) (orig.drop (k0 + j))).length : Nat) : Int) k0 (orig.length - k0) orig.length ((orig.length - k0 : Nat) : Int) false := by
 intro r
 induction r with
 | zero =>
   intro j n cur k hj h1 hn hc hk0 hk hr
   obtain ⟨n, rfl⟩ : ∃ m, n = m + 1 := ⟨n - 1, by omega⟩
   have e : orig.drop (k0 + j) = [] := List.drop_eq_nil_of_le (by omega)
   rw [e]
   refine ⟨cur, hc, by simp [dedR], ?_⟩
   rw [L_audit_pointsOf_2_0, cbF (by omega)]
   simp only [dedR, List.length_nil, Nat.add_zero]
   rw [show orig.length - k0 = j by omega]
 | succ r ih =>
   intro j n cur k hj h1 hn hc hk0 hk hr
   obtain ⟨n, rfl⟩ : ∃ m, n = m + 1 := ⟨n - 1, by omega⟩
   have hil : k0 + j < orig.length := by omega
   have hd : orig.drop (k0 + j) = orig.getD (k0 + j) 0 :: orig.drop (k0 + j + 1) := drop_cons 0 hil
   have e1 := wib (n := (j : Int) - 1) (by omega) (by omega)
   have e2 := wib (n := (j : Int) + 1) (by omega) (by omega)
   have e3 := wib (n := (k : Int) + 1) (by omega) (by omega)
   have e4 : (j : Int) - 1 = ((j - 1 : Nat) : Int) := by omega
   rw [e4] at e1
   have g1 := hr (k0 + j) (by omega)
   have g2 := hr (k0 + (j - 1)) (by omega)
   rw [L_audit_pointsOf_2_0]
   dsimp only [lt, Go.Pf.jn]
   simp (discharger := omega) only [rts_len, hc, cbT, asT, Int.toNat_natCast, Nat.zero_add, rts_at, asW, encW0, encW1, ratEq, e4, encW_is, rts_set, cast1, wibN, asTr]
   rw [g1, g2, show k0 + (j - 1) = k0 + j - 1 by omega, hd]
   by_cases h : orig.getD (k0 + j) 0 = orig.getD (k0 + j - 1) 0
   · have hD : dedR (orig.getD (k0 + j - 1) 0) (orig.getD (k0 + j) 0 :: orig.drop (k0 + j + 1)) = dedR (orig.getD (k0 + (j + 1) - 1) 0) (orig.drop (k0 + (j + 1))) := by
       rw [dedR, if_pos h, ← h]
       rfl
     obtain ⟨cur', c1, c2, c3⟩ := ih (j + 1) n cur k (by omega) (by omega) (by omega) hc hk0 (by omega) (fun i hi => hr i (by omega))
     rw [hD]
     refine ⟨cur', c1, c2, ?_⟩
     rw [decide_eq_true h, Bool.not_true, cbr_false, c3]
   · have hD : dedR (orig.getD (k0 + j - 1) 0) (orig.getD (k0 + j) 0 :: orig.drop (k0 + j + 1)) = orig.getD (k0 + j) 0 :: dedR (orig.getD (k0 + (j + 1) - 1) 0) (orig.drop (k0 + (j + 1))) := by
       rw [dedR, if_neg h]
       rfl
     obtain ⟨cur', c1, c2, c3⟩ := ih (j + 1) n (cur.set k (orig.getD (k0 + j) 0)) (k + 1) (by omega) (by omega) (by omega) (by simp [hc]) (by omega) (by omega) (fun i hi => by
       rw [List.getD_eq_getElem?_getD, List.getElem?_set, if_neg (by omega), ← List.getD_eq_getElem?_getD]
       exact hr i (by omega))
     rw [hD]
     refine ⟨cur', c1, ?_, ?_⟩
     · rw [List.length_cons, show k + ((dedR (orig.getD (k0 + (j + 1) - 1) 0) (orig.drop (k0 + (j + 1)))).length + 1) = k + 1 + (dedR (orig.getD (k0 + (j + 1) - 1) 0) (orig.drop (k0 + (j + 1)))).length by omega, c2, take_set_snoc (by omega), List.append_assoc]
       rfl
     · rw [decide_eq_false h, Bool.not_false, cbr_true, c3, List.length_cons, show k + ((dedR (orig.getD (k0 + (j + 1) - 1) 0) (orig.drop (k0 + (j + 1)))).length + 1) = k + 1 + (dedR (orig.getD (k0 + (j + 1) - 1) 0) (orig.drop (k0 + (j + 1)))).length by omega]
theorem comp_loop {l : List Rat} (hl : l.length < 1000000) {a0 : T_audit_whole} {x0 : List PV → Nat → Nat → Int → Bool → Prop} {x1 : List PV → Nat → Nat → Prop} {J : List PV → Nat → Nat → Prop} (h0 : ∀ a b c i d, x0 a b c i d = J a b c) (h1 : ∀ a b c, x1 a b c = J a b c) :
   ∀ (r k n : Nat), k + r = l.length → 1 ≤ k → r < n → (∀ L : List PV, L.length = l.length → List.take (k + (dedR (l.getD (k - 1) 0) (l.drop k)).length) L = rts (l.take k ++ dedR (l.getD (k - 1) 0) (l.drop k)) → J L (k + (dedR (l.getD (k - 1) 0) (l.drop k)).length) l.length) →
     L_audit_pointsOf_1_0 a0 x0 x1 n (rts l) l.length l.length (k : Int) := by
 intro r
 induction r with
 | zero =>
   intro k n hk hk1 hn q
   obtain ⟨n, rfl⟩ : ∃ m, n = m + 1 := ⟨n - 1, by omega⟩
   rw [L_audit_pointsOf_1_0, cbF (by omega), h0]
   have e : l.drop k = [] := List.drop_eq_nil_of_le (by omega)
   rw [e] at q
   simp only [dedR, List.length_nil, Nat.add_zero, List.append_nil] at q
   have := q (rts l) (rts_len l) (rts_take l k)
   rw [show k = l.length by omega] at this
   exact this
 | succ r ih =>
   intro k n hk hk1 hn q
   obtain ⟨n, rfl⟩ : ∃ m, n = m + 1 := ⟨n - 1, by omega⟩
   have hil : k < l.length := by omega
   have hd : l.drop k = l.getD k 0 :: l.drop (k + 1) := drop_cons 0 hil
   have e1 := wib (n := (k : Int) - 1) (by omega) (by omega)
   have e2 := wib (n := (k : Int) + 1) (by omega) (by omega)
   have e4 : (k : Int) - 1 = ((k - 1 : Nat) : Int) := by omega
   rw [e4] at e1
   rw [L_audit_pointsOf_1_0]
   dsimp only [lt]
   simp (discharger := omega) only [rts_len, cbT, asT, Int.toNat_natCast, Nat.zero_add, rts_at, asW, encW0, encW1, ratEq, e4, cast1, wibN, asTr]
   by_cases h : l.getD k 0 = l.getD (k - 1) 0
   · rw [cbT h]
     refine asr_iff.2 ⟨by simp, l.length + 1, ?_⟩
     obtain ⟨cur', c1, c2, c3⟩ := copy_loop (a0 := a0) hl (k0 := k) (x := fun yl91 yn92 yn93 yi94 _ _ _ _ _ => (Go.Pf.jn (fun (yj101 : List PV → Prop) =>
       (asr (decide ((0 : Int) ≤ yi94))
       (asr (decide (yi94 ≤ ((yn92 : Nat) : Int)))
       (asr ((decide (((yn92 : Nat) : Int) ≤ ((yn92 : Nat) : Int))) || (decide (((yn92 : Nat) : Int) ≤ ((yn92 : Nat) : Int))))
       (cbr (decide (((((yn92 : Nat) : Int) - yi94).toNat) = 0))
       (yj101 yl91)
       (asr (decide ((List.length yl91) = yn93))
       (asr (decide (((yi94.toNat) + ((((yn92 : Nat) : Int) - yi94).toNat)) ≤ yn93))
       (yj101 ((List.take (yi94.toNat) yl91) ++ ((List.replicate ((((yn92 : Nat) : Int) - yi94).toNat) ((.agg [(.int .i64 (0)), (.int .i64 (0))]) : PV)) ++ (List.drop ((yi94.toNat) + ((((yn92 : Nat) : Int) - yi94).toNat)) yl91)))))))))))
       (fun yl100 => (asr (decide ((0 : Int) ≤ yi94))
       (asr ((decide (yi94 ≤ ((yn92 : Nat) : Int))) || (decide (yi94 ≤ ((yn92 : Nat) : Int))))
       (x1 yl100 ((yi94 - (0 : Int)).toNat) yn93)))))) (l.length - k - 1) 1 (l.length + 1) l k (by omega) (by omega) (by omega) rfl (by omega) (by omega) (fun i hi => rfl)
     have ed : dedR (l.getD (k - 1) 0) (l.drop k) = dedR (l.getD (k + 1 - 1) 0) (l.drop (k + 1)) := by
       rw [hd, dedR, if_pos h, ← h]
       rfl
     rw [ed] at q
     have eN : (((l.length : Nat) : Int) - (k : Int)).toNat = l.length - k := by omega
     rw [eN, show ((1 : Nat) : Int) = 1 from rfl] at *
     refine c3.mpr ?_
     have hD := dedR_len (l.getD (k + 1 - 1) 0) (l.drop (k + 1))
     rw [List.length_drop] at hD
     generalize dedR (l.getD (k + 1 - 1) 0) (l.drop (k + 1)) = D at *
     dsimp only [Go.Pf.jn]
     rw [asT (by omega), asT (by omega), decide_eq_true (Int.le_refl _), Bool.true_or, asr_true, cbF (by omega), rts_len, c1, asE]
     rw [asT (by omega), asT (by omega), decide_eq_true (show (((k + D.length : Nat) : Nat) : Int) ≤ (l.length : Int) by omega), Bool.true_or, asr_true, h1]
     have e5 : (((k + D.length : Nat) : Nat) : Int) - 0 = ((k + D.length : Nat) : Int) := by omega
     rw [e5, Int.toNat_natCast]
     refine q _ ?_ ?_
     · simp only [List.length_append, List.length_take, List.length_replicate, List.length_drop, rts_len, c1]
       omega
     · rw [List.take_append_of_le_length (by rw [List.length_take, rts_len]; omega), List.take_take, Nat.min_self, rts_take, c2]
   · rw [cbF h]
     have ed : dedR (l.getD (k - 1) 0) (l.drop k) = l.getD k 0 :: dedR (l.getD (k + 1 - 1) 0) (l.drop (k + 1)) := by
       rw [hd, dedR, if_neg h]
       rfl
     refine ih (k + 1) n (by omega) (by omega) (by omega) fun L hL hT => ?_
     rw [ed] at q
     have e6 : k + (l.getD k 0 :: dedR (l.getD (k + 1 - 1) 0) (l.drop (k + 1))).length = k + 1 + (dedR (l.getD (k + 1 - 1) 0) (l.drop (k + 1))).length := by simp only [List.length_cons]; omega
     have e7 : l.take k ++ l.getD k 0 :: dedR (l.getD (k + 1 - 1) 0) (l.drop (k + 1)) = l.take (k + 1) ++ dedR (l.getD (k + 1 - 1) 0) (l.drop (k + 1)) := by
       rw [show l.take (k + 1) = l.take k ++ [l.getD k 0] by
         rw [List.take_add_one, List.getD_eq_getElem?_getD, List.getElem?_eq_getElem hil]
         rfl]
       simp
     rw [e6, e7] at q
     exact q L hL hT
end Go.Pf.Vc
namespace Go.Pf.Vc
open Go Go.Pf Go.Sort
theorem rtCmp_lt {x y : PV} (hx : rtGood x = true) (hy : rtGood y = true) : rtCmp x y < 0 ↔ ratOf x < ratOf y := by
 unfold rtGood at hx hy
 split at hx
 · split at hy
   · simp only [rtCmp, ratOf]
     exact cmpI_lt (rvB_iff.1 hx) (rvB_iff.1 hy)
   · cases hy
 · cases hx
theorem El_goodW {n g : Nat} (x : (rtSrt n g).s.El) : rtGood x.1 = true := by
 have := x.2
 simp only [Srt.gd, Bool.and_eq_true] at this
 exact this.2
theorem rt_swo (n g : Nat) : SWO (fun x y : (rtSrt n g).s.El => decide ((rtSrt n g).cf x y < 0)) where
 irrefl x := by
   have := rtCmp_lt (El_goodW x) (El_goodW x)
   show decide (rtCmp x.1 x.1 < 0) = false
   rw [decide_eq_false_iff_not, this]
   exact Rat.lt_irrefl
 trans x y z h1 h2 := by
   have h1 : decide (rtCmp x.1 y.1 < 0) = true := h1
   have h2 : decide (rtCmp y.1 z.1 < 0) = true := h2
   show decide (rtCmp x.1 z.1 < 0) = true
   rw [decide_eq_true_eq, rtCmp_lt (El_goodW _) (El_goodW _)] at *
   grind
 ntrans x y z h1 h2 := by
   have h1 : decide (rtCmp x.1 y.1 < 0) = false := h1
   have h2 : decide (rtCmp y.1 z.1 < 0) = false := h2
   show decide (rtCmp x.1 z.1 < 0) = false
   rw [decide_eq_false_iff_not, rtCmp_lt (El_goodW _) (El_goodW _)] at *
   grind
theorem gd_encW (n g : Nat) {q : Rat} (h : small q) : (rtSrt n g).s.gd (encW q) = true := by
 have h1 := h.i1
 have h2 := h.i2
 have e1 : IntKind.i64.min = -9223372036854775808 := by decide
 have e2 : IntKind.i64.max = 9223372036854775807 := by decide
 simp only [Srt.gd, rtSrt, okI, encW, okL, rtGood, Bool.and_eq_true, decide_eq_true_eq, e1, e2]
 unfold I64 at h1 h2
 exact ⟨⟨trivial, h1.1, h1.2, trivial, h2.1, h2.2, trivial⟩, rvB_iff.2 h.rv⟩
def decW : PV → Rat
 | .agg [.int _ a, .int _ b] => rt a b
 | _ => 0
theorem decW_enc (q : Rat) : decW (encW q) = q := rt_self q
theorem ratOf_enc (q : Rat) : ratOf (encW q) = q := rt_self q
theorem sorted_rt (n g : Nat) {l : List Rat} (h : ∀ s ∈ l, small s) : ∃ l' : List Rat, l'.Perm l ∧ l'.Pairwise (· ≤ ·) ∧ Srt.sorted (rtSrt n g).s (rtSrt n g).srt (rts l) = rts l' := by
 obtain ⟨d, hd⟩ := rows_some (s := (rtSrt n g).s) (l := rts l) fun x hx => by
   obtain ⟨s, hs, rfl⟩ := List.mem_map.1 hx
   exact gd_encW n g (h s hs)
 obtain ⟨d', h1, h2, h3⟩ := (rtSrt n g).sorted_is (rt_swo n g) hd
 have hv := Srt.rows?_val hd
 have hp : (d'.map (·.1)).Perm (rts l) := by rw [← hv]; exact h1.map _
 have hm : ∀ x ∈ d'.map (·.1), ∃ s ∈ l, encW s = x := fun x hx => List.mem_map.1 (hp.mem_iff.1 hx)
 refine ⟨(d'.map (·.1)).map decW, ?_, ?_, ?_⟩
 · have this : (List.map decW (d'.map (·.1))).Perm (List.map decW (l.map encW)) := hp.map decW
   have e : List.map decW (l.map encW) = l := by rw [List.map_map, show decW ∘ encW = id from funext decW_enc, List.map_id]
   rw [e] at this
   exact this
 · rw [List.map_map, List.pairwise_map]
   refine h2.imp_of_mem fun {x y} hx hy hxy => ?_
   have hxy : ¬ rtCmp y.1 x.1 < 0 := hxy
   rw [rtCmp_lt (El_goodW _) (El_goodW _)] at hxy
   obtain ⟨s, _, es⟩ := hm x.1 (List.mem_map_of_mem hx)
   obtain ⟨t, _, et⟩ := hm y.1 (List.mem_map_of_mem hy)
   show decW x.1 ≤ decW y.1
   rw [← es, ← et] at hxy ⊢
   rw [ratOf_enc, ratOf_enc] at hxy
   rw [decW_enc, decW_enc]
   grind
 · rw [h3]
   have key : ∀ (xs : List PV), (∀ x ∈ xs, ∃ s ∈ l, encW s = x) → (xs.map decW).map encW = xs := by
     intro xs
     induction xs with
     | nil => intro _; rfl
     | cons x r ih =>
       intro h
       obtain ⟨s, _, es⟩ := h x List.mem_cons_self
       rw [List.map_cons, List.map_cons, ih fun y hy => h y (List.mem_cons_of_mem _ hy), ← es, decW_enc]
   exact (key _ hm).symm
def Cm.rs (c : Cm) : RS := (c.f, c.t)
def ptsC (N : Int) (L : List Cm) : List Rat := endsR (L.map Cm.rs) [0, (N : Rat)]
def flatC (L : List Cm) : List Rat := L.flatMap fun c => [c.f, c.t]
theorem endsR_mem : ∀ (a : List RS) (out : List Rat) (z : Rat), z ∈ endsR a out ↔ z ∈ out ∨ ∃ s ∈ a, z = s.1 ∨ z = s.2
 | [], out, z => by simp [endsR]
 | s :: a, out, z => by
   show z ∈ endsR a (insR s.2 (insR s.1 out)) ↔ _
   rw [endsR_mem a, insR_mem, insR_mem]
   constructor
   · rintro ((h | h | h) | ⟨t, h1, h2⟩)
     · exact .inr ⟨s, List.mem_cons_self, .inr h⟩
     · exact .inr ⟨s, List.mem_cons_self, .inl h⟩
     · exact .inl h
     · exact .inr ⟨t, List.mem_cons_of_mem _ h1, h2⟩
   · rintro (h | ⟨t, h1, h2⟩)
     · exact .inl (.inr (.inr h))
     · rcases List.mem_cons.1 h1 with rfl | h1
       · rcases h2 with h2 | h2
         · exact .inl (.inr (.inl h2))
         · exact .inl (.inl h2)
       · exact .inr ⟨t, h1, h2⟩
theorem ptsC_mem {N : Int} {L : List Cm} {z : Rat} : z ∈ ptsC N L ↔ z = 0 ∨ z = (N : Rat) ∨ ∃ c ∈ L, z = c.f ∨ z = c.t := by
 unfold ptsC
 rw [endsR_mem]
 constructor
 · rintro (h | ⟨s, h1, h2⟩)
   · simp only [List.mem_cons, List.not_mem_nil, or_false] at h
     rcases h with h | h
     · exact .inl h
     · exact .inr (.inl h)
   · obtain ⟨c, hc, rfl⟩ := List.mem_map.1 h1
     exact .inr (.inr ⟨c, hc, h2⟩)
 · rintro (h | h | ⟨c, h1, h2⟩)
   · exact .inl (by simp [h])
   · exact .inl (by simp [h])
   · exact .inr ⟨c.rs, List.mem_map_of_mem h1, h2⟩
theorem ptsC_incr {N : Int} (hN : 1 ≤ N) (L : List Cm) : incrR (ptsC N L) := by
 refine endsR_incr _ _ ⟨fun y hy => ?_, ⟨(fun y hy => by cases hy), trivial⟩⟩
 simp only [List.mem_cons, List.not_mem_nil, or_false] at hy
 subst hy
 have : (0 : Rat) < ((1 : Int) : Rat) := by decide
 have h2 : ((1 : Int) : Rat) ≤ (N : Rat) := Rat.intCast_le_intCast.2 hN
 grind
theorem points_loop {L : List Cm} (hl : L.length < 10000) {x : List PV → List PV → Int → Int → Bool → Prop} :
   ∀ (r i n : Nat) (out : List Rat), i + r = L.length → r < n → out.length ≤ 2 + 2 * i →
     L_audit_pointsOf_0_0 w_audit_whole x n (rts out) (cms L) (L.length : Int) (i : Int) = x (rts (out ++ flatC (L.drop i))) (cms L) (L.length : Int) (L.length : Int) false := by
 intro r
 induction r with
 | zero =>
   intro i n out hi hn ho
   obtain ⟨n, rfl⟩ : ∃ m, n = m + 1 := ⟨n - 1, by omega⟩
   obtain rfl : i = L.length := by omega
   rw [L_audit_pointsOf_0_0, cbF (by omega), List.drop_length]
   simp [flatC]
 | succ r ih =>
   intro i n out hi hn ho
   obtain ⟨n, rfl⟩ : ∃ m, n = m + 1 := ⟨n - 1, by omega⟩
   have hil : i < L.length := by omega
   have e1 := wib (n := (i : Int) + 1) (by omega) (by omega)
   have hd : L.drop i = L.getD i default :: L.drop (i + 1) := drop_cons default hil
   have e2 : (rts out ++ [.agg [.int .i64 (L.getD i default).f.num, .int .i64 ((L.getD i default).f.den : Int)], .agg [.int .i64 (L.getD i default).t.num, .int .i64 ((L.getD i default).t.den : Int)]]) = rts (out ++ [(L.getD i default).f, (L.getD i default).t]) := by
     rw [← rts_app]; rfl
   rw [L_audit_pointsOf_0_0, cbT (by omega)]
   dsimp only [lt]
   rw [cms_len, asT (by omega), asT (by omega), Int.toNat_natCast, cms_at hil, asCm, encCm0, encCm1, encCm2, encCm3, e2, rts_len, asE, asT (by omega), asNo (by omega), asE, asT (by show _ ≤ 35184372088832; omega), e1, asEE, asE, cast1, ih (i + 1) n _ (by omega) (by omega) (by simp; omega), hd]
   simp [flatC, List.append_assoc]
theorem flatC_mem {L : List Cm} {z : Rat} : z ∈ flatC L ↔ ∃ c ∈ L, z = c.f ∨ z = c.t := by
 unfold flatC
 rw [List.mem_flatMap]
 constructor
 · rintro ⟨c, h1, h2⟩; exact ⟨c, h1, by simpa using h2⟩
 · rintro ⟨c, h1, h2⟩; exact ⟨c, h1, by simpa using h2⟩
theorem flatC_len (L : List Cm) : (flatC L).length = 2 * L.length := by
 induction L with
 | nil => rfl
 | cons c r ih => show (c.f :: c.t :: flatC r).length = _; simp only [List.length_cons]; omega
theorem pointsOf_eq {N : Int} (h1 : 1 ≤ N) (h2 : N ≤ 1000) {L : List Cm} (hc : ∀ c ∈ L, c.ok N) (hl : L.length < 10000) (K : List PV → Prop) : w_audit_pointsOf N (cms L) K = K (rts (ptsC N L)) := by
 refine det_audit_pointsOf _ _ _ (fun K k => ?_) K
 unfold w_audit_pointsOf wv_audit_pointsOf
 rw [awhole_eq, awhole_eq]
 refine asr_iff.2 ⟨by simp, L.length + 1, ?_⟩
 rw [cms_len]
 have e0 : ([.agg [.int .i64 ((0 : Int) : Rat).num, .int .i64 ((((0 : Int) : Rat).den : Nat) : Int)], .agg [.int .i64 (N : Rat).num, .int .i64 (((N : Rat).den : Nat) : Int)]] : List PV) = rts [0, (N : Rat)] := rfl
 rw [e0]
 refine (points_loop hl L.length 0 (L.length + 1) _ (by omega) (by omega) (by simp)).mpr ?_
 rw [List.drop_zero]
 have hs : ∀ q ∈ [0, (N : Rat)] ++ flatC L, small q := by
   intro q hq
   rcases List.mem_append.1 hq with h | h
   · simp only [List.mem_cons, List.not_mem_nil, or_false] at h
     rcases h with rfl | rfl
     · decide
     · exact small_int3 (by omega) (by omega)
   · obtain ⟨c, hc1, rfl | rfl⟩ := flatC_mem.1 h
     · exact (hc c hc1).f
     · exact (hc c hc1).t
 have hn : ([0, (N : Rat)] ++ flatC L).length = 2 + 2 * L.length := by rw [List.length_append, flatC_len]; simp
 have hmem : ∀ z, z ∈ [0, (N : Rat)] ++ flatC L ↔ z ∈ ptsC N L := by
   intro z
   rw [ptsC_mem, List.mem_append, flatC_mem]
   simp [or_assoc]
 generalize ([0, (N : Rat)] ++ flatC L) = A at *
 obtain ⟨l', p1, p2, p3⟩ := sorted_rt n_s_SortFunc_api_Ratio_api_Ratio n_audit_order hs
 have hcond : Srt.cond srt_audit_order.s (rts A) 0 (rts A).length (rts A).length 2 false = true := by
   obtain ⟨d, hd⟩ : ∃ d, (srt_audit_order).s.rows? (rts A) = some d := rows_some fun y hy => by
     obtain ⟨q, hq, rfl⟩ := List.mem_map.1 hy
     exact gd_encW _ _ (hs q hq)
   unfold Srt.cond
   rw [List.drop_zero, List.take_length, hd, rts_len]
   simp only [decide_true, Bool.true_and, Bool.not_false, Option.isSome_some, Bool.and_true, Bool.and_eq_true, decide_eq_true_eq, Nat.zero_add, Nat.le_refl]
   exact ⟨by omega, rfl, by omega⟩
 have hsrt : Srt.sorted srt_audit_order.s srt_audit_order.srt (rts A) = rts l' := p3
 have hll : l'.length = A.length := p1.length_eq
 rw [hcond, asr_true, List.take_zero, List.drop_zero, List.take_length, hsrt, List.nil_append, Nat.zero_add, List.drop_length, List.append_nil, rts_len]
 dsimp only [Go.Pf.jn]
 rw [cbF (by omega)]
 have hfin : compR l' = ptsC N L := by
   obtain ⟨c1, c2⟩ := compR_is p2
   exact incr_unique c1 (ptsC_incr h1 L) fun z => by rw [c2 z, p1.mem_iff, hmem z]
 refine ⟨l'.length + 1, ?_⟩
 rw [← hll]
 refine comp_loop (l := l') (J := fun yl164 yn165 yn166 => (asr (decide ((List.length yl164) = yn166)) (asr (decide ((0 + yn165) ≤ yn166)) (K (List.take yn165 yl164))))) (by omega) (fun _ _ _ _ _ => rfl) (fun _ _ _ => rfl) (l'.length - 1) 1 (l'.length + 1) (by omega) (by omega) (by omega) fun R hR hT => ?_
 have hD := dedR_len (l'.getD (1 - 1) 0) (l'.drop 1)
 rw [List.length_drop] at hD
 rw [hR, asE, asT (by omega), hT]
 have e9 : l'.take 1 ++ dedR (l'.getD (1 - 1) 0) (l'.drop 1) = compR l' := by
   cases l' with
   | nil => simp at hll; omega
   | cons x t => rfl
 rw [e9, hfin]
 exact k
end Go.Pf.Vc
namespace Go.Pf.Vc
open Go Go.Pf Go.Sort
theorem put_swap5 {a0 : T_r01_Of} {a1 : T_r05_At} {a3 : T_r05_To} {x0 : List PV → Int → Bool → Prop} {K : List PV → Prop} (hx : ∀ L i b, x0 L i b = K L) {q : Rat} (hq : small q) :
   ∀ (j n : Nat) (pre suf : List Rat), pre.length = j → j < n → pre.length + suf.length < 1000000 → (∀ z ∈ pre, small z) → incrR pre → q ∉ pre →
     L_r05_points_1_0 a0 a1 w_r01_Less a3 x0 n (rts (pre ++ q :: suf)) (j : Int) = K (rts (insR q pre ++ suf)) := by
 intro j
 induction j with
 | zero =>
   intro n pre suf hj hn hl hs hi hm
   obtain ⟨n, rfl⟩ : ∃ m, n = m + 1 := ⟨n - 1, by omega⟩
   have : pre = [] := List.eq_nil_of_length_eq_zero hj
   subst this
   rw [L_r05_points_1_0]
   dsimp only [lt, Go.Pf.jn]
   rw [cbF (by omega), cbr_false, hx]
   rfl
 | succ j ih =>
   intro n pre suf hj hn hl hs hi hm
   obtain ⟨n, rfl⟩ : ∃ m, n = m + 1 := ⟨n - 1, by omega⟩
   obtain ⟨pre, x, rfl⟩ : ∃ p x, pre = p ++ [x] := ⟨pre.dropLast, pre.getLast (by intro h; rw [h] at hj; cases hj), (List.dropLast_concat_getLast _).symm⟩
   have hj2 : pre.length = j := by simpa using hj
   have hl2 : (pre ++ [x] ++ q :: suf).length = j + 2 + suf.length := by simp; omega
   have e1 := wib (n := ((j + 1 : Nat) : Int) - 1) (by omega) (by omega)
   have e2 : ((j + 1 : Nat) : Int) - 1 = (j : Int) := by omega
   rw [e2] at e1
   have g1 : (pre ++ [x] ++ q :: suf).getD (j + 1) 0 = q := by
     rw [List.getD_eq_getElem?_getD, List.getElem?_append_right (by simp; omega)]
     simp [hj2]
   have g2 : (pre ++ [x] ++ q :: suf).getD j 0 = x := by
     rw [List.append_assoc, List.getD_eq_getElem?_getD, List.getElem?_append_right (by omega)]
     simp [hj2]
   have s1 : (pre ++ [x] ++ q :: suf).set j q = pre ++ [q] ++ q :: suf := by
     rw [List.append_assoc, List.set_append_right _ _ (by omega), hj2, Nat.sub_self, List.append_assoc]
     rfl
   have s2 : (pre ++ [q] ++ q :: suf).set (j + 1) x = pre ++ q :: (x :: suf) := by
     rw [List.set_append_right _ _ (by simp; omega)]
     simp [hj2]
   have g3 : (pre ++ [q] ++ q :: suf).getD (j + 1) 0 = q := by
     rw [List.getD_eq_getElem?_getD, List.getElem?_append_right (by simp; omega)]
     simp [hj2]
   have hl3 : (pre ++ [q] ++ q :: suf).length = j + 2 + suf.length := by simp; omega
   have hxs : small x := hs x (by simp)
   rw [L_r05_points_1_0]
   dsimp only [lt, Go.Pf.jn]
   rw [cbT (by omega)]
   simp (discharger := omega) only [e2, e1, rts_len, hl2, asT, Int.toNat_natCast, Nat.zero_add, rts_at, g1, g2, asW, encW0, encW1, encW_is, rts_set, s1, g3, hl3, s2, sLess_eq hq hxs]
   rw [insR_last hi hm]
   by_cases h : q < x
   · rw [cbT h, if_pos h]
     rw [show (pre ++ q :: x :: suf).length = j + 2 + suf.length by simp; omega, asTd rfl, asT rfl]
     have := ih n pre (x :: suf) hj2 (by omega) (by simp at hl ⊢; omega) (fun z hz => hs z (by simp [hz])) (incrR_left hi) (fun hm2 => hm (by simp [hm2]))
     rw [this, List.append_assoc]
     rfl
   · rw [cbF h, if_neg h, hx, List.append_assoc, List.append_assoc]
     rfl
def atR (l : List Rat) (q : Rat) : Int := if q ∈ l then (l.idxOf q : Int) else -1
theorem At_loop {l : List Rat} (hl : l.length < 1000000) {q : Rat} {x0 : List PV → Int → Int → Int → Bool → Prop} {x1 : Int → Prop} {K : Int → Prop} (h0 : ∀ a b c d e, x0 a b c d e = K (-1)) (h1 : ∀ i, x1 i = K i) :
   ∀ (r i n : Nat), i + r = l.length → r < n → L_r05_At_0_0 x0 x1 n (rts l) q.num q.den (i : Int) = if q ∈ l.drop i then K ((i + (l.drop i).idxOf q : Nat) : Int) else K (-1) := by
 intro r
 induction r with
 | zero =>
   intro i n hi hn
   obtain ⟨n, rfl⟩ : ∃ m, n = m + 1 := ⟨n - 1, by omega⟩
   rw [L_r05_At_0_0, rts_len, cbF (by omega), List.drop_eq_nil_of_le (by omega), if_neg (by simp), h0]
 | succ r ih =>
   intro i n hi hn
   obtain ⟨n, rfl⟩ : ∃ m, n = m + 1 := ⟨n - 1, by omega⟩
   have hil : i < l.length := by omega
   have e1 := wib (n := (i : Int) + 1) (by omega) (by omega)
   have hd : l.drop i = l.getD i 0 :: l.drop (i + 1) := drop_cons 0 hil
   rw [L_r05_At_0_0, rts_len, cbT (by omega)]
   dsimp only [lt]
   rw [asT (by omega), asT (by omega), Int.toNat_natCast, rts_at hil, asW, encW0, encW1, ratEq, hd, e1, cast1]
   by_cases h : l.getD i 0 = q
   · rw [cbT h, if_pos (by rw [h]; exact List.mem_cons_self), h1, h]
     simp
   · rw [cbF h, ih (i + 1) n (by omega) (by omega)]
     by_cases h2 : q ∈ l.drop (i + 1)
     · rw [if_pos h2, if_pos (List.mem_cons_of_mem _ h2), List.idxOf_cons, show (l.getD i 0 == q) = false from beq_eq_false_iff_ne.2 h, cond_false]
       congr 1
       omega
     · rw [if_neg h2, if_neg]
       intro h3
       rcases List.mem_cons.1 h3 with h3 | h3
       · exact h h3.symm
       · exact h2 h3
theorem At_eq {l : List Rat} (hl : l.length < 1000000) {q : Rat} (K : Int → Prop) : w_r05_At (rts l) q.num q.den K = K (atR l q) := by
 refine det_r05_At _ _ _ _ (fun K k => ?_) K
 unfold w_r05_At wv_r05_At
 refine ⟨l.length + 1, ?_⟩
 refine (At_loop hl (K := K) (fun _ _ _ _ _ => rfl) (fun _ => rfl) l.length 0 (l.length + 1) (by omega) (by omega)).mpr ?_
 unfold atR at k
 rw [List.drop_zero]
 split
 · rename_i h; rw [if_pos h] at k; simpa using k
 · rename_i h; rw [if_neg h] at k; exact k
theorem atR_ge {l : List Rat} {q : Rat} : atR l q ≥ 0 ↔ q ∈ l := by
 unfold atR
 split
 · rename_i h; exact ⟨fun _ => h, fun _ => by omega⟩
 · rename_i h; exact ⟨fun k => by omega, fun k => absurd k h⟩
theorem put5 {out : List Rat} {q : Rat} (hs : ∀ z ∈ out, small z) (hi : incrR out) (hq : small q) (hl : out.length < 100000) {a b : Int} (ea : q.num = a) (eb : (q.den : Int) = b) {a0 : T_r01_Of} {a1 : T_r05_At} {a3 : T_r05_To} {F : List PV → Prop} (k : F (rts (insR q out))) :
   Go.Pf.jn (fun J : List PV → Prop =>
   (asr (decide ((List.length (rts out)) = (List.length (rts out))))
   (asr (decide ((0 + (List.length (rts out))) ≤ (List.length (rts out))))
   (w_r05_At (List.take (List.length (rts out)) (rts out)) a b (fun y => 
   (cbr (decide (y ≥ (0 : Int)))
   (J (rts out))
   (asr (decide ((List.length (rts out)) = (List.length (rts out))))
   (asr (decide ((0 + (List.length (rts out))) ≤ (List.length (rts out))))
   (asr (!(decide (((0 + (List.length (rts out))) + 1) ≤ (List.length (rts out)))))
   (asr (decide ((List.length (rts out)) = (List.length (rts out))))
   (asr (decide ((((List.length (rts out)) + 1) + 64) * (16 + 1) ≤ room))
   (lt (IntKind.i64.wrap ((((List.length (rts out ++ ([(.agg [(.int .i64 a), (.int .i64 b)])] : List PV))) : Nat) : Int) - (1 : Int))) (fun z =>
   (asr (decide ((List.length (rts out ++ ([(.agg [(.int .i64 a), (.int .i64 b)])] : List PV))) = List.length (rts out ++ ([(.agg [(.int .i64 a), (.int .i64 b)])] : List PV))) && decide ((List.length (rts out ++ ([(.agg [(.int .i64 a), (.int .i64 b)])] : List PV))) = List.length (rts out ++ ([(.agg [(.int .i64 a), (.int .i64 b)])] : List PV))))
   (∃ n : Nat, L_r05_points_1_0 a0 a1 w_r01_Less a3 (fun yl _ _ => J yl) n (rts out ++ ([(.agg [(.int .i64 a), (.int .i64 b)])] : List PV)) z))))))))))))))) F := by
 subst ea eb
 show asr _ _
 rw [asE, asT (by omega), List.take_length, At_eq (by omega), show decide (atR out q ≥ 0) = decide (q ∈ out) from decide_eq_decide.2 atR_ge]
 by_cases h : q ∈ out
 · rw [cbT h]
   rw [insR_in hi h] at k
   exact k
 · rw [cbF h]
   have e1 := wib (n := ((out.length + 1 : Nat) : Int) - 1) (by omega) (by omega)
   have e2 : ((out.length + 1 : Nat) : Int) - 1 = (out.length : Int) := by omega
   rw [e2] at e1
   have e3 : (rts out ++ ([(.agg [(.int .i64 q.num), (.int .i64 q.den)])] : List PV)) = rts (out ++ [q]) := by rw [rts_one, rts_app]
   have e4 : (rts (out ++ [q])).length = out.length + 1 := by rw [rts_len]; simp
   dsimp only [lt]
   rw [e3, e4, e2, e1, rts_len, asE, asT (by omega), asNo (by omega), asE, asT (by show _ ≤ 35184372088832; omega), asEE, asE]
   refine ⟨out.length + 1, ?_⟩
   refine (put_swap5 (x0 := fun yl _ _ => F yl) (K := F) (fun _ _ _ => rfl) hq out.length (out.length + 1) out [] rfl (by omega) (by simp; omega) hs hi h).mpr ?_
   rw [List.append_nil]
   exact k
theorem qOk_rv {N : Int} {q : Qy} (h : qOk N q = true) : RV q.an q.ad ∧ RV q.bn q.bd ∧ RV q.cn q.cd ∧ (q.kind = 1 ∨ q.kind = 2) := by
 unfold qOk at h
 simp only [Bool.and_eq_true] at h
 obtain ⟨h1, h2, h3, h4⟩ := h
 refine ⟨(posR_rv h1).1, (posR_rv h2).1, (posR_rv h3).1, ?_⟩
 by_cases hk : q.kind = 1
 · exact .inl hk
 · rw [if_neg hk] at h4
   by_cases hk2 : q.kind = 2
   · exact .inr hk2
   · rw [if_neg hk2] at h4; cases h4
theorem To_eq {N : Int} {q : Qy} (h : qOk N q = true) (K : Int → Int → Prop) : w_r05_To q.agent q.kind q.an q.ad q.bn q.bd q.cn q.cd K = K (cmOf q).t.num (cmOf q).t.den := by
 obtain ⟨r1, r2, r3, hk⟩ := qOk_rv h
 obtain ⟨_, e3, e4⟩ := rt_of r2
 obtain ⟨_, e5, e6⟩ := rt_of r3
 unfold w_r05_To wv_r05_To cmOf
 by_cases h1 : q.kind = 1
 · rw [ceT h1, if_pos h1]
   dsimp only
   rw [e3, e4]
 · rw [ceF h1, if_neg h1]
   dsimp only
   rw [e5, e6]
theorem Told_eq {N : Int} {q : Qy} (h : qOk N q = true) (K : Int → Int → Prop) : w_r05_Told q.agent q.kind q.an q.ad q.bn q.bd q.cn q.cd K = K (cmOf q).v.num (cmOf q).v.den := by
 obtain ⟨r1, r2, r3, hk⟩ := qOk_rv h
 obtain ⟨_, e3, e4⟩ := rt_of r2
 obtain ⟨_, e5, e6⟩ := rt_of r3
 unfold w_r05_Told wv_r05_Told cmOf
 by_cases h1 : q.kind = 1
 · rw [ceT h1, if_pos h1]
   dsimp only
   rw [e5, e6]
 · rw [ceF h1, if_neg h1]
   dsimp only
   rw [e3, e4]
theorem cmOf_f {N : Int} {q : Qy} (h : qOk N q = true) : (cmOf q).f.num = q.an ∧ ((cmOf q).f.den : Int) = q.ad := by
 obtain ⟨r1, _, _, _⟩ := qOk_rv h
 obtain ⟨_, e1, e2⟩ := rt_of r1
 unfold cmOf
 split <;> exact ⟨e1, e2⟩
theorem rpoints_loop {N : Int} {log : List Qy} (hok : ∀ q ∈ log, qOk N q = true) (hl : log.length < 10000) {x : List PV → List PV → Int → Bool → Prop} :
   ∀ (r i n : Nat) (out : List Rat), i + r = log.length → r < n → (∀ z ∈ out, small z) → incrR out → out.length ≤ 2 + 2 * i →
     x (rts (endsR (((log.map cmOf).map Cm.rs).drop i) out)) (logs log) (log.length : Int) false → L_r05_points_0_0 w_r01_Of w_r05_At w_r01_Less w_r05_To x n (rts out) (logs log) (i : Int) := by
 intro r
 induction r with
 | zero =>
   intro i n out hi hn ho hc hb k
   obtain ⟨n, rfl⟩ : ∃ m, n = m + 1 := ⟨n - 1, by omega⟩
   obtain rfl : i = log.length := by omega
   rw [L_r05_points_0_0, logs_len, cbF (by omega)]
   rw [List.drop_eq_nil_of_le (by simp)] at k
   exact k
 | succ r ih =>
   intro i n out hi hn ho hc hb k
   obtain ⟨n, rfl⟩ : ∃ m, n = m + 1 := ⟨n - 1, by omega⟩
   have hil : i < log.length := by omega
   have e1 := wib (n := (i : Int) + 1) (by omega) (by omega)
   have hm : log.getD i default ∈ log := by
     rw [List.getD_eq_getElem?_getD, List.getElem?_eq_getElem hil]
     exact List.getElem_mem hil
   have hq := hok _ hm
   have hd : ((log.map cmOf).map Cm.rs).drop i = (cmOf (log.getD i default)).rs :: ((log.map cmOf).map Cm.rs).drop (i + 1) := by
     rw [← List.map_drop, ← List.map_drop, drop_cons default hil, List.map_cons, List.map_cons, List.map_drop, List.map_drop]
   rw [hd] at k
   have hat := logs_at hil
   generalize log.getD i default = q at *
   have hcm := qOk_cm hq
   obtain ⟨f1, f2⟩ := cmOf_f hq
   have h1 := insR_len (q := (cmOf q).f) out
   have h2 := insR_len (q := (cmOf q).t) (insR (cmOf q).f out)
   rw [L_r05_points_0_0, logs_len, cbT (by omega), asT (by omega), asT (by omega), Int.toNat_natCast]
   dsimp only [lt]
   rw [hat]
   dsimp only [asQ, encQ0, encQ1, encQ2, encQ3, encQ4, encQ5, encQ6, encQ7]
   refine put5 ho hc hcm.f (by omega) f1 f2 ?_
   rw [asT (by omega), asT (by omega), To_eq hq]
   refine put5 (insR_small hcm.f ho) (insR_incr _ hc) hcm.t (by omega) rfl rfl ?_
   rw [e1, cast1, asEE, asE]
   exact ih (i + 1) n _ (by omega) (by omega) (insR_small hcm.t (insR_small hcm.f ho)) (insR_incr _ (insR_incr _ hc)) (by omega) k
theorem rpoints_eq {N : Int} (h1 : 1 ≤ N) (h2 : N ≤ 1000) {log : List Qy} (hok : ∀ q ∈ log, qOk N q = true) (hl : log.length < 10000) (K : List PV → Prop) : w_r05_points N (logs log) K = K (rts (ptsC N (log.map cmOf))) := by
 refine det_r05_points _ _ _ (fun K k => ?_) K
 unfold w_r05_points wv_r05_points
 rw [sOf_eq, sOf_eq]
 refine asr_iff.2 ⟨by simp, log.length + 1, ?_⟩
 have e0 : ([.agg [.int .i64 ((0 : Int) : Rat).num, .int .i64 ((((0 : Int) : Rat).den : Nat) : Int)], .agg [.int .i64 (N : Rat).num, .int .i64 (((N : Rat).den : Nat) : Int)]] : List PV) = rts [0, (N : Rat)] := rfl
 rw [e0]
 refine rpoints_loop hok hl log.length 0 (log.length + 1) _ (by omega) (by omega) (fun z hz => ?_) ?_ (by simp) ?_
 · simp only [List.mem_cons, List.not_mem_nil, or_false] at hz
   rcases hz with rfl | rfl
   · decide
   · exact small_int3 (by omega) (by omega)
 · refine ⟨fun y hy => ?_, ⟨(fun y hy => by cases hy), trivial⟩⟩
   simp only [List.mem_cons, List.not_mem_nil, or_false] at hy
   subst hy
   have : (0 : Rat) < ((1 : Int) : Rat) := by decide
   have h2 : ((1 : Int) : Rat) ≤ (N : Rat) := Rat.intCast_le_intCast.2 h1
   grind
 · rw [rts_len, asE, asT (by omega), ← rts_len, List.take_length, List.drop_zero]
   exact k
end Go.Pf.Vc
namespace Go.Pf.Vc
open Go Go.Pf Go.Sort
theorem PT_iff {N n d : Int} (h : RV n d) : PT N n d ↔ 0 ≤ n ∧ rt n d ≤ (N : Rat) := by
 constructor
 · intro hp
   obtain ⟨_, _, _, _, h5⟩ := hp.pt
   exact ⟨hp.2.1, h5⟩
 · rintro ⟨h1, h2⟩
   obtain ⟨s, e1, e2⟩ := rt_of h
   have := PT_of s ((rt_pos h).2 h1) h2
   rw [e1, e2] at this
   exact this
theorem posR_of {a b : Int} (h : RV a b) : posR a b = decide (0 ≤ a) := by
 unfold posR
 rw [decide_eq_true h, Bool.true_and]
theorem posR_no {a b : Int} (h : ¬ RV a b) : posR a b = false := by
 unfold posR
 rw [decide_eq_false h, Bool.false_and]
theorem right_eq {N : Int} (hN : -1000000000000000000 ≤ N ∧ N ≤ 1000000000000000000) {q : Qy} (h64 : q.q64) (K : Bool → Prop) :
   w_r05_right N q.agent q.kind q.an q.ad q.bn q.bd q.cn q.cd K = K (qOk N q) := by
 obtain ⟨a1, a2, a3, a4, a5, a6⟩ := h64
 unfold w_r05_right wv_r05_right
 dsimp only [Go.Pf.jn]
 rw [sBoth_eq a1 a2 a3 a4]
 by_cases hA : RV q.an q.ad
 case neg =>
   have e : chk2 q.an q.ad q.bn q.bd ≠ 0 := fun e => hA (chk2_zero.1 e).1
   rw [cnT e, cbr_true]
   unfold qOk
   rw [posR_no hA]; rfl
 by_cases hB : RV q.bn q.bd
 case neg =>
   have e : chk2 q.an q.ad q.bn q.bd ≠ 0 := fun e => hB (chk2_zero.1 e).2
   rw [cnT e, cbr_true]
   unfold qOk
   rw [posR_no hB, Bool.false_and, Bool.and_false]
 rw [cnF (chk2_zero.2 ⟨hA, hB⟩), sCheck_eq a5 a6]
 by_cases hC : RV q.cn q.cd
 case neg =>
   have e : chk q.cn q.cd ≠ 0 := by unfold chk; rw [if_neg hC]; decide
   rw [cnT e, cbr_true]
   unfold qOk
   rw [posR_no hC, Bool.false_and, Bool.and_false, Bool.and_false]
 have e : chk q.cn q.cd = 0 := if_pos hC
 rw [cnF e, dPoint_eq hN a1 a2, dPoint_eq hN a3 a4, dPoint_eq hN a5 a6, sLess_rv hB hA, sLess_rv hC hA]
 unfold qOk
 rw [posR_of hA, posR_of hB, posR_of hC]
 by_cases pA : PT N q.an q.ad
 case neg =>
   rw [decide_eq_false pA, Bool.not_false, cbr_true]
   congr 1
   symm
   rw [PT_iff hA] at pA
   by_cases h0 : 0 ≤ q.an
   · have hA2 : ¬ rt q.an q.ad ≤ (N : Rat) := fun k => pA ⟨h0, k⟩
     rw [decide_eq_true h0]
     have t1 : twoP N q.an q.ad q.bn q.bd = false := by
       unfold twoP
       rw [Bool.eq_false_iff]
       intro k
       simp only [Bool.and_eq_true, decide_eq_true_eq] at k
       grind
     have t2 : twoP N q.an q.ad q.cn q.cd = false := by
       unfold twoP
       rw [Bool.eq_false_iff]
       intro k
       simp only [Bool.and_eq_true, decide_eq_true_eq] at k
       grind
     rw [t1, t2]
     split
     · simp
     · split <;> simp
   · rw [decide_eq_false h0, Bool.false_and]
 rw [decide_eq_true pA, Bool.not_true, cbr_false]
 rw [PT_iff hA] at pA
 have pB := PT_iff (N := N) hB
 have pC := PT_iff (N := N) hC
 rw [decide_eq_true pA.1, Bool.true_and]
 unfold twoP
 by_cases k1 : q.kind = 1
 · rw [ceT k1, if_pos k1]
   by_cases p1 : PT N q.bn q.bd
   · rw [cbT p1]
     rw [pB] at p1
     rw [decide_eq_true p1.1, decide_eq_true p1.2, Bool.true_and, Bool.and_true]
     by_cases hl : rt q.bn q.bd < rt q.an q.ad
     · rw [decide_eq_true hl, Bool.not_true, cbr_false, decide_eq_false (show ¬ rt q.an q.ad ≤ rt q.bn q.bd by grind), Bool.and_false]
     · rw [decide_eq_false hl, Bool.not_false, cbr_true, decide_eq_true (show rt q.an q.ad ≤ rt q.bn q.bd by grind), Bool.and_true]
   · rw [cbF p1]
     rw [pB] at p1
     congr 1
     symm
     rw [Bool.eq_false_iff]
     intro k
     simp only [Bool.and_eq_true, decide_eq_true_eq] at k
     exact p1 ⟨k.1, k.2.2.2⟩
 · rw [ceF k1, if_neg k1]
   by_cases k2 : q.kind = 2
   · rw [ceT k2, if_pos k2]
     by_cases p1 : PT N q.cn q.cd
     · rw [cbT p1]
       rw [pC] at p1
       rw [decide_eq_true p1.1, decide_eq_true p1.2, Bool.and_true, Bool.true_and]
       by_cases hl : rt q.cn q.cd < rt q.an q.ad
       · rw [decide_eq_true hl, Bool.not_true, cbr_false, decide_eq_false (show ¬ rt q.an q.ad ≤ rt q.cn q.cd by grind), Bool.and_false]
       · rw [decide_eq_false hl, Bool.not_false, cbr_true, decide_eq_true (show rt q.an q.ad ≤ rt q.cn q.cd by grind), Bool.and_true]
     · rw [cbF p1]
       rw [pC] at p1
       congr 1
       symm
       rw [Bool.eq_false_iff]
       intro k
       simp only [Bool.and_eq_true, decide_eq_true_eq] at k
       exact p1 ⟨k.2.1, k.2.2.2⟩
   · rw [ceF k2, if_neg k2, Bool.and_false, Bool.and_false]
theorem rCheck_loop {N : Int} (hN : -1000000000000000000 ≤ N ∧ N ≤ 1000000000000000000) {log : List Qy} (h64 : ∀ q ∈ log, q.q64) (hl : log.length < 1000) {x0 : Int → List PV → Int → Bool → Prop} {x1 : Int → Prop} :
   ∀ (r i n : Nat), i + r = log.length → r < n → L_r05_Check_0_0 w_r05_right x0 x1 n N (logs log) (i : Int) = if (log.drop i).all (qOk N) then x0 N (logs log) (log.length : Int) false else x1 8 := by
 intro r
 induction r with
 | zero =>
   intro i n hi hn
   obtain ⟨n, rfl⟩ : ∃ m, n = m + 1 := ⟨n - 1, by omega⟩
   obtain rfl : i = log.length := by omega
   rw [L_r05_Check_0_0, logs_len, cbF (by omega), List.drop_length]
   rfl
 | succ r ih =>
   intro i n hi hn
   obtain ⟨n, rfl⟩ : ∃ m, n = m + 1 := ⟨n - 1, by omega⟩
   have hil : i < log.length := by omega
   have e1 := wib (n := (i : Int) + 1) (by omega) (by omega)
   have hd : log.drop i = log.getD i default :: log.drop (i + 1) := drop_cons default hil
   rw [L_r05_Check_0_0, logs_len, cbT (by omega)]
   dsimp only [lt]
   rw [asT (by omega), asT (by omega), Int.toNat_natCast, logs_at hil, asQ, encQ0, encQ1, encQ2, encQ3, encQ4, encQ5, encQ6, encQ7, right_eq hN (q64_at h64 hil), hd, List.all_cons]
   cases qOk N (log.getD i default) with
   | false => rfl
   | true => rw [Bool.not_true, cbr_false, e1, cast1, ih (i + 1) n (by omega) (by omega), Bool.true_and]
theorem rCheck5_eq {N : Int} {log : List Qy} (h64 : ∀ q ∈ log, q.q64) (hl : log.length < 1000) (K : Int → Prop) : w_r05_Check N (logs log) K = K (claimsE N log) := by
 refine det_r05_Check _ _ _ (fun K k => ?_) K
 unfold w_r05_Check wv_r05_Check
 dsimp only [Go.Pf.jn]
 rw [logs_len]
 by_cases h1 : N < 1
 · have e : claimsE N log = 2 := by unfold claimsE; rw [if_pos (.inl h1)]
   rw [e] at k
   rw [cbT h1, cbr_true]; exact k
 · rw [cbF h1]
   by_cases h2 : N > 1000
   · have e : claimsE N log = 2 := by unfold claimsE; rw [if_pos (.inr h2)]
     rw [e] at k
     rw [decide_eq_true h2, cbr_true]; exact k
   · have e : claimsE N log = if log.length > 40 then 4 else if log.all (qOk N) then 0 else 8 := by unfold claimsE; rw [if_neg (by omega)]
     rw [e] at k
     rw [decide_eq_false h2, cbr_false]
     by_cases h3 : log.length > 40
     · rw [if_pos h3] at k
       rw [cbT (by omega)]; exact k
     · rw [if_neg h3] at k
       rw [cbF (by omega)]
       refine ⟨log.length + 1, ?_⟩
       refine (rCheck_loop (by omega) h64 hl log.length 0 (log.length + 1) (by omega) (by omega)).mpr ?_
       rw [List.drop_zero]
       split
       · rename_i h; rw [if_pos h] at k; exact k
       · rename_i h; rw [if_neg h] at k; exact k
abbrev Rw : Type := Int × Int
def encRw (r : Rw) : PV := .agg [.int .i64 r.1, .int .i64 r.2]
def rws (l : List Rw) : List PV := l.map encRw
theorem rws_len (l : List Rw) : (rws l).length = l.length := List.length_map ..
theorem rws_at {l : List Rw} {i : Nat} (h : i < l.length) : List.getD (rws l) i .nils = encRw (l.getD i default) := by
 unfold rws
 rw [List.getD_eq_getElem?_getD, List.getD_eq_getElem?_getD, List.getElem?_map, List.getElem?_eq_getElem h]
 rfl
theorem asRw (r : Rw) (P : Prop) : asr (conf (.agg [.i .i64, .i .i64]) (encRw r)) P = P := rfl
def Rw.ok (r : Rw) : Prop := RV r.1 r.2
instance (r : Rw) : Decidable r.ok := by unfold Rw.ok; infer_instance
def Rw.q (r : Rw) : Rat := rt r.1 r.2
def Rw.i64 (r : Rw) : Prop := I64 r.1 ∧ I64 r.2
def gStep (P F : List Rw) (i : Nat) : Prop := (P.getD i default).ok ∧ (F.getD i default).ok ∧ (0 < i → (P.getD (i - 1) default).q < (P.getD i default).q ∧ (F.getD (i - 1) default).q ≤ (F.getD i default).q)
instance (P F : List Rw) (i : Nat) : Decidable (gStep P F i) := by unfold gStep; infer_instance
def gEnds (N : Int) (P F : List Rw) : Prop := (P.getD 0 default).1 = 0 ∧ (F.getD 0 default).1 = 0 ∧ P.getD (P.length - 1) default = (N, 1)
instance (N : Int) (P F : List Rw) : Decidable (gEnds N P F) := by unfold gEnds; infer_instance
theorem mem_at {α : Type} {l : List α} {x d : α} (h : x ∈ l) : ∃ i, i < l.length ∧ l.getD i d = x := by
 obtain ⟨i, hi, e⟩ := List.mem_iff_getElem.1 h
 exact ⟨i, hi, by rw [List.getD_eq_getElem?_getD, List.getElem?_eq_getElem hi]; exact e⟩
end Go.Pf.Vc
namespace Go.Pf.Vc
open Go Go.Pf Go.Sort
theorem atR_in {l : List Rat} {q : Rat} (h : q ∈ l) : atR l q = (l.idxOf q : Int) := if_pos h
theorem small_at {l : List Rat} (h : ∀ z ∈ l, small z) {i : Nat} (hi : i < l.length) : small (l.getD i 0) := h _ (getD_ratMem hi)
theorem idx_lt {l : List Rat} {q : Rat} (h : q ∈ l) : l.idxOf q < l.length := List.idxOf_lt_length_iff.2 h
theorem ptsC_len (N : Int) (L : List Cm) : (ptsC N L).length ≤ 2 + 2 * L.length := by
 have := endsR_len (L.map Cm.rs) [0, (N : Rat)]
 rw [List.length_map] at this
 simpa [ptsC, Nat.add_comm] using this
def greatL (log : List Qy) : Bool := (decide (log.length > 14) && decide (log.length ≤ 40)) || decide (log.length > 60)
theorem Great5_eq (log : List Qy) (K : Bool → Prop) : w_r05_Great (logs log) K = K (greatL log) := by
 unfold w_r05_Great wv_r05_Great greatL
 dsimp only [Go.Pf.jn]
 rw [logs_len]
 by_cases h1 : log.length > 14
 · rw [cbT (by omega), decide_eq_true h1, Bool.true_and]
   by_cases h2 : log.length ≤ 40
   · rw [cbT (by omega), decide_eq_true h2, Bool.true_or]
   · rw [cbF (by omega), decide_eq_false h2, Bool.false_or]
     congr 1
     rw [decide_eq_decide]; omega
 · rw [cbF (by omega), decide_eq_false h1, Bool.false_and, Bool.false_or]
   congr 1
   rw [decide_eq_decide]; omega
end Go.Pf.Vc
namespace Go.Pf.Vc
open Go Go.Pf
theorem rt_cells : ∀ {cs : List PV}, okL [.i64, .i64] cs = true → ∃ a b, cs = [.int .i64 a, .int .i64 b]
 | [], h => by cases h
 | [x], h => by cases x <;> simp [okL] at h
 | x :: y :: w, h => by
   cases x <;> first | (simp [okL] at h; done) | skip
   cases y <;> first | (simp [okL] at h; done) | skip
   simp only [okL, Bool.and_eq_true, decide_eq_true_eq] at h
   obtain ⟨rfl, _, _, rfl, _, _, h⟩ := h
   cases w with
   | nil => exact ⟨_, _, rfl⟩
   | cons p q => simp [okL] at h
theorem gd_rt {n g : Nat} {x : PV} (h : (rtSrt n g).s.gd x = true) : ∃ a b, x = .agg [.int .i64 a, .int .i64 b] ∧ RV a b := by
 simp only [Srt.gd, Bool.and_eq_true] at h
 have h1 : okI [.i64, .i64] x = true := h.1
 have h2 : rtGood x = true := h.2
 clear h
 cases x <;> first | (simp [okI] at h1; done) | skip
 obtain ⟨a, b, rfl⟩ := rt_cells (h1 : okL _ _ = true)
 exact ⟨a, b, rfl, rvB_iff.1 h2⟩
theorem aorder_ans {n g : Nat} (e : List (Nat × EffF)) (he : EG e) {x y : PV} (hx : (rtSrt n g).s.gd x = true) (hy : (rtSrt n g).s.gd y = true) : Ans (E e) n_audit_order [x, y] (.int .i64 (rtCmp x y)) := by
 obtain ⟨a, b, rfl, h1⟩ := gd_rt hx
 obtain ⟨a', b', rfl, h2⟩ := gd_rt hy
 obtain ⟨r, hr, ha⟩ := ok_audit_order e he [.agg [.int .i64 a, .int .i64 b], .agg [.int .i64 a', .int .i64 b']] (fun r => r = .int .i64 (cmpI a b a' b')) (by
   show w_audit_order a b a' b' (fun r => PV.int .i64 r = .int .i64 (cmpI a b a' b'))
   rw [aorder_rv h1 h2, cmpI_Q h1 h2])
 rw [hr] at ha
 exact ha
theorem F_q64 {c : List PV} (h : HasF dsQ c) : ∃ q : Qy, c = [.int .i64 q.agent, .int .u8 q.kind, .int .i64 q.an, .int .i64 q.ad, .int .i64 q.bn, .int .i64 q.bd, .int .i64 q.cn, .int .i64 q.cd] ∧ q.q64 := by
 simp only [dsQ, dsR, HasF, HasL] at h
 obtain ⟨_, _, rfl, ⟨a, rfl, _⟩, _, _, rfl, ⟨b, rfl, _⟩, _, _, rfl, ⟨_, _, rfl, ⟨c, rfl, h1⟩, _, _, rfl, ⟨d, rfl, h2⟩, rfl⟩, _, _, rfl, ⟨_, _, rfl, ⟨e, rfl, h3⟩, _, _, rfl, ⟨f, rfl, h4⟩, rfl⟩, _, _, rfl, ⟨_, _, rfl, ⟨g, rfl, h5⟩, _, _, rfl, ⟨i, rfl, h6⟩, rfl⟩, rfl⟩ := h
 exact ⟨⟨a, b, c, d, e, f, g, i⟩, rfl, inK_i64 h1, inK_i64 h2, inK_i64 h3, inK_i64 h4, inK_i64 h5, inK_i64 h6⟩
theorem logs_of64 : ∀ (rows : List PV), (∀ x ∈ rows, x.isAgg = dsQ.isA ∧ HasF dsQ x.cells) → ∃ l : List Qy, rows = logs l ∧ ∀ q ∈ l, q.q64
 | [], _ => ⟨[], rfl, by simp⟩
 | x :: r, h => by
   obtain ⟨l, e, hl⟩ := logs_of64 r (fun y hy => h y (List.mem_cons_of_mem _ hy))
   obtain ⟨h1, h2⟩ := h x List.mem_cons_self
   obtain ⟨k, e2, hk⟩ := F_q64 h2
   have ex : x = encQ k := by rw [agg_of h1, e2]; rfl
   refine ⟨k :: l, by rw [ex, e]; rfl, fun q hq => ?_⟩
   rcases List.mem_cons.1 hq with rfl | hq
   · exact hk
   · exact hl q hq
theorem F_logs64 {c : List PV} (h : HasF (.s dsQ) c) : ∃ l : List Qy, c = [.data (logs l)] ∧ ∀ q ∈ l, q.q64 := by
 simp only [HasF] at h
 obtain ⟨rows, rfl, hl, hr⟩ := h
 obtain ⟨l, rfl, h⟩ := logs_of64 rows hr
 exact ⟨l, rfl, h⟩
theorem A_finds {as : List PV} (h : HasAs [.i .i64, .s dsQ] as) : ∃ (N : Int) (log : List Qy), as = [.int .i64 N, .data (logs log)] ∧ I64 N ∧ ∀ q ∈ log, q.q64 := by
 simp only [HasAs] at h
 obtain ⟨x, r, rfl, x1, x2, z, r3, rfl, z1, z2, rfl⟩ := h
 obtain ⟨n, e1, hn⟩ := F_i x2
 obtain ⟨l, e3, hl⟩ := F_logs64 z2
 rw [single_of x1 e1, single_of z1 e3]
 exact ⟨n, l, rfl, hn, hl⟩
end Go.Pf.Vc
namespace Go.Pf.Vc
open Go Go.Pf Go.Sort
def scM : List Cm → Nat → Option Nat
 | [], m => some m
 | c :: r, m => if c.v.den / Nat.gcd m c.v.den ≤ 1000000000 / m then scM r (m * (c.v.den / Nat.gcd m c.v.den)) else none
def scT (L : List Cm) (m : Nat) : Bool := L.all fun c => decide (c.v.num ≤ ((1000000000000 / (m / c.v.den) : Nat) : Int))
def scaleL (L : List Cm) : Option Nat := match scM L 1 with
 | some m => if scT L m then some m else none
 | none => none
def outSc (o : Option Nat) (K : Int → Int → Prop) : Prop := match o with
 | some m => K (m : Int) 0
 | none => K 0 16
theorem tdN5 (a b : Nat) : Int.tdiv (a : Int) (b : Int) = ((a / b : Nat) : Int) := rfl
theorem lcm_is (m d : Nat) : m * (d / Nat.gcd m d) = Nat.lcm m d := by
 rw [Nat.lcm, Nat.mul_div_assoc _ (Nat.gcd_dvd_right m d)]
theorem scM_step {m d : Nat} (h1 : 1 ≤ m) (hd : 1 ≤ d) (h : d / Nat.gcd m d ≤ 1000000000 / m) : 1 ≤ m * (d / Nat.gcd m d) ∧ m * (d / Nat.gcd m d) ≤ 1000000000 := by
 constructor
 · rw [lcm_is]; exact Nat.lcm_pos (by omega) (by omega)
 · exact Nat.le_trans (Nat.mul_le_mul_left m h) (Nat.mul_div_le _ _)
theorem scM_some : ∀ (L : List Cm) (m : Nat) {m' : Nat}, 1 ≤ m → m ≤ 1000000000 → scM L m = some m' → 1 ≤ m' ∧ m' ≤ 1000000000 ∧ m ∣ m' ∧ ∀ c ∈ L, c.v.den ∣ m'
 | [], m, m', h1, h2, e => by
   cases e
   exact ⟨h1, h2, Nat.dvd_refl _, by simp⟩
 | c :: r, m, m', h1, h2, e => by
   unfold scM at e
   split at e
   · rename_i h
     obtain ⟨s1, s2⟩ := scM_step h1 c.v.den_pos h
     obtain ⟨i1, i2, i3, i4⟩ := scM_some r _ s1 s2 e
     rw [lcm_is] at i3
     refine ⟨i1, i2, Nat.dvd_trans (Nat.dvd_lcm_left _ _) i3, fun q hq => ?_⟩
     rcases List.mem_cons.1 hq with rfl | hq
     · exact Nat.dvd_trans (Nat.dvd_lcm_right _ _) i3
     · exact i4 q hq
   · cases e
structure Sc (L : List Cm) (m : Nat) : Prop where
 one : 1 ≤ m
 top : m ≤ 1000000000
 dvd : ∀ c ∈ L, c.v.den ∣ m
 val : ∀ c ∈ L, c.v.num * ((m / c.v.den : Nat) : Int) ≤ 1000000000000
theorem scaleL_some {L : List Cm} {m : Nat} (h : scaleL L = some m) : Sc L m := by
 unfold scaleL at h
 split at h
 · rename_i m' e
   split at h
   · rename_i ht
     cases h
     obtain ⟨h1, h2, _, h4⟩ := scM_some L 1 (by omega) (by omega) e
     refine ⟨h1, h2, h4, fun c hc => ?_⟩
     have h5 := List.all_eq_true.1 ht c hc
     simp only [decide_eq_true_eq] at h5
     have h6 : ((1000000000000 / (m / c.v.den) : Nat) : Int) * ((m / c.v.den : Nat) : Int) ≤ 1000000000000 := by
       rw [← Int.natCast_mul]
       have := Nat.div_mul_le_self 1000000000000 (m / c.v.den)
       omega
     exact Int.le_trans (Int.mul_le_mul_of_nonneg_right h5 (Int.natCast_nonneg _)) h6
   · cases h
 · cases h
theorem pgcd5_loop {x : List PV → Int → Int → Int → Int → Int → Int → Int → Bool → Int → Int → List PV → Int → Int → Bool → Prop} {l0 l11 : List PV} {i1 i2 i3 i4 i5 i6 i7 i12 i13 : Int} {b8 : Bool} : ∀ (n a b : Nat), b < n → L_audit_scale_1_0 x n l0 i1 i2 i3 i4 i5 i6 i7 b8 (a : Int) (b : Int) l11 i12 i13 = x l0 i1 i2 i3 i4 i5 i6 i7 b8 ((Nat.gcd a b : Nat) : Int) 0 l11 i12 i13 false
 | 0, a, b, h => by omega
 | n + 1, a, b, h => by
   unfold L_audit_scale_1_0
   by_cases hb : b = 0
   · subst hb
     simp [cbr]
   · have h1 : (b : Int) > 0 := by omega
     have e : Int.tmod (a : Int) (b : Int) = ((a % b : Nat) : Int) := by rw [Int.tmod_eq_emod_of_nonneg (by omega)]; omega
     dsimp only [lt]
     rw [cbT h1, asNo (by omega), e, pgcd5_loop n b (a % b) (by have := Nat.mod_lt a (show b > 0 by omega); omega)]
     rw [Nat.gcd_comm a b, Nat.gcd_rec b a, Nat.gcd_comm]
theorem rgcd_loop {x : Int → Int → Bool → Prop} : ∀ (n a b : Nat), b < n → L_r05_gcd_0_0 x n (a : Int) (b : Int) = x ((Nat.gcd a b : Nat) : Int) 0 false
 | 0, a, b, h => by omega
 | n + 1, a, b, h => by
   unfold L_r05_gcd_0_0
   by_cases hb : b = 0
   · subst hb
     simp [cbr]
   · have e : Int.tmod (a : Int) (b : Int) = ((a % b : Nat) : Int) := by rw [Int.tmod_eq_emod_of_nonneg (by omega)]; omega
     dsimp only [lt]
     rw [cnT (by omega), asNo (by omega), e, rgcd_loop n b (a % b) (by have := Nat.mod_lt a (show b > 0 by omega); omega)]
     rw [Nat.gcd_comm a b, Nat.gcd_rec b a, Nat.gcd_comm]
theorem rgcd_eq (a b : Nat) (K : Int → Prop) : w_r05_gcd (a : Int) (b : Int) K = K ((Nat.gcd a b : Nat) : Int) := by
 refine det_r05_gcd _ _ _ (fun K k => ?_) K
 unfold w_r05_gcd wv_r05_gcd
 exact ⟨b + 1, by rw [rgcd_loop (b + 1) a b (by omega)]; exact k⟩
theorem cm_ok_at {N : Int} {L : List Cm} (h : ∀ c ∈ L, c.ok N) {i : Nat} (hi : i < L.length) : (L.getD i default).ok N := by
 rw [List.getD_eq_getElem?_getD, List.getElem?_eq_getElem hi]
 exact h _ (List.getElem_mem hi)
theorem gcd_pos' {m d : Nat} (h : 1 ≤ m) : 0 < Nat.gcd m d := Nat.gcd_pos_of_pos_left _ (by omega)
theorem dgcd_small {m : Nat} {c : Cm} {N : Int} (hc : c.ok N) (_ : 1 ≤ m) : c.v.den / Nat.gcd m c.v.den ≤ 1000000000000000000 := by
 have h2 := hc.v.2.2
 exact Nat.le_trans (Nat.div_le_self _ _) (by omega)
theorem scale_loop {N : Int} {L : List Cm} (hc : ∀ c ∈ L, c.ok N) (hl : L.length < 1000000) {x0 : List PV → Int → List PV → Int → Int → Bool → Prop} {x1 : Int → Int → Prop} :
   ∀ (r i n m : Nat), i + r = L.length → r < n → 1 ≤ m → m ≤ 1000000000 →
     (match scM (L.drop i) m with | some m' => x0 (cms L) (m' : Int) (cms L) (L.length : Int) (L.length : Int) false | none => x1 0 16) →
     L_audit_scale_0_0 x0 x1 n (cms L) (m : Int) (cms L) (L.length : Int) (i : Int) := by
 intro r
 induction r with
 | zero =>
   intro i n m hi hn h1 h2 k
   obtain ⟨n, rfl⟩ : ∃ m, n = m + 1 := ⟨n - 1, by omega⟩
   obtain rfl : i = L.length := by omega
   rw [List.drop_length] at k
   rw [L_audit_scale_0_0, cbF (by omega)]
   exact k
 | succ r ih =>
   intro i n m hi hn h1 h2 k
   obtain ⟨n, rfl⟩ : ∃ m, n = m + 1 := ⟨n - 1, by omega⟩
   have hil : i < L.length := by omega
   have hd : L.drop i = L.getD i default :: L.drop (i + 1) := drop_cons default hil
   have hok := cm_ok_at hc hil
   rw [hd] at k
   rw [L_audit_scale_0_0, cbT (by omega)]
   dsimp only [lt]
   rw [cms_len, asT (by omega), asT (by omega), Int.toNat_natCast, cms_at hil, asCm]
   generalize L.getD i default = c at *
   refine ⟨c.v.den + 1, ?_⟩
   rw [encCm5]
   refine (pgcd5_loop _ m c.v.den (by omega)).mpr ?_
   have hg := gcd_pos' (d := c.v.den) h1
   have hs := dgcd_small hok h1
   have e1 : IntKind.i64.wrap (Int.tdiv ((c.v.den : Nat) : Int) ((Nat.gcd m c.v.den : Nat) : Int)) = ((c.v.den / Nat.gcd m c.v.den : Nat) : Int) := by rw [tdN5, wibN (by omega)]
   have e2 : IntKind.i64.wrap (Int.tdiv (1000000000 : Int) (m : Int)) = ((1000000000 / m : Nat) : Int) := by
     rw [show Int.tdiv (1000000000 : Int) (m : Int) = ((1000000000 / m : Nat) : Int) from rfl, wibN (by have := Nat.div_le_self 1000000000 m; omega)]
   rw [asNo (by omega), e1, asNo (by omega), e2]
   unfold scM at k
   by_cases h : c.v.den / Nat.gcd m c.v.den ≤ 1000000000 / m
   · rw [if_pos h] at k
     rw [cbF (by omega)]
     obtain ⟨s1, s2⟩ := scM_step h1 c.v.den_pos h
     rw [← Int.natCast_mul, wibN (by omega), cast1, wibN (by omega)]
     exact ih (i + 1) n _ (by omega) (by omega) s1 s2 k
   · rw [if_neg h] at k
     rw [cbT (by omega)]
     exact k
theorem scale2_loop {N : Int} {L : List Cm} (hc : ∀ c ∈ L, c.ok N) (hl : L.length < 1000000) {m : Nat} (h1 : 1 ≤ m) (h2 : m ≤ 1000000000) (hdv : ∀ c ∈ L, c.v.den ∣ m) {x0 : Int → List PV → Int → Int → Bool → Prop} {x1 : Int → Int → Prop} :
   ∀ (r i n : Nat), i + r = L.length → r < n →
     L_audit_scale_2_0 x0 x1 n (m : Int) (cms L) (L.length : Int) (i : Int) = if scT (L.drop i) m then x0 (m : Int) (cms L) (L.length : Int) (L.length : Int) false else x1 0 16 := by
 intro r
 induction r with
 | zero =>
   intro i n hi hn
   obtain ⟨n, rfl⟩ : ∃ m, n = m + 1 := ⟨n - 1, by omega⟩
   obtain rfl : i = L.length := by omega
   rw [L_audit_scale_2_0, cbF (by omega), List.drop_length]
   rfl
 | succ r ih =>
   intro i n hi hn
   obtain ⟨n, rfl⟩ : ∃ m, n = m + 1 := ⟨n - 1, by omega⟩
   have hil : i < L.length := by omega
   have hd : L.drop i = L.getD i default :: L.drop (i + 1) := drop_cons default hil
   have hm : L.getD i default ∈ L := by
     rw [List.getD_eq_getElem?_getD, List.getElem?_eq_getElem hil]
     exact List.getElem_mem hil
   have hok := hc _ hm
   have hv := hdv _ hm
   rw [L_audit_scale_2_0, cbT (by omega)]
   dsimp only [lt]
   rw [cms_len, asT (by omega), asT (by omega), Int.toNat_natCast, cms_at hil, asCm, encCm4, encCm5, hd]
   generalize L.getD i default = c at *
   have hdp := c.v.den_pos
   have hq : 0 < m / c.v.den := Nat.div_pos (Nat.le_of_dvd (by omega) hv) hdp
   have hq2 : m / c.v.den ≤ m := Nat.div_le_self _ _
   have hq3 := Nat.div_le_self 1000000000000 (m / c.v.den)
   have e1 : IntKind.i64.wrap (Int.tdiv (m : Int) ((c.v.den : Nat) : Int)) = ((m / c.v.den : Nat) : Int) := by rw [tdN5, wibN (by omega)]
   have e2 : IntKind.i64.wrap (Int.tdiv (1000000000000 : Int) ((m / c.v.den : Nat) : Int)) = ((1000000000000 / (m / c.v.den) : Nat) : Int) := by
     rw [show Int.tdiv (1000000000000 : Int) ((m / c.v.den : Nat) : Int) = ((1000000000000 / (m / c.v.den) : Nat) : Int) from rfl, wibN (by omega)]
   rw [asNo (by omega), e1, asNo (by omega), e2]
   unfold scT
   rw [List.all_cons]
   by_cases h : c.v.num ≤ ((1000000000000 / (m / c.v.den) : Nat) : Int)
   · rw [decide_eq_true h, Bool.true_and, cbF (by omega), cast1, wibN (by omega), ih (i + 1) n (by omega) (by omega)]
     rfl
   · rw [decide_eq_false h, Bool.false_and, cbT (by omega)]
     rfl
theorem scale_eq {N : Int} {L : List Cm} (hc : ∀ c ∈ L, c.ok N) (hl : L.length < 1000000) (K : Int → Int → Prop) : w_audit_scale (cms L) K = outSc (scaleL L) K := by
 have key : ∀ K, outSc (scaleL L) K → w_audit_scale (cms L) K := by
   intro K k
   unfold w_audit_scale wv_audit_scale
   refine ⟨L.length + 1, ?_⟩
   rw [cms_len]
   refine scale_loop hc hl L.length 0 (L.length + 1) 1 (by omega) (by omega) (by omega) (by omega) ?_
   rw [List.drop_zero]
   unfold scaleL at k
   cases e : scM L 1 with
   | none => rw [e] at k; exact k
   | some m =>
     rw [e] at k
     dsimp only at k ⊢
     obtain ⟨h1, h2, _, h4⟩ := scM_some L 1 (by omega) (by omega) e
     refine ⟨L.length + 1, ?_⟩
     rw [cms_len]
     refine (scale2_loop hc hl h1 h2 h4 L.length 0 (L.length + 1) (by omega) (by omega)).mpr ?_
     rw [List.drop_zero]
     split
     · rename_i h; rw [if_pos h] at k; exact k
     · rename_i h; rw [if_neg h] at k; exact k
 cases e : scaleL L with
 | none => exact det_audit_scale _ _ _ (fun K k => key K (by rw [e]; exact k)) K
 | some m => exact det_audit_scale _ _ _ (fun K k => key K (by rw [e]; exact k)) K
theorem rscale_loop {N : Int} {log : List Qy} (hok : ∀ q ∈ log, qOk N q = true) (hl : log.length < 1000000) {x0 : List PV → Int → Int → Bool → Prop} {x1 : Int → Int → Prop} :
   ∀ (r i n m : Nat), i + r = log.length → r < n → 1 ≤ m → m ≤ 1000000000 →
     (match scM ((log.map cmOf).drop i) m with | some m' => x0 (logs log) (m' : Int) (log.length : Int) false | none => x1 0 16) →
     L_r05_Scale_0_0 w_r05_Told w_r05_gcd x0 x1 n (logs log) (m : Int) (i : Int) := by
 intro r
 induction r with
 | zero =>
   intro i n m hi hn h1 h2 k
   obtain ⟨n, rfl⟩ : ∃ m, n = m + 1 := ⟨n - 1, by omega⟩
   obtain rfl : i = log.length := by omega
   rw [List.drop_eq_nil_of_le (by simp)] at k
   rw [L_r05_Scale_0_0, logs_len, cbF (by omega)]
   exact k
 | succ r ih =>
   intro i n m hi hn h1 h2 k
   obtain ⟨n, rfl⟩ : ∃ m, n = m + 1 := ⟨n - 1, by omega⟩
   have hil : i < log.length := by omega
   have hd : (log.map cmOf).drop i = cmOf (log.getD i default) :: (log.map cmOf).drop (i + 1) := by
     rw [← List.map_drop, drop_cons default hil, List.map_cons, List.map_drop]
   have hm : log.getD i default ∈ log := by
     rw [List.getD_eq_getElem?_getD, List.getElem?_eq_getElem hil]
     exact List.getElem_mem hil
   have hq := hok _ hm
   have hcm := qOk_cm hq
   rw [hd] at k
   rw [L_r05_Scale_0_0, logs_len, cbT (by omega)]
   dsimp only [lt]
   rw [asT (by omega), asT (by omega), Int.toNat_natCast, logs_at hil, asQ, encQ0, encQ1, encQ2, encQ3, encQ4, encQ5, encQ6, encQ7, Told_eq hq, rgcd_eq]
   generalize cmOf (log.getD i default) = c at *
   have hg := gcd_pos' (d := c.v.den) h1
   have hs := dgcd_small hcm h1
   have e1 : IntKind.i64.wrap (Int.tdiv ((c.v.den : Nat) : Int) ((Nat.gcd m c.v.den : Nat) : Int)) = ((c.v.den / Nat.gcd m c.v.den : Nat) : Int) := by rw [tdN5, wibN (by omega)]
   have e2 : IntKind.i64.wrap (Int.tdiv (1000000000 : Int) (m : Int)) = ((1000000000 / m : Nat) : Int) := by
     rw [show Int.tdiv (1000000000 : Int) (m : Int) = ((1000000000 / m : Nat) : Int) from rfl, wibN (by have := Nat.div_le_self 1000000000 m; omega)]
   rw [asNo (by omega), e1, asNo (by omega), e2]
   unfold scM at k
   by_cases h : c.v.den / Nat.gcd m c.v.den ≤ 1000000000 / m
   · rw [if_pos h] at k
     rw [cbF (by omega), asNo (by omega)]
     obtain ⟨s1, s2⟩ := scM_step h1 c.v.den_pos h
     rw [← Int.natCast_mul, wibN (by omega), cast1, wibN (by omega)]
     exact ih (i + 1) n _ (by omega) (by omega) s1 s2 k
   · rw [if_neg h] at k
     rw [cbT (by omega)]
     exact k
theorem rscale2_loop {N : Int} {log : List Qy} (hok : ∀ q ∈ log, qOk N q = true) (hl : log.length < 1000000) {m : Nat} (h1 : 1 ≤ m) (h2 : m ≤ 1000000000) (hdv : ∀ c ∈ log.map cmOf, c.v.den ∣ m) {x0 : List PV → Int → Int → Bool → Prop} {x1 : Int → Int → Prop} :
   ∀ (r i n : Nat), i + r = log.length → r < n →
     L_r05_Scale_1_0 w_r05_Told w_r05_gcd x0 x1 n (logs log) (m : Int) (i : Int) = if scT ((log.map cmOf).drop i) m then x0 (logs log) (m : Int) (log.length : Int) false else x1 0 16 := by
 intro r
 induction r with
 | zero =>
   intro i n hi hn
   obtain ⟨n, rfl⟩ : ∃ m, n = m + 1 := ⟨n - 1, by omega⟩
   obtain rfl : i = log.length := by omega
   rw [L_r05_Scale_1_0, logs_len, cbF (by omega), List.drop_eq_nil_of_le (by simp)]
   rfl
 | succ r ih =>
   intro i n hi hn
   obtain ⟨n, rfl⟩ : ∃ m, n = m + 1 := ⟨n - 1, by omega⟩
   have hil : i < log.length := by omega
   have hd : (log.map cmOf).drop i = cmOf (log.getD i default) :: (log.map cmOf).drop (i + 1) := by
     rw [← List.map_drop, drop_cons default hil, List.map_cons, List.map_drop]
   have hm : log.getD i default ∈ log := by
     rw [List.getD_eq_getElem?_getD, List.getElem?_eq_getElem hil]
     exact List.getElem_mem hil
   have hq := hok _ hm
   have hv := hdv _ (List.mem_map_of_mem hm)
   rw [L_r05_Scale_1_0, logs_len, cbT (by omega)]
   dsimp only [lt]
   rw [asT (by omega), asT (by omega), Int.toNat_natCast, logs_at hil, asQ, encQ0, encQ1, encQ2, encQ3, encQ4, encQ5, encQ6, encQ7, Told_eq hq, hd]
   generalize cmOf (log.getD i default) = c at *
   have hdp := c.v.den_pos
   have hq : 0 < m / c.v.den := Nat.div_pos (Nat.le_of_dvd (by omega) hv) hdp
   have hq2 : m / c.v.den ≤ m := Nat.div_le_self _ _
   have hq3 := Nat.div_le_self 1000000000000 (m / c.v.den)
   have e1 : IntKind.i64.wrap (Int.tdiv (m : Int) ((c.v.den : Nat) : Int)) = ((m / c.v.den : Nat) : Int) := by rw [tdN5, wibN (by omega)]
   have e2 : IntKind.i64.wrap (Int.tdiv (1000000000000 : Int) ((m / c.v.den : Nat) : Int)) = ((1000000000000 / (m / c.v.den) : Nat) : Int) := by
     rw [show Int.tdiv (1000000000000 : Int) ((m / c.v.den : Nat) : Int) = ((1000000000000 / (m / c.v.den) : Nat) : Int) from rfl, wibN (by omega)]
   rw [asNo (by omega), e1, asNo (by omega), e2]
   unfold scT
   rw [List.all_cons]
   by_cases h : c.v.num ≤ ((1000000000000 / (m / c.v.den) : Nat) : Int)
   · rw [decide_eq_true h, Bool.true_and, cbF (by omega), cast1, wibN (by omega), ih (i + 1) n (by omega) (by omega)]
     rfl
   · rw [decide_eq_false h, Bool.false_and, cbT (by omega)]
     rfl
theorem rscale_eq {N : Int} {log : List Qy} (hok : ∀ q ∈ log, qOk N q = true) (hl : log.length < 1000000) (K : Int → Int → Prop) : w_r05_Scale (logs log) K = outSc (scaleL (log.map cmOf)) K := by
 have key : ∀ K, outSc (scaleL (log.map cmOf)) K → w_r05_Scale (logs log) K := by
   intro K k
   unfold w_r05_Scale wv_r05_Scale
   refine ⟨log.length + 1, ?_⟩
   refine rscale_loop hok hl log.length 0 (log.length + 1) 1 (by omega) (by omega) (by omega) (by omega) ?_
   rw [List.drop_zero]
   unfold scaleL at k
   cases e : scM (log.map cmOf) 1 with
   | none => rw [e] at k; exact k
   | some m =>
     rw [e] at k
     dsimp only at k ⊢
     obtain ⟨h1, h2, _, h4⟩ := scM_some (log.map cmOf) 1 (by omega) (by omega) e
     refine ⟨log.length + 1, ?_⟩
     refine (rscale2_loop hok hl h1 h2 h4 log.length 0 (log.length + 1) (by omega) (by omega)).mpr ?_
     rw [List.drop_zero]
     split
     · rename_i h; rw [if_pos h] at k; exact k
     · rename_i h; rw [if_neg h] at k; exact k
 cases e : scaleL (log.map cmOf) with
 | none => exact det_r05_Scale _ _ _ (fun K k => key K (by rw [e]; exact k)) K
 | some m => exact det_r05_Scale _ _ _ (fun K k => key K (by rw [e]; exact k)) K
end Go.Pf.Vc
namespace Go.Pf.Vc
open Go Go.Pf Go.Sort
theorem asI (n : Int) (P : Prop) : asr (conf (.one (.i .i64)) (.int .i64 n)) P = P := rfl
theorem ivI (n : Int) : intOfV (.int .i64 n) = n := rfl
theorem ints_hAt {l : List Int} {i : Nat} (h : i < l.length) : List.getD (ints l) i .nils = .int .i64 (hAt l i) := ints_at h
theorem ints_set (l : List Int) (i : Nat) (v : Int) : List.set (ints l) i (.int .i64 v) = ints (l.set i v) := by unfold ints; rw [List.map_set]
theorem incr_at : ∀ {l : List Rat}, incrR l → ∀ {i j : Nat}, j < l.length → (l.getD i 0 < l.getD j 0 ↔ i < j) ∨ l.length ≤ i
 | [], _, i, j, h => by simp at h
 | x :: r, hi, i, j, h => by
   by_cases hl : (x :: r).length ≤ i
   · exact .inr hl
   · left
     have key : ∀ (a b : Nat), a < b → b < (x :: r).length → (x :: r).getD a 0 < (x :: r).getD b 0 := by
       intro a b hab hb
       cases b with
       | zero => omega
       | succ b =>
         have hb2 : b < r.length := by simpa using hb
         cases a with
         | zero =>
           show x < r.getD b 0
           exact hi.1 _ (by rw [List.getD_eq_getElem?_getD, List.getElem?_eq_getElem hb2]; exact List.getElem_mem hb2)
         | succ a =>
           show r.getD a 0 < r.getD b 0
           rcases incr_at hi.2 (i := a) (j := b) hb2 with h1 | h1
           · exact h1.2 (by omega)
           · omega
     constructor
     · intro hlt
       refine Nat.not_le.1 fun hle => ?_
       by_cases e : j = i
       · subst e; exact absurd hlt Rat.lt_irrefl
       · have := key j i (by omega) (by omega)
         grind
     · intro hij
       exact key i j hij h
theorem incr_lt {l : List Rat} (h : incrR l) {i j : Nat} (hi : i < l.length) (hj : j < l.length) : l.getD i 0 < l.getD j 0 ↔ i < j := by
 rcases incr_at h (i := i) (j := j) hj with h1 | h1
 · exact h1
 · omega
theorem getD_idx {l : List Rat} {q : Rat} (h : q ∈ l) : l.getD (l.idxOf q) 0 = q := by
 have hi := idx_lt h
 rw [List.getD_eq_getElem?_getD, List.getElem?_eq_getElem hi]
 exact List.getElem_idxOf hi
theorem mid_wrap {i j : Nat} (h : i + j < 1000000) : IntKind.i64.wrap (Int.fdiv (IntKind.u64.wrap (IntKind.i64.wrap ((i : Int) + (j : Int)))) 2) = (((i + j) / 2 : Nat) : Int) := by
 rw [← Int.natCast_add, wibN (by omega), wu64 ⟨by omega, by omega⟩, Int.fdiv_eq_ediv_of_nonneg _ (by omega)]
 rw [show (((i + j : Nat) : Int) / 2) = (((i + j) / 2 : Nat) : Int) by omega, wibN (by omega)]
section
variable {a1 : T_s_Equal_int64_int64} {ps : List Rat} {q : Rat}
theorem bs0_loop (hi : incrR ps) (hs : ∀ z ∈ ps, small z) (hl : ps.length < 10000) (hq : q ∈ ps) {l0 l1 : List PV} {x : List PV → List PV → List PV → Int → Int → Int → Int → Int → Bool → Prop} :
   ∀ (d i j n : Nat), j - i ≤ d → d < n → i ≤ ps.idxOf q → ps.idxOf q ≤ j → j ≤ ps.length →
     L_audit_heights_1_0 w_audit_order a1 x n l0 l1 (rts ps) q.num q.den (ps.length : Int) (i : Int) (j : Int) = x l0 l1 (rts ps) q.num q.den (ps.length : Int) (ps.idxOf q : Int) (ps.idxOf q : Int) false := by
 intro d
 induction d with
 | zero =>
   intro i j n hd hn h1 h2 h3
   obtain ⟨n, rfl⟩ : ∃ m, n = m + 1 := ⟨n - 1, by omega⟩
   rw [L_audit_heights_1_0, cbF (by omega), show i = ps.idxOf q by omega, show j = ps.idxOf q by omega]
 | succ d ih =>
   intro i j n hd hn h1 h2 h3
   obtain ⟨n, rfl⟩ : ∃ m, n = m + 1 := ⟨n - 1, by omega⟩
   have hix := idx_lt hq
   by_cases hij : i < j
   · rw [L_audit_heights_1_0, cbT (by omega)]
     dsimp only [lt]
     have hm : (i + j) / 2 < ps.length := by omega
     rw [mid_wrap (by omega), rts_len, asT (by omega), asT (by omega), Int.toNat_natCast, rts_at hm, asW, encW0, encW1, aorder_rv (small_at hs hm).rv (hs q hq).rv, rt_self, rt_self, cmpQ_neg]
     have hlt : ps.getD ((i + j) / 2) 0 < q ↔ (i + j) / 2 < ps.idxOf q := by
       have := incr_lt hi hm hix
       rw [getD_idx hq] at this
       exact this
     by_cases hc : (i + j) / 2 < ps.idxOf q
     · rw [decide_eq_true (hlt.2 hc), cbr_true, cast1, wibN (by omega)]
       exact ih _ _ n (by omega) (by omega) (by omega) h2 h3
     · rw [decide_eq_false (fun k => hc (hlt.1 k)), cbr_false]
       exact ih _ _ n (by omega) (by omega) h1 (by omega) (by omega)
   · rw [L_audit_heights_1_0, cbF (by omega), show i = ps.idxOf q by omega, show j = ps.idxOf q by omega]
theorem bs1_loop (hi : incrR ps) (hs : ∀ z ∈ ps, small z) (hl : ps.length < 10000) (hq : q ∈ ps) {l0 l1 l2 : List PV} {x : List PV → List PV → List PV → List PV → Int → Int → Int → Int → Int → Bool → Prop} :
   ∀ (d i j n : Nat), j - i ≤ d → d < n → i ≤ ps.idxOf q → ps.idxOf q ≤ j → j ≤ ps.length →
     L_audit_heights_1_1 w_audit_order a1 x n l0 l1 l2 (rts ps) q.num q.den (ps.length : Int) (i : Int) (j : Int) = x l0 l1 l2 (rts ps) q.num q.den (ps.length : Int) (ps.idxOf q : Int) (ps.idxOf q : Int) false := by
 intro d
 induction d with
 | zero =>
   intro i j n hd hn h1 h2 h3
   obtain ⟨n, rfl⟩ : ∃ m, n = m + 1 := ⟨n - 1, by omega⟩
   rw [L_audit_heights_1_1, cbF (by omega), show i = ps.idxOf q by omega, show j = ps.idxOf q by omega]
 | succ d ih =>
   intro i j n hd hn h1 h2 h3
   obtain ⟨n, rfl⟩ : ∃ m, n = m + 1 := ⟨n - 1, by omega⟩
   have hix := idx_lt hq
   by_cases hij : i < j
   · rw [L_audit_heights_1_1, cbT (by omega)]
     dsimp only [lt]
     have hm : (i + j) / 2 < ps.length := by omega
     rw [mid_wrap (by omega), rts_len, asT (by omega), asT (by omega), Int.toNat_natCast, rts_at hm, asW, encW0, encW1, aorder_rv (small_at hs hm).rv (hs q hq).rv, rt_self, rt_self, cmpQ_neg]
     have hlt : ps.getD ((i + j) / 2) 0 < q ↔ (i + j) / 2 < ps.idxOf q := by
       have := incr_lt hi hm hix
       rw [getD_idx hq] at this
       exact this
     by_cases hc : (i + j) / 2 < ps.idxOf q
     · rw [decide_eq_true (hlt.2 hc), cbr_true, cast1, wibN (by omega)]
       exact ih _ _ n (by omega) (by omega) (by omega) h2 h3
     · rw [decide_eq_false (fun k => hc (hlt.1 k)), cbr_false]
       exact ih _ _ n (by omega) (by omega) h1 (by omega) (by omega)
   · rw [L_audit_heights_1_1, cbF (by omega), show i = ps.idxOf q by omega, show j = ps.idxOf q by omega]
theorem bsAt0 (hi : incrR ps) (hs : ∀ z ∈ ps, small z) (hl : ps.length < 10000) (hq : q ∈ ps) {l0 l1 : List PV} {G : List PV → List PV → Int → Prop} (k : G l0 l1 (ps.idxOf q : Int)) {a b N N' : Int} (ea : q.num = a) (eb : (q.den : Int) = b) (eN : (ps.length : Int) = N) (eN' : (ps.length : Int) = N') :
   ∃ n : Nat, L_audit_heights_1_0 w_audit_order a1
     (fun yl390 yl391 yl392 yi393 yi394 yi395 yi396 _ _ => (Go.Pf.jn (fun (yj402 : Bool → Prop) =>
     (cbr (decide (yi396 < yi395))
     (asr (decide ((0 : Int) ≤ yi396))
     (asr (decide (yi396 < (((List.length yl392) : Nat) : Int)))
     (lt (List.getD yl392 (yi396.toNat) .nils) (fun yr404 =>
     (asr (conf (.agg [.i .i64, .i .i64]) yr404)
     (w_audit_order (intOfV (cellAt yr404 0)) (intOfV (cellAt yr404 1)) yi393 yi394 (fun yi405 => 
     (yj402 (yi405 == (0 : Int))))))))))
     (yj402 false)))
     (fun _ => G yl390 yl391 yi396))) n l0 l1 (rts ps) a b N (0 : Int) N' := by
 subst ea eb eN eN'
 refine ⟨ps.length + 1, ?_⟩
 have hix := idx_lt hq
 refine (bs0_loop hi hs hl hq ps.length 0 ps.length (ps.length + 1) (by omega) (by omega) (by omega) (by omega) (Nat.le_refl _)).mpr ?_
 dsimp only [Go.Pf.jn, lt]
 rw [cbT (by omega), rts_len, asT (by omega), asT (by omega), Int.toNat_natCast, rts_at hix, asW, encW0, encW1, getD_idx hq, aorder_rv (hs q hq).rv (hs q hq).rv]
 exact k
theorem bsAt1 (hi : incrR ps) (hs : ∀ z ∈ ps, small z) (hl : ps.length < 10000) (hq : q ∈ ps) {l0 l1 l2 : List PV} {G : List PV → List PV → List PV → Int → Prop} (k : G l0 l1 l2 (ps.idxOf q : Int)) {a b N N' : Int} (ea : q.num = a) (eb : (q.den : Int) = b) (eN : (ps.length : Int) = N) (eN' : (ps.length : Int) = N') :
   ∃ n : Nat, L_audit_heights_1_1 w_audit_order a1
     (fun yl390 yl391 yl1954 yl392 yi393 yi394 yi395 yi396 _ _ => (Go.Pf.jn (fun (yj402 : Bool → Prop) =>
     (cbr (decide (yi396 < yi395))
     (asr (decide ((0 : Int) ≤ yi396))
     (asr (decide (yi396 < (((List.length yl392) : Nat) : Int)))
     (lt (List.getD yl392 (yi396.toNat) .nils) (fun yr404 =>
     (asr (conf (.agg [.i .i64, .i .i64]) yr404)
     (w_audit_order (intOfV (cellAt yr404 0)) (intOfV (cellAt yr404 1)) yi393 yi394 (fun yi405 => 
     (yj402 (yi405 == (0 : Int))))))))))
     (yj402 false)))
     (fun _ => G yl390 yl391 yl1954 yi396))) n l0 l1 l2 (rts ps) a b N (0 : Int) N' := by
 subst ea eb eN eN'
 refine ⟨ps.length + 1, ?_⟩
 have hix := idx_lt hq
 refine (bs1_loop hi hs hl hq ps.length 0 ps.length (ps.length + 1) (by omega) (by omega) (by omega) (by omega) (Nat.le_refl _)).mpr ?_
 dsimp only [Go.Pf.jn, lt]
 rw [cbT (by omega), rts_len, asT (by omega), asT (by omega), Int.toNat_natCast, rts_at hix, asW, encW0, encW1, getD_idx hq, aorder_rv (hs q hq).rv (hs q hq).rv]
 exact k
end
def bndT (h : List Int) (T : Int) (r : Nat) : Prop := ∀ i, 0 ≤ hAt h i ∧ hAt h i + 100000000000000 * (r : Int) ≤ T
theorem relax_bndT {h : List Int} {T : Int} {r : Nat} {q : Rl} (hb : bndT h T (r + 1)) (hq : q.2.1 < h.length) (ha : q.2.2 ≤ 100000000000000) : bndT (relax q h) T r := by
 intro i
 have h1 := hb i
 have h2 := hb q.1
 rw [relax_at hq]
 split <;> omega
theorem max_relax {h : List Int} {a b : Nat} {v : Int} (hb : b < h.length) : h.set b (if hAt h a + v > hAt h b then hAt h a + v else hAt h b) = relax (a, b, v) h := by
 unfold relax
 dsimp only
 split
 · rfl
 · apply List.ext_getElem?
   intro i
   rw [List.getElem?_set]
   by_cases e : b = i
   · subst e
     rw [if_pos rfl, if_pos hb]
     unfold hAt
     rw [List.getD_eq_getElem?_getD, List.getElem?_eq_getElem hb]
     rfl
   · rw [if_neg e]
theorem set_relax {h : List Int} {a b : Nat} {v w : Int} (hb : b < h.length) (hw : w = hAt h a + v) : List.set (ints h) b (.int .i64 (if w > hAt h b then w else hAt h b)) = ints (relax (a, b, v) h) := by
 subst hw
 rw [ints_set, max_relax hb]
def conF (st : List Int) (i r : Nat) : List Rl := (List.range' i r).map fun j => (j - 1, j, hAt st j)
theorem conF_succ (st : List Int) (i r : Nat) : conF st i (r + 1) = (i - 1, i, hAt st i) :: conF st (i + 1) r := by
 unfold conF
 rw [List.range'_succ]
 rfl
theorem con_loop {a1 : T_s_Equal_int64_int64} {st : List Int} {k : Nat} (hst : st.length = k) (h01 : ∀ i, 0 ≤ hAt st i ∧ hAt st i ≤ 1) (hk : k < 10000) {T : Int} (hT : T ≤ 9000000000000000000) {l2 l3 l12 : List PV} {i4 i5 i14 i15 : Int} {x : List PV → List PV → List PV → List PV → Int → Int → Nat → Nat → Nat → Nat → Nat → Nat → List PV → Int → Int → Int → Bool → Prop} :
   ∀ (r i n : Nat) (h : List Int), i + r = k → 1 ≤ i → r < n → h.length = k → bndT h T r →
     L_audit_heights_3_0 w_audit_order a1 x n (ints st) (ints h) l2 l3 i4 i5 k k k k k k l12 (i : Int) i14 i15 = x (ints st) (ints (pass (conF st i r) h)) l2 l3 i4 i5 k k k k k k l12 (k : Int) i14 i15 false := by
 intro r
 induction r with
 | zero =>
   intro i n h hi h1 hn hl hb
   obtain ⟨n, rfl⟩ : ∃ m, n = m + 1 := ⟨n - 1, by omega⟩
   obtain rfl : i = k := by omega
   rw [L_audit_heights_3_0, cbF (by omega)]
   rfl
 | succ r ih =>
   intro i n h hi h1 hn hl hb
   obtain ⟨n, rfl⟩ : ∃ m, n = m + 1 := ⟨n - 1, by omega⟩
   have e2 := wib (n := (i : Int) - 1) (by omega) (by omega)
   have e3 : (i : Int) - 1 = ((i - 1 : Nat) : Int) := by omega
   rw [e3] at e2
   have hb1 := hb (i - 1)
   have hs1 := h01 i
   have ew : IntKind.i64.wrap (hAt h (i - 1) + hAt st i) = hAt h (i - 1) + hAt st i := wib (by omega) (by omega)
   rw [L_audit_heights_3_0, cbT (by omega)]
   dsimp only [lt]
   rw [ints_len, ints_len, hl, hst, e3, e2, Nat.zero_add, Nat.zero_add, Int.toNat_natCast, Int.toNat_natCast, ints_hAt (by omega), ints_hAt (by omega), ints_hAt (by omega)]
   simp (discharger := omega) only [asT, asI, ivI, asTr]
   have key := ih (i + 1) n (relax (i - 1, i, hAt st i) h) (by omega) (by omega) (by omega) (by rw [relax_len]; exact hl) (relax_bndT hb (by show i < h.length; omega) (by show hAt st i ≤ _; omega))
   rw [cast1, wibN (by omega), conF_succ, pass_cons]
   exact Eq.trans (congrArg (fun z => L_audit_heights_3_0 w_audit_order a1 x n (ints st) z l2 l3 i4 i5 k k k k k k l12 ((i + 1 : Nat) : Int) i14 i15) (set_relax (by omega) ew)) key
end Go.Pf.Vc
namespace Go.Pf.Vc
open Go Go.Pf Go.Sort
theorem jn_def {α : Type} (f : α → Prop) (k : α) : Go.Pf.jn f k = f k := rfl
def vC (m s : Nat) (c : Cm) : Int := c.v.num * ((m / c.v.den : Nat) : Int) * (s : Int)
def clR (ps : List Rat) (m s : Nat) (L : List Cm) : List Rl := L.flatMap fun c => [(ps.idxOf c.f, ps.idxOf c.t, vC m s c), (ps.idxOf c.t, ps.idxOf c.f, -vC m s c)]
def stF (ps : List Rat) : List Cm → List Int → Option (List Int)
 | [], st => some st
 | c :: r, st => if c.m then (if c.v = 0 then (if c.f = c.t then stF ps r st else none) else stF ps r (st.set (ps.idxOf c.t) 1)) else stF ps r st
def hR (ps : List Rat) (m : Nat) (L : List Cm) (st : List Int) : List Rl := conF st 1 (ps.length - 1) ++ clR ps m (ps.length + 1) L
def hts (ps : List Rat) (m : Nat) (L : List Cm) : Option (List Int) := match stF ps L (zeros ps.length) with
 | some st => bf0 (hR ps m L st) ps.length
 | none => none
structure Hy (N : Int) (ps : List Rat) (L : List Cm) (m : Nat) : Prop where
 inc : incrR ps
 sm : ∀ z ∈ ps, small z
 two : 2 ≤ ps.length
 top : ps.length ≤ 99
 ok : ∀ c ∈ L, c.ok N ∧ c.f ∈ ps ∧ c.t ∈ ps
 len : L.length ≤ 50
 sc : Sc L m
 p0 : ps.getD 0 0 = 0
theorem vC_bnd {N : Int} {ps : List Rat} {L : List Cm} {m : Nat} (H : Hy N ps L m) {c : Cm} (hc : c ∈ L) : 0 ≤ c.v.num ∧ 0 ≤ c.v.num * ((m / c.v.den : Nat) : Int) ∧ c.v.num * ((m / c.v.den : Nat) : Int) ≤ 1000000000000 ∧ 0 ≤ vC m (ps.length + 1) c ∧ vC m (ps.length + 1) c ≤ 100000000000000 := by
 have h1 := H.sc.val c hc
 have h2 : 0 ≤ c.v.num := Rat.num_nonneg.2 (H.ok c hc).1.v0
 have h3 := Int.mul_nonneg h2 (show 0 ≤ ((m / c.v.den : Nat) : Int) from Int.natCast_nonneg _)
 have ht := H.top
 refine ⟨h2, h3, h1, Int.mul_nonneg h3 (Int.natCast_nonneg _), ?_⟩
 unfold vC
 have h4 : c.v.num * ((m / c.v.den : Nat) : Int) * ((ps.length + 1 : Nat) : Int) ≤ 1000000000000 * ((ps.length + 1 : Nat) : Int) := Int.mul_le_mul_of_nonneg_right h1 (Int.natCast_nonneg _)
 omega
theorem vC_wrap {N : Int} {ps : List Rat} {L : List Cm} {m : Nat} (H : Hy N ps L m) {c : Cm} (hc : c ∈ L) :
   IntKind.i64.wrap (IntKind.i64.wrap (c.v.num * IntKind.i64.wrap (Int.tdiv (m : Int) ((c.v.den : Nat) : Int))) * ((ps.length + 1 : Nat) : Int)) = vC m (ps.length + 1) c := by
 obtain ⟨h1, h2, h3, h4, h5⟩ := vC_bnd H hc
 have h6 := Nat.div_le_self m c.v.den
 have h7 := H.sc.top
 rw [tdN5, wibN (by omega), wib (n := c.v.num * ((m / c.v.den : Nat) : Int)) (by omega) (by omega)]
 unfold vC at h4 h5 ⊢
 exact wib (by omega) (by omega)
theorem setR1 {h : List Int} {a b : Nat} {v : Int} (ha : a < h.length) (hb : b < h.length) (h1 : -9223372036854775808 ≤ hAt h a + v) (h2 : hAt h a + v ≤ 9223372036854775807) :
   List.set (ints h) (0 + ((b : Nat) : Int).toNat) (.int .i64 (if IntKind.i64.wrap ((intOfV (List.getD (ints h) (0 + ((a : Nat) : Int).toNat) .nils)) + v) > (intOfV (List.getD (ints h) (0 + ((b : Nat) : Int).toNat) .nils)) then IntKind.i64.wrap ((intOfV (List.getD (ints h) (0 + ((a : Nat) : Int).toNat) .nils)) + v) else (intOfV (List.getD (ints h) (0 + ((b : Nat) : Int).toNat) .nils)))) = ints (relax (a, b, v) h) := by
 have e1 : intOfV (List.getD (ints h) (0 + ((a : Nat) : Int).toNat) .nils) = hAt h a := by rw [Int.toNat_natCast, Nat.zero_add, ints_hAt ha, ivI]
 have e2 : intOfV (List.getD (ints h) (0 + ((b : Nat) : Int).toNat) .nils) = hAt h b := by rw [Int.toNat_natCast, Nat.zero_add, ints_hAt hb, ivI]
 rw [e1, e2, wib h1 h2, Int.toNat_natCast, Nat.zero_add]
 exact set_relax hb rfl
theorem setR2 {h : List Int} {a b : Nat} {v : Int} (ha : a < h.length) (hb : b < h.length) (h1 : -9223372036854775808 ≤ hAt h b - v) (h2 : hAt h b - v ≤ 9223372036854775807) :
   List.set (ints h) (0 + ((a : Nat) : Int).toNat) (.int .i64 (if IntKind.i64.wrap ((intOfV (List.getD (ints h) (0 + ((b : Nat) : Int).toNat) .nils)) - v) > (intOfV (List.getD (ints h) (0 + ((a : Nat) : Int).toNat) .nils)) then IntKind.i64.wrap ((intOfV (List.getD (ints h) (0 + ((b : Nat) : Int).toNat) .nils)) - v) else (intOfV (List.getD (ints h) (0 + ((a : Nat) : Int).toNat) .nils)))) = ints (relax (b, a, -v) h) := by
 have e1 : intOfV (List.getD (ints h) (0 + ((a : Nat) : Int).toNat) .nils) = hAt h a := by rw [Int.toNat_natCast, Nat.zero_add, ints_hAt ha, ivI]
 have e2 : intOfV (List.getD (ints h) (0 + ((b : Nat) : Int).toNat) .nils) = hAt h b := by rw [Int.toNat_natCast, Nat.zero_add, ints_hAt hb, ivI]
 rw [e1, e2, wib h1 h2, Int.toNat_natCast, Nat.zero_add]
 exact set_relax ha (by omega)
theorem cl_loop {N : Int} {ps : List Rat} {L : List Cm} {m : Nat} (H : Hy N ps L m) {a1 : T_s_Equal_int64_int64} {T : Int} (hT : T ≤ 9000000000000000000) {l0 l3 l12 : List PV} {i13 i14 : Int} {x : List PV → List PV → List PV → List PV → Int → Int → Nat → Nat → Nat → Nat → Nat → Nat → List PV → Int → Int → List PV → Int → Int → Bool → Prop} :
   ∀ (r i n : Nat) (h : List Int), i + r = L.length → r < n → h.length = ps.length → bndT h T (2 * r) →
     x l0 (ints (pass (clR ps m (ps.length + 1) (L.drop i)) h)) (rts ps) l3 (m : Int) ((ps.length + 1 : Nat) : Int) ps.length ps.length ps.length ps.length ps.length ps.length l12 i13 i14 (cms L) (L.length : Int) (L.length : Int) false →
     L_audit_heights_4_0 w_audit_order a1 x n l0 (ints h) (rts ps) l3 (m : Int) ((ps.length + 1 : Nat) : Int) ps.length ps.length ps.length ps.length ps.length ps.length l12 i13 i14 (cms L) (L.length : Int) (i : Int) := by
 intro r
 induction r with
 | zero =>
   intro i n h hi hn hl hb k
   obtain ⟨n, rfl⟩ : ∃ m, n = m + 1 := ⟨n - 1, by omega⟩
   obtain rfl : i = L.length := by omega
   rw [List.drop_length] at k
   rw [L_audit_heights_4_0, cbF (by omega)]
   exact k
 | succ r ih =>
   intro i n h hi hn hl hb k
   obtain ⟨n, rfl⟩ : ∃ m, n = m + 1 := ⟨n - 1, by omega⟩
   have hil : i < L.length := by omega
   have hLl := H.len
   have hd : L.drop i = L.getD i default :: L.drop (i + 1) := drop_cons default hil
   have hm : L.getD i default ∈ L := by
     rw [List.getD_eq_getElem?_getD, List.getElem?_eq_getElem hil]
     exact List.getElem_mem hil
   obtain ⟨c1, c2, c3⟩ := H.ok _ hm
   have hat := cms_at hil
   rw [hd] at k
   generalize L.getD i default = c at *
   obtain ⟨v1, v2, v3, v4, v5⟩ := vC_bnd H hm
   have hw := vC_wrap H hm
   have ht := H.top
   have hdv := c.v.den_pos
   have hia := idx_lt c2
   have hib := idx_lt c3
   have hba := hb (ps.idxOf c.f)
   rw [L_audit_heights_4_0, cbT (by omega), cms_len, asT (by omega), asT (by omega), Int.toNat_natCast, hat]
   show asr (conf (.agg [.i .i64, .i .i64, .i .i64, .i .i64, .i .i64, .i .i64, .b]) (encCm c)) _
   rw [asCm]
   refine bsAt1 H.inc H.sm (by omega) c2 ?_ (encCm0 c).symm (encCm1 c).symm (by rw [rts_len]) (by rw [rts_len])
   refine bsAt1 H.inc H.sm (by omega) c3 ?_ (encCm2 c).symm (encCm3 c).symm (by rw [rts_len]) (by rw [rts_len])
   dsimp only [lt]
   rw [encCm5, encCm4, asNo (by omega), hw]
   have hb1 := relax_bndT (q := (ps.idxOf c.f, ps.idxOf c.t, vC m (ps.length + 1) c)) (r := 2 * r + 1) (by rw [show 2 * r + 1 + 1 = 2 * (r + 1) by omega]; exact hb) (by show ps.idxOf c.t < h.length; omega) v5
   have hl1 : (relax (ps.idxOf c.f, ps.idxOf c.t, vC m (ps.length + 1) c) h).length = ps.length := by rw [relax_len]; exact hl
   have hbb := hb1 (ps.idxOf c.t)
   rw [setR1 (by omega) (by omega) (by omega) (by omega)]
   rw [setR2 (by omega) (by omega) (by omega) (by omega)]
   simp (discharger := omega) only [ints_len, hl, hl1, asT, asTr, Int.toNat_natCast, Nat.zero_add, ints_hAt, asI]
   rw [cast1, wibN (by omega)]
   refine ih (i + 1) n _ (by omega) (by omega) (by rw [relax_len]; exact hl1) (relax_bndT hb1 (by show ps.idxOf c.f < _; omega) (by show -vC m (ps.length + 1) c ≤ _; omega)) ?_
   exact k
theorem Equal_loop {a b : List Int} (hl : a.length = b.length) (hl2 : a.length < 1000000) {x0 : List PV → List PV → Int → Int → Bool → Prop} {x1 : Bool → Prop} :
   ∀ (r i n : Nat), i + r = a.length → r < n → L_s_Equal_int64_int64_0_0 x0 x1 n (ints a) (ints b) (a.length : Int) (i : Int) = if a.drop i = b.drop i then x0 (ints a) (ints b) (a.length : Int) (a.length : Int) false else x1 false := by
 intro r
 induction r with
 | zero =>
   intro i n hi hn
   obtain ⟨n, rfl⟩ : ∃ m, n = m + 1 := ⟨n - 1, by omega⟩
   obtain rfl : i = a.length := by omega
   rw [L_s_Equal_int64_int64_0_0, cbF (by omega), if_pos (by rw [List.drop_length, List.drop_eq_nil_of_le (by omega)])]
 | succ r ih =>
   intro i n hi hn
   obtain ⟨n, rfl⟩ : ∃ m, n = m + 1 := ⟨n - 1, by omega⟩
   have hil : i < a.length := by omega
   have h1 : a.drop i = a.getD i 0 :: a.drop (i + 1) := drop_cons 0 hil
   have h2 : b.drop i = b.getD i 0 :: b.drop (i + 1) := drop_cons 0 (by omega)
   rw [L_s_Equal_int64_int64_0_0, cbT (by omega)]
   dsimp only [lt]
   rw [ints_len, ints_len, asT (by omega), asT (by omega), Int.toNat_natCast, ints_at hil, asI, asT (by omega), asT (by omega), ints_at (by omega), asI, ivI, ivI, cast1, wibN (by omega), h1, h2]
   by_cases h : a.getD i 0 = b.getD i 0
   · rw [cnF h, ih (i + 1) n (by omega) (by omega), h]
     by_cases h3 : a.drop (i + 1) = b.drop (i + 1)
     · rw [if_pos h3, if_pos (by rw [h3])]
     · rw [if_neg h3, if_neg (fun k => h3 (List.cons.inj k).2)]
   · rw [cnT h, if_neg (fun k => h (List.cons.inj k).1)]
theorem Equal_eq {a b : List Int} (hl2 : a.length < 1000000) (K : Bool → Prop) : w_s_Equal_int64_int64 (ints a) (ints b) K = K (decide (a = b)) := by
 refine det_s_Equal_int64_int64 _ _ _ (fun K k => ?_) K
 unfold w_s_Equal_int64_int64 wv_s_Equal_int64_int64
 rw [ints_len, ints_len]
 by_cases hl : a.length = b.length
 · rw [cnF (by omega)]
   refine ⟨a.length + 1, ?_⟩
   refine (Equal_loop hl hl2 a.length 0 (a.length + 1) (by omega) (by omega)).mpr ?_
   rw [List.drop_zero, List.drop_zero]
   split
   · rename_i h; rw [decide_eq_true h] at k; exact k
   · rename_i h; rw [decide_eq_false h] at k; exact k
 · rw [cnT (by omega)]
   rw [decide_eq_false (fun e => hl (by rw [e]))] at k
   exact k
theorem clnD_ints {h : List Int} (hl : h.length < 1000000) : clnDOk 1 8 (ints h) 0 h.length h.length true = true := by
 unfold clnDOk
 have e1 : (ints h).all PV.scal = true := by
   rw [List.all_eq_true]
   intro x hx
   obtain ⟨n, _, rfl⟩ := List.mem_map.1 hx
   rfl
 have e2 : cloneOk 1 8 (ints h) = true := by
   unfold cloneOk
   rw [Bool.and_eq_true]
   constructor
   · cases h <;> rfl
   · rw [decide_eq_true_eq, ints_len]
     show _ ≤ 35184372088832
     omega
 rw [List.drop_zero, show List.take h.length (ints h) = ints h by rw [← ints_len h, List.take_length], e1, e2, ints_len]
 simp
theorem pass_bndT {T : Int} : ∀ (R : List Rl) (h : List Int) (r : Nat), rOk R h.length → (∀ q ∈ R, q.2.2 ≤ 100000000000000) → bndT h T (R.length + r) → bndT (pass R h) T r
 | [], h, r, _, _, hb => by rw [pass_nil]; simpa using hb
 | q :: R, h, r, ho, ha, hb => by
   rw [pass_cons]
   refine pass_bndT R _ r (by rw [relax_len]; exact ho.tail) (fun p hp => ha p (List.mem_cons_of_mem _ hp)) (relax_bndT ?_ (ho q List.mem_cons_self).2 (ha q List.mem_cons_self))
   rw [show R.length + r + 1 = (q :: R).length + r by simp only [List.length_cons]; omega]
   exact hb
theorem bndT.less {h : List Int} {T : Int} {r r' : Nat} (hb : bndT h T r) (hr : r' ≤ r) : bndT h T r' := fun i => by
 have := hb i
 omega
theorem conF_len (st : List Int) (i r : Nat) : (conF st i r).length = r := by simp [conF]
theorem conF_mem {st : List Int} {i r : Nat} {q : Rl} (h : q ∈ conF st i r) : ∃ j, i ≤ j ∧ j < i + r ∧ q = (j - 1, j, hAt st j) := by
 unfold conF at h
 obtain ⟨j, h1, rfl⟩ := List.mem_map.1 h
 rw [List.mem_range'_1] at h1
 exact ⟨j, h1.1, h1.2, rfl⟩
theorem clR_mem {ps : List Rat} {m s : Nat} {L : List Cm} {q : Rl} : q ∈ clR ps m s L ↔ ∃ c ∈ L, q = (ps.idxOf c.f, ps.idxOf c.t, vC m s c) ∨ q = (ps.idxOf c.t, ps.idxOf c.f, -vC m s c) := by
 unfold clR
 rw [List.mem_flatMap]
 constructor
 · rintro ⟨c, h1, h2⟩; exact ⟨c, h1, by simpa using h2⟩
 · rintro ⟨c, h1, h2⟩; exact ⟨c, h1, by simpa using h2⟩
theorem clR_len (ps : List Rat) (m s : Nat) (L : List Cm) : (clR ps m s L).length = 2 * L.length := by
 induction L with
 | nil => rfl
 | cons c r ih =>
   show (_ :: _ :: clR ps m s r).length = _
   simp only [List.length_cons]; omega
theorem hR_ok {N : Int} {ps : List Rat} {L : List Cm} {m : Nat} (H : Hy N ps L m) (st : List Int) : rOk (hR ps m L st) ps.length := by
 intro q hq
 rcases List.mem_append.1 hq with h | h
 · obtain ⟨j, h1, h2, rfl⟩ := conF_mem h
   have := H.two
   exact ⟨by show j - 1 < _; omega, by show j < _; omega⟩
 · obtain ⟨c, hc, rfl | rfl⟩ := clR_mem.1 h
   · exact ⟨idx_lt (H.ok c hc).2.1, idx_lt (H.ok c hc).2.2⟩
   · exact ⟨idx_lt (H.ok c hc).2.2, idx_lt (H.ok c hc).2.1⟩
theorem hR_add {N : Int} {ps : List Rat} {L : List Cm} {m : Nat} (H : Hy N ps L m) {st : List Int} (h01 : ∀ i, 0 ≤ hAt st i ∧ hAt st i ≤ 1) : ∀ q ∈ hR ps m L st, q.2.2 ≤ 100000000000000 := by
 intro q hq
 rcases List.mem_append.1 hq with h | h
 · obtain ⟨j, _, _, rfl⟩ := conF_mem h
   have := h01 j
   show hAt st j ≤ _
   omega
 · obtain ⟨c, hc, rfl | rfl⟩ := clR_mem.1 h
   · exact (vC_bnd H hc).2.2.2.2
   · have := (vC_bnd H hc).2.2.2.1
     show -vC m (ps.length + 1) c ≤ _
     omega
theorem rounds_loop {N : Int} {ps : List Rat} {L : List Cm} {m : Nat} (H : Hy N ps L m) {st : List Int} (hst : st.length = ps.length) (h01 : ∀ i, 0 ≤ hAt st i ∧ hAt st i ≤ 1) {T : Int} (hT : T ≤ 9000000000000000000) {x0 : List PV → List PV → List PV → List PV → Int → Int → Nat → Nat → Nat → Nat → Nat → Nat → Int → Int → Bool → Prop} {x1 : List PV → List PV → List PV → Prop} {x2 : List PV → List PV → List PV → Nat → Nat → Nat → Prop} {K0 : Prop} {Kf : List Int → Prop}
   (h0 : ∀ a b c d e f g h i j k l m n o, x0 a b c d e f g h i j k l m n o = K0) (h1 : ∀ a b c, x1 a b c = K0) (h2 : ∀ g : List Int, g.length = ps.length → x2 (ints st) (ints g) (rts ps) ps.length ps.length ps.length = Kf g) :
   ∀ (r i n : Nat) (h : List Int), i + r = ps.length + 1 → r < n → h.length = ps.length → bndT h T (200 * r) →
     (match iterP (hR ps m L st) r h with | none => K0 | some g => if hAt st 0 > 0 then K0 else Kf g) →
     L_audit_heights_2_0 w_audit_order w_s_Equal_int64_int64 x0 x1 x2 n (ints st) (ints h) (rts ps) (cms L) (m : Int) ((ps.length + 1 : Nat) : Int) ps.length ps.length ps.length ps.length ps.length ps.length ((ps.length + 1 : Nat) : Int) (i : Int) := by
 intro r
 induction r with
 | zero =>
   intro i n h hi hn hl hb k
   obtain ⟨n, rfl⟩ : ∃ m, n = m + 1 := ⟨n - 1, by omega⟩
   rw [L_audit_heights_2_0, cbF (by omega), h0]
   exact k
 | succ r ih =>
   intro i n h hi hn hl hb k
   obtain ⟨n, rfl⟩ : ∃ m, n = m + 1 := ⟨n - 1, by omega⟩
   have htwo := H.two
   have htop := H.top
   have hLl := H.len
   have hho : rOk (hR ps m L st) h.length := by rw [hl]; exact hR_ok H st
   have hlen : (hR ps m L st).length = ps.length - 1 + 2 * L.length := by unfold hR; rw [List.length_append, conF_len, clR_len]
   have hadd := hR_add H h01
   have e1 : pass (hR ps m L st) h = pass (clR ps m (ps.length + 1) L) (pass (conF st 1 (ps.length - 1)) h) := pass_append ..
   have hp1 : (pass (conF st 1 (ps.length - 1)) h).length = ps.length := by rw [pass_len]; exact hl
   have hp2 : (pass (hR ps m L st) h).length = ps.length := by rw [pass_len]; exact hl
   have hb1 : bndT (pass (conF st 1 (ps.length - 1)) h) T (2 * L.length) := by
     refine pass_bndT _ _ _ (fun q hq => hho q (List.mem_append_left _ hq)) (fun q hq => hadd q (List.mem_append_left _ hq)) (hb.less ?_)
     rw [conF_len]; omega
   have hb2 : bndT (pass (hR ps m L st) h) T (200 * r) := pass_bndT _ _ _ hho hadd (hb.less (by rw [hlen]; omega))
   rw [L_audit_heights_2_0, cbT (by omega)]
   have hcl := clnD_ints (h := h) (by omega)
   rw [hl] at hcl
   rw [hcl, asr_true]
   refine ⟨ps.length + 1, ?_⟩
   refine (con_loop hst h01 (by omega) hT (ps.length - 1) 1 (ps.length + 1) h (by omega) (by omega) (by omega) hl (hb.less (by omega))).mpr ?_
   refine ⟨L.length + 1, ?_⟩
   rw [cms_len]
   refine cl_loop H hT L.length 0 (L.length + 1) _ (by omega) (by omega) hp1 hb1 ?_
   rw [List.drop_zero, ← e1]
   dsimp only [lt]
   rw [ints_len, hp2, asT (by omega), asE, asT (by omega), ints_hAt (by omega), asI, ivI]
   unfold iterP at k
   by_cases hz : hAt (pass (hR ps m L st) h) 0 > 0
   · rw [if_pos hz] at k
     rw [cbT hz, h1]; exact k
   · rw [if_neg hz] at k
     have ew : List.take ps.length (List.drop 0 (ints h)) = ints h := by rw [List.drop_zero, ← hl, ← ints_len h, List.take_length]
     have ew2 : List.take ps.length (ints (pass (hR ps m L st) h)) = ints (pass (hR ps m L st) h) := by rw [← hp2, ← ints_len (pass (hR ps m L st) h), List.take_length]
     rw [cbF hz, asE, asT (by omega), ew, ew2, Equal_eq (by omega)]
     by_cases hf : pass (hR ps m L st) h = h
     · rw [if_pos hf] at k
       dsimp only at k
       rw [decide_eq_true hf, cbr_true, ints_len, hst, asT (by omega), asE, asT (by omega), ints_hAt (by omega), asI, ivI]
       by_cases h5 : hAt st 0 > 0
       · rw [if_pos h5] at k
         rw [cbT h5, h1]; exact k
       · rw [if_neg h5] at k
         rw [cbF h5, h2 _ hp2]; exact k
     · rw [if_neg hf] at k
       rw [decide_eq_false hf, cbr_false, cast1, wibN (by omega)]
       exact ih (i + 1) n _ (by omega) (by omega) hp2 hb2 k
end Go.Pf.Vc
namespace Go.Pf.Vc
open Go Go.Pf Go.Sort
theorem stF_len {ps : List Rat} : ∀ {L : List Cm} {st st' : List Int}, stF ps L st = some st' → st'.length = st.length
 | [], st, st', e => by cases e; rfl
 | c :: r, st, st', e => by
   unfold stF at e
   split at e
   · split at e
     · split at e
       · exact stF_len e
       · cases e
     · rw [stF_len e]; simp
   · exact stF_len e
theorem set1_01 {st : List Int} {j : Nat} (h : ∀ i, 0 ≤ hAt st i ∧ hAt st i ≤ 1) (hj : j < st.length) : ∀ i, 0 ≤ hAt (st.set j 1) i ∧ hAt (st.set j 1) i ≤ 1 := by
 intro i
 rw [hAt_set hj]
 split
 · omega
 · exact h i
theorem stF_01 {ps : List Rat} : ∀ {L : List Cm} {st st' : List Int}, (∀ c ∈ L, c.t ∈ ps) → st.length = ps.length → (∀ i, 0 ≤ hAt st i ∧ hAt st i ≤ 1) → stF ps L st = some st' → ∀ i, 0 ≤ hAt st' i ∧ hAt st' i ≤ 1
 | [], st, st', _, _, h, e => by cases e; exact h
 | c :: r, st, st', hc, hl, h, e => by
   have hc' : ∀ d ∈ r, d.t ∈ ps := fun d hd => hc d (List.mem_cons_of_mem _ hd)
   unfold stF at e
   split at e
   · split at e
     · split at e
       · exact stF_01 hc' hl h e
       · cases e
     · refine stF_01 hc' (by simpa using hl) (set1_01 h ?_) e
       rw [hl]; exact idx_lt (hc c List.mem_cons_self)
   · exact stF_01 hc' hl h e
theorem stF_is {ps : List Rat} : ∀ {L : List Cm} {st st' : List Int}, (∀ c ∈ L, c.t ∈ ps) → st.length = ps.length → stF ps L st = some st' →
   (∀ i, hAt st' i = 1 ↔ hAt st i = 1 ∨ ∃ c ∈ L, c.m = true ∧ c.v ≠ 0 ∧ ps.idxOf c.t = i) ∧ ∀ c ∈ L, c.m = true → c.v = 0 → c.f = c.t
 | [], st, st', _, _, e => by cases e; simp
 | c :: r, st, st', hc, hl, e => by
   have hc' : ∀ d ∈ r, d.t ∈ ps := fun d hd => hc d (List.mem_cons_of_mem _ hd)
   unfold stF at e
   by_cases hm : c.m = true
   · rw [if_pos hm] at e
     by_cases hv : c.v = 0
     · rw [if_pos hv] at e
       by_cases hf : c.f = c.t
       · rw [if_pos hf] at e
         obtain ⟨i1, i2⟩ := stF_is hc' hl e
         refine ⟨fun i => ?_, fun d hd hdm hdv => ?_⟩
         · rw [i1 i]
           constructor
           · rintro (h | ⟨d, h1, h2⟩)
             · exact .inl h
             · exact .inr ⟨d, List.mem_cons_of_mem _ h1, h2⟩
           · rintro (h | ⟨d, h1, h2, h3, h4⟩)
             · exact .inl h
             · rcases List.mem_cons.1 h1 with rfl | h1
               · exact absurd hv h3
               · exact .inr ⟨d, h1, h2, h3, h4⟩
         · rcases List.mem_cons.1 hd with rfl | hd
           · exact hf
           · exact i2 d hd hdm hdv
       · rw [if_neg hf] at e; cases e
     · rw [if_neg hv] at e
       have hj : ps.idxOf c.t < st.length := by rw [hl]; exact idx_lt (hc c List.mem_cons_self)
       obtain ⟨i1, i2⟩ := stF_is hc' (by simpa using hl) e
       refine ⟨fun i => ?_, fun d hd hdm hdv => ?_⟩
       · rw [i1 i, hAt_set hj]
         constructor
         · rintro (h | ⟨d, h1, h2⟩)
           · by_cases ei : i = ps.idxOf c.t
             · exact .inr ⟨c, List.mem_cons_self, hm, hv, ei.symm⟩
             · rw [if_neg ei] at h; exact .inl h
           · exact .inr ⟨d, List.mem_cons_of_mem _ h1, h2⟩
         · rintro (h | ⟨d, h1, h2, h3, h4⟩)
           · left; split
             · rfl
             · exact h
           · rcases List.mem_cons.1 h1 with rfl | h1
             · left; rw [if_pos h4.symm]
             · exact .inr ⟨d, h1, h2, h3, h4⟩
       · rcases List.mem_cons.1 hd with rfl | hd
         · exact absurd hdv hv
         · exact i2 d hd hdm hdv
   · rw [if_neg hm] at e
     obtain ⟨i1, i2⟩ := stF_is hc' hl e
     refine ⟨fun i => ?_, fun d hd hdm hdv => ?_⟩
     · rw [i1 i]
       constructor
       · rintro (h | ⟨d, h1, h2⟩)
         · exact .inl h
         · exact .inr ⟨d, List.mem_cons_of_mem _ h1, h2⟩
       · rintro (h | ⟨d, h1, h2, h3, h4⟩)
         · exact .inl h
         · rcases List.mem_cons.1 h1 with rfl | h1
           · exact absurd h2 hm
           · exact .inr ⟨d, h1, h2, h3, h4⟩
     · rcases List.mem_cons.1 hd with rfl | hd
       · exact absurd hdm hm
       · exact i2 d hd hdm hdv
theorem no_first {N : Int} {ps : List Rat} {L : List Cm} {m : Nat} (H : Hy N ps L m) {st : List Int} (hs : stF ps L (zeros ps.length) = some st) (h0 : hAt st 0 > 0) : bf0 (hR ps m L st) ps.length = none := by
 have h01 := stF_01 (fun c hc => (H.ok c hc).2.2) (zeros_len _) (fun i => by rw [zeros_at]; omega) hs 0
 obtain ⟨h1, _⟩ := stF_is (fun c hc => (H.ok c hc).2.2) (zeros_len _) hs
 rcases (h1 0).1 (by omega) with h | ⟨c, hc, hm, hv, hi⟩
 · rw [zeros_at] at h; omega
 · obtain ⟨c1, c2, c3⟩ := H.ok c hc
   have hf0 : ps.idxOf c.f = 0 := by
     have ht0 : c.t = 0 := by rw [← getD_idx c3, hi, H.p0]
     have hft := c1.ft
     have hff := c1.f0
     have : c.f = c.t := by grind
     rw [this, hi]
   cases e : bf0 (hR ps m L st) ps.length with
   | none => rfl
   | some g =>
     obtain ⟨hsol, _, _⟩ := bf0_some (hR_ok H st) e
     have h2 := hsol.ob (ps.idxOf c.f, ps.idxOf c.t, vC m (ps.length + 1) c) (List.mem_append_right _ (clR_mem.2 ⟨c, hc, .inl rfl⟩))
     have h3 : hAt g (ps.idxOf c.f) + vC m (ps.length + 1) c ≤ hAt g (ps.idxOf c.t) := h2
     rw [hf0, hi] at h3
     have hvp : 0 < vC m (ps.length + 1) c := by
       have h5 : 0 < c.v.num := by
         have h6 := Rat.num_nonneg.2 c1.v0
         have h7 : c.v.num ≠ 0 := fun e => hv (Rat.num_eq_zero.1 e)
         omega
       have h8 : 0 < m / c.v.den := Nat.div_pos (Nat.le_of_dvd (by have := H.sc.one; omega) (H.sc.dvd c hc)) c.v.den_pos
       exact Int.mul_pos (Int.mul_pos h5 (by omega)) (by omega)
     omega
theorem first_loop {N : Int} {ps : List Rat} {L : List Cm} {m : Nat} (H : Hy N ps L m) {a1 : T_s_Equal_int64_int64} {l2 : List PV} {i3 i4 : Int} {x0 : List PV → List PV → List PV → Int → Int → Nat → Nat → Nat → List PV → Int → Int → Bool → Prop} {x1 : List PV → List PV → Prop} {X : Prop} (hx1 : ∀ a b, x1 a b = X) :
   ∀ (r i n : Nat) (st : List Int), i + r = L.length → r < n → st.length = ps.length →
     (match stF ps (L.drop i) st with | some st' => x0 (ints st') (rts ps) l2 i3 i4 ps.length ps.length ps.length (cms L) (L.length : Int) (L.length : Int) false | none => X) →
     L_audit_heights_0_0 w_audit_order a1 x0 x1 n (ints st) (rts ps) l2 i3 i4 ps.length ps.length ps.length (cms L) (L.length : Int) (i : Int) := by
 intro r
 induction r with
 | zero =>
   intro i n st hi hn hl k
   obtain ⟨n, rfl⟩ : ∃ m, n = m + 1 := ⟨n - 1, by omega⟩
   obtain rfl : i = L.length := by omega
   rw [List.drop_length] at k
   rw [L_audit_heights_0_0, cbF (by omega)]
   exact k
 | succ r ih =>
   intro i n st hi hn hl k
   obtain ⟨n, rfl⟩ : ∃ m, n = m + 1 := ⟨n - 1, by omega⟩
   have hil : i < L.length := by omega
   have hLl := H.len
   have hd : L.drop i = L.getD i default :: L.drop (i + 1) := drop_cons default hil
   have hm : L.getD i default ∈ L := by
     rw [List.getD_eq_getElem?_getD, List.getElem?_eq_getElem hil]
     exact List.getElem_mem hil
   obtain ⟨c1, c2, c3⟩ := H.ok _ hm
   have hat := cms_at hil
   rw [hd] at k
   generalize L.getD i default = c at *
   have ht := H.top
   have hib := idx_lt c3
   unfold stF at k
   rw [L_audit_heights_0_0, cbT (by omega), jn_def, cms_len, asT (by omega), asT (by omega), Int.toNat_natCast, hat]
   show asr (conf (.agg [.i .i64, .i .i64, .i .i64, .i .i64, .i .i64, .i .i64, .b]) (encCm c)) _
   rw [asCm, encCm6]
   by_cases hcm : c.m = true
   · rw [if_pos hcm] at k
     rw [hcm, Bool.not_true, cbr_false, encCm4]
     have hvn := Rat.num_nonneg.2 c1.v0
     by_cases hv : c.v = 0
     · have hn0 : c.v.num = 0 := Rat.num_eq_zero.2 hv
       rw [if_pos hv] at k
       rw [cbF (by omega), encCm0, encCm1, encCm2, encCm3, ratEq]
       by_cases hf : c.f = c.t
       · rw [if_pos hf] at k
         rw [decide_eq_true hf, Bool.not_true, cbr_false]
         show L_audit_heights_0_0 _ _ _ _ _ _ _ _ _ _ _ _ _ _ _ (IntKind.i64.wrap ((i : Int) + 1))
         rw [cast1, wibN (by omega)]
         exact ih (i + 1) n st (by omega) (by omega) hl k
       · rw [if_neg hf] at k
         rw [decide_eq_false hf, Bool.not_false, cbr_true, hx1]
         exact k
     · have hn0 : c.v.num ≠ 0 := fun e => hv (Rat.num_eq_zero.1 e)
       rw [if_neg hv] at k
       rw [cbT (by omega)]
       refine bsAt0 H.inc H.sm (by omega) c3 ?_ (encCm2 c).symm (encCm3 c).symm (by rw [rts_len]) (by rw [rts_len])
       dsimp only [lt]
       rw [ints_len, hl, asT (by omega), asT (by omega), asE, Int.toNat_natCast, Nat.zero_add, asT (by omega), ints_hAt (by omega), asI, ints_set, cast1, wibN (by omega)]
       exact ih (i + 1) n _ (by omega) (by omega) (by simpa using hl) k
   · rw [if_neg hcm] at k
     have hcm' : c.m = false := by simpa using hcm
     rw [hcm', Bool.not_false, cbr_true]
     show L_audit_heights_0_0 _ _ _ _ _ _ _ _ _ _ _ _ _ _ _ (IntKind.i64.wrap ((i : Int) + 1))
     rw [cast1, wibN (by omega)]
     exact ih (i + 1) n st (by omega) (by omega) hl k
theorem zeros_ints (k : Nat) : List.replicate k (PV.int .i64 0) = ints (zeros k) := by
 unfold ints zeros
 rw [List.map_replicate]
theorem hts_P {N : Int} {ps : List Rat} {L : List Cm} {m : Nat} (H : Hy N ps L m) {st : List Int} (hs : stF ps L (zeros ps.length) = some st) : iterP (hR ps m L st) (ps.length + 1) (zeros ps.length) = hts ps m L := by
 unfold hts
 rw [hs]
 exact iterP_bf0 (hR_ok H st)
theorem heights_of {N : Int} {ps : List Rat} {L : List Cm} {m : Nat} (H : Hy N ps L m) {K0 : Prop} {K : List PV → Prop} (k : match hts ps m L with | some g => K (ints g) | none => K0) : w_audit_heights (rts ps) (cms L) (m : Int) K0 K := by
 have ht := H.top
 have htwo := H.two
 have hLl := H.len
 unfold w_audit_heights wv_audit_heights
 dsimp only [lt]
 rw [rts_len, cast1, wibN (by omega), asT (by omega), asT (by omega), asT (by show _ ≤ 35184372088832; omega), zeros_ints, cms_len]
 refine ⟨L.length + 1, ?_⟩
 refine first_loop H (X := K0) (fun _ _ => rfl) L.length 0 (L.length + 1) _ (by omega) (by omega) (zeros_len _) ?_
 rw [List.drop_zero]
 cases hs : stF ps L (zeros ps.length) with
 | none =>
   unfold hts at k
   rw [hs] at k
   exact k
 | some st =>
   dsimp only
   have hst : st.length = ps.length := by rw [stF_len hs, zeros_len]
   have h01 := stF_01 (fun c hc => (H.ok c hc).2.2) (zeros_len _) (fun i => by rw [zeros_at]; omega) hs
   rw [rts_len, asT (by omega), asT (by omega), asT (by show _ ≤ 35184372088832; omega), zeros_ints, cast1, wibN (by omega)]
   refine ⟨ps.length + 2, ?_⟩
   refine rounds_loop H hst h01 (T := 2100000000000000000) (by omega) (K0 := K0) (Kf := fun g => K (ints g)) (fun _ _ _ _ _ _ _ _ _ _ _ _ _ _ _ => rfl) (fun _ _ _ => rfl) (fun g hg => ?_) (ps.length + 1) 0 (ps.length + 2) _ (by omega) (by omega) (zeros_len _) (fun i => by rw [zeros_at]; omega) ?_
   · rw [ints_len, hg, asE, asT (by omega), show List.take ps.length (ints g) = ints g by rw [← hg, ← ints_len g, List.take_length]]
   · rw [hts_P H hs]
     cases he : hts ps m L with
     | none => rw [he] at k; exact k
     | some g =>
       rw [he] at k
       dsimp only
       by_cases h5 : hAt st 0 > 0
       · have := no_first H hs h5
         unfold hts at he
         rw [hs] at he
         dsimp only at he
         rw [this] at he
         cases he
       · rw [if_neg h5]; exact k
def outHt (o : Option (List Int)) (K0 : Prop) (K : List PV → Prop) : Prop := match o with
 | some g => K (ints g)
 | none => K0
theorem heights_eq {N : Int} {ps : List Rat} {L : List Cm} {m : Nat} (H : Hy N ps L m) (K0 : Prop) (K : List PV → Prop) : w_audit_heights (rts ps) (cms L) (m : Int) K0 K = outHt (hts ps m L) K0 K := by
 refine propext ⟨fun h => ?_, fun k => heights_of H k⟩
 have h2 : ∃ r, (match r with | PV.nils => K0 | .data d => K d | _ => False) ∧ Ans (E ef0) n_audit_heights [.data (rts ps), .data (cms L), .int .i64 (m : Int)] r :=
   ok_audit_heights [.data (rts ps), .data (cms L), .int .i64 (m : Int)] (fun r => match r with | PV.nils => K0 | .data d => K d | _ => False) h
 obtain ⟨r, h3, h4⟩ := h2
 cases he : hts ps m L with
 | none =>
   have h5 : w_audit_heights (rts ps) (cms L) (m : Int) (PV.nils = PV.nils) (fun d => PV.data d = PV.nils) := heights_of H (by rw [he])
   obtain ⟨q, h6, h7⟩ := ok_audit_heights [.data (rts ps), .data (cms L), .int .i64 (m : Int)] (fun r => r = PV.nils) h5
   subst h6
   have := h4.unique h7
   subst this
   exact h3
 | some g =>
   have h5 : w_audit_heights (rts ps) (cms L) (m : Int) (PV.nils = PV.data (ints g)) (fun d => PV.data d = PV.data (ints g)) := heights_of H (by rw [he])
   obtain ⟨q, h6, h7⟩ := ok_audit_heights [.data (rts ps), .data (cms L), .int .i64 (m : Int)] (fun r => r = PV.data (ints g)) h5
   subst h6
   have := h4.unique h7
   subst this
   exact h3
end Go.Pf.Vc
namespace Go.Pf.Vc
open Go Go.Pf Go.Sort
def encRl (r : Rl) : PV := .agg [.int .i64 (r.1 : Int), .int .i64 (r.2.1 : Int), .int .i64 r.2.2]
def rls (l : List Rl) : List PV := l.map encRl
theorem rls_len (l : List Rl) : (rls l).length = l.length := List.length_map ..
theorem rls_at {l : List Rl} {i : Nat} (h : i < l.length) : List.getD (rls l) i .nils = encRl (l.getD i (0, 0, 0)) := by
 unfold rls
 rw [List.getD_eq_getElem?_getD, List.getD_eq_getElem?_getD, List.getElem?_map, List.getElem?_eq_getElem h]
 rfl
theorem asRl (r : Rl) (P : Prop) : asr (conf (.agg [.i .i64, .i .i64, .i .i64]) (encRl r)) P = P := rfl
theorem encRl0 (r : Rl) : intOfV (cellAt (encRl r) 0) = (r.1 : Int) := rfl
theorem encRl1 (r : Rl) : intOfV (cellAt (encRl r) 1) = (r.2.1 : Int) := rfl
theorem encRl2 (r : Rl) : intOfV (cellAt (encRl r) 2) = r.2.2 := rfl
theorem rls_app (a b : List Rl) : rls a ++ rls b = rls (a ++ b) := by unfold rls; rw [List.map_append]
def chg : List Rl → List Int → Bool
 | [], _ => false
 | r :: R, h => decide (hAt h r.1 + r.2.2 > hAt h r.2.1) || chg R (relax r h)
theorem relax_no {r : Rl} {h : List Int} (e : ¬ hAt h r.1 + r.2.2 > hAt h r.2.1) : relax r h = h := if_neg e
theorem chg_false : ∀ {R : List Rl} {h : List Int}, rOk R h.length → (chg R h = false ↔ pass R h = h)
 | [], h, _ => by simp [chg, pass]
 | r :: R, h, ho => by
   constructor
   · intro e
     simp only [chg, Bool.or_eq_false_iff, decide_eq_false_iff_not] at e
     have hr := relax_no e.1
     rw [pass_cons, hr]
     have h2 := e.2
     rw [hr] at h2
     exact (chg_false ho.tail).1 h2
   · intro e
     have hob := (pass_fix ho).1 e
     have h1 := hob r List.mem_cons_self
     have h2 : ¬ hAt h r.1 + r.2.2 > hAt h r.2.1 := by omega
     have hr := relax_no h2
     simp only [chg, Bool.or_eq_false_iff, decide_eq_false_iff_not]
     refine ⟨h2, ?_⟩
     rw [hr]
     refine (chg_false ho.tail).2 ((pass_fix ho.tail).2 fun q hq => hob q (List.mem_cons_of_mem _ hq))
theorem rpass_loop {a0 : T_r05_rules} {R : List Rl} {k : Nat} (ho : rOk R k) (_ : k < 1000) (ha : ∀ q ∈ R, q.2.2 ≤ 100000000000000 ∧ -100000000000000 ≤ q.2.2) (hRl : R.length < 10000) {T : Int} (hT : T ≤ 9000000000000000000) {l1 : List PV} {i6 : Int} {x : List PV → List PV → List PV → Nat → Nat → Nat → Int → Bool → Int → Bool → Prop} :
   ∀ (r i n : Nat) (h : List Int) (b : Bool), i + r = R.length → r < n → h.length = k → bndT h T r →
     L_r05_heights_1_0 a0 x n (ints h) l1 (rls R) k k k i6 b (i : Int) = x (ints (pass (R.drop i) h)) l1 (rls R) k k k i6 (b || chg (R.drop i) h) (R.length : Int) false := by
 intro r
 induction r with
 | zero =>
   intro i n h b hi hn hl hb
   obtain ⟨n, rfl⟩ : ∃ m, n = m + 1 := ⟨n - 1, by omega⟩
   obtain rfl : i = R.length := by omega
   rw [L_r05_heights_1_0, rls_len, cbF (by omega), List.drop_length]
   simp [chg, pass]
 | succ r ih =>
   intro i n h b hi hn hl hb
   obtain ⟨n, rfl⟩ : ∃ m, n = m + 1 := ⟨n - 1, by omega⟩
   have hil : i < R.length := by omega
   have hd : R.drop i = R.getD i (0, 0, 0) :: R.drop (i + 1) := drop_cons _ hil
   have hm : R.getD i (0, 0, 0) ∈ R := by
     rw [List.getD_eq_getElem?_getD, List.getElem?_eq_getElem hil]
     exact List.getElem_mem hil
   have hat := rls_at hil
   rw [hd]
   generalize R.getD i (0, 0, 0) = q at *
   obtain ⟨o1, o2⟩ := ho q hm
   obtain ⟨a1, a2⟩ := ha q hm
   have hb1 := hb q.1
   rw [L_r05_heights_1_0, rls_len, cbT (by omega)]
   dsimp only [lt, Go.Pf.jn]
   rw [Int.toNat_natCast, hat, encRl0, encRl1, encRl2, Int.toNat_natCast, Int.toNat_natCast, Nat.zero_add, Nat.zero_add, ints_hAt (by omega), ints_hAt (by omega), ivI, ivI]
   rw [wib (n := hAt h q.1 + q.2.2) (by omega) (by omega)]
   simp (discharger := omega) only [ints_len, hl, asT, asTr, asRl, asI]
   by_cases hc : hAt h q.1 + q.2.2 > hAt h q.2.1
   · have er : relax q h = h.set q.2.1 (hAt h q.1 + q.2.2) := if_pos hc
     rw [cbT hc, ints_set, ← er, cast1, wibN (by omega), ih (i + 1) n _ _ (by omega) (by omega) (by rw [relax_len]; exact hl) (relax_bndT hb (by omega) a1), pass_cons]
     simp only [chg, decide_eq_true hc, Bool.true_or, Bool.or_true]
   · have er := relax_no hc
     have hb2 : bndT h T r := hb.less (by omega)
     rw [cbF hc, cast1, wibN (by omega), ih (i + 1) n _ _ (by omega) (by omega) hl hb2, pass_cons, er]
     simp only [chg, decide_eq_false hc, Bool.false_or, er]
theorem rrounds_loop {a0 : T_r05_rules} {R : List Rl} {ps : List Rat} (ho : rOk R ps.length) (hk : ps.length ≤ 99) (h2k : 2 ≤ ps.length) (ha : ∀ q ∈ R, q.2.2 ≤ 100000000000000 ∧ -100000000000000 ≤ q.2.2) (hRl : R.length ≤ 200) {T : Int} (hT : T ≤ 9000000000000000000) {x0 : List PV → List PV → List PV → Nat → Nat → Nat → Int → Bool → Prop} {x1 : List PV → Nat → Nat → Nat → Bool → Prop} {K0 : Prop} {Kf : List Int → Prop}
   (h0 : ∀ a b c d e f g h, x0 a b c d e f g h = K0) (h1 : ∀ g : List Int, g.length = ps.length → x1 (ints g) ps.length ps.length ps.length (hAt g 0 == 0) = Kf g) :
   ∀ (r i n : Nat) (h : List Int), i + r = ps.length + 1 → r < n → h.length = ps.length → bndT h T (200 * r) →
     (match iterR R r h with | none => K0 | some g => Kf g) →
     L_r05_heights_0_0 a0 x0 x1 n (ints h) (rts ps) (rls R) ps.length ps.length ps.length (i : Int) := by
 intro r
 induction r with
 | zero =>
   intro i n h hi hn hl hb k
   obtain ⟨n, rfl⟩ : ∃ m, n = m + 1 := ⟨n - 1, by omega⟩
   rw [L_r05_heights_0_0, rts_len, cbF (by omega), h0]
   exact k
 | succ r ih =>
   intro i n h hi hn hl hb k
   obtain ⟨n, rfl⟩ : ∃ m, n = m + 1 := ⟨n - 1, by omega⟩
   have ho' : rOk R h.length := by rw [hl]; exact ho
   have hp : (pass R h).length = ps.length := by rw [pass_len]; exact hl
   have hb2 : bndT (pass R h) T (200 * r) := pass_bndT _ _ _ ho' (fun q hq => (ha q hq).1) (hb.less (by omega))
   rw [L_r05_heights_0_0, rts_len, cbT (by omega)]
   refine ⟨R.length + 1, ?_⟩
   refine (rpass_loop ho (by omega) ha (by omega) hT R.length 0 (R.length + 1) h false (by omega) (by omega) hl (hb.less (by omega))).mpr ?_
   rw [List.drop_zero, Bool.false_or]
   unfold iterR at k
   have hcf := chg_false ho'
   dsimp only [lt]
   cases hc : chg R h with
   | false =>
     have e := hcf.1 hc
     rw [if_pos e] at k
     rw [Bool.not_false, cbr_true, e, ints_len, hl, asT (by omega), asE, asT (by omega), ints_hAt (by omega), asI, ivI, h1 h hl]
     exact k
   | true =>
     have e : ¬ pass R h = h := fun e => by rw [hcf.2 e] at hc; cases hc
     rw [if_neg e] at k
     rw [Bool.not_true, cbr_false, cast1, wibN (by omega)]
     exact ih (i + 1) n _ (by omega) (by omega) hp hb2 k
def stB (st : List Int) : List PV := st.map fun x => PV.bool (decide (x = 1))
theorem stB_len (st : List Int) : (stB st).length = st.length := List.length_map ..
theorem stB_at {st : List Int} {i : Nat} (h : i < st.length) : List.getD (stB st) i .nils = .bool (decide (hAt st i = 1)) := by
 unfold stB hAt
 rw [List.getD_eq_getElem?_getD, List.getD_eq_getElem?_getD, List.getElem?_map, List.getElem?_eq_getElem h]
 rfl
theorem stB_set (st : List Int) (i : Nat) : List.set (stB st) i (.bool true) = stB (st.set i 1) := by
 unfold stB
 rw [List.map_set]
 rfl
theorem stB_same {st : List Int} {i : Nat} (h : i < st.length) : List.set (stB st) i (.bool (decide (hAt st i = 1))) = stB st := by
 apply List.ext_getElem?
 intro j
 rw [List.getElem?_set]
 by_cases e : i = j
 · subst e
   rw [if_pos rfl, stB_len, if_pos h]
   unfold stB hAt
   rw [List.getElem?_map, List.getD_eq_getElem?_getD, List.getElem?_eq_getElem h]
   rfl
 · rw [if_neg e]
theorem asBl (b : Bool) (P : Prop) : asr (conf (.one (.b)) (.bool b)) P = P := rfl
theorem bvB (b : Bool) : boolOfV (.bool b) = b := rfl
theorem idx_inj {l : List Rat} {p q : Rat} (hp : p ∈ l) (hq : q ∈ l) : l.idxOf p = l.idxOf q ↔ p = q := by
 constructor
 · intro e
   rw [← getD_idx hp, ← getD_idx hq, e]
 · rintro rfl; rfl
theorem two_rls (a b : Nat) (v : Int) : ([.agg [.int .i64 (a : Int), .int .i64 (b : Int), .int .i64 v], .agg [.int .i64 (b : Int), .int .i64 (a : Int), .int .i64 (-v)]] : List PV) = rls [(a, b, v), (b, a, -v)] := rfl
theorem cmOf_kind {N : Int} {q : Qy} (h : qOk N q = true) : (cmOf q).m = (q.kind == 2) := by
 obtain ⟨_, _, _, hk⟩ := qOk_rv h
 unfold cmOf
 rcases hk with hk | hk
 · rw [if_pos hk, hk]; rfl
 · rw [if_neg (by omega), hk]; rfl
theorem rule_step {N : Int} {ps : List Rat} {L : List Cm} {m : Nat} (H : Hy N ps L m) {q : Qy} (hq : qOk N q = true) (hc : cmOf q ∈ L) {st : List Int} (hl : st.length = ps.length) {J : List PV → Prop} {X : Prop} {i : Int} (ei : ((ps.idxOf (cmOf q).t : Nat) : Int) = i) {a : Int} (ea : ((ps.idxOf (cmOf q).f : Nat) : Int) = a) {vn : Int} (ev : (cmOf q).v.num = vn) :
   (cbr (q.kind == (2 : Int))
   (Go.Pf.jn (fun (yj114 : Bool → Prop) =>
   (cbr (vn == (0 : Int))
   (yj114 (a != i))
   (yj114 false)))
   (fun yb113 => (cbr yb113
   X
   (asr (decide ((0 : Int) ≤ i))
   (asr (decide (i < ((ps.length : Nat) : Int)))
   (asr (decide ((List.length (stB st)) = ps.length))
   (asr (decide ((0 + (i.toNat)) < (List.length (stB st))))
   (lt (List.getD (stB st) (0 + (i.toNat)) .nils) (fun yr115 =>
   (asr (conf (.one (.b)) yr115)
   (cbr (boolOfV yr115)
   (asr (decide ((0 : Int) ≤ i))
   (asr (decide (i < ((ps.length : Nat) : Int)))
   (asr (decide ((List.length (stB st)) = ps.length))
   (asr (decide ((0 + (i.toNat)) < (List.length (stB st))))
   (lt (List.getD (stB st) (0 + (i.toNat)) .nils) (fun yr116 =>
   (asr (conf (.one (.b)) yr116)
   (J (List.set (stB st) (0 + (i.toNat)) (.bool true))))))))))
   (asr (decide ((0 : Int) ≤ i))
   (asr (decide (i < ((ps.length : Nat) : Int)))
   (asr (decide ((List.length (stB st)) = ps.length))
   (asr (decide ((0 + (i.toNat)) < (List.length (stB st))))
   (lt (List.getD (stB st) (0 + (i.toNat)) .nils) (fun yr117 =>
   (asr (conf (.one (.b)) yr117)
   (J (List.set (stB st) (0 + (i.toNat)) (.bool (decide (vn > (0 : Int))))))))))))))))))))))))
   (J (stB st))) = (match stF ps [cmOf q] st with | some st' => J (stB st') | none => X) := by
 subst ei ea ev
 obtain ⟨c1, c2, c3⟩ := H.ok _ hc
 have hib := idx_lt c3
 have hvn := Rat.num_nonneg.2 c1.v0
 rw [← cmOf_kind hq]
 unfold stF
 cases hm : (cmOf q).m with
 | false => rw [cbr_false, if_neg (by simp)]; rfl
 | true =>
   rw [cbr_true, if_pos rfl]
   dsimp only [Go.Pf.jn, lt]
   rw [stB_len, hl, Int.toNat_natCast, Nat.zero_add, stB_at (by omega)]
   simp (discharger := omega) only [asT, asTr, asBl, bvB]
   by_cases hv : (cmOf q).v = 0
   · have hn0 : (cmOf q).v.num = 0 := Rat.num_eq_zero.2 hv
     rw [if_pos hv, ceT hn0]
     by_cases hf : (cmOf q).f = (cmOf q).t
     · rw [if_pos hf, cnF (by rw [hf]), show decide ((cmOf q).v.num > 0) = false from decide_eq_false (by omega)]
       cases hs : decide (hAt st (ps.idxOf (cmOf q).t) = 1) with
       | true =>
         rw [cbr_true]
         have := stB_same (st := st) (i := ps.idxOf (cmOf q).t) (by omega)
         rw [hs] at this
         rw [this]; rfl
       | false =>
         rw [cbr_false]
         have := stB_same (st := st) (i := ps.idxOf (cmOf q).t) (by omega)
         rw [hs] at this
         rw [this]; rfl
     · have hne : ((ps.idxOf (cmOf q).f : Nat) : Int) ≠ ((ps.idxOf (cmOf q).t : Nat) : Int) := fun e => hf ((idx_inj c2 c3).1 (by omega))
       rw [if_neg hf, cnT hne]
   · have hn0 : (cmOf q).v.num ≠ 0 := fun e => hv (Rat.num_eq_zero.1 e)
     rw [if_neg hv, ceF hn0, cbr_false, show decide ((cmOf q).v.num > 0) = true from decide_eq_true (by omega), stB_set]
     cases decide (hAt st (ps.idxOf (cmOf q).t) = 1) <;> rfl
end Go.Pf.Vc
namespace Go.Pf.Vc
open Go Go.Pf Go.Sort
theorem stF_cons (ps : List Rat) (c : Cm) (r : List Cm) (st : List Int) : stF ps (c :: r) st = match stF ps [c] st with | some st' => stF ps r st' | none => none := by
 show (if c.m then (if c.v = 0 then (if c.f = c.t then stF ps r st else none) else stF ps r (st.set (ps.idxOf c.t) 1)) else stF ps r st) = match (if c.m then (if c.v = 0 then (if c.f = c.t then some st else none) else some (st.set (ps.idxOf c.t) 1)) else some st) with | some st' => stF ps r st' | none => none
 split
 · split
   · split <;> rfl
   · rfl
 · rfl
theorem neg_wrap {v : Int} (h1 : 0 ≤ v) (h2 : v ≤ 100000000000000) : IntKind.i64.wrap ((0 : Int) - v) = -v := by
 rw [wib (by omega) (by omega)]; omega
section
variable {N : Int} {ps : List Rat} {log : List Qy} {m : Nat}
theorem rules_loop (H : Hy N ps (log.map cmOf) m) (hok : ∀ q ∈ log, qOk N q = true) {x0 : List PV → List PV → List PV → Int → Int → Nat → Nat → Nat → Int → Bool → Prop} {x1 : List PV → List PV → Bool → Prop} {x2 : List PV → List PV → List PV → List PV → Int → Int → Nat → Nat → Nat → Int → Bool → Prop} {X : Prop} (hx : ∀ a b, x1 a b false = X) :
   ∀ (r i n : Nat) (st : List Int) (acc : List Rl), i + r = log.length → r < n → st.length = ps.length → acc.length ≤ 2 * i →
     (match stF ps ((log.map cmOf).drop i) st with | some st' => x2 (stB st') (rls (acc ++ clR ps m (ps.length + 1) ((log.map cmOf).drop i))) (rts ps) (logs log) (m : Int) ((ps.length + 1 : Nat) : Int) ps.length ps.length ps.length (log.length : Int) false | none => X) →
     L_r05_rules_0_1 w_r05_At w_r05_To w_r05_Told x0 x1 x2 n (stB st) (rls acc) (rts ps) (logs log) (m : Int) ((ps.length + 1 : Nat) : Int) ps.length ps.length ps.length (i : Int) := by
 intro r
 induction r with
 | zero =>
   intro i n st acc hi hn hl ha k
   obtain ⟨n, rfl⟩ : ∃ m, n = m + 1 := ⟨n - 1, by omega⟩
   obtain rfl : i = log.length := by omega
   rw [List.drop_eq_nil_of_le (by simp)] at k
   rw [L_r05_rules_0_1, logs_len, cbF (by omega)]
   have k2 : x2 (stB st) (rls (acc ++ [])) (rts ps) (logs log) (m : Int) ((ps.length + 1 : Nat) : Int) ps.length ps.length ps.length (log.length : Int) false := k
   rw [List.append_nil] at k2
   exact k2
 | succ r ih =>
   intro i n st acc hi hn hl ha k
   obtain ⟨n, rfl⟩ : ∃ m, n = m + 1 := ⟨n - 1, by omega⟩
   have hil : i < log.length := by omega
   have hLl := H.len
   rw [List.length_map] at hLl
   have hd : (log.map cmOf).drop i = cmOf (log.getD i default) :: (log.map cmOf).drop (i + 1) := by
     rw [← List.map_drop, drop_cons default hil, List.map_cons, List.map_drop]
   have hm : log.getD i default ∈ log := by
     rw [List.getD_eq_getElem?_getD, List.getElem?_eq_getElem hil]
     exact List.getElem_mem hil
   have hq := hok _ hm
   have hcm : cmOf (log.getD i default) ∈ log.map cmOf := List.mem_map_of_mem hm
   have hat := logs_at hil
   rw [hd] at k
   generalize log.getD i default = q at *
   obtain ⟨c1, c2, c3⟩ := H.ok _ hcm
   obtain ⟨v1, v2, v3, v4, v5⟩ := vC_bnd H hcm
   have hw := vC_wrap H hcm
   have hdv := (cmOf q).v.den_pos
   have hpt := H.top
   obtain ⟨f1, f2⟩ := cmOf_f hq
   rw [L_r05_rules_0_1, logs_len, cbT (by omega), jn_def, asT (by omega), asT (by omega), Int.toNat_natCast, hat]
   show asr (conf (.agg [.i .i64, .i .u8, .i .i64, .i .i64, .i .i64, .i .i64, .i .i64, .i .i64]) (encQ q)) _
   rw [asQ, encQ0, encQ1, encQ2, encQ3, encQ4, encQ5, encQ6, encQ7, ← f1, ← f2, At_eq (by omega), f1, f2, To_eq hq, At_eq (by omega), Told_eq hq, atR_in c2, atR_in c3, asNo (by omega)]
   dsimp only [lt]
   rw [hw, neg_wrap v4 v5, two_rls, rls_app, rls_len, asE, asT (by omega), asNo (by omega), asE, asT (by show _ ≤ 35184372088832; omega)]
   have hs := stF_cons ps (cmOf q) ((log.map cmOf).drop (i + 1)) st
   rw [hs] at k
   have e5 : acc ++ clR ps m (ps.length + 1) (cmOf q :: (log.map cmOf).drop (i + 1)) = acc ++ [(ps.idxOf (cmOf q).f, ps.idxOf (cmOf q).t, vC m (ps.length + 1) (cmOf q)), (ps.idxOf (cmOf q).t, ps.idxOf (cmOf q).f, -vC m (ps.length + 1) (cmOf q))] ++ clR ps m (ps.length + 1) ((log.map cmOf).drop (i + 1)) := by
     rw [List.append_assoc]; rfl
   rw [e5] at k
   have hAl : (acc ++ [(ps.idxOf (cmOf q).f, ps.idxOf (cmOf q).t, vC m (ps.length + 1) (cmOf q)), (ps.idxOf (cmOf q).t, ps.idxOf (cmOf q).f, -vC m (ps.length + 1) (cmOf q))]).length ≤ 2 * (i + 1) := by simp; omega
   generalize acc ++ [(ps.idxOf (cmOf q).f, ps.idxOf (cmOf q).t, vC m (ps.length + 1) (cmOf q)), (ps.idxOf (cmOf q).t, ps.idxOf (cmOf q).f, -vC m (ps.length + 1) (cmOf q))] = A at *
   refine (rule_step H hq hcm hl (J := fun s => asr (decide ((rls A).length = (rls A).length) && decide ((rls A).length = (rls A).length)) (L_r05_rules_0_1 w_r05_At w_r05_To w_r05_Told x0 x1 x2 n s (rls A) (rts ps) (logs log) (m : Int) ((ps.length + 1 : Nat) : Int) ps.length ps.length ps.length (IntKind.i64.wrap ((i : Int) + 1)))) (X := x1 (stB st) (rls A) false) rfl rfl rfl).mpr ?_
   cases he : stF ps [cmOf q] st with
   | none =>
     rw [he] at k
     dsimp only at k ⊢
     rw [hx]; exact k
   | some st' =>
     rw [he] at k
     dsimp only at k ⊢
     rw [asEE, asE, cast1, wibN (by omega)]
     exact ih (i + 1) n st' A (by omega) (by omega) (by rw [stF_len he]; exact hl) hAl k
theorem con1_loop (hk : ps.length < 1000) {a0 : T_r05_At} {a1 : T_r05_To} {a2 : T_r05_Told} {st : List Int} (hst : st.length = ps.length) (h01 : ∀ i, 0 ≤ hAt st i ∧ hAt st i ≤ 1) {x0 : List PV → List PV → Nat → Nat → Nat → Int → Bool → Prop} {x1 : List PV → List PV → List PV → Nat → Nat → Nat → Int → Bool → Prop} :
   ∀ (r i n : Nat) (acc : List Rl), i + r = ps.length → r < n → 1 ≤ i → acc.length ≤ 10000 + i →
     L_r05_rules_1_1 a0 a1 a2 x0 x1 n (stB st) (rls acc) (rts ps) ps.length ps.length ps.length (i : Int) = x1 (stB st) (rls (acc ++ conF st i r)) (rts ps) ps.length ps.length ps.length (ps.length : Int) false := by
 intro r
 induction r with
 | zero =>
   intro i n acc hi hn h1 ha
   obtain ⟨n, rfl⟩ : ∃ m, n = m + 1 := ⟨n - 1, by omega⟩
   obtain rfl : i = ps.length := by omega
   rw [L_r05_rules_1_1, rts_len, cbF (by omega)]
   simp [conF]
 | succ r ih =>
   intro i n acc hi hn h1 ha
   obtain ⟨n, rfl⟩ : ∃ m, n = m + 1 := ⟨n - 1, by omega⟩
   have e3 : (i : Int) - 1 = ((i - 1 : Nat) : Int) := by omega
   have hs := h01 i
   have key : ∀ J : Int → Prop, cbr (decide (hAt st i = 1)) (J 1) (J 0) = J (hAt st i) := by
     intro J
     by_cases h : hAt st i = 1
     · rw [cbT h, h]
     · rw [cbF h, show hAt st i = 0 by omega]
   have kj : ∀ F : Int → Prop, Go.Pf.jn (fun J : Int → Prop => cbr (decide (hAt st i = 1)) (J 1) (J 0)) F = F (hAt st i) := key
   rw [L_r05_rules_1_1, rts_len, cbT (by omega)]
   dsimp only [lt]
   rw [e3, wibN (by omega), Int.toNat_natCast, Nat.zero_add, stB_at (by omega)]
   simp (discharger := omega) only [stB_len, hst, asT, asTr, asBl, bvB]
   rw [kj]
   rw [show (.agg [.int .i64 ((i - 1 : Nat) : Int), .int .i64 (i : Int), .int .i64 (hAt st i)] : PV) = encRl (i - 1, i, hAt st i) from rfl, show [encRl (i - 1, i, hAt st i)] = rls [(i - 1, i, hAt st i)] from rfl, rls_app]
   simp (discharger := omega) only [rls_len, asTr, asNo, Nat.zero_add, Bool.and_self]
   rw [show asr (decide ((acc.length + 1 + 64) * (24 + 1) ≤ room)) = fun P => P by funext P; exact asT (by show _ ≤ 35184372088832; omega)]
   rw [cast1, wibN (by omega), ih (i + 1) n _ (by omega) (by omega) (by omega) (by simp; omega), conF_succ, List.append_assoc]
   rfl
end
end Go.Pf.Vc
namespace Go.Pf.Vc
open Go Go.Pf Go.Sort
section
variable {N : Int} {ps : List Rat} {log : List Qy} {m : Nat}
def outRu (o : Option (List Int)) (ps : List Rat) (m : Nat) (L : List Cm) (K : List PV → Bool → Prop) : Prop := match o with
 | some st => K (rls (clR ps m (ps.length + 1) L ++ conF st 1 (ps.length - 1))) true
 | none => K [] false
theorem zeros_stB (k : Nat) : List.replicate k (PV.bool false) = stB (zeros k) := by
 unfold stB zeros
 rw [List.map_replicate]
 rfl
theorem rules_of (H : Hy N ps (log.map cmOf) m) (hok : ∀ q ∈ log, qOk N q = true) {K : List PV → Bool → Prop} (k : outRu (stF ps (log.map cmOf) (zeros ps.length)) ps m (log.map cmOf) K) : w_r05_rules (rts ps) (logs log) (m : Int) K := by
 have ht := H.top
 have h2 := H.two
 have hLl := H.len
 rw [List.length_map] at hLl
 unfold w_r05_rules wv_r05_rules
 dsimp only [lt]
 rw [rts_len, cast1, wibN (by omega), asT (by omega), asT (by omega), asT (by show _ ≤ 35184372088832; omega), zeros_stB]
 have h00 : ∀ i, 0 ≤ hAt (zeros ps.length) i ∧ hAt (zeros ps.length) i ≤ 1 := fun i => by rw [zeros_at]; omega
 refine ⟨log.length + 1, ?_⟩
 cases hlog : log with
 | nil =>
   rw [hlog] at k
   have k2 : K (rls (conF (zeros ps.length) 1 (ps.length - 1))) true := k
   rw [L_r05_rules_0_0, logs_len, cbF (by simp)]
   refine ⟨ps.length + 1, ?_⟩
   have e1 : IntKind.i64.wrap ((1 : Int) - 1) = ((0 : Nat) : Int) := by decide
   have e2 : IntKind.i64.wrap ((1 : Int) + 1) = ((2 : Nat) : Int) := by decide
   rw [L_r05_rules_1_0, rts_len, cbT (by omega)]
   dsimp only [lt, Go.Pf.jn]
   rw [e1, e2, show (1 : Int).toNat = 1 from rfl, Nat.zero_add, stB_at (by rw [zeros_len]; omega)]
   have hz1 : hAt (zeros ps.length) 1 = 0 := zeros_at _ _
   simp (discharger := omega) only [stB_len, zeros_len, asT, asTr, asBl, bvB, hz1]
   rw [cbF (by omega), show ([.agg [.int .i64 ((0 : Nat) : Int), .int .i64 (1 : Int), .int .i64 (0 : Int)]] : List PV) = rls [(0, 1, hAt (zeros ps.length) 1)] by rw [hz1]; rfl]
   simp (discharger := omega) only [rls_len, asTr, Bool.and_self, List.length_singleton]
   refine (con1_loop (by omega) (zeros_len _) h00 (ps.length - 2) 2 ps.length [(0, 1, hAt (zeros ps.length) 1)] (by omega) (by omega) (by omega) (by simp)).mpr ?_
   have e5 : [(0, 1, hAt (zeros ps.length) 1)] ++ conF (zeros ps.length) 2 (ps.length - 2) = conF (zeros ps.length) 1 (ps.length - 1) := by
     rw [show ps.length - 1 = ps.length - 2 + 1 by omega, conF_succ]; rfl
   rw [e5, List.take_length]
   exact k2
 | cons q0 t0 =>
   have hil : 0 < log.length := by rw [hlog]; simp
   have hd : log.map cmOf = cmOf (log.getD 0 default) :: (log.map cmOf).drop 1 := by rw [hlog]; rfl
   have hm : log.getD 0 default ∈ log := by rw [hlog]; exact List.mem_cons_self
   rw [← hlog]
   have hat := logs_at hil
   have hq := hok _ hm
   have hcm : cmOf (log.getD 0 default) ∈ log.map cmOf := List.mem_map_of_mem hm
   have k' := k
   rw [hd] at k'
   generalize log.getD 0 default = q at *
   obtain ⟨c1, c2, c3⟩ := H.ok _ hcm
   obtain ⟨v1, v2, v3, v4, v5⟩ := vC_bnd H hcm
   have hw := vC_wrap H hcm
   have hdv := (cmOf q).v.den_pos
   obtain ⟨f1, f2⟩ := cmOf_f hq
   have e2 : IntKind.i64.wrap ((0 : Int) + 1) = ((1 : Nat) : Int) := by decide
   rw [L_r05_rules_0_0, logs_len, cbT (by omega), jn_def, asT (by omega), asT (by omega), show (0 : Int).toNat = 0 from rfl, hat]
   show asr (conf (.agg [.i .i64, .i .u8, .i .i64, .i .i64, .i .i64, .i .i64, .i .i64, .i .i64]) (encQ q)) _
   rw [asQ, encQ0, encQ1, encQ2, encQ3, encQ4, encQ5, encQ6, encQ7, ← f1, ← f2, At_eq (by omega), f1, f2, To_eq hq, At_eq (by omega), Told_eq hq, atR_in c2, atR_in c3, asNo (by omega)]
   dsimp only [lt]
   rw [hw, neg_wrap v4 v5, two_rls, e2]
   have hs := stF_cons ps (cmOf q) ((log.map cmOf).drop 1) (zeros ps.length)
   rw [hs] at k'
   have e6 : clR ps m (ps.length + 1) (cmOf q :: (log.map cmOf).drop 1) = [(ps.idxOf (cmOf q).f, ps.idxOf (cmOf q).t, vC m (ps.length + 1) (cmOf q)), (ps.idxOf (cmOf q).t, ps.idxOf (cmOf q).f, -vC m (ps.length + 1) (cmOf q))] ++ clR ps m (ps.length + 1) ((log.map cmOf).drop 1) := rfl
   unfold outRu at k'
   rw [e6] at k'
   have hAl : [(ps.idxOf (cmOf q).f, ps.idxOf (cmOf q).t, vC m (ps.length + 1) (cmOf q)), (ps.idxOf (cmOf q).t, ps.idxOf (cmOf q).f, -vC m (ps.length + 1) (cmOf q))].length = 2 := rfl
   generalize [(ps.idxOf (cmOf q).f, ps.idxOf (cmOf q).t, vC m (ps.length + 1) (cmOf q)), (ps.idxOf (cmOf q).t, ps.idxOf (cmOf q).f, -vC m (ps.length + 1) (cmOf q))] = A at *
   refine (rule_step H hq hcm (zeros_len _) (J := fun s => asr (decide ((rls A).length = (rls A).length) && decide ((rls A).length = (rls A).length)) (L_r05_rules_0_1 w_r05_At w_r05_To w_r05_Told _ _ _ log.length s (rls A) (rts ps) (logs log) (m : Int) ((ps.length + 1 : Nat) : Int) ps.length ps.length ps.length ((1 : Nat) : Int))) (X := K [] false) rfl rfl rfl).mpr ?_
   cases he : stF ps [cmOf q] (zeros ps.length) with
   | none =>
     rw [he] at k'
     exact k'
   | some st' =>
     rw [he] at k'
     dsimp only at k' ⊢
     have hst' : st'.length = ps.length := by rw [stF_len he, zeros_len]
     rw [asEE, asE]
     refine rules_loop H hok (X := K [] false) (fun _ _ => rfl) (log.length - 1) 1 log.length st' A (by omega) (by omega) hst' (by omega) ?_
     have h01' := stF_01 (ps := ps) (L := [cmOf q]) (fun c hc => by rw [List.mem_singleton.1 hc]; exact c3) (zeros_len _) h00 he
     cases he2 : stF ps ((log.map cmOf).drop 1) st' with
     | none => rw [he2] at k'; exact k'
     | some st =>
       rw [he2] at k'
       dsimp only at k' ⊢
       have hst : st.length = ps.length := by rw [stF_len he2, hst']
       have h01 := stF_01 (fun c hc => (H.ok c (List.mem_of_mem_drop hc)).2.2) hst' h01' he2
       rw [asEE, asE]
       refine ⟨ps.length + 1, ?_⟩
       have hcl := clR_len ps m (ps.length + 1) ((log.map cmOf).drop 1)
       rw [List.length_drop, List.length_map] at hcl
       refine (con1_loop (by omega) hst h01 (ps.length - 1) 1 (ps.length + 1) _ (by omega) (by omega) (by omega) (by rw [List.length_append]; omega)).mpr ?_
       rw [asE, asT (by omega), List.take_length]
       exact k'
theorem rules_eq (H : Hy N ps (log.map cmOf) m) (hok : ∀ q ∈ log, qOk N q = true) (K : List PV → Bool → Prop) : w_r05_rules (rts ps) (logs log) (m : Int) K = outRu (stF ps (log.map cmOf) (zeros ps.length)) ps m (log.map cmOf) K := by
 cases e : stF ps (log.map cmOf) (zeros ps.length) with
 | none => exact det_r05_rules _ _ _ _ _ (fun K k => rules_of H hok (by rw [e]; exact k)) K
 | some st => exact det_r05_rules _ _ _ _ _ (fun K k => rules_of H hok (by rw [e]; exact k)) K
def outRh (o : Option (List Int)) (K : List PV → Bool → Prop) : Prop := match o with
 | some g => K (ints g) (hAt g 0 == 0)
 | none => K [] false
def bfR (ps : List Rat) (m : Nat) (L : List Cm) : Option (List Int) := match stF ps L (zeros ps.length) with
 | some st => bf (clR ps m (ps.length + 1) L ++ conF st 1 (ps.length - 1)) ps.length
 | none => none
theorem rheights_of (H : Hy N ps (log.map cmOf) m) (hok : ∀ q ∈ log, qOk N q = true) {K : List PV → Bool → Prop} (k : outRh (bfR ps m (log.map cmOf)) K) : w_r05_heights (rts ps) (logs log) (m : Int) K := by
 have ht := H.top
 have h2 := H.two
 have hLl := H.len
 rw [List.length_map] at hLl
 unfold w_r05_heights wv_r05_heights
 rw [rules_eq H hok]
 unfold bfR at k
 cases hs : stF ps (log.map cmOf) (zeros ps.length) with
 | none =>
   rw [hs] at k
   unfold outRu
   dsimp only
   rw [Bool.not_false, cbr_true]
   exact k
 | some st =>
   rw [hs] at k
   unfold outRu
   dsimp only at k ⊢
   have h01 := stF_01 (fun c hc => (H.ok c hc).2.2) (zeros_len _) (fun i => by rw [zeros_at]; omega) hs
   have hmem : ∀ q, q ∈ clR ps m (ps.length + 1) (log.map cmOf) ++ conF st 1 (ps.length - 1) ↔ q ∈ hR ps m (log.map cmOf) st := by
     intro q
     unfold hR
     rw [List.mem_append, List.mem_append, or_comm]
   have ho : rOk (clR ps m (ps.length + 1) (log.map cmOf) ++ conF st 1 (ps.length - 1)) ps.length := fun q hq => hR_ok H st q ((hmem q).1 hq)
   have hlen : (clR ps m (ps.length + 1) (log.map cmOf) ++ conF st 1 (ps.length - 1)).length = 2 * log.length + (ps.length - 1) := by rw [List.length_append, conF_len, clR_len, List.length_map]
   have ha : ∀ q ∈ clR ps m (ps.length + 1) (log.map cmOf) ++ conF st 1 (ps.length - 1), q.2.2 ≤ 100000000000000 ∧ -100000000000000 ≤ q.2.2 := by
     intro q hq
     refine ⟨hR_add H h01 q ((hmem q).1 hq), ?_⟩
     rcases List.mem_append.1 hq with h | h
     · obtain ⟨c, hc, rfl | rfl⟩ := clR_mem.1 h
       · have := (vC_bnd H hc).2.2.2.1
         show _ ≤ vC m (ps.length + 1) c
         omega
       · have := (vC_bnd H hc).2.2.2.2
         show _ ≤ -vC m (ps.length + 1) c
         omega
     · obtain ⟨j, _, _, rfl⟩ := conF_mem h
       have := h01 j
       show _ ≤ hAt st j
       omega
   rw [Bool.not_true, cbr_false, rts_len, asT (by omega), asT (by omega), asT (by show _ ≤ 35184372088832; omega), zeros_ints]
   refine ⟨ps.length + 2, ?_⟩
   refine rrounds_loop (ps := ps) ho (by omega) h2 ha (by omega) (T := 2100000000000000000) (by omega) (K0 := K [] false) (Kf := fun g => K (ints g) (hAt g 0 == 0)) (fun _ _ _ _ _ _ _ _ => rfl) (fun g hg => ?_) (ps.length + 1) 0 (ps.length + 2) _ (by omega) (by omega) (zeros_len _) (fun i => by rw [zeros_at]; omega) ?_
   · rw [ints_len, hg, asE, asT (by omega), show List.take ps.length (ints g) = ints g by rw [← hg, ← ints_len g, List.take_length]]
   · unfold outRh bf at k
     cases he : iterR (clR ps m (ps.length + 1) (log.map cmOf) ++ conF st 1 (ps.length - 1)) (ps.length + 1) (zeros ps.length) with
     | none => rw [he] at k; exact k
     | some g => rw [he] at k; exact k
theorem rheights_eq (H : Hy N ps (log.map cmOf) m) (hok : ∀ q ∈ log, qOk N q = true) (K : List PV → Bool → Prop) : w_r05_heights (rts ps) (logs log) (m : Int) K = outRh (bfR ps m (log.map cmOf)) K := by
 cases e : bfR ps m (log.map cmOf) with
 | none => exact det_r05_heights _ _ _ _ _ (fun K k => rheights_of H hok (by rw [e]; exact k)) K
 | some st => exact det_r05_heights _ _ _ _ _ (fun K k => rheights_of H hok (by rw [e]; exact k)) K
theorem hts_bfR (H : Hy N ps (log.map cmOf) m) : hts ps m (log.map cmOf) = match bfR ps m (log.map cmOf) with | some g => if hAt g 0 = 0 then some g else none | none => none := by
 unfold hts bfR
 cases hs : stF ps (log.map cmOf) (zeros ps.length) with
 | none => rfl
 | some st =>
   dsimp only
   unfold bf0
   have hb := bf_same (hR_ok H st) (S := clR ps m (ps.length + 1) (log.map cmOf) ++ conF st 1 (ps.length - 1)) (fun q => by
     unfold hR
     rw [List.mem_append, List.mem_append, or_comm])
   rw [hb] <;> rfl
end
theorem ptsC_zero {N : Int} (h1 : 1 ≤ N) {L : List Cm} (hc : ∀ c ∈ L, c.ok N) : (ptsC N L).getD 0 0 = 0 := by
 have hi := ptsC_incr h1 L
 have hm : (0 : Rat) ∈ ptsC N L := ptsC_mem.2 (.inl rfl)
 cases hp : ptsC N L with
 | nil => rfl
 | cons x r =>
   rw [hp] at hi hm
   show x = 0
   rcases List.mem_cons.1 hm with e | hr
   · exact e.symm
   · have hx := hi.1 0 hr
     have hxm : x ∈ ptsC N L := by rw [hp]; exact List.mem_cons_self
     have hN : (0 : Rat) < (N : Rat) := by
       have : ((1 : Int) : Rat) ≤ (N : Rat) := Rat.intCast_le_intCast.2 h1
       have h0 : (0 : Rat) < ((1 : Int) : Rat) := by decide
       grind
     rcases ptsC_mem.1 hxm with e | e | ⟨c, h1, e | e⟩
     · exact e
     · grind
     · have := (hc c h1).f0; grind
     · have := (hc c h1).f0; have := (hc c h1).ft; grind
theorem ptsC_two {N : Int} (h1 : 1 ≤ N) (L : List Cm) : 2 ≤ (ptsC N L).length := by
 have hm : (0 : Rat) ∈ ptsC N L := ptsC_mem.2 (.inl rfl)
 have hm2 : (N : Rat) ∈ ptsC N L := ptsC_mem.2 (.inr (.inl rfl))
 have hN : (0 : Rat) ≠ (N : Rat) := by
   have : ((1 : Int) : Rat) ≤ (N : Rat) := Rat.intCast_le_intCast.2 h1
   have h0 : (0 : Rat) < ((1 : Int) : Rat) := by decide
   grind
 cases hp : ptsC N L with
 | nil => rw [hp] at hm; cases hm
 | cons x r =>
   cases r with
   | nil =>
     rw [hp] at hm hm2
     rw [List.mem_singleton] at hm hm2
     exact absurd (hm.trans hm2.symm) hN
   | cons y t => simp
theorem ptsC_small {N : Int} (h1 : 1 ≤ N) (h2 : N ≤ 1000) {L : List Cm} (hc : ∀ c ∈ L, c.ok N) : ∀ z ∈ ptsC N L, small z := by
 intro z hz
 rcases ptsC_mem.1 hz with rfl | rfl | ⟨c, h1, rfl | rfl⟩
 · decide
 · exact small_int3 (by omega) (by omega)
 · exact (hc c h1).f
 · exact (hc c h1).t
theorem Hy_of {N : Int} (h1 : 1 ≤ N) (h2 : N ≤ 1000) {L : List Cm} (hc : ∀ c ∈ L, c.ok N) (hl : L.length ≤ 40) {m : Nat} (hs : Sc L m) : Hy N (ptsC N L) L m where
 inc := ptsC_incr h1 L
 sm := ptsC_small h1 h2 hc
 two := ptsC_two h1 L
 top := by have := ptsC_len N L; omega
 ok := fun c hc' => ⟨hc c hc', ptsC_mem.2 (.inr (.inr ⟨c, hc', .inl rfl⟩)), ptsC_mem.2 (.inr (.inr ⟨c, hc', .inr rfl⟩))⟩
 len := by omega
 sc := hs
 p0 := ptsC_zero h1 hc
def outHh (o : Option Nat) (N : Int) (L : List Cm) (K : List PV → Int → Int → Int → Prop) : Prop := match o with
 | none => K [] 0 0 16
 | some m => match hts (ptsC N L) m L with
   | none => K [] 0 0 6
   | some g => K (ints g) (m : Int) (((ptsC N L).length + 1 : Nat) : Int) 0
theorem rHeights_of {N : Int} (h1 : 1 ≤ N) (h2 : N ≤ 1000) {log : List Qy} (hok : ∀ q ∈ log, qOk N q = true) (hl : log.length ≤ 40) {K : List PV → Int → Int → Int → Prop} (k : outHh (scaleL (log.map cmOf)) N (log.map cmOf) K) : w_r05_Heights N (logs log) K := by
 unfold w_r05_Heights wv_r05_Heights
 rw [rscale_eq hok (by omega)]
 unfold outHh at k
 unfold outSc
 cases e : scaleL (log.map cmOf) with
 | none =>
   rw [e] at k
   exact k
 | some m =>
   rw [e] at k
   dsimp only at k ⊢
   have hc : ∀ c ∈ log.map cmOf, c.ok N := fun c hc => by
     obtain ⟨q, hq, rfl⟩ := List.mem_map.1 hc
     exact qOk_cm (hok q hq)
   have H := Hy_of h1 h2 hc (by rw [List.length_map]; exact hl) (scaleL_some e)
   have ht := H.top
   rw [nz, rpoints_eq h1 h2 hok (by omega), rheights_eq H hok]
   rw [hts_bfR H] at k
   unfold outRh
   cases hb : bfR (ptsC N (log.map cmOf)) m (log.map cmOf) with
   | none =>
     rw [hb] at k
     exact k
   | some g =>
     rw [hb] at k
     dsimp only [lt] at k ⊢
     by_cases hg : hAt g 0 = 0
     · rw [if_pos hg] at k
       rw [show (hAt g 0 == 0) = true from beq_iff_eq.2 hg, Bool.not_true, cbr_false, rts_len, cast1, wibN (by omega)]
       exact k
     · rw [if_neg hg] at k
       rw [show (hAt g 0 == 0) = false from beq_eq_false_iff_ne.2 hg, Bool.not_false, cbr_true]
       exact k
theorem rHeights_eq {N : Int} (h1 : 1 ≤ N) (h2 : N ≤ 1000) {log : List Qy} (hok : ∀ q ∈ log, qOk N q = true) (hl : log.length ≤ 40) (K : List PV → Int → Int → Int → Prop) : w_r05_Heights N (logs log) K = outHh (scaleL (log.map cmOf)) N (log.map cmOf) K := by
 unfold outHh
 cases e : scaleL (log.map cmOf) with
 | none => exact det_r05_Heights _ _ _ _ _ _ (fun K k => rHeights_of h1 h2 hok hl (by unfold outHh; rw [e]; exact k)) K
 | some m =>
   dsimp only
   cases e2 : hts (ptsC N (log.map cmOf)) m (log.map cmOf) with
   | none => exact det_r05_Heights _ _ _ _ _ _ (fun K k => rHeights_of h1 h2 hok hl (by unfold outHh; rw [e]; dsimp only; rw [e2]; exact k)) K
   | some g => exact det_r05_Heights _ _ _ _ _ _ (fun K k => rHeights_of h1 h2 hok hl (by unfold outHh; rw [e]; dsimp only; rw [e2]; exact k)) K
end Go.Pf.Vc
namespace Go.Pf.Vc
open Go Go.Pf Go.Sort
def Feas (N : Int) (L : List Cm) : Prop := ∃ V : Rat → Rat, V 0 = 0 ∧ (∀ p q, p ∈ ptsC N L → q ∈ ptsC N L → p ≤ q → V p ≤ V q) ∧
 ∀ c ∈ L, V c.t = V c.f + c.v ∧ (c.m = true → (c.v = 0 → c.f = c.t) ∧ (c.v ≠ 0 → ∀ p ∈ ptsC N L, p < c.t → V p < V c.t))
theorem idx_le {l : List Rat} (h : incrR l) {p q : Rat} (hp : p ∈ l) (hq : q ∈ l) : l.idxOf p < l.idxOf q ↔ p < q := by
 have := incr_lt h (idx_lt hp) (idx_lt hq)
 rw [getD_idx hp, getD_idx hq] at this
 exact this.symm
theorem stF_none {ps : List Rat} : ∀ {L : List Cm} {st : List Int}, stF ps L st = none → ∃ c ∈ L, c.m = true ∧ c.v = 0 ∧ c.f ≠ c.t
 | [], _, e => by cases e
 | c :: r, st, e => by
   have up : (∃ c' ∈ r, c'.m = true ∧ c'.v = 0 ∧ c'.f ≠ c'.t) → ∃ c' ∈ c :: r, c'.m = true ∧ c'.v = 0 ∧ c'.f ≠ c'.t := fun ⟨c', h1, h2⟩ => ⟨c', List.mem_cons_of_mem _ h1, h2⟩
   unfold stF at e
   split at e
   · rename_i hm
     split at e
     · rename_i hv
       split at e
       · exact up (stF_none e)
       · rename_i hf; exact ⟨c, List.mem_cons_self, hm, hv, hf⟩
     · exact up (stF_none e)
   · exact up (stF_none e)
theorem sol_mono {R : List Rl} {k : Nat} {g st : List Int} (hs : Sol R k g) (h01 : ∀ i, 0 ≤ hAt st i ∧ hAt st i ≤ 1) (hc : ∀ q ∈ conF st 1 (k - 1), q ∈ R) : ∀ i j, i ≤ j → j < k → hAt g i ≤ hAt g j := by
 intro i j hij
 induction j with
 | zero => intro _; rw [show i = 0 by omega]; exact Int.le_refl _
 | succ j ih =>
   intro hj
   by_cases e : i = j + 1
   · rw [e]; exact Int.le_refl _
   · have h1 := ih (by omega) (by omega)
     have hm : ((j, j + 1, hAt st (j + 1)) : Rl) ∈ conF st 1 (k - 1) := by
       unfold conF
       exact List.mem_map.2 ⟨j + 1, List.mem_range'_1.2 ⟨by omega, by omega⟩, rfl⟩
     have h2 : hAt g j + hAt st (j + 1) ≤ hAt g (j + 1) := hs.ob _ (hc _ hm)
     have h3 := h01 (j + 1)
     omega
theorem con_rule {R : List Rl} {k : Nat} {g st : List Int} (hs : Sol R k g) (hc : ∀ q ∈ conF st 1 (k - 1), q ∈ R) {j : Nat} (hj : 0 < j) (hj2 : j < k) : hAt g (j - 1) + hAt st j ≤ hAt g j := by
 refine hs.ob (j - 1, j, hAt st j) (hc _ ?_)
 unfold conF
 exact List.mem_map.2 ⟨j, List.mem_range'_1.2 ⟨by omega, by omega⟩, rfl⟩
theorem cmv_num {c : Cm} {m : Nat} (hd : c.v.den ∣ m) : (m : Rat) * c.v = ((c.v.num * ((m / c.v.den : Nat) : Int) : Int) : Rat) := by
 obtain ⟨t, rfl⟩ := hd
 have hp := c.v.den_pos
 rw [Nat.mul_div_cancel_left _ hp, Rat.intCast_mul, Rat.natCast_mul]
 have h1 : (c.v.den : Rat) * c.v = (c.v.num : Rat) := by
   have h0 : (c.v.den : Rat) ≠ 0 := by
     have : (0 : Rat) < (c.v.den : Rat) := Rat.natCast_pos.2 hp
     grind
   have h2 : c.v = (c.v.num : Rat) / (c.v.den : Rat) := by rw [← Rat.mkRat_eq_div, Rat.mkRat_self]
   have h3 : (c.v.den : Rat) * ((c.v.num : Rat) / (c.v.den : Rat)) = (c.v.num : Rat) := by rw [Rat.mul_comm]; exact Rat.div_mul_cancel h0
   rw [← h2] at h3
   exact h3
 have h2 : (((t : Nat) : Int) : Rat) = ((t : Nat) : Rat) := Rat.intCast_natCast t
 rw [h2]
 calc (c.v.den : Rat) * (t : Rat) * c.v = ((c.v.den : Rat) * c.v) * (t : Rat) := by grind
   _ = (c.v.num : Rat) * (t : Rat) := by rw [h1]
theorem hts_sol {N : Int} {ps : List Rat} {L : List Cm} {m : Nat} (H : Hy N ps L m) {g : List Int} (e : hts ps m L = some g) :
   ∃ st, stF ps L (zeros ps.length) = some st ∧ Sol (hR ps m L st) ps.length g ∧ hAt g 0 = 0 ∧ ∀ x, Sol (hR ps m L st) ps.length x → leH g x := by
 unfold hts at e
 cases hs : stF ps L (zeros ps.length) with
 | none => rw [hs] at e; cases e
 | some st =>
   rw [hs] at e
   obtain ⟨h1, h2, h3⟩ := bf0_some (hR_ok H st) e
   exact ⟨st, rfl, h1, h2, h3⟩
theorem sol_eq {ps : List Rat} {L : List Cm} {m : Nat} {st g : List Int} (hs : Sol (hR ps m L st) ps.length g) {c : Cm} (hc : c ∈ L) : hAt g (ps.idxOf c.t) = hAt g (ps.idxOf c.f) + vC m (ps.length + 1) c := by
 have h1 := hs.ob (ps.idxOf c.f, ps.idxOf c.t, vC m (ps.length + 1) c) (List.mem_append_right _ (clR_mem.2 ⟨c, hc, .inl rfl⟩))
 have h2 := hs.ob (ps.idxOf c.t, ps.idxOf c.f, -vC m (ps.length + 1) c) (List.mem_append_right _ (clR_mem.2 ⟨c, hc, .inr rfl⟩))
 have h1 : hAt g (ps.idxOf c.f) + vC m (ps.length + 1) c ≤ hAt g (ps.idxOf c.t) := h1
 have h2 : hAt g (ps.idxOf c.t) + -vC m (ps.length + 1) c ≤ hAt g (ps.idxOf c.f) := h2
 omega
def dv (m s : Nat) (x : Int) : Rat := (x : Rat) / ((m : Rat) * (s : Rat))
theorem ms_pos {m s : Nat} (hm : 1 ≤ m) (hs : 1 ≤ s) : (0 : Rat) < (m : Rat) * (s : Rat) := by
 have h1 : (0 : Rat) < (m : Rat) := Rat.natCast_pos.2 (by omega)
 have h2 : (0 : Rat) < (s : Rat) := Rat.natCast_pos.2 (by omega)
 exact Rat.mul_pos h1 h2
theorem dv_le {m s : Nat} (hm : 1 ≤ m) (hs : 1 ≤ s) {x y : Int} (h : x ≤ y) : dv m s x ≤ dv m s y := by
 have := ms_pos hm hs
 unfold dv
 have h2 : (x : Rat) ≤ (y : Rat) := Rat.intCast_le_intCast.2 h
 rw [Rat.div_def, Rat.div_def]
 have h3 : (0 : Rat) < ((m : Rat) * (s : Rat))⁻¹ := Rat.inv_pos.2 this
 exact Rat.mul_le_mul_of_nonneg_right h2 (by grind)
theorem dv_lt {m s : Nat} (hm : 1 ≤ m) (hs : 1 ≤ s) {x y : Int} (h : x < y) : dv m s x < dv m s y := by
 have := ms_pos hm hs
 unfold dv
 have h2 : (x : Rat) < (y : Rat) := Rat.intCast_lt_intCast.2 h
 rw [Rat.div_def, Rat.div_def]
 exact Rat.mul_lt_mul_of_pos_right h2 (Rat.inv_pos.2 this)
theorem dv_add {m s : Nat} (hm : 1 ≤ m) (hs : 1 ≤ s) {x : Int} {c : Cm} (hd : c.v.den ∣ m) : dv m s (x + vC m s c) = dv m s x + c.v := by
 have hp := ms_pos hm hs
 unfold dv vC
 have e : ((c.v.num * ((m / c.v.den : Nat) : Int) * (s : Int) : Int) : Rat) = (m : Rat) * (s : Rat) * c.v := by
   rw [Rat.intCast_mul, ← cmv_num hd, Rat.intCast_natCast]
   grind
 rw [Rat.intCast_add, e]
 have hne : (m : Rat) * (s : Rat) ≠ 0 := by grind
 grind
theorem feas_of {N : Int} {L : List Cm} {m : Nat} (H : Hy N (ptsC N L) L m) {g : List Int} (e : hts (ptsC N L) m L = some g) : Feas N L := by
 obtain ⟨st, hs, hsol, h0, _⟩ := hts_sol H e
 have hm := H.sc.one
 have h2 := H.two
 have h01 := stF_01 (fun c hc => (H.ok c hc).2.2) (zeros_len _) (fun i => by rw [zeros_at]; omega) hs
 obtain ⟨hst, hz⟩ := stF_is (fun c hc => (H.ok c hc).2.2) (zeros_len _) hs
 have hcon : ∀ q ∈ conF st 1 ((ptsC N L).length - 1), q ∈ hR (ptsC N L) m L st := fun q hq => List.mem_append_left _ hq
 have hmono := sol_mono hsol h01 hcon
 have hz0 : (0 : Rat) ∈ ptsC N L := ptsC_mem.2 (.inl rfl)
 have hi0 : (ptsC N L).idxOf 0 = 0 := by
   refine Nat.le_antisymm (Nat.not_lt.1 fun hlt => ?_) (Nat.zero_le _)
   have := (incr_lt H.inc (i := 0) (j := (ptsC N L).idxOf 0) (by omega) (idx_lt hz0)).2 hlt
   rw [getD_idx hz0, H.p0] at this
   exact Rat.lt_irrefl this
 refine ⟨fun p => dv m ((ptsC N L).length + 1) (hAt g ((ptsC N L).idxOf p)), ?_, fun p q hp hq hpq => ?_, fun c hc => ⟨?_, fun hcm => ⟨fun hv => hz c hc hcm hv, fun hv p hp hlt => ?_⟩⟩⟩
 · show dv m _ (hAt g ((ptsC N L).idxOf 0)) = 0
   rw [hi0, h0]
   unfold dv
   rw [Rat.div_def, show ((0 : Int) : Rat) = 0 from rfl, Rat.zero_mul]
 · refine dv_le hm (by omega) (hmono _ _ (Nat.not_lt.1 fun hlt => ?_) (idx_lt hq))
   have := (idx_le H.inc hq hp).1 hlt
   grind
 · show dv m _ (hAt g ((ptsC N L).idxOf c.t)) = _
   rw [sol_eq hsol hc, dv_add hm (by omega) (H.sc.dvd c hc)]
 · have hib := (idx_le H.inc hp (H.ok c hc).2.2).2 hlt
   have hb := idx_lt (H.ok c hc).2.2
   have hs1 : hAt st ((ptsC N L).idxOf c.t) = 1 := (hst _).2 (.inr ⟨c, hc, hcm, hv, rfl⟩)
   have h3 := con_rule hsol hcon (j := (ptsC N L).idxOf c.t) (by omega) hb
   have h4 := hmono ((ptsC N L).idxOf p) ((ptsC N L).idxOf c.t - 1) (by omega) (by omega)
   exact dv_lt hm (by omega) (by omega)
theorem hts_of {N : Int} {L : List Cm} {m : Nat} (H : Hy N (ptsC N L) L m) (hF : Feas N L) : ∃ g, hts (ptsC N L) m L = some g := by
 obtain ⟨V, v0, vm, vc⟩ := hF
 unfold hts
 cases hs : stF (ptsC N L) L (zeros (ptsC N L).length) with
 | none =>
   obtain ⟨c, hc, h1, h2, h3⟩ := stF_none hs
   exact absurd (((vc c hc).2 h1).1 h2) h3
 | some st =>
   dsimp only
   have h01 := stF_01 (fun c hc => (H.ok c hc).2.2) (zeros_len _) (fun i => by rw [zeros_at]; omega) hs
   obtain ⟨hst, hz⟩ := stF_is (fun c hc => (H.ok c hc).2.2) (zeros_len _) hs
   have hm := H.sc.one
   have hm0 : (0 : Rat) < (m : Rat) := Rat.natCast_pos.2 (by omega)
   have hlen : ((ptsC N L).map fun p => (m : Rat) * V p).length = (ptsC N L).length := List.length_map ..
   have hat : ∀ i, i < (ptsC N L).length → ((ptsC N L).map fun p => (m : Rat) * V p).getD i 0 = (m : Rat) * V ((ptsC N L).getD i 0) := by
     intro i hi
     rw [List.getD_eq_getElem?_getD, List.getD_eq_getElem?_getD, List.getElem?_map, List.getElem?_eq_getElem hi]
     rfl
   have hmem : ∀ i, i < (ptsC N L).length → (ptsC N L).getD i 0 ∈ ptsC N L := fun i hi => getD_ratMem hi
   have key := bf0_of_rat (ys := (ptsC N L).map fun p => (m : Rat) * V p) (R := hR (ptsC N L) m L st) (by rw [hlen]; exact hR_ok H st) (fun q hq => ?_) (fun y hy => ?_) ?_
   · rw [hlen] at key; exact key
   · unfold ruleOk
     rw [hlen]
     rcases List.mem_append.1 hq with h | h
     · obtain ⟨j, h1, h2, rfl⟩ := conF_mem h
       have h2' := H.two
       have hj : j < (ptsC N L).length := by omega
       have hlt := (incr_lt H.inc (i := j - 1) (j := j) (by omega) hj).2 (by omega)
       right
       show ((((ptsC N L).map fun p => (m : Rat) * V p).getD (j - 1) 0 ≤ ((ptsC N L).map fun p => (m : Rat) * V p).getD j 0) ∧ hAt st j = 0) ∨ (((ptsC N L).map fun p => (m : Rat) * V p).getD (j - 1) 0 < ((ptsC N L).map fun p => (m : Rat) * V p).getD j 0 ∧ hAt st j = 1)
       rw [hat _ (by omega), hat _ hj]
       by_cases h1' : hAt st j = 1
       · right
         refine ⟨?_, h1'⟩
         rcases (hst j).1 h1' with h5 | ⟨c, hc, hcm, hcv, hci⟩
         · rw [zeros_at] at h5; omega
         · have hct : (ptsC N L).getD j 0 = c.t := by rw [← hci, getD_idx (H.ok c hc).2.2]
           have h6 := ((vc c hc).2 hcm).2 hcv _ (hmem (j - 1) (by omega)) (by rw [← hct]; exact hlt)
           rw [hct]
           exact Rat.mul_lt_mul_of_pos_left h6 hm0
       · left
         refine ⟨?_, by have := h01 j; omega⟩
         have h6 := vm _ _ (hmem (j - 1) (by omega)) (hmem j hj) (by grind)
         exact Rat.mul_le_mul_of_nonneg_left h6 (by grind)
     · obtain ⟨c, hc, e⟩ := clR_mem.1 h
       have ha := idx_lt (H.ok c hc).2.1
       have hb := idx_lt (H.ok c hc).2.2
       have hv := (vc c hc).1
       have hd := cmv_num (H.sc.dvd c hc)
       left
       rcases e with rfl | rfl
       · refine ⟨c.v.num * ((m / c.v.den : Nat) : Int), ?_, ?_⟩
         · show ((ptsC N L).map fun p => (m : Rat) * V p).getD ((ptsC N L).idxOf c.t) 0 = ((ptsC N L).map fun p => (m : Rat) * V p).getD ((ptsC N L).idxOf c.f) 0 + _
           rw [hat _ ha, hat _ hb, getD_idx (H.ok c hc).2.1, getD_idx (H.ok c hc).2.2, hv, ← hd]
           grind
         · show vC m _ c = _
           unfold vC
           rw [Int.mul_comm]
           rfl
       · refine ⟨-(c.v.num * ((m / c.v.den : Nat) : Int)), ?_, ?_⟩
         · show ((ptsC N L).map fun p => (m : Rat) * V p).getD ((ptsC N L).idxOf c.f) 0 = ((ptsC N L).map fun p => (m : Rat) * V p).getD ((ptsC N L).idxOf c.t) 0 + _
           rw [hat _ ha, hat _ hb, getD_idx (H.ok c hc).2.1, getD_idx (H.ok c hc).2.2, hv, Rat.intCast_neg, ← hd]
           grind
         · show -vC m _ c = _
           unfold vC
           rw [Int.mul_neg, Int.mul_comm]
           rfl
   · obtain ⟨p, hp, rfl⟩ := List.mem_map.1 hy
     have h0 : (0 : Rat) ≤ p := by
       obtain ⟨i, hi, e⟩ := mem_at (d := (0 : Rat)) hp
       rw [← e]
       by_cases h : i = 0
       · rw [h, H.p0]; exact Rat.le_refl
       · have := (incr_lt H.inc (i := 0) (j := i) (by omega) hi).2 (by omega)
         rw [H.p0] at this
         grind
     have h1 := vm 0 p (ptsC_mem.2 (.inl rfl)) hp h0
     rw [v0] at h1
     exact Rat.mul_nonneg (by grind) h1
   · rw [hat 0 (by have := H.two; omega), H.p0, v0, Rat.mul_zero]
theorem hts_feas {N : Int} {L : List Cm} {m : Nat} (H : Hy N (ptsC N L) L m) : (∃ g, hts (ptsC N L) m L = some g) ↔ Feas N L := ⟨fun ⟨_, e⟩ => feas_of H e, hts_of H⟩
theorem feas_take {N : Int} {L : List Cm} (h : Feas N L) (k : Nat) : Feas N (L.take k) := by
 obtain ⟨V, v0, vm, vc⟩ := h
 have sub : ∀ p, p ∈ ptsC N (L.take k) → p ∈ ptsC N L := by
   intro p hp
   rw [ptsC_mem] at hp ⊢
   rcases hp with h | h | ⟨c, h1, h2⟩
   · exact .inl h
   · exact .inr (.inl h)
   · exact .inr (.inr ⟨c, List.mem_of_mem_take h1, h2⟩)
 refine ⟨V, v0, fun p q hp hq => vm p q (sub p hp) (sub q hq), fun c hc => ?_⟩
 obtain ⟨h1, h2⟩ := vc c (List.mem_of_mem_take hc)
 exact ⟨h1, fun hm => ⟨(h2 hm).1, fun hv p hp => (h2 hm).2 hv p (sub p hp)⟩⟩
theorem scM_append : ∀ (a b : List Cm) (m : Nat), scM (a ++ b) m = (scM a m).bind (scM b)
 | [], b, m => rfl
 | c :: r, b, m => by
   show (if c.v.den / Nat.gcd m c.v.den ≤ 1000000000 / m then scM (r ++ b) (m * (c.v.den / Nat.gcd m c.v.den)) else none) = ((if c.v.den / Nat.gcd m c.v.den ≤ 1000000000 / m then scM r (m * (c.v.den / Nat.gcd m c.v.den)) else none)).bind (scM b)
   split
   · exact scM_append r b _
   · rfl
theorem scale_take {L : List Cm} {m : Nat} (h : scaleL L = some m) (k : Nat) : ∃ m', scaleL (L.take k) = some m' ∧ Sc (L.take k) m := by
 have hS := scaleL_some h
 have hpre : Sc (L.take k) m := ⟨hS.one, hS.top, fun c hc => hS.dvd c (List.mem_of_mem_take hc), fun c hc => hS.val c (List.mem_of_mem_take hc)⟩
 unfold scaleL at h
 split at h
 case h_2 => cases h
 rename_i m0 e
 split at h
 case isFalse => cases h
 rename_i ht
 cases h
 have ha := scM_append (L.take k) (L.drop k) 1
 rw [List.take_append_drop, e] at ha
 cases e2 : scM (L.take k) 1 with
 | none => rw [e2] at ha; cases ha
 | some m1 =>
   rw [e2] at ha
   have ha : some m = scM (L.drop k) m1 := ha
   obtain ⟨o1, o2, _, o4⟩ := scM_some _ 1 (by omega) (by omega) e2
   obtain ⟨p1, p2, p3, _⟩ := scM_some _ m1 o1 o2 ha.symm
   refine ⟨m1, ?_, hpre⟩
   unfold scaleL
   rw [e2]
   dsimp only
   rw [if_pos]
   unfold scT at ht ⊢
   rw [List.all_eq_true] at ht ⊢
   intro c hc
   have h5 := ht c (List.mem_of_mem_take hc)
   simp only [decide_eq_true_eq] at h5 ⊢
   have h6 : m1 / c.v.den ≤ m / c.v.den := Nat.div_le_div_right (Nat.le_of_dvd (by omega) p3)
   have h7 : 0 < m1 / c.v.den := Nat.div_pos (Nat.le_of_dvd (by omega) (o4 c hc)) c.v.den_pos
   have h8 : 1000000000000 / (m / c.v.den) ≤ 1000000000000 / (m1 / c.v.den) := Nat.div_le_div_left h6 h7
   omega
end Go.Pf.Vc
namespace Go.Pf.Vc
open Go Go.Pf Go.Sort
def mkF (d x : Int) : Rw := if small ((x : Rat) / (d : Rat)) then (((x : Rat) / (d : Rat)).num, (((x : Rat) / (d : Rat)).den : Int)) else (0, 0)
theorem make_raw {n d : Int} (hn : I64 n) (hd : I64 d) (h0 : d ≠ 0) (K : Int → Int → Prop) : w_ratio_Make n d (fun a b _ => K a b) = K (mkF d n).1 (mkF d n).2 := by
 rw [rMake_eq hn hd h0]
 unfold fitK mkF
 split <;> rfl
theorem smake_raw {n d : Int} (hn : I64 n) (hd : I64 d) (h0 : d ≠ 0) (K : Int → Int → Prop) : w_r01_Make n d (fun a b _ => K a b) = K (mkF d n).1 (mkF d n).2 := by
 rw [sMake_eq hn hd h0]
 unfold fitK mkF
 split <;> rfl
theorem rws_one (r : Rw) : ([.agg [.int .i64 r.1, .int .i64 r.2]] : List PV) = rws [r] := rfl
theorem rws_app (a b : List Rw) : rws a ++ rws b = rws (a ++ b) := by unfold rws; rw [List.map_append]
theorem iterR_bnd {R : List Rl} {T : Int} {c : Nat} (hc : R.length ≤ c) (ha : ∀ q ∈ R, q.2.2 ≤ 100000000000000) : ∀ (n : Nat) (h g : List Int), rOk R h.length → bndT h T (c * n) → iterR R n h = some g → bndT g T 0
 | 0, _, _, _, _, e => by cases e
 | n + 1, h, g, ho, hb, e => by
   unfold iterR at e
   split at e
   · cases e; exact hb.less (Nat.zero_le _)
   · refine iterR_bnd hc ha n (pass R h) g (by rw [pass_len]; exact ho) (pass_bndT _ _ _ ho ha (hb.less ?_)) e
     rw [Nat.mul_add, Nat.mul_one]
     omega
theorem hR_len (ps : List Rat) (m : Nat) (L : List Cm) (st : List Int) : (hR ps m L st).length = ps.length - 1 + 2 * L.length := by unfold hR; rw [List.length_append, conF_len, clR_len]
theorem bf0_bf {R : List Rl} {k : Nat} {g : List Int} (e : bf0 R k = some g) : bf R k = some g := by
 unfold bf0 at e
 split at e
 · rename_i g' e'
   split at e
   · cases e; exact e'
   · cases e
 · cases e
theorem hts_bnd {N : Int} {ps : List Rat} {L : List Cm} {m : Nat} (H : Hy N ps L m) {g : List Int} (e : hts ps m L = some g) {T : Int} {c : Nat} (hc : ps.length - 1 + 2 * L.length ≤ c) (hT : 100000000000000 * ((c * (ps.length + 1) : Nat) : Int) ≤ T) : g.length = ps.length ∧ ∀ i, 0 ≤ hAt g i ∧ hAt g i ≤ T := by
 unfold hts at e
 cases hs : stF ps L (zeros ps.length) with
 | none => rw [hs] at e; cases e
 | some st =>
   rw [hs] at e
   have e2 := bf0_bf e
   have h01 := stF_01 (fun c hc => (H.ok c hc).2.2) (zeros_len _) (fun i => by rw [zeros_at]; omega) hs
   have hb := iterR_bnd (c := c) (T := T) (by rw [hR_len]; exact hc) (hR_add H h01) (ps.length + 1) (zeros ps.length) g (by rw [zeros_len]; exact hR_ok H st) (fun i => by rw [zeros_at]; exact ⟨Int.le_refl _, by omega⟩) e2
   refine ⟨(bf0_some (hR_ok H st) e).1.len, fun i => ?_⟩
   have := hb i
   simp at this
   exact this
theorem hts_i64 {N : Int} {ps : List Rat} {L : List Cm} {m : Nat} (H : Hy N ps L m) {g : List Int} (e : hts ps m L = some g) : g.length = ps.length ∧ ∀ i, I64 (hAt g i) := by
 have ht := H.top
 have hl := H.len
 have hT : 100000000000000 * ((200 * (ps.length + 1) : Nat) : Int) ≤ 2100000000000000000 := by
   rw [Int.natCast_mul]; omega
 obtain ⟨h1, h2⟩ := hts_bnd H e (c := 200) (by omega) hT
 exact ⟨h1, fun i => by have := h2 i; exact ⟨by omega, by omega⟩⟩
def gF (m : Nat) (g : List Int) : List Rw := g.map (mkF (((m * (g.length + 1) : Nat) : Int)))
theorem gF_cons (d : Int) (g : List Int) (i : Nat) (hi : i < g.length) : (g.drop i).map (mkF d) = mkF d (hAt g i) :: (g.drop (i + 1)).map (mkF d) := by
 rw [drop_cons (0 : Int) hi]
 rfl
theorem guess_loop {a0 : T_audit_claims} {a1 : T_audit_scale} {a2 : T_audit_pointsOf} {a3 : T_audit_heights} {g : List Int} (hg : ∀ i, I64 (hAt g i)) (hl : g.length < 1000) {m : Nat} (h1 : 1 ≤ m) (h2 : m ≤ 1000000000) {l2 : List PV} {x1 : List PV → Int → List PV → List PV → List PV → Int → Int → Bool → Prop} :
   ∀ (r i n : Nat) (acc : List Rw), i + r = g.length → r < n → acc.length ≤ i →
     L_audit_Guess_0_1 a0 a1 a2 a3 w_ratio_Make x1 n (rws acc) (m : Int) l2 (ints g) (ints g) (g.length : Int) (i : Int) = x1 (rws (acc ++ (g.drop i).map (mkF ((m * (g.length + 1) : Nat) : Int)))) (m : Int) l2 (ints g) (ints g) (g.length : Int) (g.length : Int) false := by
 intro r
 induction r with
 | zero =>
   intro i n acc hi hn ha
   obtain ⟨n, rfl⟩ : ∃ m, n = m + 1 := ⟨n - 1, by omega⟩
   obtain rfl : i = g.length := by omega
   rw [L_audit_Guess_0_1, cbF (by omega), List.drop_length]
   simp
 | succ r ih =>
   intro i n acc hi hn ha
   obtain ⟨n, rfl⟩ : ∃ m, n = m + 1 := ⟨n - 1, by omega⟩
   have hil : i < g.length := by omega
   have e1 : m * (g.length + 1) ≤ 1000000000 * 1000 := Nat.mul_le_mul h2 (by omega)
   have e2 : 1 ≤ m * (g.length + 1) := Nat.mul_pos (by omega) (by omega)
   rw [L_audit_Guess_0_1, cbT (by omega)]
   dsimp only [lt]
   rw [ints_len, asT (by omega), asT (by omega), Int.toNat_natCast, ints_hAt hil, asI, ivI, cast1, wibN (by omega), ← Int.natCast_mul, wibN (by omega), make_raw (hg i) ⟨by omega, by omega⟩ (by omega)]
   rw [rws_one, rws_app, rws_len, asE, asT (by omega), asNo (by omega), asE, asT (by show _ ≤ 35184372088832; omega), asEE, asE, cast1, wibN (by omega), ih (i + 1) n _ (by omega) (by omega) (by simp; omega), gF_cons _ g i hil, List.append_assoc]
   rfl
theorem rguess_loop {a0 : T_r05_Check} {a1 : T_r05_Heights} {a2 : T_r05_points} {g : List Int} (hg : ∀ i, I64 (hAt g i)) (hl : g.length < 1000) {m : Nat} (h1 : 1 ≤ m) (h2 : m ≤ 1000000000) {l4 : List PV} {x0 : List PV → Int → Int → List PV → Int → Bool → Prop} {x1 : List PV → List PV → Int → Int → List PV → Int → Bool → Prop} :
   ∀ (r i n : Nat) (acc : List Rw), i + r = g.length → r < n → acc.length ≤ i →
     L_r05_Guess_0_1 a0 a1 a2 w_r01_Make x0 x1 n (rws acc) (ints g) (m : Int) ((g.length + 1 : Nat) : Int) l4 (i : Int) = x1 (rws (acc ++ (g.drop i).map (mkF ((m * (g.length + 1) : Nat) : Int)))) (ints g) (m : Int) ((g.length + 1 : Nat) : Int) l4 (g.length : Int) false := by
 intro r
 induction r with
 | zero =>
   intro i n acc hi hn ha
   obtain ⟨n, rfl⟩ : ∃ m, n = m + 1 := ⟨n - 1, by omega⟩
   obtain rfl : i = g.length := by omega
   rw [L_r05_Guess_0_1, ints_len, cbF (by omega), List.drop_length]
   simp
 | succ r ih =>
   intro i n acc hi hn ha
   obtain ⟨n, rfl⟩ : ∃ m, n = m + 1 := ⟨n - 1, by omega⟩
   have hil : i < g.length := by omega
   have e1 : m * (g.length + 1) ≤ 1000000000 * 1000 := Nat.mul_le_mul h2 (by omega)
   have e2 : 1 ≤ m * (g.length + 1) := Nat.mul_pos (by omega) (by omega)
   rw [L_r05_Guess_0_1, ints_len, cbT (by omega)]
   dsimp only [lt]
   rw [asT (by omega), asT (by omega), Int.toNat_natCast, ints_hAt hil, asI, ivI, ← Int.natCast_mul, wibN (by omega), smake_raw (hg i) ⟨by omega, by omega⟩ (by omega)]
   rw [rws_one, rws_app, rws_len, asE, asT (by omega), asNo (by omega), asE, asT (by show _ ≤ 35184372088832; omega), asEE, asE, cast1, wibN (by omega), ih (i + 1) n _ (by omega) (by omega) (by simp; omega), gF_cons _ g i hil, List.append_assoc]
   rfl
def outGs (N : Int) (log : List Qy) (K : List PV → List PV → Int → Prop) : Prop :=
 if claimsE N log = 0 then (match scaleL (log.map cmOf) with
   | none => K [] [] 16
   | some m => match hts (ptsC N (log.map cmOf)) m (log.map cmOf) with
     | none => K [] [] 6
     | some g => K (rts (ptsC N (log.map cmOf))) (rws (gF m g)) 0)
 else K [] [] (claimsE N log)
theorem gF_first {m : Nat} {g : List Int} (hg : 0 < g.length) : gF m g = mkF ((m * (g.length + 1) : Nat) : Int) (hAt g 0) :: (g.drop 1).map (mkF ((m * (g.length + 1) : Nat) : Int)) := by
 have := gF_cons ((m * (g.length + 1) : Nat) : Int) g 0 hg
 rw [List.drop_zero] at this
 exact this
theorem Guess_of {N : Int} {log : List Qy} (h64 : ∀ q ∈ log, q.q64) (hl : log.length < 1000) {K : List PV → List PV → Int → Prop} (k : outGs N log K) : w_audit_Guess N (logs log) K := by
 unfold w_audit_Guess wv_audit_Guess
 unfold outGs at k
 rw [claims_eq h64 hl]
 by_cases h1 : claimsE N log = 0
 case neg =>
   rw [if_neg h1] at k
   rw [cnT h1]; exact k
 rw [if_pos h1] at k
 obtain ⟨n1, n2, n3, n4⟩ := claimsE_zero h1
 have hok := claimsE_ok h1
 rw [cnF h1, if_pos h1, scale_eq hok (by rw [List.length_map]; omega)]
 unfold outSc
 cases e : scaleL (log.map cmOf) with
 | none => rw [e] at k; exact k
 | some m =>
   rw [e] at k
   have H := Hy_of n1 n2 hok (by rw [List.length_map]; exact n3) (scaleL_some e)
   have ht := H.top
   have h2 := H.two
   have hm1 := H.sc.one
   have hm2 := H.sc.top
   dsimp only at k ⊢
   rw [nz, pointsOf_eq n1 n2 hok (by rw [List.length_map]; omega), heights_eq H]
   unfold outHt
   cases e2 : hts (ptsC N (log.map cmOf)) m (log.map cmOf) with
   | none => rw [e2] at k; exact k
   | some g =>
     rw [e2] at k
     dsimp only at k ⊢
     obtain ⟨g1, g2⟩ := hts_i64 H e2
     have gp : 0 < g.length := by omega
     have he : (!(ints g).isEmpty) = true := by
       cases g with
       | nil => simp at gp
       | cons a b => rfl
     have e1 : m * (g.length + 1) ≤ 1000000000 * 1000 := Nat.mul_le_mul hm2 (by omega)
     have e3 : 1 ≤ m * (g.length + 1) := Nat.mul_pos (by omega) (by omega)
     rw [he, asr_true]
     refine ⟨g.length + 1, ?_⟩
     have e0 : IntKind.i64.wrap ((0 : Int) + 1) = ((1 : Nat) : Int) := by decide
     rw [L_audit_Guess_0_0, ints_len, cbT (by omega)]
     dsimp only [lt]
     rw [asT (by omega), asT (by omega), show (0 : Int).toNat = 0 from rfl, ints_hAt gp, asI, ivI, cast1, wibN (by omega), ← Int.natCast_mul, wibN (by omega), make_raw (g2 0) ⟨by omega, by omega⟩ (by omega), e0, rws_one]
     refine asr_iff.2 ⟨by simp [rws], ?_⟩
     refine (guess_loop g2 (by omega) hm1 hm2 (g.length - 1) 1 g.length _ (by omega) (by omega) (by simp)).mpr ?_
     rw [asE, asT (by omega), List.take_length]
     rw [gF_first gp] at k
     exact k
theorem Guess_eq {N : Int} {log : List Qy} (h64 : ∀ q ∈ log, q.q64) (hl : log.length < 1000) (K : List PV → List PV → Int → Prop) : w_audit_Guess N (logs log) K = outGs N log K := by
 by_cases h1 : claimsE N log = 0
 · cases e : scaleL (log.map cmOf) with
   | none =>
     have hh : ∀ K, outGs N log K = K [] [] 16 := fun K => by unfold outGs; rw [if_pos h1, e]
     rw [hh]
     exact det_audit_Guess _ _ _ _ _ (fun K k => Guess_of h64 hl (by rw [hh]; exact k)) K
   | some m =>
     cases e2 : hts (ptsC N (log.map cmOf)) m (log.map cmOf) with
     | none =>
       have hh : ∀ K, outGs N log K = K [] [] 6 := fun K => by unfold outGs; rw [if_pos h1, e]; dsimp only; rw [e2]
       rw [hh]
       exact det_audit_Guess _ _ _ _ _ (fun K k => Guess_of h64 hl (by rw [hh]; exact k)) K
     | some g =>
       have hh : ∀ K, outGs N log K = K (rts (ptsC N (log.map cmOf))) (rws (gF m g)) 0 := fun K => by unfold outGs; rw [if_pos h1, e]; dsimp only; rw [e2]
       rw [hh]
       exact det_audit_Guess _ _ _ _ _ (fun K k => Guess_of h64 hl (by rw [hh]; exact k)) K
 · have hh : ∀ K, outGs N log K = K [] [] (claimsE N log) := fun K => by unfold outGs; rw [if_neg h1]
   rw [hh]
   exact det_audit_Guess _ _ _ _ _ (fun K k => Guess_of h64 hl (by rw [hh]; exact k)) K
theorem rGuess_of {N : Int} {log : List Qy} (h64 : ∀ q ∈ log, q.q64) (hl : log.length < 1000) {K : List PV → List PV → Int → Prop} (k : outGs N log K) : w_r05_Guess N (logs log) K := by
 unfold w_r05_Guess wv_r05_Guess
 unfold outGs at k
 rw [rCheck5_eq h64 hl, rCheck5_eq h64 hl]
 by_cases h1 : claimsE N log = 0
 case neg =>
   rw [if_neg h1] at k
   rw [cnT h1]; exact k
 rw [if_pos h1] at k
 obtain ⟨n1, n2, n3, n4⟩ := claimsE_zero h1
 have hok := claimsE_ok h1
 have hokq : ∀ q ∈ log, qOk N q = true := fun q hq => List.all_eq_true.1 n4 q hq
 rw [cnF h1, rHeights_eq n1 n2 hokq n3]
 unfold outHh
 cases e : scaleL (log.map cmOf) with
 | none => rw [e] at k; exact k
 | some m =>
   rw [e] at k
   have H := Hy_of n1 n2 hok (by rw [List.length_map]; exact n3) (scaleL_some e)
   have ht := H.top
   have h2 := H.two
   have hm1 := H.sc.one
   have hm2 := H.sc.top
   dsimp only at k ⊢
   cases e2 : hts (ptsC N (log.map cmOf)) m (log.map cmOf) with
   | none => rw [e2] at k; exact k
   | some g =>
     rw [e2] at k
     dsimp only at k ⊢
     obtain ⟨g1, g2⟩ := hts_i64 H e2
     have gp : 0 < g.length := by omega
     have e1 : m * (g.length + 1) ≤ 1000000000 * 1000 := Nat.mul_le_mul hm2 (by omega)
     have e3 : 1 ≤ m * (g.length + 1) := Nat.mul_pos (by omega) (by omega)
     rw [nz, rpoints_eq n1 n2 hokq (by omega), ← g1]
     refine ⟨g.length + 1, ?_⟩
     have e0 : IntKind.i64.wrap ((0 : Int) + 1) = ((1 : Nat) : Int) := by decide
     rw [L_r05_Guess_0_0, ints_len, cbT (by omega)]
     dsimp only [lt]
     rw [asT (by omega), asT (by omega), show (0 : Int).toNat = 0 from rfl, ints_hAt gp, asI, ivI, ← Int.natCast_mul, wibN (by omega), smake_raw (g2 0) ⟨by omega, by omega⟩ (by omega), e0, rws_one]
     refine asr_iff.2 ⟨by simp [rws], ?_⟩
     refine (rguess_loop g2 (by omega) hm1 hm2 (g.length - 1) 1 g.length _ (by omega) (by omega) (by simp)).mpr ?_
     rw [asE, asT (by omega), List.take_length]
     rw [gF_first gp] at k
     exact k
theorem rGuess_eq {N : Int} {log : List Qy} (h64 : ∀ q ∈ log, q.q64) (hl : log.length < 1000) (K : List PV → List PV → Int → Prop) : w_r05_Guess N (logs log) K = outGs N log K := by
 by_cases h1 : claimsE N log = 0
 · cases e : scaleL (log.map cmOf) with
   | none =>
     have hh : ∀ K, outGs N log K = K [] [] 16 := fun K => by unfold outGs; rw [if_pos h1, e]
     rw [hh]
     exact det_r05_Guess _ _ _ _ _ (fun K k => rGuess_of h64 hl (by rw [hh]; exact k)) K
   | some m =>
     cases e2 : hts (ptsC N (log.map cmOf)) m (log.map cmOf) with
     | none =>
       have hh : ∀ K, outGs N log K = K [] [] 6 := fun K => by unfold outGs; rw [if_pos h1, e]; dsimp only; rw [e2]
       rw [hh]
       exact det_r05_Guess _ _ _ _ _ (fun K k => rGuess_of h64 hl (by rw [hh]; exact k)) K
     | some g =>
       have hh : ∀ K, outGs N log K = K (rts (ptsC N (log.map cmOf))) (rws (gF m g)) 0 := fun K => by unfold outGs; rw [if_pos h1, e]; dsimp only; rw [e2]
       rw [hh]
       exact det_r05_Guess _ _ _ _ _ (fun K k => rGuess_of h64 hl (by rw [hh]; exact k)) K
 · have hh : ∀ K, outGs N log K = K [] [] (claimsE N log) := fun K => by unfold outGs; rw [if_neg h1]
   rw [hh]
   exact det_r05_Guess _ _ _ _ _ (fun K k => rGuess_of h64 hl (by rw [hh]; exact k)) K
end Go.Pf.Vc
namespace Go.Pf.Vc
open Go Go.Pf Go.Sort
open Classical in
noncomputable def firstN (N : Int) (L : List Cm) : Nat → Nat → Nat
 | 0, i => i
 | r + 1, i => if Feas N (L.take (i + 1)) then firstN N L r (i + 1) else i
noncomputable def firstL (N : Int) (L : List Cm) : Nat := firstN N L L.length 0
theorem firstN_is {N : Int} {L : List Cm} : ∀ (r i : Nat), i + r = L.length → (∀ j, 1 ≤ j → j ≤ i → Feas N (L.take j)) →
   i ≤ firstN N L r i ∧ firstN N L r i ≤ L.length ∧ (∀ j, 1 ≤ j → j ≤ firstN N L r i → Feas N (L.take j)) ∧ (firstN N L r i = L.length ∨ ¬ Feas N (L.take (firstN N L r i + 1)))
 | 0, i, hi, h => by
   show i ≤ i ∧ i ≤ L.length ∧ (∀ j, 1 ≤ j → j ≤ i → Feas N (L.take j)) ∧ (i = L.length ∨ ¬ Feas N (L.take (i + 1)))
   exact ⟨Nat.le_refl _, by omega, h, .inl (by omega)⟩
 | r + 1, i, hi, h => by
   unfold firstN
   by_cases hF : Feas N (L.take (i + 1))
   · rw [if_pos hF]
     obtain ⟨h1, h2, h3, h4⟩ := firstN_is (N := N) (L := L) r (i + 1) (by omega) (fun j hj1 hj2 => by
       by_cases e : j = i + 1
       · rw [e]; exact hF
       · exact h j hj1 (by omega))
     exact ⟨by omega, h2, h3, h4⟩
   · rw [if_neg hF]
     exact ⟨Nat.le_refl _, by omega, h, .inr hF⟩
theorem firstL_is (N : Int) (L : List Cm) : firstL N L ≤ L.length ∧ (∀ j, 1 ≤ j → j ≤ firstL N L → Feas N (L.take j)) ∧ (firstL N L = L.length ∨ ¬ Feas N (L.take (firstL N L + 1))) := by
 obtain ⟨_, h2, h3, h4⟩ := firstN_is (N := N) (L := L) L.length 0 (by omega) (fun j h1 h2 => by omega)
 exact ⟨h2, h3, h4⟩
theorem feas_less {N : Int} {L : List Cm} {a b : Nat} (h : Feas N (L.take b)) (hab : a ≤ b) : Feas N (L.take a) := by
 have := feas_take h a
 rwa [List.take_take, Nat.min_eq_left hab] at this
theorem first_unique {N : Int} {L : List Cm} {k : Nat} (hk : k ≤ L.length) (h1 : k = 0 ∨ Feas N (L.take k)) (h2 : k = L.length ∨ ¬ Feas N (L.take (k + 1))) : k = firstL N L := by
 obtain ⟨f1, f2, f3⟩ := firstL_is N L
 rcases Nat.lt_trichotomy k (firstL N L) with h | h | h
 · rcases h2 with h2 | h2
   · omega
   · exact absurd (f2 (k + 1) (by omega) h) h2
 · exact h
 · rcases f3 with f3 | f3
   · omega
   · rcases h1 with h1 | h1
     · omega
     · exact absurd (feas_less h1 h) f3
theorem Hy_take {N : Int} (n1 : 1 ≤ N) (n2 : N ≤ 1000) {L : List Cm} (hc : ∀ c ∈ L, c.ok N) (hl : L.length ≤ 40) {m : Nat} (k : Nat) (hs : Sc (L.take k) m) : Hy N (ptsC N (L.take k)) (L.take k) m :=
 Hy_of n1 n2 (fun c h => hc c (List.mem_of_mem_take h)) (by rw [List.length_take]; omega) hs
theorem bis_loop {N : Int} (n1 : 1 ≤ N) (n2 : N ≤ 1000) {L : List Cm} (hc : ∀ c ∈ L, c.ok N) (hl : L.length ≤ 40) {m : Nat} (hs : scaleL L = some m) {a0 : T_audit_claims} {a1 : T_audit_scale} {x0 : Int → List PV → Int → Int → Int → Bool → Prop} :
   ∀ (d good bad n : Nat), bad - good ≤ d → d < n → good < bad → bad ≤ L.length + 1 → (good = 0 ∨ Feas N (L.take good)) → (bad = L.length + 1 ∨ ¬ Feas N (L.take bad)) →
     L_audit_First_0_0 a0 a1 w_audit_pointsOf w_audit_heights x0 n N (cms L) (m : Int) (good : Int) (bad : Int) = x0 N (cms L) (m : Int) (firstL N L : Int) ((firstL N L + 1 : Nat) : Int) false := by
 intro d
 induction d with
 | zero => intro good bad n h1 h2 h3; omega
 | succ d ih =>
   intro good bad n h1 h2 h3 h4 h5 h6
   obtain ⟨n, rfl⟩ : ∃ m, n = m + 1 := ⟨n - 1, by omega⟩
   rw [L_audit_First_0_0]
   dsimp only [lt]
   have e1 : IntKind.i64.wrap ((bad : Int) - (good : Int)) = ((bad - good : Nat) : Int) := by
     rw [show (bad : Int) - (good : Int) = ((bad - good : Nat) : Int) by omega, wibN (by omega)]
   rw [e1]
   by_cases hg : bad - good > 1
   · have e2 : IntKind.i64.wrap (Int.tdiv (IntKind.i64.wrap ((good : Int) + (bad : Int))) (2 : Int)) = (((good + bad) / 2 : Nat) : Int) := by
       rw [← Int.natCast_add, wibN (by omega), show Int.tdiv ((good + bad : Nat) : Int) (2 : Int) = (((good + bad) / 2 : Nat) : Int) from rfl, wibN (by omega)]
     have hk1 : (good + bad) / 2 < bad := by omega
     have hk2 : good < (good + bad) / 2 := by omega
     obtain ⟨m', hm', hsc⟩ := scale_take hs ((good + bad) / 2)
     have H := Hy_take n1 n2 hc hl ((good + bad) / 2) hsc
     have hF := hts_feas H
     rw [cbT (by omega), jn_def, e2, cms_len, asT (by omega), asT (by omega), Int.toNat_natCast, cms_take, pointsOf_eq n1 n2 (fun c h => hc c (List.mem_of_mem_take h)) (by rw [List.length_take]; omega), asT (by omega), asT (by omega), heights_eq H]
     unfold outHt
     cases e : hts (ptsC N (L.take ((good + bad) / 2))) m (L.take ((good + bad) / 2)) with
     | none =>
       dsimp only
       rw [cbr_true]
       refine ih good ((good + bad) / 2) n (by omega) (by omega) hk2 (by omega) h5 (.inr fun hf => ?_)
       obtain ⟨g, hg2⟩ := hF.2 hf
       rw [e] at hg2; cases hg2
     | some g =>
       dsimp only
       have gl := (hts_i64 H e).1
       have he : (!(ints g).isEmpty) = true := by
         have := H.two
         cases g with
         | nil => simp at gl; omega
         | cons a b => rfl
       rw [he, asr_true, cbr_false]
       exact ih ((good + bad) / 2) bad n (by omega) (by omega) hk1 h4 (.inr (hF.1 ⟨g, e⟩)) h6
   · have hb : bad = good + 1 := by omega
     subst hb
     have hgf : good = firstL N L := first_unique (by omega) h5 (by
       rcases h6 with h6 | h6
       · exact .inl (by omega)
       · exact .inr h6)
     rw [cbF (by omega), ← hgf]
noncomputable def firstR (N : Int) (log : List Qy) : Int × Int :=
 if claimsE N log = 0 then (match scaleL (log.map cmOf) with
   | none => (0, 16)
   | some _ => ((firstL N (log.map cmOf) : Int), 0))
 else (0, claimsE N log)
theorem First_eq {N : Int} {log : List Qy} (h64 : ∀ q ∈ log, q.q64) (hl : log.length < 1000) (K : Int → Int → Prop) : w_audit_First N (logs log) K = K (firstR N log).1 (firstR N log).2 := by
 refine det_audit_First _ _ _ _ (fun K k => ?_) K
 unfold w_audit_First wv_audit_First
 unfold firstR at k
 rw [claims_eq h64 hl]
 by_cases h1 : claimsE N log = 0
 case neg =>
   rw [if_neg h1] at k
   rw [cnT h1]; exact k
 rw [if_pos h1] at k
 obtain ⟨n1, n2, n3, n4⟩ := claimsE_zero h1
 have hok := claimsE_ok h1
 rw [cnF h1, if_pos h1, scale_eq hok (by rw [List.length_map]; omega)]
 unfold outSc
 cases e : scaleL (log.map cmOf) with
 | none => rw [e] at k; exact k
 | some m =>
   rw [e] at k
   dsimp only [lt] at k ⊢
   rw [nz, cms_len, cast1, wibN (by rw [List.length_map]; omega)]
   refine ⟨(log.map cmOf).length + 2, ?_⟩
   refine (bis_loop n1 n2 hok (by rw [List.length_map]; exact n3) e ((log.map cmOf).length + 1) 0 ((log.map cmOf).length + 1) ((log.map cmOf).length + 2) (by omega) (by omega) (by omega) (Nat.le_refl _) (.inl rfl) (.inl rfl)).mpr ?_
   exact k
theorem logs_take (l : List Qy) (n : Nat) : List.take n (logs l) = logs (l.take n) := by unfold logs; rw [List.map_take]
theorem rfirst_loop {N : Int} (n1 : 1 ≤ N) (n2 : N ≤ 1000) {log : List Qy} (hok : ∀ q ∈ log, qOk N q = true) (hl : log.length ≤ 40) {m : Nat} (hs : scaleL (log.map cmOf) = some m) {a0 : T_r05_Check} {a1 : T_r05_Scale} {x0 : Int → List PV → Int → Bool → Prop} {x1 K : Int → Int → Prop}
   (h0 : ∀ i b, x0 N (logs log) i b = K (log.length : Int) 0) (h1 : ∀ a b, x1 a b = K a b) :
   ∀ (r i n : Nat), i + r = log.length → r < n → L_r05_First_0_0 a0 a1 w_r05_Heights x0 x1 n N (logs log) (i : Int) = K (firstN N (log.map cmOf) r i : Int) 0 := by
 have hc : ∀ c ∈ log.map cmOf, c.ok N := fun c hc => by
   obtain ⟨q, hq, rfl⟩ := List.mem_map.1 hc
   exact qOk_cm (hok q hq)
 intro r
 induction r with
 | zero =>
   intro i n hi hn
   obtain ⟨n, rfl⟩ : ∃ m, n = m + 1 := ⟨n - 1, by omega⟩
   rw [L_r05_First_0_0, logs_len, cbF (by omega), h0]
   show K (log.length : Int) 0 = K (i : Int) 0
   rw [show i = log.length by omega]
 | succ r ih =>
   intro i n hi hn
   obtain ⟨n, rfl⟩ : ∃ m, n = m + 1 := ⟨n - 1, by omega⟩
   obtain ⟨m', hm', hsc⟩ := scale_take hs (i + 1)
   have hsc' := scaleL_some hm'
   have H := Hy_take n1 n2 hc (by rw [List.length_map]; exact hl) (i + 1) hsc'
   have hF := hts_feas H
   rw [L_r05_First_0_0, logs_len, cbT (by omega)]
   dsimp only [lt]
   rw [cast1, wibN (by omega), asT (by omega), asT (by omega), Int.toNat_natCast, logs_take, rHeights_eq n1 n2 (fun q hq => hok q (List.mem_of_mem_take hq)) (by rw [List.length_take]; omega)]
   unfold outHh firstN
   rw [List.map_take, hm']
   dsimp only
   cases e : hts (ptsC N ((log.map cmOf).take (i + 1))) m' ((log.map cmOf).take (i + 1)) with
   | none =>
     dsimp only
     rw [if_neg (fun hf => by obtain ⟨g, hg⟩ := hF.2 hf; rw [e] at hg; cases hg), cnT (by omega), h1]
   | some g =>
     dsimp only
     rw [if_pos (hF.1 ⟨g, e⟩), nz]
     exact ih (i + 1) n (by omega) (by omega)
theorem rFirst_eq {N : Int} {log : List Qy} (h64 : ∀ q ∈ log, q.q64) (hl : log.length < 1000) (K : Int → Int → Prop) : w_r05_First N (logs log) K = K (firstR N log).1 (firstR N log).2 := by
 refine det_r05_First _ _ _ _ (fun K k => ?_) K
 unfold w_r05_First wv_r05_First
 unfold firstR at k
 rw [rCheck5_eq h64 hl, rCheck5_eq h64 hl]
 by_cases h1 : claimsE N log = 0
 case neg =>
   rw [if_neg h1] at k
   rw [cnT h1]; exact k
 rw [if_pos h1] at k
 obtain ⟨n1, n2, n3, n4⟩ := claimsE_zero h1
 have hokq : ∀ q ∈ log, qOk N q = true := fun q hq => List.all_eq_true.1 n4 q hq
 rw [cnF h1, rscale_eq hokq (by omega)]
 unfold outSc
 cases e : scaleL (log.map cmOf) with
 | none => rw [e] at k; exact k
 | some m =>
   rw [e] at k
   dsimp only at k ⊢
   rw [nz]
   refine ⟨log.length + 1, ?_⟩
   refine (rfirst_loop n1 n2 hokq n3 e (K := K) (fun _ _ => by rw [logs_len]) (fun _ _ => rfl) log.length 0 (log.length + 1) (by omega) (by omega)).mpr ?_
   unfold firstL at k
   rw [List.length_map] at k
   exact k
theorem Same5_loop {a : List Rw} (hl : a.length < 1000000) {x0 : List PV → List PV → Int → Bool → Prop} {x1 : Bool → Prop} :
   ∀ (r i n : Nat), i + r = a.length → r < n → L_r05_SameList_0_0 x0 x1 n (rws a) (rws a) (i : Int) = x0 (rws a) (rws a) (a.length : Int) false := by
 intro r
 induction r with
 | zero =>
   intro i n hi hn
   obtain ⟨n, rfl⟩ : ∃ m, n = m + 1 := ⟨n - 1, by omega⟩
   rw [L_r05_SameList_0_0, rws_len, cbF (by omega), show i = a.length by omega]
 | succ r ih =>
   intro i n hi hn
   obtain ⟨n, rfl⟩ : ∃ m, n = m + 1 := ⟨n - 1, by omega⟩
   have hil : i < a.length := by omega
   rw [L_r05_SameList_0_0, rws_len, cbT (by omega)]
   dsimp only [lt]
   rw [asT (by omega), asT (by omega), Int.toNat_natCast, rws_at hil, asRw, asT (by omega), asT (by omega), asRw]
   have e : ((intOfV (cellAt (encRw (a.getD i default)) 0) == intOfV (cellAt (encRw (a.getD i default)) 0)) && ((intOfV (cellAt (encRw (a.getD i default)) 1) == intOfV (cellAt (encRw (a.getD i default)) 1)) && true)) = true := by simp
   rw [e, Bool.not_true, cbr_false, cast1, wibN (by omega), ih (i + 1) n (by omega) (by omega)]
theorem SameList_self {a : List Rw} (hl : a.length < 1000000) (K : Bool → Prop) : w_r05_SameList (rws a) (rws a) K = K true := by
 refine det_r05_SameList _ _ _ (fun K k => ?_) K
 unfold w_r05_SameList wv_r05_SameList
 rw [cnF rfl]
 refine ⟨a.length + 1, ?_⟩
 exact (Same5_loop hl a.length 0 (a.length + 1) (by omega) (by omega)).mpr k
theorem rts_rws (l : List Rat) : rts l = rws (l.map fun q => (q.num, (q.den : Int))) := by
 unfold rts rws
 rw [List.map_map]
 rfl
theorem SameList_rts {l : List Rat} (hl : l.length < 1000000) (K : Bool → Prop) : w_r05_SameList (rts l) (rts l) K = K true := by
 rw [rts_rws, SameList_self (by rw [List.length_map]; exact hl)]
theorem Same5_self {l : List Rat} {a : List Rw} (hl : l.length < 1000000) (ha : a.length < 1000000) (K : Bool → Prop) : w_r05_Same (rts l) (rws a) (rts l) (rws a) K = K true := by
 unfold w_r05_Same wv_r05_Same
 dsimp only [Go.Pf.jn]
 rw [SameList_rts hl, cbr_true, SameList_self ha]
def outPt (N : Int) (log : List Qy) (K : List PV → Int → Prop) : Prop := if claimsE N log = 0 then K (rts (ptsC N (log.map cmOf))) 0 else K [] (claimsE N log)
theorem Points_eq {N : Int} {log : List Qy} (h64 : ∀ q ∈ log, q.q64) (hl : log.length < 1000) (K : List PV → Int → Prop) : w_audit_Points N (logs log) K = outPt N log K := by
 unfold w_audit_Points wv_audit_Points outPt
 rw [claims_eq h64 hl]
 by_cases h1 : claimsE N log = 0
 · obtain ⟨n1, n2, n3, n4⟩ := claimsE_zero h1
   rw [cnF h1, if_pos h1, if_pos h1, pointsOf_eq n1 n2 (claimsE_ok h1) (by rw [List.length_map]; omega)]
 · rw [cnT h1, if_neg h1]
theorem rPoints_eq {N : Int} {log : List Qy} (h64 : ∀ q ∈ log, q.q64) (hl : log.length < 1000) (K : List PV → Int → Prop) : w_r05_Points N (logs log) K = outPt N log K := by
 unfold w_r05_Points wv_r05_Points outPt
 rw [rCheck5_eq h64 hl, rCheck5_eq h64 hl]
 by_cases h1 : claimsE N log = 0
 · obtain ⟨n1, n2, n3, n4⟩ := claimsE_zero h1
   rw [cnF h1, if_pos h1, rpoints_eq n1 n2 (fun q hq => List.all_eq_true.1 n4 q hq) (by omega)]
 · rw [cnT h1, if_neg h1]
theorem outGs_det (N : Int) (log : List Qy) : ∃ (l : List Rat) (a : List Rw) (e : Int), (l.length < 1000 ∧ (log.length < 1000 → a.length < 1000)) ∧ ∀ K, outGs N log K = K (rts l) (rws a) e := by
 by_cases h1 : claimsE N log = 0
 · obtain ⟨n1, n2, n3, n4⟩ := claimsE_zero h1
   cases e : scaleL (log.map cmOf) with
   | none => exact ⟨[], [], 16, ⟨by simp, by simp⟩, fun K => by unfold outGs; rw [if_pos h1, e]; rfl⟩
   | some m =>
     have H := Hy_of n1 n2 (claimsE_ok h1) (by rw [List.length_map]; exact n3) (scaleL_some e)
     cases e2 : hts (ptsC N (log.map cmOf)) m (log.map cmOf) with
     | none => exact ⟨[], [], 6, ⟨by simp, by simp⟩, fun K => by unfold outGs; rw [if_pos h1, e]; dsimp only; rw [e2]; rfl⟩
     | some g =>
       have ht := H.top
       have hg := (hts_i64 H e2).1
       exact ⟨ptsC N (log.map cmOf), gF m g, 0, ⟨by omega, fun _ => by unfold gF; rw [List.length_map]; omega⟩, fun K => by unfold outGs; rw [if_pos h1, e]; dsimp only; rw [e2]⟩
 · exact ⟨[], [], claimsE N log, ⟨by simp, by simp⟩, fun K => by unfold outGs; rw [if_neg h1]; rfl⟩
theorem outPt_det (N : Int) (log : List Qy) : ∃ (l : List Rat) (e : Int), l.length < 1000 ∧ ∀ K, outPt N log K = K (rts l) e := by
 by_cases h1 : claimsE N log = 0
 · obtain ⟨n1, n2, n3, n4⟩ := claimsE_zero h1
   have := ptsC_len N (log.map cmOf)
   rw [List.length_map] at this
   exact ⟨ptsC N (log.map cmOf), 0, by omega, fun K => by unfold outPt; rw [if_pos h1]⟩
 · exact ⟨[], claimsE N log, by simp, fun K => by unfold outPt; rw [if_neg h1]; rfl⟩
theorem AuditFinds_ok {N : Int} {log : List Qy} (h64 : ∀ q ∈ log, q.q64) : w_l05_AuditFinds N (logs log) (fun b => b = true) := by
 unfold w_l05_AuditFinds wv_l05_AuditFinds
 rw [Great5_eq]
 cases h1 : greatL log with
 | true => rw [cbr_true]
 | false =>
   rw [cbr_false]
   have hl : log.length < 1000 := by
     unfold greatL at h1
     simp only [Bool.or_eq_false_iff, Bool.and_eq_false_iff, decide_eq_false_iff_not] at h1
     omega
   rw [Points_eq h64 hl]
   obtain ⟨l, e, hl1, hp⟩ := outPt_det N log
   obtain ⟨l2, a2, e2, ⟨hl2, hl3⟩, hg⟩ := outGs_det N log
   rw [hp, rPoints_eq h64 hl, hp, Guess_eq h64 hl, hg, rGuess_eq h64 hl, hg, First_eq h64 hl, rFirst_eq h64 hl]
   dsimp only [Go.Pf.jn]
   rw [auCheck_eq h64 hl, rCheck5_eq h64 hl, ceT rfl, SameList_rts (by omega), cbr_true, ceT rfl, Same5_self (by omega) (by have := hl3 hl; omega), cbr_true, ceT rfl, ceT rfl]
   simp
end Go.Pf.Vc
