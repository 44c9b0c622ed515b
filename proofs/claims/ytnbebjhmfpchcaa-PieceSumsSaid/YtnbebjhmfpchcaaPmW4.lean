/- Part 4 of what the statement rests on: a verified evaluator over pure values, the conditions of the program's functions, and their plain laws. -/
import Derived.Test.YtnbebjhmfpchcaaPmW3
namespace Go.Pf.Vc
open Go Go.Pf
theorem Add_of {a b c d : Int} (ha : I64 a) (hb : I64 b) (hc : I64 c) (hd : I64 d) {K : Int → Int → Int → Prop}
   (k : if chk2 a b c d = 0 then outA (decide (a * (d / (Nat.gcd b.natAbs d.natAbs : Nat)) + c * (b / (Nat.gcd b.natAbs d.natAbs : Nat)) < 0))
       ((a * (d / (Nat.gcd b.natAbs d.natAbs : Nat)) + c * (b / (Nat.gcd b.natAbs d.natAbs : Nat))).natAbs : Int) b d (Nat.gcd b.natAbs d.natAbs) K
     else K 0 0 (chk2 a b c d)) : w_ratio_Add a b c d K := by
 unfold w_ratio_Add wv_ratio_Add
 refine check_of ha hb hc hd ?_
 by_cases h : chk2 a b c d = 0
 · rw [if_pos h] at k
   have : (chk2 a b c d != (0 : Int)) = false := by rw [h]; rfl
   rw [this, cbr_false]
   obtain ⟨⟨b1, b2, a1, a2, _⟩, d1, d2, c1, c2, _⟩ := chk2_zero.1 h
   have wb : IntKind.u64.wrap b = ((b.natAbs : Nat) : Int) := by rw [wu64 ⟨by omega, by omega⟩]; omega
   have wd : IntKind.u64.wrap d = ((d.natAbs : Nat) : Int) := by rw [wu64 ⟨by omega, by omega⟩]; omega
   have g1 : 0 < Nat.gcd b.natAbs d.natAbs := Nat.gcd_pos_of_pos_right _ (by omega)
   have g2 : Nat.gcd b.natAbs d.natAbs ≤ d.natAbs := Nat.le_of_dvd (by omega) (Nat.gcd_dvd_right _ _)
   have go : w_ratio_gcd (IntKind.u64.wrap b) (IntKind.u64.wrap d) = w_ratio_gcd ((b.natAbs : Nat) : Int) ((d.natAbs : Nat) : Int) := by rw [wb, wd]
   rw [go]
   refine gcd_of _ _ _ ?_
   generalize Nat.gcd b.natAbs d.natAbs = g at *
   have n3 : (!(decide ((g : Int) = (0 : Int)))) = true := by rw [decide_eq_false (by omega)]; rfl
   have q1 : 0 ≤ b / (g : Int) := Int.ediv_nonneg (by omega) (by omega)
   have q2 : 0 ≤ d / (g : Int) := Int.ediv_nonneg (by omega) (by omega)
   have q3 : b / (g : Int) ≤ b := Int.ediv_le_self _ (by omega)
   have q4 : d / (g : Int) ≤ d := Int.ediv_le_self _ (by omega)
   have ed : IntKind.u64.wrap (Int.tdiv (IntKind.u64.wrap d) (g : Int)) = d / (g : Int) := by
     rw [wu64 (n := d) ⟨by omega, by omega⟩, tdivn (by omega), wu64 ⟨by omega, by omega⟩]
   have eb : IntKind.u64.wrap (Int.tdiv (IntKind.u64.wrap b) (g : Int)) = b / (g : Int) := by
     rw [wu64 (n := b) ⟨by omega, by omega⟩, tdivn (by omega), wu64 ⟨by omega, by omega⟩]
   have asr_of : ∀ {c : Bool} {P : Prop}, c = true → P → asr c P := fun h p => by rw [h, asr_true]; exact p
   rw [size_eq ha]
   refine asr_of n3 ?_
   rw [Mul64_eq (U64.abs ha) (by rw [ed]; exact ⟨by omega, by omega⟩), size_eq hc]
   refine asr_of n3 ?_
   rw [Mul64_eq (U64.abs hc) (by rw [eb]; exact ⟨by omega, by omega⟩)]
   obtain ⟨X, hX⟩ : ∃ X, X = ((a.natAbs : Nat) : Int) * IntKind.u64.wrap (Int.tdiv (IntKind.u64.wrap d) (g : Int)) := ⟨_, rfl⟩
   obtain ⟨Y, hY⟩ : ∃ Y, Y = ((c.natAbs : Nat) : Int) * IntKind.u64.wrap (Int.tdiv (IntKind.u64.wrap b) (g : Int)) := ⟨_, rfl⟩
   rw [← hX, ← hY]
   rw [ed] at hX; rw [eb] at hY
   have X0 : 0 ≤ X := by rw [hX]; exact Int.mul_nonneg (by omega) q2
   have Y0 : 0 ≤ Y := by rw [hY]; exact Int.mul_nonneg (by omega) q1
   have X1 : X ≤ 1000000000000000000 * 1000000000000000000 := by rw [hX]; exact Int.mul_le_mul (by omega) (by omega) q2 (by omega)
   have Y1 : Y ≤ 1000000000000000000 * 1000000000000000000 := by rw [hY]; exact Int.mul_le_mul (by omega) (by omega) q1 (by omega)
   have ax : a * (d / (g : Int)) = if a < 0 then -X else X := by
     split
     · rw [hX, show ((a.natAbs : Nat) : Int) = -a by omega, Int.neg_mul, Int.neg_neg]
     · rw [hX, show ((a.natAbs : Nat) : Int) = a by omega]
   have cy : c * (b / (g : Int)) = if c < 0 then -Y else Y := by
     split
     · rw [hY, show ((c.natAbs : Nat) : Int) = -c by omega, Int.neg_mul, Int.neg_neg]
     · rw [hY, show ((c.natAbs : Nat) : Int) = c by omega]
   rw [ax, cy] at k
   clear hX hY ax cy ed eb n3
   by_cases hs : decide (a < 0) = decide (c < 0)
   · have e : (decide (a < 0) == decide (c < 0)) = true := beq_iff_eq.2 hs
     rw [e, cbr_true]
     refine add_wide X0 Y0 (by omega) (fun c1 c2 => ?_)
     refine fin_of (by omega) (by omega) g1 (by omega) ⟨by omega, b2⟩ ⟨by omega, d2⟩ (outA_congr k ?_ ?_)
     · by_cases h1 : a < 0
       · have h2 : c < 0 := by simpa [h1] using hs.symm
         rw [if_pos h1, if_pos h2]; omega
       · have h2 : ¬ c < 0 := by simpa [h1] using hs.symm
         rw [if_neg h1, if_neg h2]; omega
     · intro h0
       by_cases h1 : a < 0
       · have h2 : c < 0 := by simpa [h1] using hs.symm
         rw [if_pos h1, if_pos h2, decide_eq_true h1, decide_eq_true (by omega)]
       · have h2 : ¬ c < 0 := by simpa [h1] using hs.symm
         rw [if_neg h1, if_neg h2, decide_eq_false h1, decide_eq_false (by omega)]
   · have e : (decide (a < 0) == decide (c < 0)) = false := beq_eq_false_iff_ne.2 hs
     rw [e, cbr_false]
     have h12 : (a < 0 ∧ ¬ c < 0) ∨ (¬ a < 0 ∧ c < 0) := by
       by_cases h1 : a < 0 <;> by_cases h2 : c < 0 <;> simp [h1, h2] at hs ⊢
     by_cases hlt : X < Y
     · have kk : outA (!decide (a < 0)) (Y - X) b d g K := by
         refine outA_congr k ?_ ?_
         · rcases h12 with ⟨h1, h2⟩ | ⟨h1, h2⟩
           · rw [if_pos h1, if_neg h2]; omega
           · rw [if_neg h1, if_pos h2]; omega
         · intro h0
           rcases h12 with ⟨h1, h2⟩ | ⟨h1, h2⟩
           · rw [if_pos h1, if_neg h2, decide_eq_true h1, decide_eq_false (by omega)]; rfl
           · rw [if_neg h1, if_pos h2, decide_eq_false h1, decide_eq_true (by omega)]; rfl
       by_cases h1 : X / 18446744073709551616 < Y / 18446744073709551616
       · rw [decide_eq_true h1, cbr_true]
         refine sub_wide X0 (by omega) (by omega) (fun c1 c2 => ?_)
         exact fin_of (by omega) (by omega) g1 (by omega) ⟨by omega, b2⟩ ⟨by omega, d2⟩ kk
       · have e1 : (X / 18446744073709551616 == Y / 18446744073709551616) = true := beq_iff_eq.2 (by omega)
         rw [decide_eq_false h1, cbr_false, e1, cbr_true, decide_eq_true (show X % 18446744073709551616 < Y % 18446744073709551616 by have := beq_iff_eq.1 e1; omega), cbr_true]
         refine sub_wide X0 (by omega) (by omega) (fun c1 c2 => ?_)
         exact fin_of (by omega) (by omega) g1 (by omega) ⟨by omega, b2⟩ ⟨by omega, d2⟩ kk
     · have kk : outA (decide (a < 0)) (X - Y) b d g K := by
         refine outA_congr k ?_ ?_
         · rcases h12 with ⟨h1, h2⟩ | ⟨h1, h2⟩
           · rw [if_pos h1, if_neg h2]; omega
           · rw [if_neg h1, if_pos h2]; omega
         · intro h0
           rcases h12 with ⟨h1, h2⟩ | ⟨h1, h2⟩
           · rw [if_pos h1, if_neg h2, decide_eq_true h1, decide_eq_true (by omega)]
           · rw [if_neg h1, if_pos h2, decide_eq_false h1, decide_eq_false (by omega)]
       have h1 : ¬ X / 18446744073709551616 < Y / 18446744073709551616 := by omega
       rw [decide_eq_false h1, cbr_false]
       cases e1 : (X / 18446744073709551616 == Y / 18446744073709551616)
       · rw [cbr_false]
         refine sub_wide Y0 (by omega) (by omega) (fun c1 c2 => ?_)
         exact fin_of (by omega) (by omega) g1 (by omega) ⟨by omega, b2⟩ ⟨by omega, d2⟩ kk
       · rw [cbr_true, decide_eq_false (show ¬ X % 18446744073709551616 < Y % 18446744073709551616 by have := beq_iff_eq.1 e1; omega), cbr_false]
         refine sub_wide Y0 (by omega) (by omega) (fun c1 c2 => ?_)
         exact fin_of (by omega) (by omega) g1 (by omega) ⟨by omega, b2⟩ ⟨by omega, d2⟩ kk
 · rw [if_neg h] at k
   have : (chk2 a b c d != (0 : Int)) = true := by rw [bne_iff_ne]; exact h
   rw [this, cbr_true]
   exact k
end Go.Pf.Vc
namespace Go.Pf.Vc
open Go Go.Pf
theorem RV.neg {c d : Int} (h : RV c d) : RV (-c) d := by
 obtain ⟨d1, d2, c1, c2, g⟩ := h
 exact ⟨d1, d2, by omega, by omega, by rw [Int.natAbs_neg]; exact g⟩
theorem Sub_of {a b c d : Int} (ha : I64 a) (hb : I64 b) (hc : I64 c) (hd : I64 d) {K : Int → Int → Int → Prop}
   (k : if chk2 a b c d = 0 then outA (decide (a * (d / (Nat.gcd b.natAbs d.natAbs : Nat)) + -c * (b / (Nat.gcd b.natAbs d.natAbs : Nat)) < 0))
       ((a * (d / (Nat.gcd b.natAbs d.natAbs : Nat)) + -c * (b / (Nat.gcd b.natAbs d.natAbs : Nat))).natAbs : Int) b d (Nat.gcd b.natAbs d.natAbs) K
     else K 0 0 (chk2 a b c d)) : w_ratio_Sub a b c d K := by
 unfold w_ratio_Sub wv_ratio_Sub
 refine check_of ha hb hc hd ?_
 by_cases h : chk2 a b c d = 0
 · rw [if_pos h] at k
   have : (chk2 a b c d != (0 : Int)) = false := by rw [h]; rfl
   rw [this, cbr_false]
   obtain ⟨hab, hcd⟩ := chk2_zero.1 h
   obtain ⟨d1, d2, c1, c2, _⟩ := id hcd
   rw [wi64 (n := 0 - c) ⟨by omega, by omega⟩, Int.zero_sub]
   refine Add_of ha hb ⟨by omega, by omega⟩ hd ?_
   rw [if_pos (chk2_zero.2 ⟨hab, hcd.neg⟩)]
   exact k
 · rw [if_neg h] at k
   have : (chk2 a b c d != (0 : Int)) = true := by rw [bne_iff_ne]; exact h
   rw [this, cbr_true]
   exact k
end Go.Pf.Vc
namespace Go.Pf.Vc
open Go Go.Pf
def ints (l : List Int) : List PV := l.map (PV.int .i64)
theorem ints_len (l : List Int) : (ints l).length = l.length := List.length_map ..
theorem ints_at {l : List Int} {i : Nat} (h : i < l.length) : List.getD (ints l) i .nils = .int .i64 (l.getD i 0) := by
 unfold ints
 rw [List.getD_eq_getElem?_getD, List.getD_eq_getElem?_getD, List.getElem?_map, List.getElem?_eq_getElem h]
 rfl
theorem ints_iv {l : List Int} {i : Nat} (h : i < l.length) : intOfV (List.getD (ints l) i .nils) = l.getD i 0 := by
 rw [ints_at h]; rfl
theorem ints_conf {l : List Int} {i : Nat} (h : i < l.length) : conf (.one (.i .i64)) (List.getD (ints l) i .nils) = true := by
 rw [ints_at h]; rfl
theorem asr_of {c : Bool} {P : Prop} (h : c = true) (p : P) : asr c P := by rw [h, asr_true]; exact p
theorem asr_d {c : Prop} [Decidable c] {P : Prop} (h : c) (p : P) : asr (decide c) P := asr_of (decide_eq_true h) p
end Go.Pf.Vc
namespace Go.Pf.Vc
open Go Go.Pf
theorem cbr_d {c : Prop} [Decidable c] {P Q : Prop} (h : c) (p : P) : cbr (decide c) P Q := by rw [decide_eq_true h, cbr_true]; exact p
theorem cbr_n {c : Prop} [Decidable c] {P Q : Prop} (h : ¬ c) (q : Q) : cbr (decide c) P Q := by rw [decide_eq_false h, cbr_false]; exact q
def mnf (m x : Int) : Int := if x < m then x else m
theorem Min_loop {l : List Int} (hl : l.length < 9223372036854775807) (x0 : List PV → Int → Int → Bool → Prop) :
   ∀ (rest : List Int) (i : Nat) (m : Int) (n : Nat), l.drop i = rest → i ≤ l.length → rest.length < n → x0 (ints l) (rest.foldl mnf m) (l.length : Int) false →
     L_s_Min_int_int_0_0 x0 n (ints l) m (i : Int) := by
 intro rest
 induction rest with
 | nil =>
   intro i m n hd hi hn k
   have : i = l.length := by
     have := congrArg List.length hd
     rw [List.length_drop] at this
     have h2 : ([] : List Int).length = 0 := rfl
     omega
   match n, hn with
   | n + 1, _ =>
     unfold L_s_Min_int_int_0_0
     rw [ints_len, this]
     exact cbr_n (by omega) k
 | cons x t ih =>
   intro i m n hd hi hn k
   have hlt : i < l.length := by
     have := congrArg List.length hd
     rw [List.length_drop, List.length_cons] at this
     omega
   have hx : l.getD i 0 = x := by
     have := List.getElem_drop (xs := l) (i := i) (j := 0) (h := by rw [hd]; exact Nat.zero_lt_succ _)
     rw [List.getD_eq_getElem?_getD, List.getElem?_eq_getElem hlt]
     simp only [hd, List.getElem_cons_zero, Nat.add_zero] at this
     exact this.symm
   have ht : l.drop (i + 1) = t := by rw [← List.tail_drop, hd]; rfl
   match n, hn with
   | n + 1, hn =>
     unfold L_s_Min_int_int_0_0
     rw [ints_len]
     refine cbr_d (by omega) ?_
     refine asr_d (by omega) (asr_d (by omega) (asr_of (ints_conf (by omega)) ?_))
     rw [Int.toNat_natCast, ints_iv hlt, hx, wi64 (n := (i : Int) + 1) ⟨by omega, by omega⟩]
     exact ih (i + 1) _ n ht (by omega) (by rw [List.length_cons] at hn; omega) k
theorem Min_of {l : List Int} (hl : l.length < 9223372036854775807) {x : Int} {t : List Int} (e : l = x :: t) {K : Int → Prop} (k : K (t.foldl mnf x)) : w_s_Min_int_int (ints l) K := by
 have h0 : 0 < l.length := by rw [e]; exact Nat.zero_lt_succ _
 unfold w_s_Min_int_int wv_s_Min_int_int
 rw [ints_len]
 refine cbr_n (by omega) (asr_d (by omega) (asr_of (ints_conf h0) ⟨l.length + 1, ?_⟩))
 have e0 : l.getD 0 0 = x := by rw [e]; rfl
 rw [ints_iv h0, e0]
 refine Min_loop hl _ t 1 x _ (by rw [e]; rfl) (by omega) (by rw [e, List.length_cons]; omega) ?_
 exact k
def mxf (m x : Int) : Int := if x > m then x else m
theorem Max_loop {l : List Int} (hl : l.length < 9223372036854775807) (x0 : List PV → Int → Int → Bool → Prop) :
   ∀ (rest : List Int) (i : Nat) (m : Int) (n : Nat), l.drop i = rest → i ≤ l.length → rest.length < n → x0 (ints l) (rest.foldl mxf m) (l.length : Int) false →
     L_s_Max_int_int_0_0 x0 n (ints l) m (i : Int) := by
 intro rest
 induction rest with
 | nil =>
   intro i m n hd hi hn k
   have : i = l.length := by
     have := congrArg List.length hd
     rw [List.length_drop] at this
     have h2 : ([] : List Int).length = 0 := rfl
     omega
   match n, hn with
   | n + 1, _ =>
     unfold L_s_Max_int_int_0_0
     rw [ints_len, this]
     exact cbr_n (by omega) k
 | cons x t ih =>
   intro i m n hd hi hn k
   have hlt : i < l.length := by
     have := congrArg List.length hd
     rw [List.length_drop, List.length_cons] at this
     omega
   have hx : l.getD i 0 = x := by
     have := List.getElem_drop (xs := l) (i := i) (j := 0) (h := by rw [hd]; exact Nat.zero_lt_succ _)
     rw [List.getD_eq_getElem?_getD, List.getElem?_eq_getElem hlt]
     simp only [hd, List.getElem_cons_zero, Nat.add_zero] at this
     exact this.symm
   have ht : l.drop (i + 1) = t := by rw [← List.tail_drop, hd]; rfl
   match n, hn with
   | n + 1, hn =>
     unfold L_s_Max_int_int_0_0
     rw [ints_len]
     refine cbr_d (by omega) ?_
     refine asr_d (by omega) (asr_d (by omega) (asr_of (ints_conf (by omega)) ?_))
     rw [Int.toNat_natCast, ints_iv hlt, hx, wi64 (n := (i : Int) + 1) ⟨by omega, by omega⟩]
     exact ih (i + 1) _ n ht (by omega) (by rw [List.length_cons] at hn; omega) k
theorem Max_of {l : List Int} (hl : l.length < 9223372036854775807) {x : Int} {t : List Int} (e : l = x :: t) {K : Int → Prop} (k : K (t.foldl mxf x)) : w_s_Max_int_int (ints l) K := by
 have h0 : 0 < l.length := by rw [e]; exact Nat.zero_lt_succ _
 unfold w_s_Max_int_int wv_s_Max_int_int
 rw [ints_len]
 refine cbr_n (by omega) (asr_d (by omega) (asr_of (ints_conf h0) ⟨l.length + 1, ?_⟩))
 have e0 : l.getD 0 0 = x := by rw [e]; rfl
 rw [ints_iv h0, e0]
 refine Max_loop hl _ t 1 x _ (by rw [e]; rfl) (by omega) (by rw [e, List.length_cons]; omega) ?_
 exact k
end Go.Pf.Vc
namespace Go.Pf.Vc
open Go Go.Pf
def incr (l : List Int) (i : Nat) : Prop := ∀ j, i ≤ j → j + 1 < l.length → l.getD j 0 < l.getD (j + 1) 0
theorem Check_loop {l : List Int} {p2 : List PV} {p0 : Int} (hl : l.length < 9223372036854775807) (W1 W2 : List PV → (Int → Prop) → Prop) (x0 : Int → Prop) (x1 : Int → List PV → List PV → Int → Int → Bool → Prop) :
   ∀ (r i n : Nat), i + r + 1 = l.length → r < n → (incr l i → x1 p0 (ints l) p2 ((l.length : Int) - 1) ((l.length : Int) - 1) false) → (¬ incr l i → x0 8) →
     L_cake_Check_0_0 W1 W2 x0 x1 n p0 (ints l) p2 ((l.length : Int) - 1) (i : Int) := by
 intro r
 induction r with
 | zero =>
   intro i n hi hn k _
   match n, hn with
   | n + 1, _ =>
     unfold L_cake_Check_0_0
     have e : (i : Int) = (l.length : Int) - 1 := by omega
     refine cbr_n (by omega) ?_
     rw [e]
     exact k (fun j h1 h2 => by omega)
 | succ r ih =>
   intro i n hi hn k k0
   match n, hn with
   | n + 1, hn =>
     unfold L_cake_Check_0_0
     rw [wi64 (n := (i : Int) + 1) ⟨by omega, by omega⟩, ints_len]
     have e1 : ((i : Int) + 1) = ((i + 1 : Nat) : Int) := by omega
     rw [e1, Int.toNat_natCast, Int.toNat_natCast]
     refine cbr_d (by omega) (asr_d (by omega) (asr_d (by omega) (asr_of (ints_conf (by omega)) (asr_d (by omega) (asr_d (by omega) (asr_of (ints_conf (by omega)) ?_))))))
     rw [ints_iv (by omega), ints_iv (by omega)]
     by_cases h : l.getD i 0 ≥ l.getD (i + 1) 0
     · exact cbr_d h (k0 fun hc => absurd (hc i (Nat.le_refl _) (by omega)) (by omega))
     · refine cbr_n h (ih (i + 1) n (by omega) (by omega) (fun hc => k fun j h1 h2 => ?_) (fun hc => k0 fun hd => hc fun j h1 h2 => hd j (by omega) h2))
       by_cases hj : j = i
       · subst hj; omega
       · exact hc j (by omega) h2
end Go.Pf.Vc
namespace Go.Pf.Vc
open Go Go.Pf
def small (q : Rat) : Prop := -1000000000000000000 ≤ q.num ∧ q.num ≤ 1000000000000000000 ∧ (q.den : Int) ≤ 1000000000000000000
instance (q : Rat) : Decidable (small q) := by unfold small; infer_instance
theorem small.rv {q : Rat} (h : small q) : RV q.num q.den := by
 obtain ⟨h1, h2, h3⟩ := h
 have := q.den_pos
 exact ⟨by omega, h3, h1, h2, q.reduced⟩
theorem rv_rat {n d : Int} (h : RV n d) : ∃ q : Rat, small q ∧ q.num = n ∧ (q.den : Int) = d := by
 obtain ⟨h1, h2, h3, h4, h5⟩ := h
 refine ⟨⟨n, d.toNat, by omega, ?_⟩, ⟨h3, h4, by show ((d.toNat : Nat) : Int) ≤ _; omega⟩, rfl, by show ((d.toNat : Nat) : Int) = _; omega⟩
 have : d.natAbs = d.toNat := by omega
 rw [this] at h5
 exact h5
theorem small.i1 {q : Rat} (h : small q) : I64 q.num := ⟨by have := h.1; omega, by have := h.2.1; omega⟩
theorem small.i2 {q : Rat} (h : small q) : I64 (q.den : Int) := ⟨by omega, by have := h.2.2; omega⟩
theorem small_chk2 {q r : Rat} (h : small q) (k : small r) : chk2 q.num q.den r.num r.den = 0 := chk2_zero.2 ⟨h.rv, k.rv⟩
def fitK (q : Rat) (K : Int → Int → Int → Prop) : Prop := if small q then K q.num q.den 0 else K 0 0 16
theorem outS_fit {q : Rat} {s : Bool} {a b : Int} (ha : a = (q.num.natAbs : Int)) (hb : b = (q.den : Int)) (hs : q.num ≠ 0 → s = decide (q.num < 0)) (K : Int → Int → Int → Prop) : outS s a b K = fitK q K := by
 unfold outS fitK
 subst ha hb
 by_cases h : small q
 · have h' := h
   obtain ⟨h1, h2, h3⟩ := h
   rw [if_pos (show _ ∧ _ from ⟨by omega, h3⟩), if_pos h']
   have e : (if s = true then -((q.num.natAbs : Nat) : Int) else ((q.num.natAbs : Nat) : Int)) = q.num := by
     by_cases h0 : q.num = 0
     · rw [h0]; cases s <;> rfl
     · rw [hs h0]
       by_cases h1 : q.num < 0
       · rw [decide_eq_true h1, if_pos rfl]; omega
       · rw [decide_eq_false h1, if_neg (by simp)]; omega
   rw [e]
 · rw [if_neg h, if_neg]
   intro h2
   exact h ⟨by omega, by omega, h2.2⟩
theorem tdiv_nat (x : Int) (g : Nat) : (Int.tdiv x g).natAbs = x.natAbs / g := by rw [Int.natAbs_tdiv, Int.natAbs_natCast]; rfl
theorem sign_tdiv {x : Int} {g : Nat} (h : (g : Int) ∣ x) (hx : x ≠ 0) : decide (Int.tdiv x g < 0) = decide (x < 0) := by
 obtain ⟨k, rfl⟩ := h
 have hg : (g : Int) ≠ 0 := fun e => hx (by rw [e, Int.zero_mul])
 rw [Int.mul_tdiv_cancel_left _ hg]
 have h1 : (g : Int) > 0 := by have := Int.natCast_nonneg g; omega
 have : (g : Int) * k < 0 ↔ k < 0 := by
   constructor
   · intro h; refine Int.not_le.1 fun hk => ?_
     have := Int.mul_nonneg (show 0 ≤ (g : Int) by omega) hk
     omega
   · intro h; exact Int.mul_neg_of_pos_of_neg h1 h
 simp only [this]
theorem mul_parts (q r : Rat) : (q * r).num = Int.tdiv q.num (Nat.gcd q.num.natAbs r.den) * Int.tdiv r.num (Nat.gcd r.num.natAbs q.den) ∧
   (q * r).den = (q.den / Nat.gcd r.num.natAbs q.den) * (r.den / Nat.gcd q.num.natAbs r.den) := by
 have e : q * r = Rat.mul q r := rfl
 rw [e]
 delta Rat.mul
 constructor
 · simp only [Int.divExact_eq_tdiv]
 · simp only [Nat.divExact_eq_div]
theorem dvd_gcd_l (x : Int) (d : Nat) : ((Nat.gcd x.natAbs d : Nat) : Int) ∣ x := by
 rw [← Int.dvd_natAbs, Int.ofNat_dvd]; exact Nat.gcd_dvd_left _ _
theorem tdiv_ne {x : Int} {g : Nat} (h : (g : Int) ∣ x) (hx : x ≠ 0) : Int.tdiv x g ≠ 0 := by
 obtain ⟨k, rfl⟩ := h
 have hg : (g : Int) ≠ 0 := fun e => hx (by rw [e, Int.zero_mul])
 rw [Int.mul_tdiv_cancel_left _ hg]
 intro e; rw [e, Int.mul_zero] at hx; exact hx rfl
theorem sign_mul {x y : Int} (hx : x ≠ 0) (hy : y ≠ 0) : decide (x * y < 0) = (decide (x < 0) != decide (y < 0)) := by
 by_cases h1 : x < 0 <;> by_cases h2 : y < 0
 · have := Int.mul_pos_of_neg_of_neg h1 h2
   simp [h1, h2]; omega
 · have := Int.mul_neg_of_neg_of_pos h1 (show 0 < y by omega)
   simp [h1, h2]; omega
 · have := Int.mul_neg_of_pos_of_neg (show 0 < x by omega) h2
   simp [h1, h2]; omega
 · have := Int.mul_pos (show 0 < x by omega) (show 0 < y by omega)
   simp [h1, h2]; omega
theorem mul_fit (q r : Rat) (K : Int → Int → Int → Prop) : outS (decide (q.num < 0) != decide (r.num < 0)) (numM q.num r.num q.den r.den) (denM q.num r.num q.den r.den) K = fitK (q * r) K := by
 obtain ⟨e1, e2⟩ := mul_parts q r
 refine outS_fit ?_ ?_ ?_ K
 · rw [e1, Int.natAbs_mul, tdiv_nat, tdiv_nat]
   simp only [numM, Int.natAbs_natCast]
 · rw [e2]
   simp only [denM, Int.natAbs_natCast]
 · intro h
   rw [e1] at h ⊢
   have h1 : q.num ≠ 0 := fun e => h (by rw [e, Int.zero_tdiv, Int.zero_mul])
   have h2 : r.num ≠ 0 := fun e => h (by rw [e, Int.zero_tdiv, Int.mul_zero])
   rw [sign_mul (tdiv_ne (dvd_gcd_l _ _) h1) (tdiv_ne (dvd_gcd_l _ _) h2), sign_tdiv (dvd_gcd_l _ _) h1, sign_tdiv (dvd_gcd_l _ _) h2]
theorem det_fit {w : (Int → Int → Int → Prop) → Prop} {q : Rat} (det : ∀ r0 r1 r2, (∀ K : Int → Int → Int → Prop, K r0 r1 r2 → w K) → ∀ K, w K = K r0 r1 r2) (h : ∀ K, fitK q K → w K) (K : Int → Int → Int → Prop) : w K = fitK q K := by
 unfold fitK at h ⊢
 by_cases hs : small q
 · simp only [if_pos hs] at h ⊢
   exact det _ _ _ h K
 · simp only [if_neg hs] at h ⊢
   exact det _ _ _ h K
theorem rMul_eq {q r : Rat} (hq : small q) (hr : small r) (K : Int → Int → Int → Prop) : w_ratio_Mul q.num q.den r.num r.den K = fitK (q * r) K :=
 det_fit (fun r0 r1 r2 h K => det_ratio_Mul _ _ _ _ r0 r1 r2 h K) (fun K k => Mul_of hq.i1 hq.i2 hr.i1 hr.i2 (by rw [if_pos (small_chk2 hq hr), mul_fit]; exact k)) K
end Go.Pf.Vc
namespace Go.Pf.Vc
open Go Go.Pf
theorem add_parts (q r : Rat) : (q + r).num = (q.num * (r.den / Nat.gcd q.den r.den : Nat) + r.num * (q.den / Nat.gcd q.den r.den : Nat)) / (Nat.gcd (q.num * (r.den / Nat.gcd q.den r.den : Nat) + r.num * (q.den / Nat.gcd q.den r.den : Nat)).natAbs (Nat.gcd q.den r.den) : Nat) ∧
   (q + r).den = (q.den / Nat.gcd q.den r.den) * r.den / Nat.gcd (q.num * (r.den / Nat.gcd q.den r.den : Nat) + r.num * (q.den / Nat.gcd q.den r.den : Nat)).natAbs (Nat.gcd q.den r.den) := by
 have e : q + r = Rat.add q r := rfl
 rw [e]
 delta Rat.add
 by_cases hg : q.den.gcd r.den = 1
 · simp only [hg, dif_pos, Nat.div_one, Nat.gcd_one_right, Int.natCast_one, Int.ediv_one, and_self]
 · simp only [hg, dif_neg, not_false_eq_true, Rat.maybeNormalize_eq]
   constructor
   · first | rfl | simp only [Int.divExact_eq_tdiv]
   · first | rfl | simp only []
theorem outA_fit {q r : Rat} {Z : Int} {g : Nat} (e1 : (q + r).num = Z / (Nat.gcd Z.natAbs g : Nat)) (e2 : (q + r).den = (q.den / g) * r.den / Nat.gcd Z.natAbs g) (hgp : 0 < g) (hgd : g ∣ r.den) (K : Int → Int → Int → Prop) :
   outA (decide (Z < 0)) (Z.natAbs : Int) q.den r.den g K = fitK (q + r) K := by
 unfold outA
 by_cases h0 : Z = 0
 · subst h0
   have : (q + r) = 0 := by
     apply Rat.num_eq_zero.1
     rw [e1]; simp
   rw [this, if_pos (by rfl)]
   unfold fitK
   rw [if_pos (by decide)]; rfl
 · have hne : ¬ ((Z.natAbs : Nat) : Int) = 0 := by omega
   rw [if_neg hne]
   have hdv : ((Nat.gcd Z.natAbs g : Nat) : Int) ∣ Z := dvd_gcd_l _ _
   have hhp : 0 < Nat.gcd Z.natAbs g := Nat.gcd_pos_of_pos_right _ hgp
   have hhg : Nat.gcd Z.natAbs g ∣ r.den := Nat.dvd_trans (Nat.gcd_dvd_right _ _) hgd
   refine outS_fit ?_ ?_ ?_ K
   · rw [e1, Int.natAbs_ediv_of_dvd hdv]; simp
   · rw [e2]; simp only [Int.toNat_natCast]; rw [Nat.mul_div_assoc _ hhg]
   · intro h
     rw [e1]
     obtain ⟨k, hk⟩ := hdv
     revert hhp hk
     generalize Nat.gcd Z.natAbs g = h
     intro hhp hk
     have e : Z / (h : Int) = k := by rw [hk, Int.mul_ediv_cancel_left _ (by omega)]
     rw [e]
     have : Z < 0 ↔ k < 0 := by
       rw [hk]
       constructor
       · intro hk; refine Int.not_le.1 fun hk2 => ?_
         have := Int.mul_nonneg (show 0 ≤ (h : Int) by omega) hk2
         omega
       · intro hk; exact Int.mul_neg_of_pos_of_neg (by omega) hk
     simp only [this]
theorem add_fit (q r : Rat) (K : Int → Int → Int → Prop) :
   outA (decide (q.num * ((r.den : Int) / (Nat.gcd (q.den : Int).natAbs (r.den : Int).natAbs : Nat)) + r.num * ((q.den : Int) / (Nat.gcd (q.den : Int).natAbs (r.den : Int).natAbs : Nat)) < 0))
     ((q.num * ((r.den : Int) / (Nat.gcd (q.den : Int).natAbs (r.den : Int).natAbs : Nat)) + r.num * ((q.den : Int) / (Nat.gcd (q.den : Int).natAbs (r.den : Int).natAbs : Nat))).natAbs : Int) q.den r.den (Nat.gcd (q.den : Int).natAbs (r.den : Int).natAbs) K = fitK (q + r) K := by
 obtain ⟨e1, e2⟩ := add_parts q r
 rw [Int.natCast_ediv, Int.natCast_ediv] at e1 e2
 exact outA_fit e1 e2 (Nat.gcd_pos_of_pos_left _ q.den_pos) (Nat.gcd_dvd_right _ _) K
theorem rAdd_eq {q r : Rat} (hq : small q) (hr : small r) (K : Int → Int → Int → Prop) : w_ratio_Add q.num q.den r.num r.den K = fitK (q + r) K :=
 det_fit (fun r0 r1 r2 h K => det_ratio_Add _ _ _ _ r0 r1 r2 h K) (fun K k => Add_of hq.i1 hq.i2 hr.i1 hr.i2 (by rw [if_pos (small_chk2 hq hr), add_fit]; exact k)) K
theorem rSub_eq {q r : Rat} (hq : small q) (hr : small r) (K : Int → Int → Int → Prop) : w_ratio_Sub q.num q.den r.num r.den K = fitK (q - r) K :=
 det_fit (fun r0 r1 r2 h K => det_ratio_Sub _ _ _ _ r0 r1 r2 h K) (fun K k => Sub_of hq.i1 hq.i2 hr.i1 hr.i2 (by
   rw [if_pos (small_chk2 hq hr)]
   rw [Rat.sub_eq_add_neg, ← add_fit] at k
   exact k)) K
def cmpQ (q r : Rat) : Int := if q < r then -1 else if r < q then 1 else 0
theorem cmpR_eq (q r : Rat) : cmpR q.num q.den r.num r.den = cmpQ q r := by
 unfold cmpR cmp3 cmpQ
 simp only [Rat.lt_iff]
theorem rCmp_eq {q r : Rat} (hq : small q) (hr : small r) (K : Int → Int → Prop) : w_ratio_Cmp q.num q.den r.num r.den K = K (cmpQ q r) 0 :=
 det_ratio_Cmp _ _ _ _ _ _ (fun K k => Cmp_of hq.i1 hq.i2 hr.i1 hr.i2 (by rw [small_chk2 hq hr, if_pos rfl, cmpR_eq]; exact k)) K
theorem rCheck_eq {n d : Int} (hn : I64 n) (hd : I64 d) (K : Int → Prop) : w_ratio_Check n d K = K (chk n d) :=
 det_ratio_Check _ _ _ (fun _ k => Check_of hn hd k) K
end Go.Pf.Vc
namespace Go.Pf.Vc
open Go Go.Pf
theorem sAbs_eq {p : Int} (h : I64 p) (K : Int → Prop) : w_r01_abs p K = K (p.natAbs : Int) := by
 unfold I64 at h
 unfold w_r01_abs wv_r01_abs
 by_cases hp : p < 0
 · have e0 : IntKind.i64.wrap (p + 1) = p + 1 := wi64 ⟨by omega, by omega⟩
   have e1 : IntKind.i64.wrap ((0 : Int) - (p + 1)) = -(p + 1) := by rw [wi64 ⟨by omega, by omega⟩]; omega
   have e2 : IntKind.u64.wrap (-(p + 1)) = -(p + 1) := wu64 ⟨by omega, by omega⟩
   have e3 : IntKind.u64.wrap (-(p + 1) + 1) = (p.natAbs : Int) := by rw [wu64 ⟨by omega, by omega⟩]; omega
   rw [decide_eq_true hp, cbr_true, e0, e1, e2, e3]
 · rw [decide_eq_false hp, cbr_false, wu64 ⟨by omega, by omega⟩]
   congr 1
   omega
theorem sgcd_loop (x : Int → Int → Bool → Prop) : ∀ (n a b : Nat), b < n → L_r01_gcd_0_0 x n (a : Int) (b : Int) = x ((Nat.gcd a b : Nat) : Int) 0 false
 | 0, a, b, h => by omega
 | n + 1, a, b, h => by
   unfold L_r01_gcd_0_0
   by_cases hb : b = 0
   · subst hb
     simp [cbr]
   · have h1 : ((b : Int) != 0) = true := by simp; omega
     have h2 : ¬ ((b : Int) = 0) := by omega
     rw [h1, cbr_true, decide_eq_false h2, Bool.not_false, asr_true]
     have e : Int.tmod (a : Int) (b : Int) = ((a % b : Nat) : Int) := by rw [Int.tmod_eq_emod_of_nonneg (by omega)]; omega
     rw [e, sgcd_loop x n b (a % b) (by have := Nat.mod_lt a (show b > 0 by omega); omega)]
     rw [Nat.gcd_comm a b, Nat.gcd_rec b a, Nat.gcd_comm]
theorem sgcd_eq (a b : Nat) (K : Int → Prop) : w_r01_gcd (a : Int) (b : Int) K = K ((Nat.gcd a b : Nat) : Int) := by
 refine det_r01_gcd _ _ _ (fun K h => ?_) K
 unfold w_r01_gcd wv_r01_gcd
 exact ⟨b + 1, by rw [sgcd_loop _ (b + 1) a b (by omega)]; exact h⟩
theorem bne_f {a b : Int} (h : a = b) : (a != b) = false := by simp [h]
theorem bne_t {a b : Int} (h : a ≠ b) : (a != b) = true := by simp [h]
theorem beq_f {a b : Int} (h : a ≠ b) : (a == b) = false := by simp [h]
theorem beq_t {a b : Int} (h : a = b) : (a == b) = true := by simp [h]
theorem sCheck_eq {n d : Int} (hn : I64 n) (_ : I64 d) (K : Int → Prop) : w_r01_Check n d K = K (chk n d) := by
 unfold w_r01_Check wv_r01_Check
 by_cases h1 : d < 1
 · rw [decide_eq_true h1, cbr_true, chk, if_neg (fun h => by have := h.1; omega)]
 · rw [decide_eq_false h1, cbr_false]
   by_cases h2 : d > 1000000000000000000
   · rw [decide_eq_true h2, cbr_true, chk, if_neg (fun h => by have := h.2.1; omega)]
   · rw [decide_eq_false h2, cbr_false]
     by_cases h3 : n < -1000000000000000000
     · rw [decide_eq_true h3, cbr_true, chk, if_neg (fun h => by have := h.2.2.1; omega)]
     · rw [decide_eq_false h3, cbr_false]
       by_cases h4 : n > 1000000000000000000
       · rw [decide_eq_true h4, cbr_true, chk, if_neg (fun h => by have := h.2.2.2.1; omega)]
       · have ed : IntKind.u64.wrap d = ((d.natAbs : Nat) : Int) := by rw [wu64 ⟨by omega, by omega⟩]; omega
         rw [decide_eq_false h4, cbr_false, sAbs_eq hn, ed, sgcd_eq]
         by_cases h5 : Nat.gcd n.natAbs d.natAbs = 1
         · rw [h5, bne_f (by rfl), cbr_false, chk, if_pos ⟨by omega, by omega, by omega, by omega, h5⟩]
         · rw [bne_t (by omega), cbr_true, chk, if_neg (fun h => h5 h.2.2.2.2)]
theorem sBoth_eq {a b c d : Int} (ha : I64 a) (hb : I64 b) (hc : I64 c) (hd : I64 d) (K : Int → Prop) : w_r01_Both a b c d K = K (chk2 a b c d) := by
 unfold w_r01_Both wv_r01_Both
 rw [sCheck_eq ha hb, sCheck_eq ha hb, sCheck_eq hc hd, chk2]
 by_cases h : chk a b = 0
 · rw [bne_f h, cbr_false, if_pos h]
 · rw [bne_t h, cbr_true, if_neg h]
theorem or32 {m s : Int} (_ : 0 ≤ m) (hs : 0 ≤ s ∧ s < 4294967296) : IntKind.u64.wrap (BitVec.ofInt IntKind.u64.bits (IntKind.u64.wrap (m * 4294967296)) ||| BitVec.ofInt IntKind.u64.bits s).toNat = m % 4294967296 * 4294967296 + s := by
 have e : IntKind.u64.wrap (m * 4294967296) = m % 4294967296 * 2 ^ 32 := by rw [wu64']; omega
 rw [e, or_eq (k := 32) (by omega) ⟨hs.1, by omega⟩ ⟨by omega, by omega⟩ (by omega)]
 omega
theorem times_eq {a b : Int} (ha : U64 a) (hb : U64 b) (K : Int → Int → Prop) : w_r01_times a b K = K (a * b / 18446744073709551616) (a * b % 18446744073709551616) := by
 unfold w_r01_times wv_r01_times
 simp only [fdiv32]
 rw [mask32 ha, mask32 hb]
 unfold U64 at ha hb
 have ha' := ha; have hb' := hb
 obtain ⟨x1, hx1⟩ : ∃ x, x = a / 4294967296 := ⟨_, rfl⟩
 obtain ⟨x0, hx0⟩ : ∃ x, x = a % 4294967296 := ⟨_, rfl⟩
 obtain ⟨y1, hy1⟩ : ∃ x, x = b / 4294967296 := ⟨_, rfl⟩
 obtain ⟨y0, hy0⟩ : ∃ x, x = b % 4294967296 := ⟨_, rfl⟩
 rw [← hx1, ← hx0, ← hy1, ← hy0]
 have b1 : 0 ≤ x1 ∧ x1 ≤ 4294967295 := by omega
 have b2 : 0 ≤ x0 ∧ x0 ≤ 4294967295 := by omega
 have b3 : 0 ≤ y1 ∧ y1 ≤ 4294967295 := by omega
 have b4 : 0 ≤ y0 ∧ y0 ≤ 4294967295 := by omega
 have pb : ∀ x y : Int, 0 ≤ x ∧ x ≤ 4294967295 → 0 ≤ y ∧ y ≤ 4294967295 → 0 ≤ x * y ∧ x * y ≤ 18446744065119617025 := by
   intro x y hx hy
   refine ⟨Int.mul_nonneg hx.1 hy.1, ?_⟩
   have := Int.mul_le_mul hx.2 hy.2 hy.1 (by omega : (0 : Int) ≤ 4294967295)
   omega
 have p1 := pb x1 y1 b1 b3
 have p2 := pb x1 y0 b1 b4
 have p3 := pb x0 y1 b2 b3
 have p4 := pb x0 y0 b2 b4
 have ea : a = x1 * 4294967296 + x0 := by omega
 have eb : b = y1 * 4294967296 + y0 := by omega
 have eab : a * b = x1 * y1 * 18446744073709551616 + x1 * y0 * 4294967296 + x0 * y1 * 4294967296 + x0 * y0 := by
   rw [ea, eb]; grind
 obtain ⟨P, hP⟩ : ∃ x, x = x1 * y1 := ⟨_, rfl⟩
 obtain ⟨Q, hQ⟩ : ∃ x, x = x1 * y0 := ⟨_, rfl⟩
 obtain ⟨R, hR⟩ : ∃ x, x = x0 * y1 := ⟨_, rfl⟩
 obtain ⟨S, hS⟩ : ∃ x, x = x0 * y0 := ⟨_, rfl⟩
 rw [← hP] at p1; rw [← hQ] at p2; rw [← hR] at p3; rw [← hS] at p4
 rw [← hP, ← hQ, ← hR, ← hS] at eab ⊢
 have w1 : IntKind.u64.wrap S = S := wu64 ⟨by omega, by omega⟩
 have w2 : IntKind.u64.wrap Q = Q := wu64 ⟨by omega, by omega⟩
 have w3 : IntKind.u64.wrap R = R := wu64 ⟨by omega, by omega⟩
 have w4 : IntKind.u64.wrap P = P := wu64 ⟨by omega, by omega⟩
 rw [w1, w2, w3, w4, mask32 (p := Q) ⟨by omega, by omega⟩, mask32 (p := S) ⟨by omega, by omega⟩]
 have w5 : IntKind.u64.wrap (Q % 4294967296 + R) = Q % 4294967296 + R := wu64 ⟨by omega, by omega⟩
 rw [w5]
 have w6 : IntKind.u64.wrap (Q % 4294967296 + R + S / 4294967296) = Q % 4294967296 + R + S / 4294967296 := wu64 ⟨by omega, by omega⟩
 rw [w6, or32 (by omega) ⟨by omega, by omega⟩]
 have hab : a * b ≤ 18446744073709551615 * 18446744073709551615 := Int.mul_le_mul ha'.2 hb'.2 hb'.1 (by omega : (0 : Int) ≤ 18446744073709551615)
 rw [eab] at hab ⊢
 have w7 : IntKind.u64.wrap (P + Q / 4294967296) = P + Q / 4294967296 := wu64 ⟨by omega, by omega⟩
 rw [w7, wu64 ⟨by omega, by omega⟩]
 congr 1 <;> omega
theorem lessW_eq {X Y : Int} (_ : 0 ≤ X) (_ : 0 ≤ Y) (K : Bool → Prop) :
   w_r01_less (X / 18446744073709551616) (X % 18446744073709551616) (Y / 18446744073709551616) (Y % 18446744073709551616) K = K (decide (X < Y)) := by
 unfold w_r01_less wv_r01_less
 by_cases h : X / 18446744073709551616 < Y / 18446744073709551616
 · rw [decide_eq_true h, cbr_true, decide_eq_true (by omega)]
 · rw [decide_eq_false h, cbr_false]
   by_cases h2 : X / 18446744073709551616 = Y / 18446744073709551616
   · rw [beq_t h2, cbr_true]
     congr 1
     rw [decide_eq_decide]; omega
   · rw [beq_f h2, cbr_false, decide_eq_false (by omega)]
end Go.Pf.Vc
namespace Go.Pf.Vc
open Go Go.Pf
theorem wuN {n : Nat} (h : (n : Int) ≤ 18446744073709551615) : IntKind.u64.wrap (n : Int) = n := wu64 ⟨by omega, h⟩
theorem times_nat {a b : Nat} (ha : a ≤ 18446744073709551615) (hb : b ≤ 18446744073709551615) (K : Int → Int → Prop) :
   w_r01_times (a : Int) (b : Int) K = K (((a * b : Nat) : Int) / 18446744073709551616) (((a * b : Nat) : Int) % 18446744073709551616) := by
 rw [times_eq ⟨by omega, by omega⟩ ⟨by omega, by omega⟩, Int.natCast_mul]
theorem small.neg {q : Rat} (hq : small q) : small (-q) := by
 obtain ⟨a1, a2, a3⟩ := hq
 unfold small
 rw [Rat.neg_num, Rat.neg_den]
 omega
theorem sLess_eq {q r : Rat} (hq : small q) (hr : small r) (K : Bool → Prop) : w_r01_Less q.num q.den r.num r.den K = K (decide (q < r)) := by
 unfold w_r01_Less wv_r01_Less
 have hq' := hq; have hr' := hr
 obtain ⟨a1, a2, a3⟩ := hq
 obtain ⟨b1, b2, b3⟩ := hr
 have dq := q.den_pos
 have dr := r.den_pos
 have e : decide (q < r) = decide (q.num * r.den < r.num * q.den) := by rw [decide_eq_decide]; exact Rat.lt_iff q r
 rw [e]
 by_cases hs : (decide (q.num < 0) != decide (r.num < 0)) = true
 · rw [hs, cbr_true]
   by_cases h1 : q.num < 0
   · have h2 : ¬ r.num < 0 := by simpa [h1] using hs
     have p1 : q.num * r.den < 0 := Int.mul_neg_of_neg_of_pos h1 (by omega)
     have p2 : 0 ≤ r.num * q.den := Int.mul_nonneg (by omega) (by omega)
     rw [decide_eq_true h1, decide_eq_true (by omega)]
   · have h2 : r.num < 0 := by simpa [h1] using hs
     have p1 : r.num * q.den < 0 := Int.mul_neg_of_neg_of_pos h2 (by omega)
     have p2 : 0 ≤ q.num * r.den := Int.mul_nonneg (by omega) (by omega)
     rw [decide_eq_false h1, decide_eq_false (by omega)]
 · have hs' : (decide (q.num < 0) != decide (r.num < 0)) = false := by simpa using hs
   rw [hs', cbr_false, sAbs_eq hq'.i1, wuN (by omega), times_nat (by omega) (by omega), sAbs_eq hr'.i1, wuN (by omega), times_nat (by omega) (by omega), lessW_eq (Int.natCast_nonneg _) (Int.natCast_nonneg _), lessW_eq (Int.natCast_nonneg _) (Int.natCast_nonneg _), Int.natCast_mul, Int.natCast_mul]
   by_cases h1 : q.num < 0
   · have h2 : r.num < 0 := by simpa [h1] using hs'
     rw [decide_eq_true h1, cbr_true, show ((q.num.natAbs : Nat) : Int) = -q.num by omega, show ((r.num.natAbs : Nat) : Int) = -r.num by omega, Int.neg_mul, Int.neg_mul]
     congr 1
     rw [decide_eq_decide]; omega
   · have h2 : ¬ r.num < 0 := by simpa [h1] using hs'
     rw [decide_eq_false h1, cbr_false, show ((q.num.natAbs : Nat) : Int) = q.num by omega, show ((r.num.natAbs : Nat) : Int) = r.num by omega]
theorem sOf_eq (n : Int) (K : Int → Int → Prop) : w_r01_Of n K = K (n : Rat).num (n : Rat).den := rfl
end Go.Pf.Vc
namespace Go.Pf.Vc
open Go Go.Pf
theorem cbT {c : Prop} [Decidable c] {P Q : Prop} (h : c) : cbr (decide c) P Q = P := by rw [decide_eq_true h, cbr_true]
theorem cbF {c : Prop} [Decidable c] {P Q : Prop} (h : ¬ c) : cbr (decide c) P Q = Q := by rw [decide_eq_false h, cbr_false]
theorem cnT {a b : Int} {P Q : Prop} (h : a ≠ b) : cbr (a != b) P Q = P := by rw [bne_t h, cbr_true]
theorem cnF {a b : Int} {P Q : Prop} (h : a = b) : cbr (a != b) P Q = Q := by rw [bne_f h, cbr_false]
theorem ceT {a b : Int} {P Q : Prop} (h : a = b) : cbr (a == b) P Q = P := by rw [beq_t h, cbr_true]
theorem ceF {a b : Int} {P Q : Prop} (h : a ≠ b) : cbr (a == b) P Q = Q := by rw [beq_f h, cbr_false]
theorem asT {c : Prop} [Decidable c] {P : Prop} (h : c) : asr (decide c) P = P := by rw [decide_eq_true h, asr_true]
theorem asC {l : List Int} {i : Nat} {P : Prop} (h : i < l.length) : asr (conf (.one (.i .i64)) (List.getD (ints l) i .nils)) P = P := by rw [ints_conf h, asr_true]
theorem wib {n : Int} (h1 : -9223372036854775808 ≤ n) (h2 : n ≤ 9223372036854775807) : IntKind.i64.wrap n = n := wi64 ⟨h1, h2⟩
theorem cast1 (i : Nat) : (i : Int) + 1 = ((i + 1 : Nat) : Int) := by omega
theorem small_int {x : Int} (h : -1000000000000000000 ≤ x ∧ x ≤ 1000000000000000000) : small (x : Rat) := by
 unfold small
 rw [Rat.num_intCast, Rat.den_intCast]
 omega
def allD (dens : List Int) : Prop := ∀ d ∈ dens, 0 ≤ d ∧ d ≤ 12
def someD (dens : List Int) : Prop := ∃ d ∈ dens, 0 < d
instance (l : List Int) : Decidable (allD l) := by unfold allD; infer_instance
instance (l : List Int) : Decidable (someD l) := by unfold someD; infer_instance
def VC (len : Int) (cuts dens : List Int) : Prop :=
 1 ≤ len ∧ len ≤ 1000 ∧ 2 ≤ cuts.length ∧ cuts.length ≤ 40 ∧ dens.length + 1 = cuts.length ∧ cuts.getD 0 0 = 0 ∧ cuts.getD (cuts.length - 1) 0 = len ∧ incr cuts 0 ∧ allD dens ∧ someD dens
theorem incr_iff (l : List Int) : incr l 0 ↔ ∀ j, j < l.length → j + 1 < l.length → l.getD j 0 < l.getD (j + 1) 0 := ⟨fun h j _ h2 => h j (by omega) h2, fun h j _ h2 => h j (by omega) h2⟩
instance (l : List Int) : Decidable (incr l 0) := decidable_of_iff _ (incr_iff l).symm
instance (len : Int) (cuts dens : List Int) : Decidable (VC len cuts dens) := by unfold VC; infer_instance
def ckC (len : Int) (cuts dens : List Int) : Int := if len > 1000 ∨ cuts.length > 40 then 4 else if VC len cuts dens then 0 else 8
theorem mnf_all (l : List Int) (x : Int) : (l.foldl mnf x < 0) ↔ ¬ (∀ d ∈ x :: l, 0 ≤ d) := by
 induction l generalizing x with
 | nil => simp
 | cons y t ih =>
   rw [List.foldl_cons, ih]
   unfold mnf
   simp only [List.forall_mem_cons]
   split
   · constructor
     · intro h h2; exact h ⟨h2.2.1, h2.2.2⟩
     · intro h h2; exact h ⟨by omega, h2.1, h2.2⟩
   · constructor
     · intro h h2; exact h ⟨h2.1, h2.2.2⟩
     · intro h h2; exact h ⟨h2.1, by omega, h2.2⟩
theorem mxf_all (l : List Int) (x k : Int) : (l.foldl mxf x > k) ↔ ¬ (∀ d ∈ x :: l, d ≤ k) := by
 induction l generalizing x with
 | nil => simp
 | cons y t ih =>
   rw [List.foldl_cons, ih]
   unfold mxf
   simp only [List.forall_mem_cons]
   split
   · constructor
     · intro h h2; exact h ⟨h2.2.1, h2.2.2⟩
     · intro h h2; exact h ⟨by omega, h2.1, h2.2⟩
   · constructor
     · intro h h2; exact h ⟨h2.1, h2.2.2⟩
     · intro h h2; exact h ⟨h2.1, by omega, h2.2⟩
theorem cCheck_eq {len : Int} {cuts dens : List Int} (h1 : cuts.length < 4611686018427387904) (h2 : dens.length < 4611686018427387904) (K : Int → Prop) :
   w_cake_Check len (ints cuts) (ints dens) K = K (ckC len cuts dens) := by
 refine det_cake_Check _ _ _ _ (fun K k => ?_) K
 unfold w_cake_Check wv_cake_Check
 simp only [ints_len]
 have bad : ¬ (len > 1000 ∨ cuts.length > 40) → ¬ VC len cuts dens → K 8 := fun h h2 => by
   rw [ckC, if_neg h, if_neg h2] at k; exact k
 by_cases a1 : len > 1000
 · rw [cbT a1]; rw [ckC, if_pos (.inl a1)] at k; exact k
 rw [cbF a1]
 by_cases a2 : cuts.length > 40
 · rw [cbT (by omega)]; rw [ckC, if_pos (.inr a2)] at k; exact k
 have a12 : ¬ (len > 1000 ∨ cuts.length > 40) := by omega
 rw [cbF (by omega)]
 by_cases a3 : len < 1
 · rw [cbT a3]; exact bad a12 (fun h => by have := h.1; omega)
 rw [cbF a3]
 by_cases a4 : cuts.length < 2
 · rw [cbT (by omega)]; exact bad a12 (fun h => by have := h.2.2.1; omega)
 rw [cbF (by omega), wib (n := (cuts.length : Int) - 1) (by omega) (by omega)]
 by_cases a5 : dens.length + 1 = cuts.length
 case neg => rw [cnT (by omega)]; exact bad a12 (fun h => a5 h.2.2.2.2.1)
 rw [cnF (by omega), asT (by omega), asC (by omega), ints_iv (by omega)]
 by_cases a6 : cuts.getD 0 0 = 0
 case neg => rw [cnT a6]; exact bad a12 (fun h => a6 h.2.2.2.2.2.1)
 rw [cnF a6, asT (by omega), asT (by omega), asC (by omega), ints_iv (by omega)]
 have en : ((cuts.length : Int) - 1).toNat = cuts.length - 1 := by omega
 rw [en]
 by_cases a7 : cuts.getD (cuts.length - 1) 0 = len
 case neg => rw [cnT a7]; exact bad a12 (fun h => a7 h.2.2.2.2.2.2.1)
 rw [cnF a7]
 refine ⟨cuts.length + 1, ?_⟩
 refine Check_loop (by omega) _ _ _ _ (cuts.length - 1) 0 _ (by omega) (by omega) (fun hi => ?_) (fun hi => bad a12 (fun h => hi h.2.2.2.2.2.2.2.1))
 obtain ⟨x, t, e⟩ : ∃ x t, dens = x :: t := by
   cases dens with
   | nil => exfalso; have : ([] : List Int).length = 0 := rfl; omega
   | cons x t => exact ⟨x, t, rfl⟩
 refine Min_of (by omega) e ?_
 by_cases b1 : t.foldl mnf x < 0
 · rw [cbT b1]
   rw [mnf_all] at b1
   exact bad a12 (fun h => b1 fun d hd => (h.2.2.2.2.2.2.2.2.1 d (by rw [e]; exact hd)).1)
 rw [cbF b1]
 refine Max_of (by omega) e ?_
 by_cases b2 : t.foldl mxf x > 12
 · rw [cbT b2]
   rw [mxf_all] at b2
   exact bad a12 (fun h => b2 fun d hd => (h.2.2.2.2.2.2.2.2.1 d (by rw [e]; exact hd)).2)
 rw [cbF b2]
 refine Max_of (by omega) e ?_
 have c1 : ∀ d ∈ dens, 0 ≤ d := by rw [mnf_all, Classical.not_not, ← e] at b1; exact b1
 have c2 : ∀ d ∈ dens, d ≤ 12 := by rw [mxf_all, Classical.not_not, ← e] at b2; exact b2
 by_cases b3 : t.foldl mxf x = 0
 · rw [ceT b3]
   refine bad a12 (fun h => ?_)
   obtain ⟨d, hd, h0⟩ := h.2.2.2.2.2.2.2.2.2
   have : ¬ (t.foldl mxf x > 0) := by omega
   rw [mxf_all, Classical.not_not, ← e] at this
   have := this d hd
   omega
 · rw [ceF b3]
   have b4 : t.foldl mxf x > 0 := by
     refine Int.not_le.1 fun hle => b3 ?_
     have : t.foldl mxf x > -1 := by
       rw [mxf_all]
       intro h
       have h1 := h x (List.mem_cons_self ..)
       have h2 := c1 x (by rw [e]; exact List.mem_cons_self ..)
       omega
     omega
   rw [mxf_all, ← e] at b4
   have b5 : someD dens := by
     refine Classical.byContradiction fun hn => b4 fun d hd => ?_
     exact Int.not_lt.1 fun hlt => hn ⟨d, hd, hlt⟩
   rw [ckC, if_neg a12, if_pos ⟨by omega, by omega, by omega, by omega, a5, a6, a7, hi, fun d hd => ⟨c1 d hd, c2 d hd⟩, b5⟩] at k
   exact k
theorem whole_eq (n : Int) (K : Int → Int → Prop) : w_cake_whole n K = K (n : Rat).num (n : Rat).den := rfl
theorem cless_eq {q r : Rat} (hq : small q) (hr : small r) (K : Bool → Prop) : w_cake_less q.num q.den r.num r.den K = K (decide (q < r)) := by
 unfold w_cake_less wv_cake_less
 rw [rCmp_eq hq hr]
 congr 1
 rw [decide_eq_decide, cmpQ]
 by_cases h : q < r
 · simp [h]
 · by_cases h2 : r < q <;> simp [h, h2]
def PT (len : Int) (n d : Int) : Prop := RV n d ∧ 0 ≤ n ∧ n ≤ len * d
instance (len n d : Int) : Decidable (PT len n d) := by unfold PT; infer_instance
theorem PT_rat {len n d : Int} (h : PT len n d) : ∃ q : Rat, small q ∧ q.num = n ∧ (q.den : Int) = d ∧ 0 ≤ q ∧ q ≤ (len : Rat) := by
 obtain ⟨h1, h2, h3⟩ := h
 obtain ⟨q, e1, e2, e3⟩ := rv_rat h1
 refine ⟨q, e1, e2, e3, ?_, ?_⟩
 · rw [← Rat.num_nonneg, e2]; exact h2
 · rw [Rat.le_iff, e2, e3, Rat.num_intCast, Rat.den_intCast]; simpa using h3
theorem int_lt_iff (x : Int) (q : Rat) : ((x : Rat) < q) ↔ x * (q.den : Int) < q.num := by
 rw [Rat.lt_iff, Rat.num_intCast, Rat.den_intCast]; simp
theorem point_eq {len : Int} (hl : -1000000000000000000 ≤ len ∧ len ≤ 1000000000000000000) {n d : Int} (hn : I64 n) (hd : I64 d) (a b : List PV) (K : Bool → Prop) :
   w_cake_point len a b n d K = K (decide (PT len n d)) := by
 unfold w_cake_point wv_cake_point
 rw [rCheck_eq hn hd]
 by_cases h : RV n d
 · obtain ⟨q, e1, e2, e3⟩ := rv_rat h
   rw [chk, if_pos h, ceT rfl]
   by_cases h0 : n ≥ 0
   · rw [cbT h0, whole_eq, ← e2, ← e3, cless_eq (small_int hl) e1]
     congr 1
     have : ((len : Rat) < q) ↔ len * (q.den : Int) < q.num := int_lt_iff _ _
     by_cases h3 : (len : Rat) < q
     · have h4 := this.1 h3
       rw [decide_eq_true h3, decide_eq_false]; rfl
       intro hp; have := hp.2.2; omega
     · have h4 : ¬ _ := fun x => h3 (this.2 x)
       rw [decide_eq_false h3, decide_eq_true]; rfl
       exact ⟨e1.rv, by omega, by omega⟩
   · rw [cbF h0, decide_eq_false]
     intro hp; have := hp.2.1; omega
 · rw [chk, if_neg h, ceF (by decide), decide_eq_false]
   intro hp; exact h hp.1
end Go.Pf.Vc
namespace Go.Pf.Vc
open Go Go.Pf
section
variable {len : Int} {cuts dens : List Int}
theorem VC.step (h : VC len cuts dens) {i : Nat} (hi : i + 1 < cuts.length) : cuts.getD i 0 < cuts.getD (i + 1) 0 := h.2.2.2.2.2.2.2.1 i (Nat.zero_le _) hi
theorem VC.mono (h : VC len cuts dens) {i : Nat} : ∀ {j : Nat}, i ≤ j → j < cuts.length → cuts.getD i 0 ≤ cuts.getD j 0
 | 0, hij, _ => by have : i = 0 := by omega
                   subst this; exact Int.le_refl _
 | j + 1, hij, hj => by
   by_cases e : i = j + 1
   · subst e; exact Int.le_refl _
   · have h1 := h.mono (i := i) (j := j) (by omega) (by omega)
     have h2 := h.step (i := j) hj
     omega
theorem VC.lo (h : VC len cuts dens) {i : Nat} (hi : i < cuts.length) : 0 ≤ cuts.getD i 0 := by
 have := h.mono (Nat.zero_le i) hi
 rw [h.2.2.2.2.2.1] at this; exact this
theorem VC.hi (h : VC len cuts dens) {i : Nat} (hi : i < cuts.length) : cuts.getD i 0 ≤ len := by
 have := h.mono (i := i) (j := cuts.length - 1) (by omega) (by omega)
 rw [h.2.2.2.2.2.2.1] at this; exact this
theorem VC.den (h : VC len cuts dens) {i : Nat} (hi : i < dens.length) : 0 ≤ dens.getD i 0 ∧ dens.getD i 0 ≤ 12 := by
 rw [List.getD_eq_getElem?_getD, List.getElem?_eq_getElem hi]
 exact h.2.2.2.2.2.2.2.2.1 _ (List.getElem_mem hi)
theorem VC.l1 (h : VC len cuts dens) : dens.length + 1 = cuts.length := h.2.2.2.2.1
theorem VC.l2 (h : VC len cuts dens) : cuts.length ≤ 40 := h.2.2.2.1
theorem VC.len0 (h : VC len cuts dens) : 1 ≤ len ∧ len ≤ 1000 := ⟨h.1, h.2.1⟩
theorem VC.sc (h : VC len cuts dens) {i : Nat} (hi : i < cuts.length) : small ((cuts.getD i 0 : Int) : Rat) := small_int (by have := h.lo hi; have := h.hi hi; have := h.len0; omega)
theorem VC.sd (h : VC len cuts dens) {i : Nat} (hi : i < dens.length) : small ((dens.getD i 0 : Int) : Rat) := small_int (by have := h.den hi; omega)
theorem ckC_zero (h : ckC len cuts dens = 0) : VC len cuts dens := by
 unfold ckC at h
 split at h
 · omega
 · split at h
   · assumption
   · omega
theorem VC.ck (h : VC len cuts dens) : ckC len cuts dens = 0 := by
 rw [ckC, if_neg (by have := h.l2; have := h.len0; omega), if_pos h]
def totS (cuts dens : List Int) : Nat → Nat → Int → Int
 | 0, _, s => s
 | r + 1, i, s => totS cuts dens r (i + 1) (s + dens.getD i 0 * (cuts.getD (i + 1) 0 - cuts.getD i 0))
def totC (cuts dens : List Int) : Int := totS cuts dens dens.length 0 0
def exK (e : Except Int Rat) (K : Int → Int → Int → Prop) : Prop := match e with | .ok q => K q.num q.den 0 | .error c => K 0 0 c
def fit {α : Type} (q : Rat) (k : Rat → Except Int α) : Except Int α := if small q then k q else .error 16
def valS (cuts dens : List Int) (b : Rat) : Nat → Nat → Rat → Rat → Except Int Rat
 | 0, _, _, sum => .ok sum
 | r + 1, i, p, sum =>
   let en : Rat := if b < (cuts.getD (i + 1) 0 : Int) then b else (cuts.getD (i + 1) 0 : Int)
   if dens.getD i 0 = 0 ∨ ¬ p < en then valS cuts dens b r (i + 1) (if p < en then en else p) sum
   else fit (en - p) fun l => fit (l * (dens.getD i 0 : Int)) fun w => fit (sum + w) fun s => valS cuts dens b r (i + 1) en s
def valC (cuts dens : List Int) (a b : Rat) : Except Int Rat := valS cuts dens b dens.length 0 a 0
theorem fitK_if {q : Rat} {K : Int → Int → Int → Prop} : fitK q K = if small q then K q.num q.den 0 else K 0 0 16 := rfl
theorem Value_loop (h : VC len cuts dens) {b : Rat} (hb : small b) (an ad : Int) (W1 : Int → List PV → List PV → (Int → Prop) → Prop) (W2 : Int → List PV → List PV → Int → Int → (Bool → Prop) → Prop) (K : Int → Int → Int → Prop) :
   ∀ (r i n : Nat) (p sum : Rat), i + r = dens.length → r < n → small p → small sum →
     L_cake_Value_0_0 W1 W2 w_cake_less w_cake_whole w_ratio_Sub w_ratio_Mul w_ratio_Add (fun yi37 yi38 yi39 => (K yi37 yi38 yi39)) (fun _ _ _ _ _ _ _ yi47 yi48 _ _ _ _ _ _ => (K yi47 yi48 (0 : Int)))
       n len (ints cuts) (ints dens) b.num b.den an ad sum.num sum.den p.num p.den (ints dens) dens.length i = exK (valS cuts dens b r i p sum) K
 | 0, i, n + 1, p, sum, hi, hn, hp, hs => by
   unfold L_cake_Value_0_0 valS
   rw [cbF (by omega)]; rfl
 | r + 1, i, n + 1, p, sum, hi, hn, hp, hs => by
   unfold L_cake_Value_0_0
   have l1 := h.l1; have l2 := h.l2
   have sc := h.sc (i := i + 1) (by omega)
   have sd := h.sd (i := i) (by omega)
   have e1 := wib (n := (i : Int) + 1) (by omega) (by omega)
   rw [cbT (by omega), ints_len, ints_len, e1, cast1, Int.toNat_natCast, Int.toNat_natCast, asT (by omega), asT (by omega), asC (by omega), asT (by omega), asT (by omega), asC (by omega), ints_iv (by omega), ints_iv (by omega), whole_eq, cless_eq hb sc]
   have ih := fun p sum hp hs => Value_loop h hb an ad W1 W2 K r (i + 1) n p sum (by omega) (by omega) hp hs
   unfold valS
   by_cases hbc : b < ((cuts.getD (i + 1) 0 : Int) : Rat)
   · rw [cbT hbc]
     simp only [if_pos hbc]
     by_cases hd : dens.getD i 0 = 0
     · rw [ceT hd, if_pos (.inl hd), cless_eq hp hb]
       by_cases hpb : p < b
       · rw [cbT hpb, if_pos hpb]; exact ih b sum hb hs
       · rw [cbF hpb, if_neg hpb]; exact ih p sum hp hs
     · rw [ceF hd, cless_eq hp hb]
       by_cases hpb : p < b
       · have hc : ¬ (dens.getD i 0 = 0 ∨ ¬ p < b) := by simp [hpb]; exact hd
         rw [if_neg hc, decide_eq_true hpb, Bool.not_true, cbr_false, rSub_eq hb hp, fitK_if]
         by_cases s1 : small (b - p)
         · rw [if_pos s1, cnF rfl, whole_eq, rMul_eq s1 sd, fitK_if, fit, if_pos s1]
           by_cases s2 : small ((b - p) * (dens.getD i 0 : Int))
           · rw [if_pos s2, cnF rfl, rAdd_eq hs s2, fitK_if, fit, if_pos s2]
             by_cases s3 : small (sum + (b - p) * (dens.getD i 0 : Int))
             · rw [if_pos s3, cnF rfl, fit, if_pos s3]; exact ih b _ hb s3
             · rw [if_neg s3, cnT (by decide), fit, if_neg s3]; rfl
           · rw [if_neg s2, cnT (by decide), fit, if_neg s2]; rfl
         · rw [if_neg s1, cnT (by decide), fit, if_neg s1]; rfl
       · rw [if_pos (.inr hpb), decide_eq_false hpb, Bool.not_false, cbr_true, cless_eq hp hb, cbF hpb, if_neg hpb]; exact ih p sum hp hs
   · rw [cbF hbc]
     simp only [if_neg hbc]
     obtain ⟨c, hc⟩ : ∃ c : Rat, c = ((cuts.getD (i + 1) 0 : Int) : Rat) := ⟨_, rfl⟩
     rw [← hc] at sc ⊢
     by_cases hd : dens.getD i 0 = 0
     · rw [ceT hd, if_pos (.inl hd), cless_eq hp sc]
       by_cases hpb : p < c
       · rw [cbT hpb, if_pos hpb]; exact ih c sum sc hs
       · rw [cbF hpb, if_neg hpb]; exact ih p sum hp hs
     · rw [ceF hd, cless_eq hp sc]
       by_cases hpb : p < c
       · have hcc : ¬ (dens.getD i 0 = 0 ∨ ¬ p < c) := by simp [hpb]; exact hd
         rw [if_neg hcc, decide_eq_true hpb, Bool.not_true, cbr_false, rSub_eq sc hp, fitK_if]
         by_cases s1 : small (c - p)
         · rw [if_pos s1, cnF rfl, whole_eq, rMul_eq s1 sd, fitK_if, fit, if_pos s1]
           by_cases s2 : small ((c - p) * (dens.getD i 0 : Int))
           · rw [if_pos s2, cnF rfl, rAdd_eq hs s2, fitK_if, fit, if_pos s2]
             by_cases s3 : small (sum + (c - p) * (dens.getD i 0 : Int))
             · rw [if_pos s3, cnF rfl, fit, if_pos s3]; exact ih c _ sc s3
             · rw [if_neg s3, cnT (by decide), fit, if_neg s3]; rfl
           · rw [if_neg s2, cnT (by decide), fit, if_neg s2]; rfl
         · rw [if_neg s1, cnT (by decide), fit, if_neg s1]; rfl
       · rw [if_pos (.inr hpb), decide_eq_false hpb, Bool.not_false, cbr_true, cless_eq hp sc, cbF hpb, if_neg hpb]; exact ih p sum hp hs
end
end Go.Pf.Vc
namespace Go.Pf.Vc
open Go Go.Pf
def rt (n d : Int) : Rat := mkRat n d.toNat
theorem rt_self (q : Rat) : rt q.num q.den = q := by unfold rt; rw [Int.toNat_natCast, Rat.mkRat_self]
theorem rt_of {n d : Int} (h : RV n d) : small (rt n d) ∧ (rt n d).num = n ∧ ((rt n d).den : Int) = d := by
 obtain ⟨q, h1, h2, h3⟩ := rv_rat h
 subst h2 h3
 rw [rt_self]; exact ⟨h1, rfl, rfl⟩
theorem PT.pt {len n d : Int} (h : PT len n d) : small (rt n d) ∧ (rt n d).num = n ∧ ((rt n d).den : Int) = d ∧ 0 ≤ rt n d ∧ rt n d ≤ (len : Rat) := by
 obtain ⟨q, h1, h2, h3, h4, h5⟩ := PT_rat h
 subst h2 h3
 rw [rt_self]; exact ⟨h1, rfl, rfl, h4, h5⟩
theorem PT_of {len : Int} {q : Rat} (h : small q) (h0 : 0 ≤ q) (h1 : q ≤ (len : Rat)) : PT len q.num q.den := by
 refine ⟨h.rv, Rat.num_nonneg.2 h0, ?_⟩
 rw [Rat.le_iff, Rat.num_intCast, Rat.den_intCast] at h1
 simpa using h1
section
variable {len : Int} {cuts dens : List Int}
def valR (len : Int) (cuts dens : List Int) (an ad bn bd : Int) : Except Int Rat :=
 if ckC len cuts dens = 0 then (if PT len an ad ∧ PT len bn bd ∧ ¬ rt bn bd < rt an ad then valC cuts dens (rt an ad) (rt bn bd) else .error 2) else .error (ckC len cuts dens)
theorem det_ex {w : (Int → Int → Int → Prop) → Prop} {e : Except Int Rat} (det : ∀ r0 r1 r2, (∀ K : Int → Int → Int → Prop, K r0 r1 r2 → w K) → ∀ K, w K = K r0 r1 r2) (h : ∀ K, exK e K → w K) (K : Int → Int → Int → Prop) : w K = exK e K := by
 cases e with
 | ok q => exact det _ _ _ h K
 | error c => exact det _ _ _ h K
theorem cValue_eq (h1 : cuts.length < 4611686018427387904) (h2 : dens.length < 4611686018427387904) {an ad bn bd : Int} (ha : I64 an) (ha' : I64 ad) (hb : I64 bn) (hb' : I64 bd) (K : Int → Int → Int → Prop) :
   w_cake_Value len (ints cuts) (ints dens) an ad bn bd K = exK (valR len cuts dens an ad bn bd) K := by
 refine det_ex (fun r0 r1 r2 h K => det_cake_Value _ _ _ _ _ _ _ r0 r1 r2 h K) (fun K k => ?_) K
 unfold w_cake_Value wv_cake_Value
 rw [cCheck_eq h1 h2]
 unfold valR at k
 by_cases h : ckC len cuts dens = 0
 case neg => rw [cnT h]; rw [if_neg h] at k; exact k
 have hv := ckC_zero h
 have hl := hv.len0
 rw [if_pos h] at k
 rw [cnF h, point_eq (by omega) ha ha']
 by_cases p1 : PT len an ad
 case neg => rw [decide_eq_false p1, Bool.not_false, cbr_true]; rw [if_neg (fun x => p1 x.1)] at k; exact k
 rw [decide_eq_true p1, Bool.not_true, cbr_false, point_eq (by omega) hb hb']
 by_cases p2 : PT len bn bd
 case neg => rw [decide_eq_false p2, Bool.not_false, cbr_true]; rw [if_neg (fun x => p2 x.2.1)] at k; exact k
 rw [decide_eq_true p2, Bool.not_true, cbr_false]
 obtain ⟨s1, e1, e2, _, _⟩ := p1.pt
 obtain ⟨s2, f1, f2, _, _⟩ := p2.pt
 have hless := cless_eq s2 s1
 rw [e1, e2, f1, f2] at hless
 rw [hless]
 by_cases p3 : rt bn bd < rt an ad
 · rw [cbT p3]; rw [if_neg (fun x => x.2.2 p3)] at k; exact k
 rw [cbF p3]
 rw [if_pos ⟨p1, p2, p3⟩] at k
 rw [whole_eq, ints_len]
 refine ⟨dens.length + 1, ?_⟩
 have := Value_loop hv s2 0 0 w_cake_Check w_cake_point K dens.length 0 (dens.length + 1) (rt an ad) 0 (by omega) (by omega) s1 (by decide)
 rw [e1, e2, f1, f2] at this
 exact this.mpr k
end
end Go.Pf.Vc
namespace Go.Pf.Vc
open Go Go.Pf
section
variable {len : Int} {cuts dens : List Int}
def okD (cuts dens : List Int) (i : Nat) : Prop := ∀ j, i ≤ j → j < dens.length → cuts.getD j 0 < cuts.getD (j + 1) 0 ∧ 0 ≤ dens.getD j 0 ∧ dens.getD j 0 ≤ 12
theorem dCheck_loop (l1 : dens.length + 1 = cuts.length) (l2 : dens.length < 4611686018427387904) (x0 : Int → Prop) (x1 : Int → List PV → List PV → Bool → Int → Bool → Prop) (P : Prop)
   (hbad : ¬ okD cuts dens 0 → x0 8 = P) (hgood : ∀ b : Bool, okD cuts dens 0 → b = decide (∃ j, j < dens.length ∧ 0 < dens.getD j 0) → x1 len (ints cuts) (ints dens) b dens.length false = P) :
   ∀ (r i n : Nat) (b : Bool), i + r = dens.length → r < n → (∀ j, j < i → cuts.getD j 0 < cuts.getD (j + 1) 0 ∧ 0 ≤ dens.getD j 0 ∧ dens.getD j 0 ≤ 12) → b = decide (∃ j, j < i ∧ 0 < dens.getD j 0) →
     L_r02_Check_0_0 x0 x1 n len (ints cuts) (ints dens) b i = P
 | 0, i, n + 1, b, hi, hn, hj, hb => by
   unfold L_r02_Check_0_0
   rw [ints_len, cbF (by omega), show (i : Int) = dens.length by omega]
   refine hgood b (fun j _ h => hj j (by omega)) ?_
   rw [hb, decide_eq_decide]
   rw [show i = dens.length by omega]
 | r + 1, i, n + 1, b, hi, hn, hj, hb => by
   unfold L_r02_Check_0_0
   have e1 := wib (n := (i : Int) + 1) (by omega) (by omega)
   rw [ints_len, ints_len, cbT (by omega), e1, cast1, Int.toNat_natCast, Int.toNat_natCast, asT (by omega), asT (by omega), asC (by omega), asT (by omega), asT (by omega), asC (by omega), ints_iv (by omega), ints_iv (by omega)]
   have bad : ¬ (cuts.getD i 0 < cuts.getD (i + 1) 0 ∧ 0 ≤ dens.getD i 0 ∧ dens.getD i 0 ≤ 12) → x0 8 = P := fun h => hbad fun hk => h (hk i (by omega) (by omega))
   by_cases a1 : cuts.getD (i + 1) 0 ≤ cuts.getD i 0
   · rw [cbT a1]; exact bad (by omega)
   rw [cbF a1, asT (by omega), asT (by omega), asC (by omega), ints_iv (by omega)]
   by_cases a2 : dens.getD i 0 < 0
   · rw [cbT a2]; exact bad (by omega)
   rw [cbF a2, asT (by omega), asT (by omega), asC (by omega)]
   by_cases a3 : dens.getD i 0 > 12
   · rw [cbT a3]; exact bad (by omega)
   rw [cbF a3]
   have hj2 : ∀ j, j < i + 1 → cuts.getD j 0 < cuts.getD (j + 1) 0 ∧ 0 ≤ dens.getD j 0 ∧ dens.getD j 0 ≤ 12 := by
     intro j hlt
     by_cases e : j = i
     · subst e; omega
     · exact hj j (by omega)
   have ex : ∀ c : Bool, (c = true ↔ (b = true ∨ 0 < dens.getD i 0)) → c = decide (∃ j, j < i + 1 ∧ 0 < dens.getD j 0) := by
     intro c hc
     rw [Bool.eq_iff_iff, hc, hb, decide_eq_true_iff, decide_eq_true_iff]
     constructor
     · rintro (⟨j, h1, h2⟩ | h)
       · exact ⟨j, by omega, h2⟩
       · exact ⟨i, by omega, h⟩
     · rintro ⟨j, h1, h2⟩
       by_cases e : j = i
       · subst e; exact .inr h2
       · exact .inl ⟨j, by omega, h2⟩
   cases b with
   | true =>
     rw [cbr_true]
     exact dCheck_loop l1 l2 x0 x1 P hbad hgood r (i + 1) n true (by omega) (by omega) hj2 (ex _ (by simp))
   | false =>
     rw [cbr_false, asT (by omega), asT (by omega), asC (by omega)]
     exact dCheck_loop l1 l2 x0 x1 P hbad hgood r (i + 1) n _ (by omega) (by omega) hj2 (ex _ (by simp))
theorem dCheck_eq (h1 : cuts.length < 4611686018427387904) (h2 : dens.length < 4611686018427387904) (K : Int → Prop) :
   w_r02_Check len (ints cuts) (ints dens) K = K (ckC len cuts dens) := by
 refine det_r02_Check _ _ _ _ (fun K k => ?_) K
 unfold w_r02_Check wv_r02_Check
 simp only [ints_len]
 have bad : ¬ (len > 1000 ∨ cuts.length > 40) → ¬ VC len cuts dens → K 8 := fun h h2 => by
   rw [ckC, if_neg h, if_neg h2] at k; exact k
 by_cases a1 : len > 1000
 · rw [cbT a1]; rw [ckC, if_pos (.inl a1)] at k; exact k
 rw [cbF a1]
 by_cases a2 : cuts.length > 40
 · rw [cbT (by omega)]; rw [ckC, if_pos (.inr a2)] at k; exact k
 have a12 : ¬ (len > 1000 ∨ cuts.length > 40) := by omega
 rw [cbF (by omega)]
 by_cases a3 : len < 1
 · rw [cbT a3]; exact bad a12 (fun h => by have := h.1; omega)
 rw [cbF a3]
 by_cases a4 : cuts.length < 2
 · rw [cbT (by omega)]; exact bad a12 (fun h => by have := h.2.2.1; omega)
 rw [cbF (by omega), wib (n := (cuts.length : Int) - 1) (by omega) (by omega)]
 by_cases a5 : dens.length + 1 = cuts.length
 case neg => rw [cnT (by omega)]; exact bad a12 (fun h => a5 h.2.2.2.2.1)
 rw [cnF (by omega), asT (by omega), asC (by omega), ints_iv (by omega)]
 by_cases a6 : cuts.getD 0 0 = 0
 case neg => rw [cnT a6]; exact bad a12 (fun h => a6 h.2.2.2.2.2.1)
 rw [cnF a6, asT (by omega), asT (by omega), asC (by omega), ints_iv (by omega)]
 have en : ((cuts.length : Int) - 1).toNat = cuts.length - 1 := by omega
 rw [en]
 by_cases a7 : cuts.getD (cuts.length - 1) 0 = len
 case neg => rw [cnT a7]; exact bad a12 (fun h => a7 h.2.2.2.2.2.2.1)
 rw [cnF a7]
 have mem : ∀ d, d ∈ dens ↔ ∃ j, j < dens.length ∧ dens.getD j 0 = d := by
   intro d
   rw [List.mem_iff_getElem]
   constructor
   · rintro ⟨j, hj, e⟩; exact ⟨j, hj, by rw [List.getD_eq_getElem?_getD, List.getElem?_eq_getElem hj]; exact e⟩
   · rintro ⟨j, hj, e⟩; exact ⟨j, hj, by rw [List.getD_eq_getElem?_getD, List.getElem?_eq_getElem hj] at e; exact e⟩
 refine ⟨dens.length + 1, ?_⟩
 refine (dCheck_loop a5 h2 _ _ (K (ckC len cuts dens)) (fun hk => ?_) (fun b hk hb => ?_) dens.length 0 (dens.length + 1) false (by omega) (by omega) (fun j h => by omega) (by simp)).mpr k
 · have hv : ¬ VC len cuts dens := fun h => hk fun j _ hj => ⟨h.step (by omega), h.den hj⟩
   rw [ckC, if_neg a12, if_neg hv]
 · have hsome : someD dens ↔ ∃ j, j < dens.length ∧ 0 < dens.getD j 0 := by
     constructor
     · rintro ⟨d, hd, h0⟩
       obtain ⟨j, hj, e⟩ := (mem d).1 hd
       exact ⟨j, hj, by rw [e]; exact h0⟩
     · rintro ⟨j, hj, h0⟩; exact ⟨_, (mem _).2 ⟨j, hj, rfl⟩, h0⟩
   have hv : VC len cuts dens ↔ someD dens := by
     refine ⟨fun h => h.2.2.2.2.2.2.2.2.2, fun h => ⟨by omega, by omega, by omega, by omega, a5, a6, a7, fun j _ hj => (hk j (by omega) (by omega)).1, fun d hd => ?_, h⟩⟩
     obtain ⟨j, hj, e⟩ := (mem d).1 hd
     rw [← e]; exact (hk j (by omega) hj).2
   rw [ckC, if_neg a12]
   by_cases hs : someD dens
   · rw [if_pos (hv.2 hs), hb, decide_eq_true (hsome.1 hs)]; rfl
   · rw [if_neg (fun x => hs (hv.1 x)), hb, decide_eq_false (fun x => hs (hsome.2 x))]; rfl
theorem dPoint_eq (hl : -1000000000000000000 ≤ len ∧ len ≤ 1000000000000000000) {n d : Int} (hn : I64 n) (hd : I64 d) (K : Bool → Prop) :
   w_r02_Point len n d K = K (decide (PT len n d)) := by
 unfold w_r02_Point wv_r02_Point
 rw [sCheck_eq hn hd]
 by_cases h : RV n d
 · obtain ⟨q, e1, e2, e3⟩ := rv_rat h
   rw [chk, if_pos h, ceT rfl]
   by_cases h0 : n ≥ 0
   · rw [cbT h0, sOf_eq, ← e2, ← e3, sLess_eq (small_int hl) e1]
     congr 1
     have : ((len : Rat) < q) ↔ len * (q.den : Int) < q.num := int_lt_iff _ _
     by_cases h3 : (len : Rat) < q
     · have h4 := this.1 h3
       rw [decide_eq_true h3, decide_eq_false]; rfl
       intro hp; have := hp.2.2; omega
     · have h4 : ¬ _ := fun x => h3 (this.2 x)
       rw [decide_eq_false h3, decide_eq_true]; rfl
       exact ⟨e1.rv, by omega, by omega⟩
   · rw [cbF h0, decide_eq_false]
     intro hp; have := hp.2.1; omega
 · rw [chk, if_neg h, ceF (by decide), decide_eq_false]
   intro hp; exact h hp.1
end
end Go.Pf.Vc
namespace Go.Pf.Vc
open Go Go.Pf
section
variable {len : Int} {cuts dens : List Int}
theorem add_zero (q : Rat) : q + 0 = q := by grind
end
end Go.Pf.Vc
namespace Go.Pf.Vc
open Go Go.Pf
structure Ck where
 len : Int
 cuts : List Int
 dens : List Int
instance : Inhabited Ck := ⟨⟨0, [], []⟩⟩
def Ck.fin (c : Ck) : Prop := c.cuts.length < 4611686018427387904 ∧ c.dens.length < 4611686018427387904
def Ck.ok (c : Ck) : Prop := VC c.len c.cuts c.dens
instance (c : Ck) : Decidable c.ok := by unfold Ck.ok; infer_instance
theorem drop_cons {α : Type} {l : List α} {i : Nat} (d : α) (h : i < l.length) : l.drop i = l.getD i d :: l.drop (i + 1) := by
 rw [List.drop_eq_getElem_cons h, List.getD_eq_getElem?_getD, List.getElem?_eq_getElem h]; rfl
section
variable {l : List Ck}
def finC (l : List Ck) : Prop := ∀ i, i < l.length → (l.getD i default).fin
def Ck.low (c : Ck) : Prop := c.cuts.length ≤ 1000 ∧ c.dens.length ≤ 1000
def lowC (l : List Ck) : Prop := ∀ i, i < l.length → (l.getD i default).low
theorem asTT {c : Bool} {P : Prop} (h : c = true) : asr c P = P := by rw [h, asr_true]
end
end Go.Pf.Vc
namespace Go.Pf.Vc
open Go Go.Pf
section
variable {l : List Ck}
structure DK (l : List Ck) : Prop where
 n6 : l.length ≤ 6
 n0 : 1 ≤ l.length
 ok : ∀ i, i < l.length → (l.getD i default).ok
 len : ∀ i, i < l.length → (l.getD i default).len = (l.getD 0 default).len
theorem DK.low {l : List Ck} (h : DK l) : lowC l := fun i hi => by
 have h1 := (h.ok i hi).l1; have h2 := (h.ok i hi).l2
 exact ⟨by omega, by omega⟩
theorem DK.fin {l : List Ck} (h : DK l) : finC l := fun i hi => by
 have h1 := (h.ok i hi).l1; have h2 := (h.ok i hi).l2
 exact ⟨by omega, by omega⟩
def Ck.value (an ad bn bd : Int) (c : Ck) : Except Int Rat := valR c.len c.cuts c.dens an ad bn bd
end
end Go.Pf.Vc
namespace Go.Pf.Vc
open Go Go.Pf
section
variable {l : List Ck}
theorem valS_ne0 (cuts dens : List Int) (b : Rat) : ∀ (r i : Nat) (p v : Rat), valS cuts dens b r i p v ≠ .error 0 := by
 intro r
 induction r with
 | zero => intro i p v e; unfold valS at e; cases e
 | succ r ih =>
   intro i p v e
   unfold valS fit at e
   repeat' (first | split at e | dsimp only at e)
   all_goals first | exact ih _ _ _ e | cases e
theorem dGreat_eq {len : Int} {cuts dens : List Int} (K : Bool → Prop) : w_r02_Great len (ints cuts) (ints dens) K = K (decide (cuts.length > 60) || decide (dens.length > 60)) := by
 unfold w_r02_Great wv_r02_Great
 rw [ints_len, ints_len]
 by_cases h : cuts.length > 60
 · rw [cbT (by omega), decide_eq_true h]; rfl
 · rw [cbF (by omega), decide_eq_false h, Bool.false_or]
   congr 1; rw [decide_eq_decide]; omega
def shr (c : Ck) (n : Int) : Rat := (totC c.cuts c.dens : Rat) / (n : Rat)
theorem small_div {n d : Int} (hn : -1000000000000000000 ≤ n ∧ n ≤ 1000000000000000000) (hd : 1 ≤ d ∧ d ≤ 1000000000000000000) : small ((n : Rat) / (d : Rat)) := by
 have e : (n : Rat) / (d : Rat) = mkRat n d.toNat := by
   rw [Rat.mkRat_eq_div]
   have h1 : ((d.toNat : Nat) : Int) = d := by omega
   have h2 : ((d.toNat : Nat) : Rat) = (d : Rat) := by rw [← Rat.intCast_natCast, h1]
   rw [h2]
 rw [e]
 unfold small
 rw [Rat.num_mkRat, Rat.den_mkRat, if_neg (by omega), if_neg (by omega)]
 have g0 : 0 < d.toNat.gcd n.natAbs := Nat.gcd_pos_of_pos_left _ (by omega)
 have h1 : (n / (d.toNat.gcd n.natAbs : Nat)).natAbs ≤ n.natAbs := by
   rw [Int.natAbs_ediv_of_dvd, Int.natAbs_natCast]
   · exact Nat.div_le_self _ _
   · rw [← Int.dvd_natAbs, Int.ofNat_dvd]; exact Nat.gcd_dvd_right _ _
 have h2 : d.toNat / d.toNat.gcd n.natAbs ≤ d.toNat := Nat.div_le_self _ _
 generalize n / (d.toNat.gcd n.natAbs : Nat) = x at *
 generalize d.toNat / d.toNat.gcd n.natAbs = y at *
 omega
end
end Go.Pf.Vc
namespace Go.Pf.Vc
open Go Go.Pf
def Fr (D B : Int) (q : Rat) : Prop := ∃ n : Int, -B ≤ n ∧ n ≤ B ∧ q = (n : Rat) / (D : Rat)
theorem Fr.small {D B : Int} {q : Rat} (h : Fr D B q) (hD : 1 ≤ D ∧ D ≤ 1000000000000000000) (hB : B ≤ 1000000000000000000) : small q := by
 obtain ⟨n, h1, h2, rfl⟩ := h
 exact small_div ⟨by omega, by omega⟩ hD
theorem Fr.add {D B1 B2 : Int} {q r : Rat} (h : Fr D B1 q) (k : Fr D B2 r) : Fr D (B1 + B2) (q + r) := by
 obtain ⟨n, h1, h2, rfl⟩ := h
 obtain ⟨m, k1, k2, rfl⟩ := k
 exact ⟨n + m, by omega, by omega, by rw [Rat.intCast_add]; grind⟩
theorem Fr.sub {D B1 B2 : Int} {q r : Rat} (h : Fr D B1 q) (k : Fr D B2 r) : Fr D (B1 + B2) (q - r) := by
 obtain ⟨n, h1, h2, rfl⟩ := h
 obtain ⟨m, k1, k2, rfl⟩ := k
 exact ⟨n - m, by omega, by omega, by rw [Rat.intCast_sub]; grind⟩
theorem Fr.mono {D B1 B2 : Int} {q : Rat} (h : Fr D B1 q) (hb : B1 ≤ B2) : Fr D B2 q := by
 obtain ⟨n, h1, h2, e⟩ := h
 exact ⟨n, by omega, by omega, e⟩
section
variable {len : Int} {cuts dens : List Int}
def rem (cuts dens : List Int) : Nat → Nat → Int
 | 0, _ => 0
 | r + 1, i => dens.getD i 0 * (cuts.getD (i + 1) 0 - cuts.getD i 0) + rem cuts dens r (i + 1)
end
end Go.Pf.Vc
namespace Go.Pf.Vc
open Go Go.Pf
structure Qy where
 agent : Int
 kind : Int
 an : Int
 ad : Int
 bn : Int
 bd : Int
 cn : Int
 cd : Int
 deriving DecidableEq
instance : Inhabited Qy := ⟨⟨0, 0, 0, 0, 0, 0, 0, 0⟩⟩
structure Sp where
 a : Int
 b : Int
 c : Int
 d : Int
 deriving DecidableEq
instance : Inhabited Sp := ⟨⟨0, 0, 0, 0⟩⟩
def encS (s : Sp) : PV := .agg [.int .i64 s.a, .int .i64 s.b, .int .i64 s.c, .int .i64 s.d]
def spans (l : List Sp) : List PV := l.map encS
theorem spans_len (l : List Sp) : (spans l).length = l.length := List.length_map ..
theorem spans_at {l : List Sp} {i : Nat} (h : i < l.length) : List.getD (spans l) i .nils = encS (l.getD i default) := by
 unfold spans
 rw [List.getD_eq_getElem?_getD, List.getD_eq_getElem?_getD, List.getElem?_map, List.getElem?_eq_getElem h]
 rfl
theorem asS {s : Sp} {P : Prop} : asr (conf (.agg [.i .i64, .i .i64, .i .i64, .i .i64]) (encS s)) P = P := rfl
theorem cSame_loop {s : List Sp} (hl : s.length < 4611686018427387904) (K : Bool → Prop) :
   ∀ (r i n : Nat), i + r = s.length → r < n → L_r03_Same_0_0 (fun yb0 => (K yb0)) (fun _ _ _ _ => (K true)) n (spans s) (spans s) i = K true
 | 0, i, n + 1, hi, hn => by
   unfold L_r03_Same_0_0
   rw [spans_len, cbF (by omega)]
 | r + 1, i, n + 1, hi, hn => by
   unfold L_r03_Same_0_0
   have e1 := wib (n := (i : Int) + 1) (by omega) (by omega)
   rw [spans_len, cbT (by omega), Int.toNat_natCast, spans_at (by omega), asT (by omega), asT (by omega), asS, asT (by omega), asT (by omega), asS, e1, cast1]
   simp only [beq_self_eq_true, Bool.and_self, Bool.not_true, cbr_false]
   exact cSame_loop hl K r (i + 1) n (by omega) (by omega)
theorem cSame_self {s : List Sp} (hl : s.length < 4611686018427387904) (K : Bool → Prop) : w_r03_Same (spans s) (spans s) K = K true := by
 refine det_r03_Same _ _ _ (fun K k => ?_) K
 unfold w_r03_Same wv_r03_Same
 rw [cnF rfl]
 refine ⟨s.length + 1, ?_⟩
 exact (cSame_loop hl K s.length 0 (s.length + 1) (by omega) (by omega)).mpr k
end Go.Pf.Vc
namespace Go.Pf.Vc
open Go Go.Pf
section
variable {l : List Ck}
theorem cmpQ_ge (x y : Rat) : decide (cmpQ x y ≥ 0) = !decide (x < y) := by
 unfold cmpQ
 by_cases h : x < y
 · simp [h]
 · by_cases h2 : y < x <;> simp [h, h2]
end
end Go.Pf.Vc
namespace Go.Pf.Vc
open Go Go.Pf
def dsR : DS := .a [.i .i64, .i .i64]
def dsC : DS := .a [.i .i64, .s (.i .i64), .s (.i .i64)]
theorem inK_i64 {n : Int} (h : inK .i64 n) : I64 n := by
 have e1 : IntKind.i64.min = -9223372036854775808 := by decide
 have e2 : IntKind.i64.max = 9223372036854775807 := by decide
 unfold inK at h
 rw [e1, e2] at h
 exact h
theorem F_i {c : List PV} (h : HasF (.i .i64) c) : ∃ n, c = [.int .i64 n] ∧ I64 n := by
 simp only [HasF] at h
 obtain ⟨n, e, k⟩ := h
 exact ⟨n, e, inK_i64 k⟩
theorem ints_of : ∀ (rows : List PV), (∀ x ∈ rows, x.isAgg = (DS.i .i64).isA ∧ HasF (.i .i64) x.cells) → ∃ l : List Int, rows = ints l ∧ ∀ n ∈ l, I64 n
 | [], _ => ⟨[], rfl, by simp⟩
 | x :: r, h => by
   obtain ⟨l, e, hl⟩ := ints_of r (fun y hy => h y (List.mem_cons_of_mem _ hy))
   obtain ⟨h1, h2⟩ := h x (List.mem_cons_self ..)
   obtain ⟨n, e2, hn⟩ := F_i h2
   have ex : x = .int .i64 n := by
     cases x <;> first | (simp only [PV.cells, List.cons.injEq, and_true] at e2; exact e2) | (cases h1)
   refine ⟨n :: l, by rw [ex, e]; rfl, ?_⟩
   intro m hm
   rcases List.mem_cons.1 hm with rfl | hm
   · exact hn
   · exact hl m hm
def Ck.i64 (c : Ck) : Prop := I64 c.len ∧ (∀ n ∈ c.cuts, I64 n) ∧ ∀ n ∈ c.dens, I64 n
theorem F_c {c : List PV} (h : HasF dsC c) : ∃ k : Ck, c = [.int .i64 k.len, .data (ints k.cuts), .data (ints k.dens)] ∧ k.i64 ∧ k.cuts.length ≤ 9223372036854775807 ∧ k.dens.length ≤ 9223372036854775807 := by
 simp only [dsC, HasF, HasL] at h
 obtain ⟨c1, c2, rfl, ⟨n, rfl, hn⟩, c3, c4, rfl, ⟨r1, rfl, l1, h1⟩, c5, c6, rfl, ⟨r2, rfl, l2, h2⟩, rfl⟩ := h
 obtain ⟨a, rfl, ha⟩ := ints_of r1 (fun x hx => ⟨(h1 x hx).1, by simp only [HasF]; exact (h1 x hx).2⟩)
 obtain ⟨b, rfl, hb⟩ := ints_of r2 (fun x hx => ⟨(h2 x hx).1, by simp only [HasF]; exact (h2 x hx).2⟩)
 rw [ints_len] at l1 l2
 exact ⟨⟨n, a, b⟩, rfl, ⟨inK_i64 hn, ha, hb⟩, l1, l2⟩
theorem agg_of {x : PV} {l : List DS} (h : x.isAgg = (DS.a l).isA) : x = .agg x.cells := by
 cases x <;> first | rfl | cases h
theorem single_of {x y : PV} (h : x.isAgg = false) (e : x.cells = [y]) : x = y := by
 cases x <;> first | (simp only [PV.cells, List.cons.injEq, and_true] at e; exact e) | cases h
end Go.Pf.Vc
namespace Go.Pf.Vc
abbrev RS : Type := Rat × Rat
def inS (s : RS) (p : Rat) : Prop := s.1 ≤ p ∧ p < s.2
def memP (l : List RS) (p : Rat) : Prop := ∃ s ∈ l, inS s p
def canon : List RS → Prop
 | [] => True
 | s :: r => s.1 < s.2 ∧ (∀ t ∈ r, s.2 < t.1) ∧ canon r
theorem memP_nil {p : Rat} : ¬ memP [] p := fun ⟨s, h, _⟩ => by cases h
theorem memP_cons {s : RS} {r : List RS} {p : Rat} : memP (s :: r) p ↔ inS s p ∨ memP r p := by
 constructor
 · rintro ⟨t, h, hp⟩
   rcases List.mem_cons.1 h with rfl | h
   · exact .inl hp
   · exact .inr ⟨t, h, hp⟩
 · rintro (h | ⟨t, h, hp⟩)
   · exact ⟨s, List.mem_cons_self, h⟩
   · exact ⟨t, List.mem_cons_of_mem _ h, hp⟩
theorem canon_low {s : RS} {r : List RS} (h : canon (s :: r)) {p : Rat} (hp : memP (s :: r) p) : s.1 ≤ p := by
 obtain ⟨h1, h2, _⟩ := h
 rcases memP_cons.1 hp with h | ⟨t, h, hp, _⟩
 · exact h.1
 · have := h2 t h
   grind
theorem canon_tail {s : RS} {r : List RS} (h : canon (s :: r)) {p : Rat} (hp : memP r p) : s.2 < p := by
 obtain ⟨t, ht, h1, _⟩ := hp
 have := h.2.1 t ht
 grind
theorem canon_self {s : RS} {r : List RS} (h : canon (s :: r)) : memP (s :: r) s.1 := memP_cons.2 (.inl ⟨Rat.le_refl, h.1⟩)
theorem canon_unique : ∀ (a b : List RS), canon a → canon b → (∀ p, memP a p ↔ memP b p) → a = b
 | [], [], _, _, _ => rfl
 | [], t :: b, _, hb, h => (memP_nil ((h t.1).2 (canon_self hb))).elim
 | s :: a, [], ha, _, h => (memP_nil ((h s.1).1 (canon_self ha))).elim
 | s :: a, t :: b, ha, hb, h => by
   have e1 : s.1 = t.1 := by
     have h1 := canon_low hb ((h s.1).1 (canon_self ha))
     have h2 := canon_low ha ((h t.1).2 (canon_self hb))
     grind
   have key : ∀ (s t : RS) (a b : List RS), canon (s :: a) → canon (t :: b) → s.1 = t.1 → (∀ p, memP (s :: a) p ↔ memP (t :: b) p) → ¬ s.2 < t.2 := by
     intro s t a b ha hb e h hlt
     have h1 := (h s.2).2 (memP_cons.2 (.inl ⟨by have := ha.1; grind, hlt⟩))
     rcases memP_cons.1 h1 with h2 | h2
     · have := h2.2; grind
     · have := canon_tail ha h2; grind
   have e2 : s.2 = t.2 := by
     have h1 := key s t a b ha hb e1 h
     have h2 := key t s b a hb ha e1.symm fun p => (h p).symm
     grind
   have e : s = t := Prod.ext e1 e2
   subst e
   have hab : a = b := by
     refine canon_unique a b ha.2.2 hb.2.2 fun p => ⟨fun hp => ?_, fun hp => ?_⟩
     · have h1 := canon_tail ha hp
       rcases memP_cons.1 ((h p).1 (memP_cons.2 (.inr hp))) with h2 | h2
       · have := h2.2; grind
       · exact h2
     · have h1 := canon_tail hb hp
       rcases memP_cons.1 ((h p).2 (memP_cons.2 (.inr hp))) with h2 | h2
       · have := h2.2; grind
       · exact h2
   rw [hab]
end Go.Pf.Vc
namespace Go.Pf.Vc
def maxR (a b : Rat) : Rat := if a < b then b else a
def mrg : List RS → RS → List RS
 | [], c => [c]
 | s :: r, c => if c.2 < s.1 then c :: mrg r s else mrg r (c.1, maxR c.2 s.2)
def mergeS : List RS → List RS
 | [] => []
 | s :: r => mrg r s
def byFrom : List RS → Prop
 | [] => True
 | s :: r => (∀ t ∈ r, s.1 ≤ t.1) ∧ byFrom r
theorem mrg_ok : ∀ (r : List RS) (c : RS), c.1 < c.2 → (∀ s ∈ r, s.1 < s.2) → (∀ s ∈ r, c.1 ≤ s.1) → byFrom r → canon (mrg r c) ∧ (∀ t ∈ mrg r c, c.1 ≤ t.1) ∧ ∀ p, memP (mrg r c) p ↔ memP (c :: r) p
 | [], c, hc, _, _, _ => by
   unfold mrg
   refine ⟨⟨hc, by simp, trivial⟩, fun t h => ?_, fun p => Iff.rfl⟩
   rw [List.mem_singleton] at h
   rw [h]; exact Rat.le_refl
 | s :: r, c, hc, hv, hl, hs => by
   unfold mrg
   have hsv := hv s List.mem_cons_self
   have hsl := hl s List.mem_cons_self
   by_cases h : c.2 < s.1
   · rw [if_pos h]
     obtain ⟨i1, i2, i3⟩ := mrg_ok r s hsv (fun t ht => hv t (List.mem_cons_of_mem _ ht)) hs.1 hs.2
     refine ⟨⟨hc, fun t ht => by have := i2 t ht; grind, i1⟩, fun t ht => ?_, fun p => ?_⟩
     · rcases List.mem_cons.1 ht with rfl | ht
       · exact Rat.le_refl
       · have := i2 t ht; grind
     · rw [memP_cons, i3 p, memP_cons, memP_cons, memP_cons]
   · rw [if_neg h]
     have hm : c.2 ≤ maxR c.2 s.2 ∧ s.2 ≤ maxR c.2 s.2 ∧ (maxR c.2 s.2 = c.2 ∨ maxR c.2 s.2 = s.2) := by unfold maxR; split <;> grind
     obtain ⟨i1, i2, i3⟩ := mrg_ok r (c.1, maxR c.2 s.2) (by show c.1 < maxR c.2 s.2; grind) (fun t ht => hv t (List.mem_cons_of_mem _ ht)) (fun t ht => hl t (List.mem_cons_of_mem _ ht)) hs.2
     refine ⟨i1, i2, fun p => ?_⟩
     rw [i3 p, memP_cons, memP_cons, memP_cons]
     have hin : inS (c.1, maxR c.2 s.2) p ↔ inS c p ∨ inS s p := by
       unfold inS
       constructor
       · rintro ⟨h1, h2⟩
         have h2 : p < maxR c.2 s.2 := h2
         have h1 : c.1 ≤ p := h1
         by_cases h3 : p < c.2
         · exact .inl ⟨h1, h3⟩
         · exact .inr ⟨by grind, by grind⟩
       · rintro (⟨h1, h2⟩ | ⟨h1, h2⟩)
         · exact ⟨h1, by show p < maxR c.2 s.2; grind⟩
         · exact ⟨by show c.1 ≤ p; grind, by show p < maxR c.2 s.2; grind⟩
     rw [hin, or_assoc]
theorem mergeS_ok {l : List RS} (hv : ∀ s ∈ l, s.1 < s.2) (hs : byFrom l) : canon (mergeS l) ∧ ∀ p, memP (mergeS l) p ↔ memP l p := by
 cases l with
 | nil => exact ⟨trivial, fun p => Iff.rfl⟩
 | cons s r =>
   obtain ⟨i1, _, i3⟩ := mrg_ok r s (hv s List.mem_cons_self) (fun t ht => hv t (List.mem_cons_of_mem _ ht)) hs.1 hs.2
   exact ⟨i1, i3⟩
end Go.Pf.Vc
namespace Go.Pf.Vc
def incrR : List Rat → Prop
 | [] => True
 | x :: r => (∀ y ∈ r, x < y) ∧ incrR r
def jn (f : Rat → Bool) : List Rat → Option RS → List RS
 | x :: y :: r, none => if f x then jn f (y :: r) (some (x, y)) else jn f (y :: r) none
 | x :: y :: r, some c => if f x then (if c.2 = x then jn f (y :: r) (some (c.1, y)) else c :: jn f (y :: r) (some (x, y))) else jn f (y :: r) (some c)
 | _, none => []
 | _, some c => [c]
def segP (f : Rat → Bool) : List Rat → Rat → Prop
 | x :: y :: r, p => (f x = true ∧ x ≤ p ∧ p < y) ∨ segP f (y :: r) p
 | _, _ => False
def curP : Option RS → Rat → Prop
 | none, _ => False
 | some c, p => inS c p
def curOk (pts : List Rat) : Option RS → Prop
 | none => True
 | some c => c.1 < c.2 ∧ ∀ x ∈ pts, c.2 ≤ x
def lowOk (pts : List Rat) : Option RS → Rat → Prop
 | none, q => ∃ x ∈ pts, x ≤ q
 | some c, q => c.1 ≤ q
theorem jn_ok (f : Rat → Bool) : ∀ (pts : List Rat) (cur : Option RS), incrR pts → curOk pts cur →
   canon (jn f pts cur) ∧ (∀ t ∈ jn f pts cur, lowOk pts cur t.1) ∧ ∀ p, memP (jn f pts cur) p ↔ (curP cur p ∨ segP f pts p)
 | [], none, _, _ => by
   unfold jn
   refine ⟨trivial, fun t h => (by cases h), fun p => ?_⟩
   simp only [curP, segP]
   exact ⟨fun h => (memP_nil h).elim, fun h => h.elim (fun h => h.elim) (fun h => h.elim)⟩
 | [], some c, _, hc => by
   unfold jn
   refine ⟨⟨hc.1, by simp, trivial⟩, fun t h => ?_, fun p => ?_⟩
   · rw [List.mem_singleton] at h; rw [h]; exact Rat.le_refl
   · rw [memP_cons]
     simp only [curP, segP]
     exact ⟨fun h => h.elim .inl (fun h => (memP_nil h).elim), fun h => h.elim .inl (fun h => h.elim)⟩
 | [x], none, _, _ => by
   unfold jn
   refine ⟨trivial, fun t h => (by cases h), fun p => ?_⟩
   simp only [curP, segP]
   exact ⟨fun h => (memP_nil h).elim, fun h => h.elim (fun h => h.elim) (fun h => h.elim)⟩
 | [x], some c, _, hc => by
   unfold jn
   refine ⟨⟨hc.1, by simp, trivial⟩, fun t h => ?_, fun p => ?_⟩
   · rw [List.mem_singleton] at h; rw [h]; exact Rat.le_refl
   · rw [memP_cons]
     simp only [curP, segP]
     exact ⟨fun h => h.elim .inl (fun h => (memP_nil h).elim), fun h => h.elim .inl (fun h => h.elim)⟩
 | x :: y :: r, none, hi, _ => by
   have hxy := hi.1 y List.mem_cons_self
   unfold jn
   cases hf : f x with
   | true =>
     rw [if_pos rfl]
     obtain ⟨i1, i2, i3⟩ := jn_ok f (y :: r) (some (x, y)) hi.2 ⟨hxy, fun z hz => by
       rcases List.mem_cons.1 hz with rfl | hz
       · exact Rat.le_refl
       · have := hi.2.1 z hz; show y ≤ z; grind⟩
     refine ⟨i1, fun t ht => ⟨x, List.mem_cons_self, i2 t ht⟩, fun p => ?_⟩
     rw [i3 p]
     simp only [curP, segP, inS, hf, true_and, false_or]
   | false =>
     rw [if_neg (by decide)]
     obtain ⟨i1, i2, i3⟩ := jn_ok f (y :: r) none hi.2 trivial
     refine ⟨i1, fun t ht => ?_, fun p => ?_⟩
     · obtain ⟨z, hz, hzt⟩ := i2 t ht
       exact ⟨z, List.mem_cons_of_mem _ hz, hzt⟩
     · rw [i3 p]
       simp [curP, segP, hf]
 | x :: y :: r, some c, hi, hc => by
   have hxy := hi.1 y List.mem_cons_self
   have hcx := hc.2 x List.mem_cons_self
   have hyr : ∀ z ∈ y :: r, y ≤ z := fun z hz => by
     rcases List.mem_cons.1 hz with rfl | hz
     · exact Rat.le_refl
     · have := hi.2.1 z hz; grind
   unfold jn
   cases hf : f x with
   | true =>
     rw [if_pos rfl]
     by_cases he : c.2 = x
     · rw [if_pos he]
       obtain ⟨i1, i2, i3⟩ := jn_ok f (y :: r) (some (c.1, y)) hi.2 ⟨by have := hc.1; show c.1 < y; grind, hyr⟩
       refine ⟨i1, i2, fun p => ?_⟩
       rw [i3 p]
       simp only [curP, segP, inS, hf, true_and]
       have := hc.1
       constructor
       · rintro (⟨h1, h2⟩ | h)
         · by_cases h3 : p < c.2
           · exact .inl ⟨h1, h3⟩
           · exact .inr (.inl ⟨by grind, h2⟩)
         · exact .inr (.inr h)
       · rintro (⟨h1, h2⟩ | ⟨h1, h2⟩ | h)
         · exact .inl ⟨h1, by grind⟩
         · exact .inl ⟨by grind, h2⟩
         · exact .inr h
     · rw [if_neg he]
       obtain ⟨i1, i2, i3⟩ := jn_ok f (y :: r) (some (x, y)) hi.2 ⟨hxy, hyr⟩
       refine ⟨⟨hc.1, fun t ht => ?_, i1⟩, fun t ht => ?_, fun p => ?_⟩
       · have : x ≤ t.1 := i2 t ht
         grind
       · rcases List.mem_cons.1 ht with rfl | ht
         · exact Rat.le_refl
         · have : x ≤ t.1 := i2 t ht
           have := hc.1
           show c.1 ≤ t.1
           grind
       · rw [memP_cons, i3 p]
         simp only [curP, segP, inS, hf, true_and]
   | false =>
     rw [if_neg (by decide)]
     obtain ⟨i1, i2, i3⟩ := jn_ok f (y :: r) (some c) hi.2 ⟨hc.1, fun z hz => by have := hyr z hz; grind⟩
     refine ⟨i1, i2, fun p => ?_⟩
     rw [i3 p]
     simp [curP, segP, hf]
end Go.Pf.Vc
namespace Go.Pf.Vc
def minR (a b : Rat) : Rat := if a < b then a else b
theorem maxR_is (a b : Rat) : a ≤ maxR a b ∧ b ≤ maxR a b ∧ (maxR a b = a ∨ maxR a b = b) := by unfold maxR; split <;> grind
theorem minR_is (a b : Rat) : minR a b ≤ a ∧ minR a b ≤ b ∧ (minR a b = a ∨ minR a b = b) := by unfold minR; split <;> grind
def meetS : List RS → List RS → List RS
 | s :: a, t :: b =>
   (if maxR s.1 t.1 < minR s.2 t.2 then [(maxR s.1 t.1, minR s.2 t.2)] else []) ++ (if s.2 ≤ t.2 then meetS a (t :: b) else meetS (s :: a) b)
 | _, _ => []
termination_by a b => a.length + b.length
def lowS : List RS → Rat → Prop
 | [], _ => False
 | s :: _, q => s.1 ≤ q
theorem canon_app {h : Rat} : ∀ {a b : List RS}, canon a → canon b → (∀ u ∈ a, u.2 ≤ h) → (∀ v ∈ b, h < v.1) → canon (a ++ b)
 | [], _, _, hb, _, _ => hb
 | s :: a, b, ha, hb, h1, h2 => by
   refine ⟨ha.1, fun t ht => ?_, canon_app ha.2.2 hb (fun u hu => h1 u (List.mem_cons_of_mem _ hu)) h2⟩
   rcases List.mem_append.1 ht with ht | ht
   · exact ha.2.1 t ht
   · have := h1 s List.mem_cons_self
     have := h2 t ht
     grind
theorem memP_app {a b : List RS} {p : Rat} : memP (a ++ b) p ↔ memP a p ∨ memP b p := by
 constructor
 · rintro ⟨s, h, hp⟩
   rcases List.mem_append.1 h with h | h
   · exact .inl ⟨s, h, hp⟩
   · exact .inr ⟨s, h, hp⟩
 · rintro (⟨s, h, hp⟩ | ⟨s, h, hp⟩)
   · exact ⟨s, List.mem_append_left _ h, hp⟩
   · exact ⟨s, List.mem_append_right _ h, hp⟩
theorem memP_if {c : Prop} [Decidable c] {s : RS} {p : Rat} : memP (if c then [s] else []) p ↔ (c ∧ inS s p) := by
 by_cases h : c
 · rw [if_pos h, memP_cons]
   exact ⟨fun k => k.elim (fun k => ⟨h, k⟩) (fun k => (memP_nil k).elim), fun k => .inl k.2⟩
 · rw [if_neg h]
   exact ⟨fun k => (memP_nil k).elim, fun k => (h k.1).elim⟩
def min1 (hi : Rat) : Rat → List RS → List RS
 | x, [] => if x < hi then [(x, hi)] else []
 | x, t :: b => if t.2 ≤ x ∨ hi ≤ t.1 then min1 hi x b else (if x < t.1 then [(x, t.1)] else []) ++ min1 hi t.2 b
def minusS (a b : List RS) : List RS := a.flatMap fun s => min1 s.2 s.1 b
theorem min1_ok (hi : Rat) : ∀ (b : List RS) (x : Rat), canon b → canon (min1 hi x b) ∧ (∀ u ∈ min1 hi x b, x ≤ u.1 ∧ u.2 ≤ hi) ∧ ∀ p, memP (min1 hi x b) p ↔ (x ≤ p ∧ p < hi ∧ ¬ memP b p)
 | [], x, _ => by
   unfold min1
   by_cases h : x < hi
   · rw [if_pos h]
     refine ⟨⟨h, by simp, trivial⟩, fun u hu => ?_, fun p => ?_⟩
     · rw [List.mem_singleton] at hu
       rw [hu]
       exact ⟨Rat.le_refl, Rat.le_refl⟩
     · rw [memP_cons]
       exact ⟨fun k => k.elim (fun k => ⟨k.1, k.2, memP_nil⟩) (fun k => (memP_nil k).elim), fun k => .inl ⟨k.1, k.2.1⟩⟩
   · rw [if_neg h]
     refine ⟨trivial, by simp, fun p => ⟨fun k => (memP_nil k).elim, fun k => ?_⟩⟩
     have := k.1; have := k.2.1
     grind
 | t :: b, x, hb => by
   unfold min1
   by_cases h : t.2 ≤ x ∨ hi ≤ t.1
   · rw [if_pos h]
     obtain ⟨i1, i2, i3⟩ := min1_ok hi b x hb.2.2
     refine ⟨i1, i2, fun p => ?_⟩
     rw [i3 p, memP_cons]
     constructor
     · rintro ⟨h1, h2, h3⟩
       refine ⟨h1, h2, fun k => k.elim (fun k => ?_) h3⟩
       have := k.1; have := k.2
       grind
     · rintro ⟨h1, h2, h3⟩
       exact ⟨h1, h2, fun k => h3 (.inr k)⟩
   · rw [if_neg h]
     have g1 : x < t.2 := by grind
     have g2 : t.1 < hi := by grind
     obtain ⟨i1, i2, i3⟩ := min1_ok hi b t.2 hb.2.2
     have ht := hb.1
     refine ⟨?_, fun u hu => ?_, fun p => ?_⟩
     · refine canon_app (h := t.1) ?_ i1 ?_ ?_
       · by_cases hx : x < t.1
         · rw [if_pos hx]; exact ⟨hx, by simp, trivial⟩
         · rw [if_neg hx]; trivial
       · intro u hu
         by_cases hx : x < t.1
         · rw [if_pos hx, List.mem_singleton] at hu
           rw [hu]; exact Rat.le_refl
         · rw [if_neg hx] at hu; cases hu
       · intro v hv
         have := (i2 v hv).1
         grind
     · rcases List.mem_append.1 hu with hu | hu
       · by_cases hx : x < t.1
         · rw [if_pos hx, List.mem_singleton] at hu
           rw [hu]; exact ⟨Rat.le_refl, by show t.1 ≤ hi; grind⟩
         · rw [if_neg hx] at hu; cases hu
       · have := i2 u hu
         exact ⟨by grind, this.2⟩
     · rw [memP_app, memP_if, i3 p, memP_cons]
       unfold inS
       constructor
       · rintro (⟨h1, h2, h3⟩ | ⟨h1, h2, h3⟩)
         · have h3 : p < t.1 := h3
           have h2 : x ≤ p := h2
           refine ⟨h2, by grind, fun k => k.elim (fun k => by have := k.1; grind) (fun k => ?_)⟩
           have := canon_tail hb k
           grind
         · exact ⟨by grind, h2, fun k => k.elim (fun k => by have := k.2; grind) h3⟩
       · rintro ⟨h1, h2, h3⟩
         by_cases hp : p < t.1
         · exact .inl ⟨by grind, h1, hp⟩
         · refine .inr ⟨?_, h2, fun k => h3 (.inr k)⟩
           by_cases hq : p < t.2
           · exact (h3 (.inl ⟨by grind, hq⟩)).elim
           · grind
theorem minusS_ok {b : List RS} (hb : canon b) : ∀ {a : List RS}, canon a → canon (minusS a b) ∧ (∀ u ∈ minusS a b, lowS a u.1) ∧ ∀ p, memP (minusS a b) p ↔ (memP a p ∧ ¬ memP b p)
 | [], _ => ⟨trivial, by simp [minusS], fun p => ⟨fun k => (memP_nil k).elim, fun k => (memP_nil k.1).elim⟩⟩
 | s :: a, ha => by
   obtain ⟨i1, i2, i3⟩ := minusS_ok hb ha.2.2
   obtain ⟨m1, m2, m3⟩ := min1_ok s.2 b s.1 hb
   have e : minusS (s :: a) b = min1 s.2 s.1 b ++ minusS a b := by unfold minusS; rw [List.flatMap_cons]
   have hlow : ∀ v ∈ minusS a b, s.2 < v.1 := by
     intro v hv
     have := i2 v hv
     cases a with
     | nil => exact this.elim
     | cons s2 a2 =>
       have h2 := ha.2.1 s2 List.mem_cons_self
       have h3 : s2.1 ≤ v.1 := this
       grind
   rw [e]
   refine ⟨canon_app m1 i1 (fun u hu => (m2 u hu).2) hlow, fun u hu => ?_, fun p => ?_⟩
   · rcases List.mem_append.1 hu with hu | hu
     · exact (m2 u hu).1
     · have := hlow u hu
       have := ha.1
       show s.1 ≤ u.1
       grind
   · rw [memP_app, m3 p, i3 p, memP_cons]
     unfold inS
     constructor
     · rintro (⟨h1, h2, h3⟩ | ⟨h1, h2⟩)
       · exact ⟨.inl ⟨h1, h2⟩, h3⟩
       · exact ⟨.inr h1, h2⟩
     · rintro ⟨h1 | h1, h2⟩
       · exact .inl ⟨h1.1, h1.2, h2⟩
       · exact .inr ⟨h1, h2⟩
end Go.Pf.Vc
namespace Go.Pf.Vc
theorem meetS_ok : ∀ (n : Nat) (a b : List RS), a.length + b.length ≤ n → canon a → canon b → canon (meetS a b) ∧ (∀ u ∈ meetS a b, lowS a u.1 ∧ lowS b u.1) ∧ ∀ p, memP (meetS a b) p ↔ (memP a p ∧ memP b p)
 | _, [], b, _, _, _ => by
   unfold meetS
   exact ⟨trivial, by simp, fun p => ⟨fun k => (memP_nil k).elim, fun k => (memP_nil k.1).elim⟩⟩
 | _, s :: a, [], _, _, _ => by
   unfold meetS
   exact ⟨trivial, by simp, fun p => ⟨fun k => (memP_nil k).elim, fun k => (memP_nil k.2).elim⟩⟩
 | 0, s :: a, t :: b, h, _, _ => by simp at h
 | n + 1, s :: a, t :: b, hn, ha, hb => by
   rw [List.length_cons, List.length_cons] at hn
   obtain ⟨x1, x2, x3⟩ := maxR_is s.1 t.1
   obtain ⟨y1, y2, y3⟩ := minR_is s.2 t.2
   have hs := ha.1
   have ht := hb.1
   unfold meetS
   have hin : ∀ p, (maxR s.1 t.1 < minR s.2 t.2 ∧ inS (maxR s.1 t.1, minR s.2 t.2) p) ↔ (inS s p ∧ inS t p) := by
     intro p
     unfold inS
     constructor
     · rintro ⟨_, h1, h2⟩
       have h1 : maxR s.1 t.1 ≤ p := h1
       have h2 : p < minR s.2 t.2 := h2
       exact ⟨⟨by grind, by grind⟩, ⟨by grind, by grind⟩⟩
     · rintro ⟨⟨h1, h2⟩, ⟨h3, h4⟩⟩
       have k1 : maxR s.1 t.1 ≤ p := by rcases x3 with e | e <;> rw [e] <;> assumption
       have k2 : p < minR s.2 t.2 := by rcases y3 with e | e <;> rw [e] <;> assumption
       exact ⟨by grind, k1, k2⟩
   have hfst : canon (if maxR s.1 t.1 < minR s.2 t.2 then [(maxR s.1 t.1, minR s.2 t.2)] else []) := by
     by_cases h : maxR s.1 t.1 < minR s.2 t.2
     · rw [if_pos h]; exact ⟨h, by simp, trivial⟩
     · rw [if_neg h]; trivial
   have hfm : ∀ u ∈ (if maxR s.1 t.1 < minR s.2 t.2 then [(maxR s.1 t.1, minR s.2 t.2)] else [] : List RS), u.1 = maxR s.1 t.1 ∧ u.2 = minR s.2 t.2 := by
     intro u hu
     by_cases h : maxR s.1 t.1 < minR s.2 t.2
     · rw [if_pos h, List.mem_singleton] at hu; rw [hu]; exact ⟨rfl, rfl⟩
     · rw [if_neg h] at hu; cases hu
   by_cases hle : s.2 ≤ t.2
   · rw [if_pos hle]
     obtain ⟨i1, i2, i3⟩ := meetS_ok n a (t :: b) (by rw [List.length_cons]; omega) ha.2.2 hb
     have hlow : ∀ v ∈ meetS a (t :: b), s.2 < v.1 := by
       intro v hv
       obtain ⟨h1, _⟩ := i2 v hv
       cases a with
       | nil => exact h1.elim
       | cons s2 a2 =>
         have h2 := ha.2.1 s2 List.mem_cons_self
         have h3 : s2.1 ≤ v.1 := h1
         grind
     refine ⟨canon_app (h := s.2) hfst i1 (fun u hu => by have := (hfm u hu).2; grind) hlow, fun u hu => ?_, fun p => ?_⟩
     · rcases List.mem_append.1 hu with hu | hu
       · have := (hfm u hu).1
         exact ⟨by show s.1 ≤ u.1; grind, by show t.1 ≤ u.1; grind⟩
       · have h1 := hlow u hu
         have h2 : t.1 ≤ u.1 := (i2 u hu).2
         exact ⟨by show s.1 ≤ u.1; grind, h2⟩
     · rw [memP_app, memP_if, hin p, i3 p, memP_cons, memP_cons]
       constructor
       · rintro (⟨h1, h2⟩ | ⟨h1, h2⟩)
         · exact ⟨.inl h1, .inl h2⟩
         · exact ⟨.inr h1, h2⟩
       · rintro ⟨h1 | h1, h2⟩
         · rcases h2 with h2 | h2
           · exact .inl ⟨h1, h2⟩
           · have := canon_tail hb h2
             have := h1.2
             grind
         · exact .inr ⟨h1, h2⟩
   · rw [if_neg hle]
     obtain ⟨i1, i2, i3⟩ := meetS_ok n (s :: a) b (by rw [List.length_cons]; omega) ha hb.2.2
     have hlow : ∀ v ∈ meetS (s :: a) b, t.2 < v.1 := by
       intro v hv
       obtain ⟨_, h1⟩ := i2 v hv
       cases b with
       | nil => exact h1.elim
       | cons s2 a2 =>
         have h2 := hb.2.1 s2 List.mem_cons_self
         have h3 : s2.1 ≤ v.1 := h1
         grind
     refine ⟨canon_app (h := t.2) hfst i1 (fun u hu => by have := (hfm u hu).2; grind) hlow, fun u hu => ?_, fun p => ?_⟩
     · rcases List.mem_append.1 hu with hu | hu
       · have := (hfm u hu).1
         exact ⟨by show s.1 ≤ u.1; grind, by show t.1 ≤ u.1; grind⟩
       · have h1 := hlow u hu
         have h2 : s.1 ≤ u.1 := (i2 u hu).1
         exact ⟨h2, by show t.1 ≤ u.1; grind⟩
     · rw [memP_app, memP_if, hin p, i3 p, memP_cons, memP_cons]
       constructor
       · rintro (⟨h1, h2⟩ | ⟨h1, h2⟩)
         · exact ⟨.inl h1, .inl h2⟩
         · exact ⟨h1, .inr h2⟩
       · rintro ⟨h1, h2 | h2⟩
         · rcases h1 with h1 | h1
           · exact .inl ⟨h1, h2⟩
           · have := canon_tail ha h1
             have := h2.2
             grind
         · exact .inr ⟨h1, h2⟩
end Go.Pf.Vc
namespace Go.Pf.Vc
def gapOk (full : List Rat) : List Rat → Prop
 | x :: y :: r => (∀ z ∈ full, z ≤ x ∨ y ≤ z) ∧ gapOk full (y :: r)
 | _ => True
theorem gap_of (full : List Rat) : ∀ (pts : List Rat), incrR pts → (∀ z ∈ full, z ∈ pts ∨ ∀ w ∈ pts, z < w) → gapOk full pts
 | [], _, _ => trivial
 | [_], _, _ => trivial
 | x :: y :: r, hi, h => by
   refine ⟨fun z hz => ?_, gap_of full (y :: r) hi.2 fun z hz => ?_⟩
   · rcases h z hz with k | k
     · rcases List.mem_cons.1 k with rfl | k
       · exact .inl Rat.le_refl
       · rcases List.mem_cons.1 k with rfl | k
         · exact .inr Rat.le_refl
         · have := hi.2.1 z k
           exact .inr (by grind)
     · have := k x List.mem_cons_self
       exact .inl (by grind)
   · rcases h z hz with k | k
     · rcases List.mem_cons.1 k with rfl | k
       · exact .inr fun w hw => hi.1 w hw
       · exact .inl k
     · exact .inr fun w hw => k w (List.mem_cons_of_mem _ hw)
def endsIn (pts : List Rat) (a : List RS) : Prop := ∀ s ∈ a, s.1 ∈ pts ∧ s.2 ∈ pts
theorem mem_const {full : List Rat} {a : List RS} (h : endsIn full a) {x y p : Rat} (hg : ∀ z ∈ full, z ≤ x ∨ y ≤ z) (h1 : x ≤ p) (h2 : p < y) : memP a p ↔ memP a x := by
 constructor
 · rintro ⟨s, hs, k1, k2⟩
   obtain ⟨e1, e2⟩ := h s hs
   have := hg _ e1
   exact ⟨s, hs, by grind, by grind⟩
 · rintro ⟨s, hs, k1, k2⟩
   obtain ⟨e1, e2⟩ := h s hs
   have := hg _ e2
   exact ⟨s, hs, by grind, by grind⟩
def inHull (pts : List Rat) (p : Rat) : Prop := (∃ x ∈ pts, x ≤ p) ∧ ∃ y ∈ pts, p < y
theorem hull_of {pts : List Rat} {a : List RS} (h : endsIn pts a) {p : Rat} (hp : memP a p) : inHull pts p := by
 obtain ⟨s, hs, k1, k2⟩ := hp
 obtain ⟨e1, e2⟩ := h s hs
 exact ⟨⟨_, e1, k1⟩, ⟨_, e2, k2⟩⟩
theorem seg_iff {full : List Rat} {f : Rat → Bool} {P : Rat → Prop} (hc : ∀ x y p, (∀ z ∈ full, z ≤ x ∨ y ≤ z) → x ≤ p → p < y → (P p ↔ P x)) : ∀ (pts : List Rat), incrR pts → gapOk full pts → (∀ x ∈ pts, f x = true ↔ P x) → ∀ p, segP f pts p ↔ (P p ∧ inHull pts p)
 | [], _, _, _, p => by
   simp only [segP]
   exact ⟨fun h => h.elim, fun h => by obtain ⟨x, hx, _⟩ := h.2.1; cases hx⟩
 | [x], _, _, _, p => by
   simp only [segP]
   refine ⟨fun h => h.elim, fun h => ?_⟩
   obtain ⟨u, hu, k1⟩ := h.2.1
   obtain ⟨v, hv, k2⟩ := h.2.2
   rw [List.mem_singleton] at hu hv
   grind
 | x :: y :: r, hi, hg, hf, p => by
   have ih := seg_iff hc (y :: r) hi.2 hg.2 (fun z hz => hf z (List.mem_cons_of_mem _ hz)) p
   have hxy := hi.1 y List.mem_cons_self
   simp only [segP]
   rw [ih, hf x List.mem_cons_self]
   constructor
   · rintro (⟨h1, h2, h3⟩ | ⟨h1, ⟨u, hu, k1⟩, ⟨v, hv, k2⟩⟩)
     · exact ⟨(hc x y p hg.1 h2 h3).2 h1, ⟨x, List.mem_cons_self, h2⟩, ⟨y, List.mem_cons_of_mem _ List.mem_cons_self, h3⟩⟩
     · exact ⟨h1, ⟨u, List.mem_cons_of_mem _ hu, k1⟩, ⟨v, List.mem_cons_of_mem _ hv, k2⟩⟩
   · rintro ⟨h1, ⟨u, hu, k1⟩, ⟨v, hv, k2⟩⟩
     have hxp : x ≤ p := by
       rcases List.mem_cons.1 hu with rfl | hu
       · exact k1
       · have := hi.1 u hu; grind
     by_cases hpy : p < y
     · exact .inl ⟨(hc x y p hg.1 hxp hpy).1 h1, hxp, hpy⟩
     · refine .inr ⟨h1, ⟨y, List.mem_cons_self, by grind⟩, ?_⟩
       rcases List.mem_cons.1 hv with rfl | hv
       · exact absurd k2 (by grind)
       · exact ⟨v, hv, k2⟩
theorem jn_set {pts : List Rat} {f : Rat → Bool} {P : Rat → Prop} (hi : incrR pts) (hc : ∀ x y p, (∀ z ∈ pts, z ≤ x ∨ y ≤ z) → x ≤ p → p < y → (P p ↔ P x)) (hf : ∀ x ∈ pts, f x = true ↔ P x) (hh : ∀ p, P p → inHull pts p) :
   canon (jn f pts none) ∧ ∀ p, memP (jn f pts none) p ↔ P p := by
 obtain ⟨i1, _, i3⟩ := jn_ok f pts none hi trivial
 refine ⟨i1, fun p => ?_⟩
 rw [i3 p, seg_iff hc pts hi (gap_of pts pts hi fun z hz => .inl hz) hf p]
 simp only [curP, false_or]
 exact ⟨fun h => h.1, fun h => ⟨h, hh p h⟩⟩
end Go.Pf.Vc
namespace Go.Pf.Vc
def insR (p : Rat) : List Rat → List Rat
 | [] => [p]
 | x :: r => if p = x then x :: r else if p < x then p :: x :: r else x :: insR p r
theorem insR_mem {p z : Rat} : ∀ (l : List Rat), z ∈ insR p l ↔ (z = p ∨ z ∈ l)
 | [] => by unfold insR; simp
 | x :: r => by
   unfold insR
   by_cases h : p = x
   · rw [if_pos h]
     subst h
     simp
   · rw [if_neg h]
     by_cases h2 : p < x
     · rw [if_pos h2]; simp
     · rw [if_neg h2, List.mem_cons, insR_mem r, List.mem_cons]
       constructor
       · rintro (h | h | h)
         · exact .inr (.inl h)
         · exact .inl h
         · exact .inr (.inr h)
       · rintro (h | h | h)
         · exact .inr (.inl h)
         · exact .inl h
         · exact .inr (.inr h)
theorem insR_incr {p : Rat} : ∀ (l : List Rat), incrR l → incrR (insR p l)
 | [], _ => ⟨by simp, trivial⟩
 | x :: r, h => by
   unfold insR
   by_cases h1 : p = x
   · rw [if_pos h1]; exact h
   · rw [if_neg h1]
     by_cases h2 : p < x
     · rw [if_pos h2]
       refine ⟨fun y hy => ?_, h⟩
       rcases List.mem_cons.1 hy with rfl | hy
       · exact h2
       · have := h.1 y hy; grind
     · rw [if_neg h2]
       refine ⟨fun y hy => ?_, insR_incr r h.2⟩
       rcases (insR_mem r).1 hy with rfl | hy
       · grind
       · exact h.1 y hy
def endsR : List RS → List Rat → List Rat
 | [], out => out
 | s :: a, out => endsR a (insR s.2 (insR s.1 out))
theorem endsR_incr : ∀ (a : List RS) (out : List Rat), incrR out → incrR (endsR a out)
 | [], _, h => h
 | _ :: a, _, h => endsR_incr a _ (insR_incr _ (insR_incr _ h))
theorem endsR_keep : ∀ (a : List RS) (out : List Rat) (z : Rat), z ∈ out → z ∈ endsR a out
 | [], _, _, h => h
 | _ :: a, _, z, h => endsR_keep a _ z ((insR_mem _).2 (.inr ((insR_mem _).2 (.inr h))))
theorem endsR_has : ∀ (a : List RS) (out : List Rat), endsIn (endsR a out) a
 | [], _ => fun s h => by cases h
 | t :: a, out => by
   intro s hs
   rcases List.mem_cons.1 hs with rfl | hs
   · exact ⟨endsR_keep a _ _ ((insR_mem _).2 (.inr ((insR_mem _).2 (.inl rfl)))), endsR_keep a _ _ ((insR_mem _).2 (.inl rfl))⟩
   · exact endsR_has a _ s hs
def joinR (f : Rat → Bool) (a b : List RS) : List RS := jn f (endsR b (endsR a [])) none
theorem joinR_ok {a b : List RS} {f : Rat → Bool} {c : Prop → Prop → Prop} (hf : ∀ x, f x = true ↔ c (memP a x) (memP b x)) (h0 : ¬ c False False) :
   canon (joinR f a b) ∧ ∀ p, memP (joinR f a b) p ↔ c (memP a p) (memP b p) := by
 have ea : endsIn (endsR b (endsR a [])) a := fun s hs => ⟨endsR_keep b _ _ (endsR_has a [] s hs).1, endsR_keep b _ _ (endsR_has a [] s hs).2⟩
 have eb : endsIn (endsR b (endsR a [])) b := endsR_has b _
 refine jn_set (endsR_incr b _ (endsR_incr a _ trivial)) (fun x y p hg h1 h2 => ?_) (fun x _ => hf x) (fun p hp => ?_)
 · rw [mem_const ea hg h1 h2, mem_const eb hg h1 h2]
 · by_cases h1 : memP a p
   · exact hull_of ea h1
   · by_cases h2 : memP b p
     · exact hull_of eb h2
     · rw [eq_false h1, eq_false h2] at hp
       exact (h0 hp).elim
theorem either_eq {a b l : List RS} (_ : canon a) (_ : canon b) (hv : ∀ s ∈ l, s.1 < s.2) (hl : ∀ s, s ∈ l ↔ s ∈ a ++ b) (hs : byFrom l) {f : Rat → Bool} (hf : ∀ x, f x = true ↔ (memP a x ∨ memP b x)) : mergeS l = joinR f a b := by
 obtain ⟨i1, i2⟩ := mergeS_ok hv hs
 obtain ⟨j1, j2⟩ := joinR_ok (c := Or) hf (by simp)
 refine canon_unique _ _ i1 j1 fun p => ?_
 rw [i2 p, j2 p, ← memP_app]
 constructor
 · rintro ⟨s, h, hp⟩; exact ⟨s, (hl s).1 h, hp⟩
 · rintro ⟨s, h, hp⟩; exact ⟨s, (hl s).2 h, hp⟩
theorem common_eq {a b : List RS} (ha : canon a) (hb : canon b) {f : Rat → Bool} (hf : ∀ x, f x = true ↔ (memP a x ∧ memP b x)) : meetS a b = joinR f a b := by
 obtain ⟨i1, _, i2⟩ := meetS_ok _ a b (Nat.le_refl _) ha hb
 obtain ⟨j1, j2⟩ := joinR_ok (c := And) hf (by simp)
 exact canon_unique _ _ i1 j1 fun p => by rw [i2 p, j2 p]
theorem without_eq {a b : List RS} (ha : canon a) (hb : canon b) {f : Rat → Bool} (hf : ∀ x, f x = true ↔ (memP a x ∧ ¬ memP b x)) : minusS a b = joinR f a b := by
 obtain ⟨i1, _, i2⟩ := minusS_ok hb ha
 obtain ⟨j1, j2⟩ := joinR_ok (c := fun x y => x ∧ ¬ y) hf (by simp)
 exact canon_unique _ _ i1 j1 fun p => by rw [i2 p, j2 p]
end Go.Pf.Vc
namespace Go.Pf.Vc
open Go Go.Pf
def Sp.rs (s : Sp) : RS := (rt s.a s.b, rt s.c s.d)
def Sp.ok (s : Sp) : Prop := RV s.a s.b ∧ RV s.c s.d ∧ rt s.a s.b < rt s.c s.d
instance (s : Sp) : Decidable s.ok := by unfold Sp.ok; infer_instance
def Sp.i64 (s : Sp) : Prop := I64 s.a ∧ I64 s.b ∧ I64 s.c ∧ I64 s.d
theorem order_eq {q r : Rat} (hq : small q) (hr : small r) (K : Int → Prop) : w_piece_order q.num q.den r.num r.den K = K (cmpQ q r) := by
 unfold w_piece_order wv_piece_order
 rw [rCmp_eq hq hr]
theorem order_rv {a b c d : Int} (h : RV a b) (k : RV c d) (K : Int → Prop) : w_piece_order a b c d K = K (cmpQ (rt a b) (rt c d)) := by
 obtain ⟨h1, h2, h3⟩ := rt_of h
 obtain ⟨k1, k2, k3⟩ := rt_of k
 have := order_eq h1 k1 K
 rw [h2, h3, k2, k3] at this
 exact this
theorem cmpQ_neg (q r : Rat) : decide (cmpQ q r < 0) = decide (q < r) := by
 unfold cmpQ
 by_cases h : q < r
 · rw [if_pos h]; simp [h]
 · rw [if_neg h]
   split <;> simp [h]
theorem cmpQ_le (q r : Rat) : decide (cmpQ q r ≤ 0) = !decide (r < q) := by
 unfold cmpQ
 by_cases h : q < r
 · have : ¬ r < q := by grind
   rw [if_pos h]; simp [this]
 · rw [if_neg h]
   by_cases h2 : r < q
   · rw [if_pos h2]; simp [h2]
   · rw [if_neg h2]; simp [h2]
theorem valid_eq {s : Sp} (h : s.i64) (K : Bool → Prop) : w_piece_valid s.a s.b s.c s.d K = K (decide s.ok) := by
 refine det_piece_valid _ _ _ _ _ (fun K k => ?_) K
 unfold w_piece_valid wv_piece_valid
 refine Cmp_of h.1 h.2.1 h.2.2.1 h.2.2.2 ?_
 by_cases h1 : RV s.a s.b
 · by_cases h2 : RV s.c s.d
   · have e : chk2 s.a s.b s.c s.d = 0 := chk2_zero.2 ⟨h1, h2⟩
     obtain ⟨_, n1, n2⟩ := rt_of h1
     obtain ⟨_, n3, n4⟩ := rt_of h2
     have e2 := cmpR_eq (rt s.a s.b) (rt s.c s.d)
     rw [n1, n2, n3, n4] at e2
     rw [e, if_pos rfl, ceT rfl, e2, cmpQ_neg]
     have e3 : decide s.ok = decide (rt s.a s.b < rt s.c s.d) := by rw [decide_eq_decide]; exact ⟨fun k => k.2.2, fun k => ⟨h1, h2, k⟩⟩
     rw [← e3]; exact k
   · have e : chk2 s.a s.b s.c s.d ≠ 0 := fun e => h2 (chk2_zero.1 e).2
     rw [ceF e]
     have e3 : decide s.ok = false := decide_eq_false fun k => h2 k.2.1
     rw [← e3]; exact k
 · have e : chk2 s.a s.b s.c s.d ≠ 0 := fun e => h1 (chk2_zero.1 e).1
   rw [ceF e]
   have e3 : decide s.ok = false := decide_eq_false fun k => h1 k.1
   rw [← e3]; exact k
end Go.Pf.Vc
namespace Go.Pf.Vc
open Go Go.Pf
theorem asSp {s : Sp} {P : Prop} : asr (conf (.agg [.i .i64, .i .i64, .i .i64, .i .i64]) (encS s)) P = P := rfl
def allOkB (l : List Sp) : Bool := l.all fun s => decide s.ok
theorem all_loop {l : List Sp} (h64 : ∀ s ∈ l, s.i64) (hl : l.length < 4611686018427387904) :
   ∀ x0 x1, ∀ (r i n : Nat), i + r = l.length → r < n → L_piece_all_0_0 w_piece_valid x0 x1 n (spans l) l.length i = if allOkB (l.drop i) then x1 (spans l) l.length l.length false else x0 8 := by
 intro x0 x1 r
 induction r with
 | zero =>
   intro i n hi hn
   obtain ⟨n, rfl⟩ : ∃ m, n = m + 1 := ⟨n - 1, by omega⟩
   obtain rfl : i = l.length := by omega
   rw [L_piece_all_0_0, cbF (by omega), List.drop_length]
   rfl
 | succ r ih =>
   intro i n hi hn
   obtain ⟨n, rfl⟩ : ∃ m, n = m + 1 := ⟨n - 1, by omega⟩
   have hil : i < l.length := by omega
   have e1 := wib (n := (i : Int) + 1) (by omega) (by omega)
   have hm : l.getD i default ∈ l := by
     rw [List.getD_eq_getElem?_getD, List.getElem?_eq_getElem hil]
     exact List.getElem_mem hil
   have hd : allOkB (l.drop i) = (decide (l.getD i default).ok && allOkB (l.drop (i + 1))) := by
     rw [drop_cons default hil]; rfl
   rw [L_piece_all_0_0, cbT (by omega), asT (by omega), spans_len, asT (by omega), Int.toNat_natCast, spans_at hil, asSp, e1, cast1]
   change w_piece_valid (l.getD i default).a (l.getD i default).b (l.getD i default).c (l.getD i default).d _ = _
   rw [valid_eq (h64 _ hm), hd]
   cases hv : decide (l.getD i default).ok with
   | true =>
     rw [show (!true) = false from rfl, cbr_false, Bool.true_and]
     exact ih (i + 1) n (by omega) (by omega)
   | false =>
     rw [show (!false) = true from rfl, cbr_true, Bool.false_and]
     rfl
def allE (l : List Sp) : Int := if l.length > 60 then 4 else if allOkB l then 0 else 8
theorem all_eq {l : List Sp} (h64 : ∀ s ∈ l, s.i64) (hl : l.length < 4611686018427387904) (K : Int → Prop) : w_piece_all (spans l) K = K (allE l) := by
 refine det_piece_all _ _ (fun K k => ?_) K
 unfold w_piece_all wv_piece_all
 unfold allE at k
 rw [spans_len]
 by_cases h : l.length > 60
 · rw [cbT (by omega)]; rw [if_pos h] at k; exact k
 · rw [cbF (by omega)]
   rw [if_neg h] at k
   refine ⟨l.length + 1, ?_⟩
   refine (all_loop h64 hl _ _ l.length 0 (l.length + 1) (by omega) (by omega)).mpr ?_
   rw [List.drop_zero]
   split
   · rename_i h2; rw [if_pos h2] at k; exact k
   · rename_i h2; rw [if_neg h2] at k; exact k
end Go.Pf.Vc
namespace Go.Pf.Vc
open Go Go.Pf
def gapB : Sp → List Sp → Bool
 | _, [] => true
 | s, t :: r => decide (s.rs.2 < t.rs.1) && gapB t r
theorem check_loop {l : List Sp} (hok : ∀ s ∈ l, s.ok) (hl : l.length < 4611686018427387904) :
   ∀ x0 x1, ∀ (r i n : Nat), i + 1 + r = l.length → r < n → L_piece_Check_0_0 w_piece_all w_piece_order x0 x1 n (spans l) ((i + 1 : Nat) : Int) = if gapB (l.getD i default) (l.drop (i + 1)) then x1 (spans l) l.length false else x0 8 := by
 intro x0 x1 r
 induction r with
 | zero =>
   intro i n hi hn
   obtain ⟨n, rfl⟩ : ∃ m, n = m + 1 := ⟨n - 1, by omega⟩
   rw [L_piece_Check_0_0, spans_len, cbF (by omega), List.drop_eq_nil_of_le (by omega), show i + 1 = l.length by omega]
   rfl
 | succ r ih =>
   intro i n hi hn
   obtain ⟨n, rfl⟩ : ∃ m, n = m + 1 := ⟨n - 1, by omega⟩
   have e0 := wib (n := ((i + 1 : Nat) : Int) - 1) (by omega) (by omega)
   have e2 : ((i + 1 : Nat) : Int) - 1 = (i : Int) := by omega
   have e1 := wib (n := ((i + 1 : Nat) : Int) + 1) (by omega) (by omega)
   have hm1 : l.getD i default ∈ l := by
     rw [List.getD_eq_getElem?_getD, List.getElem?_eq_getElem (by omega)]
     exact List.getElem_mem (by omega)
   have hm2 : l.getD (i + 1) default ∈ l := by
     rw [List.getD_eq_getElem?_getD, List.getElem?_eq_getElem (by omega)]
     exact List.getElem_mem (by omega)
   rw [L_piece_Check_0_0, spans_len, cbT (by omega), e0, e2, asT (by omega), asT (by omega), Int.toNat_natCast, spans_at (by omega), asSp, asT (by omega), asT (by omega), Int.toNat_natCast, spans_at (by omega), asSp]
   change w_piece_order (l.getD i default).c (l.getD i default).d (l.getD (i + 1) default).a (l.getD (i + 1) default).b _ = _
   rw [order_rv (hok _ hm1).2.1 (hok _ hm2).1, e1, cast1, drop_cons default (by omega)]
   unfold gapB
   have e3 : decide (cmpQ (rt (l.getD i default).c (l.getD i default).d) (rt (l.getD (i + 1) default).a (l.getD (i + 1) default).b) ≥ 0) = !decide ((l.getD i default).rs.2 < (l.getD (i + 1) default).rs.1) := cmpQ_ge _ _
   rw [e3]
   cases decide ((l.getD i default).rs.2 < (l.getD (i + 1) default).rs.1) with
   | true =>
     rw [show (!true) = false from rfl, cbr_false, Bool.true_and]
     exact ih (i + 1) n (by omega) (by omega)
   | false =>
     rw [show (!false) = true from rfl, cbr_true, Bool.false_and]
     rfl
def rsL (l : List Sp) : List RS := l.map Sp.rs
def pieceE (l : List Sp) : Int := if allE l = 0 then (match l with | [] => 0 | s :: r => if gapB s r then 0 else 8) else allE l
theorem allE_zero {l : List Sp} (h : allE l = 0) : l.length ≤ 60 ∧ ∀ s ∈ l, s.ok := by
 unfold allE at h
 split at h
 · cases h
 · split at h
   · rename_i h1 h2
     exact ⟨by omega, fun s hs => by simpa using List.all_eq_true.1 h2 s hs⟩
   · cases h
theorem pCheck_eq {l : List Sp} (h64 : ∀ s ∈ l, s.i64) (hl : l.length < 4611686018427387904) (K : Int → Prop) : w_piece_Check (spans l) K = K (pieceE l) := by
 refine det_piece_Check _ _ (fun K k => ?_) K
 unfold w_piece_Check wv_piece_Check
 unfold pieceE at k
 rw [all_eq h64 hl]
 by_cases h : allE l = 0
 · rw [if_pos h] at k
   rw [cnF h]
   obtain ⟨h1, h2⟩ := allE_zero h
   cases l with
   | nil =>
     refine ⟨1, ?_⟩
     rw [L_piece_Check_0_0, spans_len, cbF (by simp)]
     exact k
   | cons s r =>
     refine ⟨r.length + 1, ?_⟩
     refine (check_loop h2 hl _ _ r.length 0 (r.length + 1) (by simp; omega) (by omega)).mpr ?_
     dsimp only at k
     show if gapB s r then _ else _
     split
     · rename_i hg; rw [if_pos hg] at k; exact k
     · rename_i hg; rw [if_neg hg] at k; exact k
 · rw [if_neg h] at k
   rw [cnT h]; exact k
end Go.Pf.Vc
namespace Go.Pf.Vc
open Go Go.Pf
theorem gap_canon : ∀ (r : List Sp) (s : Sp), s.ok → (∀ t ∈ r, t.ok) → (gapB s r = true ↔ canon (rsL (s :: r)))
 | [], s, hs, _ => ⟨fun _ => ⟨hs.2.2, by simp, trivial⟩, fun _ => rfl⟩
 | t :: r, s, hs, h => by
   have ht := h t List.mem_cons_self
   have ih := gap_canon r t ht fun u hu => h u (List.mem_cons_of_mem _ hu)
   unfold gapB
   rw [Bool.and_eq_true, decide_eq_true_eq, ih]
   constructor
   · rintro ⟨h1, h2⟩
     refine ⟨hs.2.2, fun u hu => ?_, h2⟩
     rcases List.mem_cons.1 hu with rfl | hu
     · exact h1
     · have := h2.2.1 u hu
       have := h2.1
       show s.rs.2 < u.1
       grind
   · rintro ⟨_, h2, h3⟩
     exact ⟨h2 _ List.mem_cons_self, h3⟩
theorem pieceE_zero {l : List Sp} (h : pieceE l = 0) : l.length ≤ 60 ∧ (∀ s ∈ l, s.ok) ∧ canon (rsL l) := by
 unfold pieceE at h
 split at h
 · rename_i h0
   obtain ⟨h1, h2⟩ := allE_zero h0
   refine ⟨h1, h2, ?_⟩
   cases l with
   | nil => trivial
   | cons s r =>
     dsimp only at h
     split at h
     · rename_i hg
       exact (gap_canon r s (h2 s List.mem_cons_self) fun t ht => h2 t (List.mem_cons_of_mem _ ht)).1 hg
     · cases h
 · rename_i h0; exact absurd h h0
end Go.Pf.Vc
namespace Go.Pf.Vc
open Go Go.Pf
theorem small_max {q r : Rat} (hq : small q) (hr : small r) : small (maxR q r) := by unfold maxR; split <;> assumption
theorem small_min {q r : Rat} (hq : small q) (hr : small r) : small (minR q r) := by unfold minR; split <;> assumption
theorem later_eq {q r : Rat} (hq : small q) (hr : small r) (K : Int → Int → Prop) : w_piece_later q.num q.den r.num r.den K = K (maxR q r).num (maxR q r).den := by
 unfold w_piece_later wv_piece_later
 rw [order_eq hq hr, cmpQ_neg]
 unfold maxR
 by_cases h : q < r
 · rw [cbT h, if_pos h]
 · rw [cbF h, if_neg h]
theorem sooner_eq {q r : Rat} (hq : small q) (hr : small r) (K : Int → Int → Prop) : w_piece_sooner q.num q.den r.num r.den K = K (minR q r).num (minR q r).den := by
 unfold w_piece_sooner wv_piece_sooner
 rw [order_eq hq hr, cmpQ_neg]
 unfold minR
 by_cases h : q < r
 · rw [cbT h, if_pos h]
 · rw [cbF h, if_neg h]
theorem few_eq {l : List Sp} (K : List PV → Int → Prop) : w_piece_few (spans l) K = if l.length > 60 then K [] 4 else K (spans l) 0 := by
 unfold w_piece_few wv_piece_few
 rw [spans_len]
 by_cases h : l.length > 60
 · rw [cbT (by omega), if_pos h]
 · rw [cbF (by omega), if_neg h]
def bothE (a b : List Sp) : Int := if pieceE a = 0 then pieceE b else pieceE a
theorem both_eq {a b : List Sp} (ha : ∀ s ∈ a, s.i64) (hb : ∀ s ∈ b, s.i64) (hla : a.length < 4611686018427387904) (hlb : b.length < 4611686018427387904) (K : Int → Prop) : w_piece_both (spans a) (spans b) K = K (bothE a b) := by
 unfold w_piece_both wv_piece_both bothE
 rw [pCheck_eq ha hla]
 by_cases h : pieceE a = 0
 · rw [cnF h, if_pos h, pCheck_eq hb hlb]
 · rw [cnT h, if_neg h]
end Go.Pf.Vc
namespace Go.Pf.Vc
open Go Go.Pf Go.Sort
theorem rvB_iff {n d : Int} : rvB n d = true ↔ RV n d := by
 unfold rvB RV
 simp only [Bool.and_eq_true, decide_eq_true_eq]
theorem cmpI_lt {a b c d : Int} (h : RV a b) (k : RV c d) : cmpI a b c d < 0 ↔ rt a b < rt c d := by
 obtain ⟨_, h2, h3⟩ := rt_of h
 obtain ⟨_, k2, k3⟩ := rt_of k
 rw [Rat.lt_iff, h2, h3, k2, k3]
 unfold cmpI
 by_cases h : a * d < c * b
 · rw [if_pos h]; simp [h]
 · rw [if_neg h]
   split <;> simp [h]
def ratOf : PV → Rat
 | .agg (.int _ a :: .int _ b :: _) => rt a b
 | _ => 0
theorem spCmp_lt {x y : PV} (hx : spGood x = true) (hy : spGood y = true) : spCmp x y < 0 ↔ ratOf x < ratOf y := by
 unfold spGood at hx hy
 split at hx
 · split at hy
   · simp only [spCmp, ratOf]
     exact cmpI_lt (rvB_iff.1 hx) (rvB_iff.1 hy)
   · cases hy
 · cases hx
theorem El_good {n g : Nat} (x : (spSrt n g).s.El) : spGood x.1 = true := by
 have := x.2
 simp only [Srt.gd, Bool.and_eq_true] at this
 exact this.2
theorem sp_swo (n g : Nat) : SWO (fun x y : (spSrt n g).s.El => decide ((spSrt n g).cf x y < 0)) where
 irrefl x := by
   have := spCmp_lt (El_good x) (El_good x)
   show decide (spCmp x.1 x.1 < 0) = false
   rw [decide_eq_false_iff_not, this]
   exact Rat.lt_irrefl
 trans x y z h1 h2 := by
   have h1 : decide (spCmp x.1 y.1 < 0) = true := h1
   have h2 : decide (spCmp y.1 z.1 < 0) = true := h2
   show decide (spCmp x.1 z.1 < 0) = true
   rw [decide_eq_true_eq, spCmp_lt (El_good _) (El_good _)] at *
   grind
 ntrans x y z h1 h2 := by
   have h1 : decide (spCmp x.1 y.1 < 0) = false := h1
   have h2 : decide (spCmp y.1 z.1 < 0) = false := h2
   show decide (spCmp x.1 z.1 < 0) = false
   rw [decide_eq_false_iff_not, spCmp_lt (El_good _) (El_good _)] at *
   grind
theorem rows_some {s : Srt} : ∀ {l : List PV}, (∀ x ∈ l, s.gd x = true) → ∃ d, s.rows? l = some d
 | [], _ => ⟨[], rfl⟩
 | x :: r, h => by
   obtain ⟨d, hd⟩ := rows_some (s := s) (l := r) fun y hy => h y (List.mem_cons_of_mem _ hy)
   refine ⟨⟨x, h x List.mem_cons_self⟩ :: d, ?_⟩
   simp only [Srt.rows?]
   rw [dif_pos (h x List.mem_cons_self), hd]
theorem RV.i1 {n d : Int} (h : RV n d) : I64 n := by obtain ⟨h1, h2, h3, h4, _⟩ := h; exact ⟨by omega, by omega⟩
theorem RV.i2 {n d : Int} (h : RV n d) : I64 d := by obtain ⟨h1, h2, h3, h4, _⟩ := h; exact ⟨by omega, by omega⟩
theorem Sp.ok.i64 {s : Sp} (h : s.ok) : s.i64 := ⟨h.1.i1, h.1.i2, h.2.1.i1, h.2.1.i2⟩
theorem gd_enc (n g : Nat) {s : Sp} (h : s.ok) : (spSrt n g).s.gd (encS s) = true := by
 obtain ⟨h1, h2, h3, h4⟩ := h.i64
 have e1 : IntKind.i64.min = -9223372036854775808 := by decide
 have e2 : IntKind.i64.max = 9223372036854775807 := by decide
 simp only [Srt.gd, spSrt, okI, encS, okL, spGood, Bool.and_eq_true, decide_eq_true_eq, e1, e2]
 unfold I64 at h1 h2 h3 h4
 exact ⟨⟨trivial, h1.1, h1.2, trivial, h2.1, h2.2, trivial, h3.1, h3.2, trivial, h4.1, h4.2, trivial⟩, rvB_iff.2 h.1⟩
def decS : PV → Sp
 | .agg [.int _ a, .int _ b, .int _ c, .int _ d] => ⟨a, b, c, d⟩
 | _ => default
theorem decS_enc (s : Sp) : decS (encS s) = s := rfl
theorem sorted_sp (n g : Nat) {l : List Sp} (h : ∀ s ∈ l, s.ok) : ∃ l' : List Sp, l'.Perm l ∧ l'.Pairwise (fun s t => ¬ t.rs.1 < s.rs.1) ∧ Srt.sorted (spSrt n g).s (spSrt n g).srt (spans l) = spans l' := by
 obtain ⟨d, hd⟩ := rows_some (s := (spSrt n g).s) (l := spans l) fun x hx => by
   obtain ⟨s, hs, rfl⟩ := List.mem_map.1 hx
   exact gd_enc n g (h s hs)
 obtain ⟨d', h1, h2, h3⟩ := (spSrt n g).sorted_is (sp_swo n g) hd
 have hv := Srt.rows?_val hd
 have hp : (d'.map (·.1)).Perm (spans l) := by rw [← hv]; exact h1.map _
 have hm : ∀ x ∈ d'.map (·.1), ∃ s ∈ l, encS s = x := fun x hx => List.mem_map.1 (hp.mem_iff.1 hx)
 refine ⟨(d'.map (·.1)).map decS, ?_, ?_, ?_⟩
 · have this : (List.map decS (d'.map (·.1))).Perm (List.map decS (l.map encS)) := hp.map decS
   have e : List.map decS (l.map encS) = l := by rw [List.map_map, show decS ∘ encS = id from funext decS_enc, List.map_id]
   rw [e] at this
   exact this
 · rw [List.map_map, List.pairwise_map]
   refine h2.imp_of_mem fun {x y} hx hy hxy => ?_
   have hxy : ¬ spCmp y.1 x.1 < 0 := hxy
   rw [spCmp_lt (El_good _) (El_good _)] at hxy
   obtain ⟨s, _, es⟩ := hm x.1 (List.mem_map_of_mem hx)
   obtain ⟨t, _, et⟩ := hm y.1 (List.mem_map_of_mem hy)
   show ¬ (decS y.1).rs.1 < (decS x.1).rs.1
   rw [← es, ← et] at hxy ⊢
   exact hxy
 · rw [h3]
   have key : ∀ (xs : List PV), (∀ x ∈ xs, ∃ s ∈ l, encS s = x) → (xs.map decS).map encS = xs := by
     intro xs
     induction xs with
     | nil => intro _; rfl
     | cons x r ih =>
       intro h
       obtain ⟨s, _, es⟩ := h x List.mem_cons_self
       rw [List.map_cons, List.map_cons, ih fun y hy => h y (List.mem_cons_of_mem _ hy), ← es, decS_enc]
   exact (key _ hm).symm
end Go.Pf.Vc
namespace Go.Pf.Vc
open Go Go.Pf
def spOf (r : RS) : Sp := ⟨r.1.num, r.1.den, r.2.num, r.2.den⟩
def rsp (l : List RS) : List PV := spans (l.map spOf)
def smallS (r : RS) : Prop := small r.1 ∧ small r.2
theorem rsp_len (l : List RS) : (rsp l).length = l.length := by unfold rsp; rw [spans_len, List.length_map]
def encR (r : RS) : PV := encS (spOf r)
theorem rsp_at {l : List RS} {i : Nat} (h : i < l.length) : List.getD (rsp l) i .nils = encR (l.getD i default) := by
 unfold rsp
 rw [spans_at (by rw [List.length_map]; exact h)]
 unfold encR
 congr 1
 rw [List.getD_eq_getElem?_getD, List.getD_eq_getElem?_getD, List.getElem?_map, List.getElem?_eq_getElem h]
 rfl
theorem encR0 (r : RS) : intOfV (cellAt (encR r) 0) = r.1.num := rfl
theorem encR1 (r : RS) : intOfV (cellAt (encR r) 1) = r.1.den := rfl
theorem encR2 (r : RS) : intOfV (cellAt (encR r) 2) = r.2.num := rfl
theorem encR3 (r : RS) : intOfV (cellAt (encR r) 3) = r.2.den := rfl
theorem asR (r : RS) (P : Prop) : asr (conf (.agg [.i .i64, .i .i64, .i .i64, .i .i64]) (encR r)) P = P := rfl
theorem rsp_nil : rsp [] = [] := rfl
theorem rsp_one (r : RS) : ([.agg [.int .i64 r.1.num, .int .i64 r.1.den, .int .i64 r.2.num, .int .i64 r.2.den]] : List PV) = rsp [r] := rfl
theorem rsp_app (a b : List RS) : rsp a ++ rsp b = rsp (a ++ b) := by unfold rsp spans; rw [List.map_append, List.map_append]
theorem rsp_set (l : List RS) (i : Nat) (r : RS) : List.set (rsp l) i (.agg [.int .i64 r.1.num, .int .i64 r.1.den, .int .i64 r.2.num, .int .i64 r.2.den]) = rsp (l.set i r) := by
 unfold rsp spans
 rw [List.map_set, List.map_set]
 rfl
theorem asE {α : Type} [DecidableEq α] (a : α) (P : Prop) : asr (decide (a = a)) P = P := by rw [decide_eq_true rfl, asr_true]
theorem asEE {α : Type} [DecidableEq α] (a : α) (b : Bool) (P : Prop) : asr (decide (a = a) && b) P = asr b P := by rw [decide_eq_true rfl, Bool.true_and]
theorem asNo {c : Prop} [Decidable c] {P : Prop} (h : ¬ c) : asr (!decide c) P = P := by rw [decide_eq_false h]; rfl
theorem asTr (P : Prop) : asr (decide True) P = P := by rw [decide_true]; rfl
theorem last_at {α : Type} {acc : List α} {c d : α} {i : Nat} (h : i = acc.length) : (acc ++ [c]).getD i d = c := by
 subst h
 rw [List.getD_eq_getElem?_getD, List.getElem?_append_right (Nat.le_refl _), Nat.sub_self]
 rfl
theorem last_set {α : Type} {acc : List α} {c d : α} {i : Nat} (h : i = acc.length) : (acc ++ [c]).set i d = acc ++ [d] := by
 subst h
 rw [List.set_append_right _ _ (Nat.le_refl _), Nat.sub_self]
 rfl
theorem smallS_mem {l : List RS} (h : ∀ s ∈ l, smallS s) {i : Nat} (hi : i < l.length) : smallS (l.getD i default) := by
 rw [List.getD_eq_getElem?_getD, List.getElem?_eq_getElem hi]
 exact h _ (List.getElem_mem hi)
theorem merged_loop {l : List RS} (hs : ∀ s ∈ l, smallS s) (hl : l.length < 1000000) {x0 : Int → Int → Bool → Prop} {x1 : List PV → Int → Int → Bool → Prop} {x2 : List PV → List PV → Int → Int → Bool → Prop} :
   ∀ (r i n : Nat) (acc : List RS) (c : RS), i + r = l.length → r < n → acc.length < i → smallS c →
     L_piece_merged_0_2 w_piece_order x0 x1 x2 n (rsp l) (rsp (acc ++ [c])) (l.length : Int) (i : Int) = x2 (rsp l) (rsp (acc ++ mrg (l.drop i) c)) (l.length : Int) (l.length : Int) false := by
 intro r
 induction r with
 | zero =>
   intro i n acc c hi hn ha hc
   obtain ⟨n, rfl⟩ : ∃ m, n = m + 1 := ⟨n - 1, by omega⟩
   obtain rfl : i = l.length := by omega
   rw [L_piece_merged_0_2, cbF (by omega), List.drop_length]
   rfl
 | succ r ih =>
   intro i n acc c hi hn ha hc
   obtain ⟨n, rfl⟩ : ∃ m, n = m + 1 := ⟨n - 1, by omega⟩
   have hil : i < l.length := by omega
   have e1 := wib (n := (i : Int) + 1) (by omega) (by omega)
   have hal : (acc ++ [c]).length = acc.length + 1 := by simp
   have e2 := wib (n := ((acc.length + 1 : Nat) : Int) - 1) (by omega) (by omega)
   have e3 : ((acc.length + 1 : Nat) : Int) - 1 = (acc.length : Int) := by omega
   rw [e3] at e2
   have hsi := smallS_mem hs hil
   have hd : l.drop i = l.getD i default :: l.drop (i + 1) := drop_cons default hil
   generalize hx : l.getD i default = x at hd hsi
   rw [L_piece_merged_0_2, cbT (by omega)]
   dsimp only [lt, Go.Pf.jn]
   simp (discharger := omega) only [rsp_len, hal, Int.toNat_natCast, Nat.zero_add, asT, rsp_at, hx, asR, encR0, encR1, encR2, encR3, cbT, e3, e2, e1, last_at, asNo, decide_true, Bool.true_and, asr_true]
   rw [order_eq hsi.1 hc.2, cmpQ_le, hd]
   unfold mrg
   by_cases h : c.2 < x.1
   · rw [decide_eq_true h, if_pos h, Bool.not_true, cbr_false, asT (by show _ ≤ 35184372088832; omega), rsp_one x, rsp_app, cast1]
     have := ih (i + 1) n (acc ++ [c]) x (by omega) (by omega) (by simp; omega) hsi
     rw [this, List.append_assoc]
     rfl
   · rw [decide_eq_false h, if_neg h, Bool.not_false, cbr_true, order_eq hsi.2 hc.2]
     have e4 : decide (cmpQ x.2 c.2 > 0) = decide (c.2 < x.2) := by
       have := cmpQ_le x.2 c.2
       rw [show decide (cmpQ x.2 c.2 > 0) = !decide (cmpQ x.2 c.2 ≤ 0) by rw [← decide_not]; simp, this, Bool.not_not]
     rw [e4]
     unfold maxR
     by_cases h2 : c.2 < x.2
     · have e5 : List.set (rsp (acc ++ [c])) acc.length (.agg [.int .i64 c.1.num, .int .i64 c.1.den, .int .i64 x.2.num, .int .i64 x.2.den]) = rsp (acc ++ [(c.1, x.2)]) := by
         rw [rsp_set _ _ (c.1, x.2), last_set rfl]
       rw [decide_eq_true h2, if_pos h2, cbr_true, e5, rsp_len, show (acc ++ [(c.1, x.2)]).length = acc.length + 1 by simp]
       simp only [decide_true, Bool.true_and, asr_true, cast1]
       exact ih (i + 1) n acc (c.1, x.2) (by omega) (by omega) (by omega) ⟨hc.1, hsi.2⟩
     · rw [decide_eq_false h2, if_neg h2, cbr_false, cast1]
       exact ih (i + 1) n acc c (by omega) (by omega) (by omega) hc
theorem spOf_rs {s : Sp} (h : s.ok) : spOf s.rs = s := by
 obtain ⟨_, h2, h3⟩ := rt_of h.1
 obtain ⟨_, k2, k3⟩ := rt_of h.2.1
 unfold spOf Sp.rs
 cases s
 simp only at h2 h3 k2 k3 ⊢
 rw [h2, h3, k2, k3]
theorem rs_spOf {r : RS} (_ : smallS r) : (spOf r).rs = r := by
 show (rt r.1.num r.1.den, rt r.2.num r.2.den) = r
 rw [rt_self, rt_self]
theorem spOf_ok {r : RS} (h : smallS r) (hv : r.1 < r.2) : (spOf r).ok := ⟨h.1.rv, h.2.rv, by
 show rt r.1.num r.1.den < rt r.2.num r.2.den
 rw [rt_self, rt_self]; exact hv⟩
theorem rs_small {s : Sp} (h : s.ok) : smallS s.rs := ⟨(rt_of h.1).1, (rt_of h.2.1).1⟩
theorem spans_rsL {l : List Sp} (h : ∀ s ∈ l, s.ok) : spans l = rsp (rsL l) := by
 unfold rsp rsL
 rw [List.map_map]
 congr 1
 conv => lhs; rw [← List.map_id l]
 exact List.map_congr_left fun s hs => (spOf_rs (h s hs)).symm
theorem byFrom_of : ∀ {l : List RS}, l.Pairwise (fun s t => ¬ t.1 < s.1) → byFrom l
 | [], _ => trivial
 | s :: r, h => by
   rw [List.pairwise_cons] at h
   exact ⟨fun t ht => by have := h.1 t ht; grind, byFrom_of h.2⟩
theorem merged_eq {l : List RS} (hs : ∀ s ∈ l, smallS s) (hv : ∀ s ∈ l, s.1 < s.2) (hl : l.length < 100000) : ∃ l' : List RS, l'.Perm l ∧ byFrom l' ∧ ∀ K, w_piece_merged (rsp l) K = K (rsp (mergeS l')) := by
 obtain ⟨m, h1, h2, h3⟩ := sorted_sp n_s_SortFunc_api_Span_api_Span n_piece_merged_1 (l := l.map spOf) (fun s h => by
   obtain ⟨r, hr, rfl⟩ := List.mem_map.1 h
   exact spOf_ok (hs r hr) (hv r hr))
 have hm : ∀ s ∈ m, s.ok := fun s h => by
   obtain ⟨r, hr, rfl⟩ := List.mem_map.1 (h1.mem_iff.1 h)
   exact spOf_ok (hs r hr) (hv r hr)
 have hp : (rsL m).Perm l := by
   have := h1.map Sp.rs
   rw [List.map_map] at this
   have e : l.map (Sp.rs ∘ spOf) = l := by
     conv => rhs; rw [← List.map_id l]
     exact List.map_congr_left fun r hr => rs_spOf (hs r hr)
   rw [e] at this
   exact this
 have hb : byFrom (rsL m) := byFrom_of (List.pairwise_map.2 h2)
 refine ⟨rsL m, hp, hb, fun K => ?_⟩
 refine det_piece_merged _ _ (fun K k => ?_) K
 unfold w_piece_merged wv_piece_merged
 have hlen : (rsL m).length = l.length := hp.length_eq
 have hc : cloneOk 4 32 (rsp l) = true := by
   unfold cloneOk
   rw [Bool.and_eq_true, decide_eq_true_eq, rsp_len]
   refine ⟨?_, by show _ ≤ 35184372088832; omega⟩
   cases l <;> rfl
 rw [hc, asr_true]
 cases l with
 | nil =>
   have e : rsL m = [] := List.eq_nil_of_length_eq_zero (by rw [hlen]; rfl)
   rw [e] at k
   exact ⟨1, k⟩
 | cons x r =>
   rw [show List.isEmpty (rsp (x :: r)) = false from rfl, cbr_false]
   have hsm : smallS x := hs x List.mem_cons_self
   have hd : ∃ d, (srt_piece_merged_1).s.rows? (rsp (x :: r)) = some d := rows_some fun y hy => by
     obtain ⟨s, h4, rfl⟩ := List.mem_map.1 hy
     obtain ⟨q, hq, rfl⟩ := List.mem_map.1 h4
     exact gd_enc _ _ (spOf_ok (hs q hq) (hv q hq))
   obtain ⟨d, hd⟩ := hd
   have hcond : Srt.cond srt_piece_merged_1.s (rsp (x :: r)) 0 (rsp (x :: r)).length (rsp (x :: r)).length 4 false = true := by
     unfold Srt.cond
     rw [List.drop_zero, List.take_length, hd, rsp_len]
     simp only [decide_true, Bool.true_and, Bool.not_false, Option.isSome_some, Bool.and_true, Bool.and_eq_true, decide_eq_true_eq, Nat.zero_add, Nat.le_refl]
     exact ⟨by simp, rfl, by omega⟩
   rw [hcond, asr_true]
   have hsrt : Srt.sorted srt_piece_merged_1.s srt_piece_merged_1.srt (rsp (x :: r)) = rsp (rsL m) := by
     rw [show rsp (x :: r) = spans ((x :: r).map spOf) from rfl, ← spans_rsL hm]
     exact h3
   rw [List.take_zero, List.drop_zero, List.take_length, hsrt, List.nil_append, Nat.zero_add, List.drop_length, List.append_nil, rsp_len, rsp_len, hlen]
   simp only [decide_true, Bool.true_and, asr_true]
   have hms : ∀ s ∈ rsL m, smallS s := fun s h => hs s (hp.mem_iff.1 h)
   cases hq : rsL m with
   | nil => rw [hq] at hlen; cases hlen
   | cons y t =>
     rw [hq] at k hms hlen
     refine ⟨(y :: t).length + 2, ?_⟩
     have hy : smallS y := hms y List.mem_cons_self
     rw [L_piece_merged_0_1, cbT (by simp only [List.length_cons]; omega)]
     dsimp only [lt, Go.Pf.jn]
     have e1 : IntKind.i64.wrap ((0 : Int) + 1) = ((1 : Nat) : Int) := by decide
     have e2 : (rsp (y :: t)).length = (x :: r).length := by rw [rsp_len, hlen]
     have e3 : List.getD (rsp (y :: t)) (0 + (0 : Int).toNat) .nils = encR y := rfl
     rw [asT (by omega), asT (by rw [e2]; simp only [List.length_cons]; omega), asE, asT (by rw [e2]; simp), e3, asR, encR0, encR1, encR2, encR3, e1, rsp_one, ← hlen]
     rw [show (rsp [y]).length = 1 from rfl]
     simp only [decide_true, Bool.true_and, asr_true]
     have := merged_loop hms (by rw [hlen]; omega) (x0 := fun yi147 yi148 yb149 => K ([] : List PV)) (x1 := fun yi150 yi151 yi152 yb153 => K ([] : List PV))
       (x2 := fun yl154 yl155 yi156 yi157 yb158 => asr (decide ((0 + (List.length yl155)) ≤ (List.length yl155))) (K (List.take (List.length yl155) yl155)))
       t.length 1 ((y :: t).length + 1) [] y (by simp only [List.length_cons]; omega) (by simp only [List.length_cons]; omega) (by simp) hy
     rw [List.nil_append] at this
     refine this.mpr ?_
     rw [asT (by omega), List.take_length]
     exact k
end Go.Pf.Vc
namespace Go.Pf.Vc
open Go Go.Pf
theorem sLess_rv {a b c d : Int} (h : RV a b) (k : RV c d) (K : Bool → Prop) : w_r01_Less a b c d K = K (decide (rt a b < rt c d)) := by
 obtain ⟨h1, h2, h3⟩ := rt_of h
 obtain ⟨k1, k2, k3⟩ := rt_of k
 have := sLess_eq h1 k1 K
 rw [h2, h3, k2, k3] at this
 exact this
theorem rValid_eq {s : Sp} (h : s.i64) (K : Bool → Prop) : w_r03_Valid s.a s.b s.c s.d K = K (decide s.ok) := by
 unfold w_r03_Valid wv_r03_Valid
 dsimp only [Go.Pf.jn]
 rw [sBoth_eq h.1 h.2.1 h.2.2.1 h.2.2.2]
 by_cases h1 : RV s.a s.b ∧ RV s.c s.d
 · rw [ceT (chk2_zero.2 h1), sLess_rv h1.1 h1.2]
   have e3 : decide s.ok = decide (rt s.a s.b < rt s.c s.d) := by rw [decide_eq_decide]; exact ⟨fun k => k.2.2, fun k => ⟨h1.1, h1.2, k⟩⟩
   rw [e3]
 · rw [ceF fun e => h1 (chk2_zero.1 e)]
   have e3 : decide s.ok = false := decide_eq_false fun k => h1 ⟨k.1, k.2.1⟩
   rw [e3]
theorem Sp.getD_mem {l : List Sp} {i : Nat} (h : i < l.length) : l.getD i default ∈ l := by
 rw [List.getD_eq_getElem?_getD, List.getElem?_eq_getElem h]
 exact List.getElem_mem h
def chkB : Option Sp → List Sp → Bool
 | _, [] => true
 | none, t :: r => decide t.ok && chkB (some t) r
 | some s, t :: r => decide t.ok && (decide (s.rs.2 < t.rs.1) && chkB (some t) r)
theorem chkB_none (t : Sp) (r : List Sp) : chkB none (t :: r) = (decide t.ok && chkB (some t) r) := rfl
theorem chkB_some (s t : Sp) (r : List Sp) : chkB (some s) (t :: r) = (decide t.ok && (decide (s.rs.2 < t.rs.1) && chkB (some t) r)) := rfl
theorem rcheck_loop {l : List Sp} (h64 : ∀ s ∈ l, s.i64) (hl : l.length < 4611686018427387904) {x0 : List PV → Int → Bool → Prop} {x1 : Int → Prop} :
   ∀ (r i n : Nat) (p : Option Sp), i + r = l.length → r < n → (p = if i = 0 then none else some (l.getD (i - 1) default)) → (∀ s, p = some s → s.ok) →
     L_r03_Check_0_0 w_r03_Valid w_r01_Less x0 x1 n (spans l) (i : Int) = if chkB p (l.drop i) then x0 (spans l) (l.length : Int) false else x1 8 := by
 intro r
 induction r with
 | zero =>
   intro i n p hi hn _ _
   obtain ⟨n, rfl⟩ : ∃ m, n = m + 1 := ⟨n - 1, by omega⟩
   obtain rfl : i = l.length := by omega
   rw [L_r03_Check_0_0, spans_len, cbF (by omega), List.drop_length]
   unfold chkB
   rfl
 | succ r ih =>
   intro i n p hi hn hp hpo
   obtain ⟨n, rfl⟩ : ∃ m, n = m + 1 := ⟨n - 1, by omega⟩
   have hil : i < l.length := by omega
   have e1 := wib (n := (i : Int) + 1) (by omega) (by omega)
   have hd : l.drop i = l.getD i default :: l.drop (i + 1) := drop_cons default hil
   have hx := h64 _ (Sp.getD_mem hil)
   have IH := fun (ho : (l.getD i default).ok) => ih (i + 1) n (some (l.getD i default)) (by omega) (by omega) (by rw [if_neg (by omega)]; rfl) (fun s hs => by cases hs; exact ho)
   rw [L_r03_Check_0_0, spans_len, cbT (by omega)]
   dsimp only [lt, Go.Pf.jn]
   rw [asT (by omega), asT (by omega), Int.toNat_natCast, spans_at hil, asSp, e1, hd]
   change w_r03_Valid (l.getD i default).a (l.getD i default).b (l.getD i default).c (l.getD i default).d _ = _
   rw [rValid_eq hx]
   by_cases ho : (l.getD i default).ok
   · rw [decide_eq_true ho, show (!true) = false from rfl, cbr_false]
     by_cases h0 : i = 0
     · subst h0
       rw [if_pos rfl] at hp
       subst hp
       rw [cbF (by omega), cbr_false, cast1]
       have := IH ho
       rw [this, chkB_none, decide_eq_true ho, Bool.true_and]
     · rw [if_neg h0] at hp
       have e2 := wib (n := (i : Int) - 1) (by omega) (by omega)
       have e3 : ((i : Int) - 1).toNat = i - 1 := by omega
       rw [cbT (by omega), e2, asT (by omega), asT (by omega), e3, spans_at (by omega), asSp, asT (by omega), asT (by omega), asSp]
       subst hp
       have hpo := hpo _ rfl
       change w_r01_Less (l.getD (i - 1) default).c (l.getD (i - 1) default).d (l.getD i default).a (l.getD i default).b _ = _
       rw [sLess_rv hpo.2.1 ho.1]
       rw [chkB_some, decide_eq_true ho, Bool.true_and]
       show cbr (!decide ((l.getD (i - 1) default).rs.2 < (l.getD i default).rs.1)) _ _ = _
       cases decide ((l.getD (i - 1) default).rs.2 < (l.getD i default).rs.1) with
       | true =>
         rw [show (!true) = false from rfl, cbr_false, cast1, Bool.true_and]
         exact IH ho
       | false =>
         rw [show (!false) = true from rfl, cbr_true, Bool.false_and]
         rfl
   · rw [decide_eq_false ho, show (!false) = true from rfl, cbr_true, cbr_true]
     cases p with
     | none => rw [chkB_none, decide_eq_false ho, Bool.false_and]; rfl
     | some s => rw [chkB_some, decide_eq_false ho, Bool.false_and]; rfl
theorem chkB_gap : ∀ (r : List Sp) (s : Sp), chkB (some s) r = (allOkB r && gapB s r)
 | [], s => rfl
 | t :: r, s => by
   rw [chkB_some, chkB_gap r t]
   rw [show gapB s (t :: r) = (decide (s.rs.2 < t.rs.1) && gapB t r) from rfl]
   show _ = ((decide t.ok && allOkB r) && _)
   cases decide t.ok <;> cases decide (s.rs.2 < t.rs.1) <;> cases allOkB r <;> cases gapB t r <;> rfl
theorem rCheck3_eq {l : List Sp} (h64 : ∀ s ∈ l, s.i64) (hl : l.length < 4611686018427387904) (K : Int → Prop) : w_r03_Check (spans l) K = K (pieceE l) := by
 refine det_r03_Check _ _ (fun K k => ?_) K
 unfold w_r03_Check wv_r03_Check
 rw [spans_len]
 unfold pieceE allE at k
 by_cases h : l.length > 60
 · rw [cbT (by omega)]
   rw [if_pos h, if_neg (by omega)] at k
   exact k
 · rw [cbF (by omega)]
   rw [if_neg h] at k
   refine ⟨l.length + 1, ?_⟩
   refine (rcheck_loop h64 hl l.length 0 (l.length + 1) none (by omega) (by omega) rfl (fun s h => by cases h)).mpr ?_
   rw [List.drop_zero]
   cases l with
   | nil => exact k
   | cons s r =>
     have e : chkB none (s :: r) = (allOkB (s :: r) && gapB s r) := by
       show (decide s.ok && chkB (some s) r) = _
       rw [chkB_gap]
       show _ = ((decide s.ok && allOkB r) && _)
       rw [Bool.and_assoc]
     rw [e]
     dsimp only at k
     cases h1 : allOkB (s :: r) with
     | true =>
       rw [h1, if_pos rfl, if_pos rfl] at k
       rw [Bool.true_and]
       split
       · rename_i h2; rw [if_pos h2] at k; exact k
       · rename_i h2; rw [if_neg h2] at k; exact k
     | false =>
       rw [h1, if_neg (by simp)] at k
       rw [Bool.false_and, if_neg (by simp)]
       rw [if_neg (by decide)] at k
       exact k
def inB (l : List RS) (p : Rat) : Bool := l.any fun s => !decide (p < s.1) && decide (p < s.2)
theorem inB_iff {l : List RS} {p : Rat} : inB l p = true ↔ memP l p := by
 unfold inB memP inS
 rw [List.any_eq_true]
 constructor
 · rintro ⟨s, h1, h2⟩
   simp only [Bool.and_eq_true, Bool.not_eq_true', decide_eq_false_iff_not, decide_eq_true_eq] at h2
   exact ⟨s, h1, by grind, h2.2⟩
 · rintro ⟨s, h1, h2, h3⟩
   refine ⟨s, h1, ?_⟩
   simp only [Bool.and_eq_true, Bool.not_eq_true', decide_eq_false_iff_not, decide_eq_true_eq]
   exact ⟨by grind, h3⟩
end Go.Pf.Vc
namespace Go.Pf.Vc
open Go Go.Pf
theorem insR_small {q : Rat} (hq : small q) {out : List Rat} (hs : ∀ z ∈ out, small z) : ∀ z ∈ insR q out, small z := fun z hz => by
 rcases (insR_mem out).1 hz with rfl | h
 · exact hq
 · exact hs z h
theorem insR_len {q : Rat} : ∀ (out : List Rat), (insR q out).length ≤ out.length + 1
 | [] => Nat.le_refl _
 | x :: r => by
   unfold insR
   split
   · simp
   · split
     · simp
     · have := insR_len (q := q) r
       simp only [List.length_cons]; omega
theorem endsR_small : ∀ {l : List RS} {out : List Rat}, (∀ s ∈ l, smallS s) → (∀ z ∈ out, small z) → ∀ z ∈ endsR l out, small z
 | [], _, _, h => h
 | s :: a, _, hl, h => endsR_small (l := a) (fun t ht => hl t (List.mem_cons_of_mem _ ht)) (insR_small (hl s List.mem_cons_self).2 (insR_small (hl s List.mem_cons_self).1 h))
theorem endsR_len : ∀ (l : List RS) (out : List Rat), (endsR l out).length ≤ out.length + 2 * l.length
 | [], _ => Nat.le_refl _
 | s :: a, out => by
   have h1 := endsR_len a (insR s.2 (insR s.1 out))
   have h2 := insR_len (q := s.2) (insR s.1 out)
   have h3 := insR_len (q := s.1) out
   show (endsR a _).length ≤ _
   simp only [List.length_cons]; omega
end Go.Pf.Vc
namespace Go.Pf.Vc
open Go Go.Pf
def selB (how : Int) (x y : Bool) : Bool := bif how == 2 then (x && !y) else (bif how == 1 then (x && y) else (x || y))
section
variable {a b : List RS} {pts : List Rat} {how : Int}
def selF (a b : List RS) (how : Int) (q : Rat) : Bool := selB how (inB a q) (inB b q)
end
end Go.Pf.Vc
namespace Go.Pf.Vc
open Go Go.Pf
theorem validQ {q r : Rat} (hq : small q) (hr : small r) (K : Bool → Prop) : w_piece_valid q.num q.den r.num r.den K = K (decide (q < r)) := by
 have h := valid_eq (s := spOf (q, r)) ⟨hq.rv.i1, hq.rv.i2, hr.rv.i1, hr.rv.i2⟩ K
 have e : decide (spOf (q, r)).ok = decide (q < r) := by
   rw [decide_eq_decide]
   constructor
   · intro h
     have h3 : rt q.num q.den < rt r.num r.den := h.2.2
     rw [rt_self, rt_self] at h3
     exact h3
   · intro h
     exact spOf_ok (r := (q, r)) ⟨hq, hr⟩ h
 rw [e] at h
 exact h
theorem meetS_nil (b : List RS) : meetS [] b = [] := by unfold meetS; rfl
theorem meetS_nil2 (a : List RS) : meetS a [] = [] := by cases a <;> (unfold meetS; rfl)
theorem notLt (a b : Rat) : (!decide (b < a)) = decide (a ≤ b) := by
 rw [← decide_not]
 exact decide_eq_decide.2 ⟨fun h => by grind, fun h => by grind⟩
section
variable {a b : List RS}
theorem meet1_loop (ha : ∀ s ∈ a, smallS s) (hb : ∀ s ∈ b, smallS s) (hla : a.length < 10000) (hlb : b.length < 10000)
   {x0 : List PV → List PV → Int → Int → Bool → Prop} {x1 : List PV → List PV → List PV → Int → Int → Bool → Prop} {K : List PV → Prop} (hx : ∀ L i k q, x1 L (rsp a) (rsp b) i k q = K L) :
   ∀ (m i k n : Nat) (acc : List RS), i ≤ a.length → k ≤ b.length → (a.length - i) + (b.length - k) = m → m < n → acc.length ≤ i + k →
     L_piece_Meet_0_1 w_piece_both w_piece_later w_piece_sooner w_piece_valid w_piece_order w_piece_few x0 x1 n (rsp acc) (rsp a) (rsp b) (i : Int) (k : Int) = K (rsp (acc ++ meetS (a.drop i) (b.drop k))) := by
 intro m
 induction m with
 | zero =>
   intro i k n acc hi hk hm hn hac
   obtain ⟨n, rfl⟩ : ∃ m, n = m + 1 := ⟨n - 1, by omega⟩
   rw [L_piece_Meet_0_1]
   dsimp only [Go.Pf.jn]
   rw [rsp_len, cbF (by omega), cbr_false, hx, List.drop_eq_nil_of_le (by omega), meetS_nil, List.append_nil]
 | succ m ih =>
   intro i k n acc hi hk hm hn hac
   obtain ⟨n, rfl⟩ : ∃ m, n = m + 1 := ⟨n - 1, by omega⟩
   by_cases h1 : i < a.length
   case neg =>
     rw [L_piece_Meet_0_1]
     dsimp only [Go.Pf.jn]
     rw [rsp_len, cbF (by omega), cbr_false, hx, List.drop_eq_nil_of_le (by omega), meetS_nil, List.append_nil]
   by_cases h2 : k < b.length
   case neg =>
     rw [L_piece_Meet_0_1]
     dsimp only [Go.Pf.jn]
     rw [rsp_len, rsp_len, cbT (by omega), decide_eq_false (by omega), cbr_false, hx, List.drop_eq_nil_of_le (as := b) (by omega), meetS_nil2, List.append_nil]
   have e1 := wib (n := (i : Int) + 1) (by omega) (by omega)
   have e2 := wib (n := (k : Int) + 1) (by omega) (by omega)
   have hd1 : a.drop i = a.getD i default :: a.drop (i + 1) := drop_cons default h1
   have hd2 : b.drop k = b.getD k default :: b.drop (k + 1) := drop_cons default h2
   have hx1 := smallS_mem ha h1
   have hx2 := smallS_mem hb h2
   have IH1 := fun acc' h => ih (i + 1) k n acc' (by omega) hk (by omega) (by omega) h
   have IH2 := fun acc' h => ih i (k + 1) n acc' hi (by omega) (by omega) (by omega) h
   rw [hd2] at IH1
   rw [hd1] at IH2
   rw [hd1, hd2]
   generalize hq1 : a.getD i default = s at hx1 IH2
   generalize hq2 : b.getD k default = t at hx2 IH1
   have em : meetS (s :: a.drop (i + 1)) (t :: b.drop (k + 1)) = (if maxR s.1 t.1 < minR s.2 t.2 then [(maxR s.1 t.1, minR s.2 t.2)] else []) ++ (if s.2 ≤ t.2 then meetS (a.drop (i + 1)) (t :: b.drop (k + 1)) else meetS (s :: a.drop (i + 1)) (b.drop (k + 1))) := by rw [meetS]
   have hmx := small_max hx1.1 hx2.1
   have hmn := small_min hx1.2 hx2.2
   rw [L_piece_Meet_0_1, em]
   dsimp only [lt, Go.Pf.jn]
   simp (discharger := omega) only [e1, e2, rsp_len, cbT, asT, Int.toNat_natCast, rsp_at, hq1, hq2, asR, encR0, encR1, encR2, encR3, later_eq hx1.1 hx2.1, sooner_eq hx1.2 hx2.2, validQ hmx hmn, order_eq hx1.2 hx2.2, cmpQ_le, notLt, decide_true, asr_true, Nat.zero_add, asNo, Bool.true_and]
   by_cases hv : maxR s.1 t.1 < minR s.2 t.2
   · rw [cbT hv, if_pos hv, asT (by show _ ≤ 35184372088832; omega), rsp_one (maxR s.1 t.1, minR s.2 t.2), rsp_app]
     by_cases hle : s.2 ≤ t.2
     · rw [cbT hle, if_pos hle, cast1, IH1 _ (by simp; omega), List.append_assoc]
     · rw [cbF hle, if_neg hle, cast1, IH2 _ (by simp; omega), List.append_assoc]
   · rw [cbF hv, if_neg hv, List.nil_append]
     by_cases hle : s.2 ≤ t.2
     · rw [cbT hle, if_pos hle, cast1, IH1 _ (by omega)]
     · rw [cbF hle, if_neg hle, cast1, IH2 _ (by omega)]
theorem meet0_loop (ha : ∀ s ∈ a, smallS s) (hb : ∀ s ∈ b, smallS s) (hla : a.length < 10000) (hlb : b.length < 10000)
   {x0 : List PV → List PV → Int → Int → Bool → Prop} {x1 : List PV → List PV → List PV → Int → Int → Bool → Prop} {K : List PV → Prop} (hx0 : ∀ i k q, x0 (rsp a) (rsp b) i k q = K []) (hx : ∀ L i k q, x1 L (rsp a) (rsp b) i k q = K L) :
   ∀ (m i k n : Nat), i ≤ a.length → k ≤ b.length → (a.length - i) + (b.length - k) = m → m < n →
     L_piece_Meet_0_0 w_piece_both w_piece_later w_piece_sooner w_piece_valid w_piece_order w_piece_few x0 x1 n (rsp a) (rsp b) (i : Int) (k : Int) = K (rsp (meetS (a.drop i) (b.drop k))) := by
 intro m
 induction m with
 | zero =>
   intro i k n hi hk hm hn
   obtain ⟨n, rfl⟩ : ∃ m, n = m + 1 := ⟨n - 1, by omega⟩
   rw [L_piece_Meet_0_0]
   dsimp only [Go.Pf.jn]
   rw [rsp_len, cbF (by omega), cbr_false, hx0, List.drop_eq_nil_of_le (by omega), meetS_nil]
   rfl
 | succ m ih =>
   intro i k n hi hk hm hn
   obtain ⟨n, rfl⟩ : ∃ m, n = m + 1 := ⟨n - 1, by omega⟩
   by_cases h1 : i < a.length
   case neg =>
     rw [L_piece_Meet_0_0]
     dsimp only [Go.Pf.jn]
     rw [rsp_len, cbF (by omega), cbr_false, hx0, List.drop_eq_nil_of_le (by omega), meetS_nil]
     rfl
   by_cases h2 : k < b.length
   case neg =>
     rw [L_piece_Meet_0_0]
     dsimp only [Go.Pf.jn]
     rw [rsp_len, rsp_len, cbT (by omega), decide_eq_false (by omega), cbr_false, hx0, List.drop_eq_nil_of_le (as := b) (by omega), meetS_nil2]
     rfl
   have e1 := wib (n := (i : Int) + 1) (by omega) (by omega)
   have e2 := wib (n := (k : Int) + 1) (by omega) (by omega)
   have hd1 : a.drop i = a.getD i default :: a.drop (i + 1) := drop_cons default h1
   have hd2 : b.drop k = b.getD k default :: b.drop (k + 1) := drop_cons default h2
   have hx1 := smallS_mem ha h1
   have hx2 := smallS_mem hb h2
   have IH1 := ih (i + 1) k n (by omega) hk (by omega) (by omega)
   have IH2 := ih i (k + 1) n hi (by omega) (by omega) (by omega)
   have JH1 := fun acc' h => meet1_loop ha hb hla hlb (x0 := x0) hx m (i + 1) k n acc' (by omega) hk (by omega) (by omega) h
   have JH2 := fun acc' h => meet1_loop ha hb hla hlb (x0 := x0) hx m i (k + 1) n acc' hi (by omega) (by omega) (by omega) h
   rw [hd2] at IH1 JH1
   rw [hd1] at IH2 JH2
   rw [hd1, hd2]
   generalize hq1 : a.getD i default = s at hx1 IH2 JH2
   generalize hq2 : b.getD k default = t at hx2 IH1 JH1
   have em : meetS (s :: a.drop (i + 1)) (t :: b.drop (k + 1)) = (if maxR s.1 t.1 < minR s.2 t.2 then [(maxR s.1 t.1, minR s.2 t.2)] else []) ++ (if s.2 ≤ t.2 then meetS (a.drop (i + 1)) (t :: b.drop (k + 1)) else meetS (s :: a.drop (i + 1)) (b.drop (k + 1))) := by rw [meetS]
   have hmx := small_max hx1.1 hx2.1
   have hmn := small_min hx1.2 hx2.2
   rw [L_piece_Meet_0_0, em]
   dsimp only [lt, Go.Pf.jn]
   simp (discharger := omega) only [e1, e2, rsp_len, cbT, asT, Int.toNat_natCast, rsp_at, hq1, hq2, asR, encR0, encR1, encR2, encR3, later_eq hx1.1 hx2.1, sooner_eq hx1.2 hx2.2, validQ hmx hmn, order_eq hx1.2 hx2.2, cmpQ_le, notLt]
   by_cases hv : maxR s.1 t.1 < minR s.2 t.2
   · rw [cbT hv, if_pos hv, rsp_one (maxR s.1 t.1, minR s.2 t.2), show (rsp [(maxR s.1 t.1, minR s.2 t.2)]).length = 1 from rfl]
     simp only [decide_true, Bool.true_and, asr_true]
     by_cases hle : s.2 ≤ t.2
     · rw [cbT hle, if_pos hle, cast1, JH1 _ (by simp only [List.length_cons, List.length_nil]; omega)]
     · rw [cbF hle, if_neg hle, cast1, JH2 _ (by simp only [List.length_cons, List.length_nil]; omega)]
   · rw [cbF hv, if_neg hv, List.nil_append]
     by_cases hle : s.2 ≤ t.2
     · rw [cbT hle, if_pos hle, cast1, IH1]
     · rw [cbF hle, if_neg hle, cast1, IH2]
end
theorem rsp_few (l : List RS) (K : List PV → Int → Prop) : w_piece_few (rsp l) K = if l.length > 60 then K [] 4 else K (rsp l) 0 := by
 have := few_eq (l := l.map spOf) K
 rw [List.length_map] at this
 exact this
def fewR (e : Int) (l : List RS) (K : List PV → Int → Prop) : Prop := if e = 0 then (if l.length > 60 then K [] 4 else K (rsp l) 0) else K [] e
theorem Meet_eq {a b : List Sp} (ha : ∀ s ∈ a, s.i64) (hb : ∀ s ∈ b, s.i64) (hla : a.length < 4611686018427387904) (hlb : b.length < 4611686018427387904) (K : List PV → Int → Prop) :
   w_piece_Meet (spans a) (spans b) K = fewR (bothE a b) (meetS (rsL a) (rsL b)) K := by
 have key : ∀ K : List PV → Int → Prop, fewR (bothE a b) (meetS (rsL a) (rsL b)) K → w_piece_Meet (spans a) (spans b) K := by
   intro K k
   unfold w_piece_Meet wv_piece_Meet
   rw [both_eq ha hb hla hlb]
   unfold fewR at k
   by_cases h : bothE a b = 0
   · rw [cnF h]
     rw [if_pos h] at k
     have h2 := h
     unfold bothE at h2
     split at h2
     · rename_i h3
       obtain ⟨l1, o1, _⟩ := pieceE_zero h3
       obtain ⟨l2, o2, _⟩ := pieceE_zero h2
       rw [spans_rsL o1, spans_rsL o2]
       have s1 : ∀ s ∈ rsL a, smallS s := fun s hs => by obtain ⟨t, ht, rfl⟩ := List.mem_map.1 hs; exact rs_small (o1 t ht)
       have s2 : ∀ s ∈ rsL b, smallS s := fun s hs => by obtain ⟨t, ht, rfl⟩ := List.mem_map.1 hs; exact rs_small (o2 t ht)
       have n1 : (rsL a).length = a.length := List.length_map ..
       have n2 : (rsL b).length = b.length := List.length_map ..
       refine ⟨(rsL a).length + (rsL b).length + 1, ?_⟩
       refine (meet0_loop s1 s2 (by omega) (by omega) (K := fun L => w_piece_few L fun L' e => K L' e) (fun _ _ _ => rfl) (fun L i k q => ?_) ((rsL a).length + (rsL b).length) 0 0 _ (by omega) (by omega) (by omega) (by omega)).mpr ?_
       · rw [asE, asT (by omega), List.take_length]
       · rw [List.drop_zero, List.drop_zero]
         rw [rsp_few]
         exact k
     · rename_i h3; exact absurd h2 h3
   · rw [cnT h]
     rw [if_neg h] at k
     exact k
 unfold fewR at key ⊢
 split
 · rename_i h
   simp only [if_pos h] at key
   split
   · rename_i h2; simp only [if_pos h2] at key; exact det_piece_Meet _ _ _ _ key K
   · rename_i h2; simp only [if_neg h2] at key; exact det_piece_Meet _ _ _ _ key K
 · rename_i h
   simp only [if_neg h] at key
   exact det_piece_Meet _ _ _ _ key K
end Go.Pf.Vc
namespace Go.Pf.Vc
open Go Go.Pf
theorem cmpQ_geB (q r : Rat) : decide (cmpQ q r ≥ 0) = decide (r ≤ q) := by
 have := cmpQ_ge q r
 rw [this, notLt]
theorem leB (q r : Rat) : decide (cmpQ q r ≤ 0) = decide (q ≤ r) := by rw [cmpQ_le, notLt]
theorem min1_cons (hi x : Rat) (t : RS) (b : List RS) : min1 hi x (t :: b) = if t.2 ≤ x ∨ hi ≤ t.1 then min1 hi x b else (if x < t.1 then [(x, t.1)] else []) ++ min1 hi t.2 b := rfl
def at1 (hi : Rat) : Rat → List RS → Rat
 | x, [] => x
 | x, t :: b => if t.2 ≤ x ∨ hi ≤ t.1 then at1 hi x b else at1 hi t.2 b
def left1 (hi : Rat) : Rat → List RS → List RS
 | _, [] => []
 | x, t :: b => if t.2 ≤ x ∨ hi ≤ t.1 then left1 hi x b else (if x < t.1 then [(x, t.1)] else []) ++ left1 hi t.2 b
theorem min1_split (hi : Rat) : ∀ (b : List RS) (x : Rat), min1 hi x b = left1 hi x b ++ (if at1 hi x b < hi then [(at1 hi x b, hi)] else [])
 | [], x => rfl
 | t :: b, x => by
   rw [min1_cons]
   unfold left1 at1
   split
   · exact min1_split hi b x
   · rw [min1_split hi b t.2, List.append_assoc]
theorem jn_le {d : Bool} {c : Bool} {k : Bool → Prop} : Go.Pf.jn (fun j => cbr d (j true) (j c)) k = k (d || c) := by cases d <;> rfl
theorem at1_small {hi x : Rat} {b : List RS} (hb : ∀ s ∈ b, smallS s) (hx : small x) : small (at1 hi x b) := by
 induction b generalizing x with
 | nil => exact hx
 | cons t b ih =>
   unfold at1
   split
   · exact ih (fun s hs => hb s (List.mem_cons_of_mem _ hs)) hx
   · exact ih (fun s hs => hb s (List.mem_cons_of_mem _ hs)) (hb t List.mem_cons_self).2
theorem left1_len (hi : Rat) : ∀ (b : List RS) (x : Rat), (left1 hi x b).length ≤ b.length
 | [], _ => Nat.le_refl _
 | t :: b, x => by
   unfold left1
   split
   · have := left1_len hi b x; simp only [List.length_cons]; omega
   · have := left1_len hi b t.2
     rw [List.length_append]
     split
     · simp only [List.length_cons, List.length_nil]; omega
     · simp only [List.length_cons, List.length_nil]; omega
section
variable {b : List RS}
theorem min1_loop (hb : ∀ s ∈ b, smallS s) (hlb : b.length < 10000) {hi : Rat} (hh : small hi) (_ l1 l7 : List PV) (i1 i2 i8 i9 : Int)
   {x0 : List PV → Int → Int → Int → Int → Int → Int → List PV → Int → Int → List PV → Int → Int → Bool → Prop} {x1 : List PV → List PV → Int → Int → Int → Int → Int → Int → List PV → Int → Int → List PV → Int → Int → Bool → Prop} :
   ∀ (r i n : Nat) (acc : List RS) (x : Rat), i + r = b.length → r < n → acc.length ≤ 100000000 + i → small x →
     L_piece_Minus_1_1 w_piece_both w_piece_order w_piece_few x0 x1 n (rsp acc) l1 i1 i2 hi.num hi.den x.num x.den l7 i8 i9 (rsp b) (b.length : Int) (i : Int) =
       x1 (rsp (acc ++ left1 hi x (b.drop i))) l1 i1 i2 hi.num hi.den (at1 hi x (b.drop i)).num (at1 hi x (b.drop i)).den l7 i8 i9 (rsp b) (b.length : Int) (b.length : Int) false := by
 intro r
 induction r with
 | zero =>
   intro i n acc x hi' hn hac hx
   obtain ⟨n, rfl⟩ : ∃ m, n = m + 1 := ⟨n - 1, by omega⟩
   obtain rfl : i = b.length := by omega
   rw [L_piece_Minus_1_1, cbF (by omega), List.drop_length]
   unfold left1 at1
   rw [List.append_nil]
 | succ r ih =>
   intro i n acc x hi' hn hac hx
   obtain ⟨n, rfl⟩ : ∃ m, n = m + 1 := ⟨n - 1, by omega⟩
   have h1 : i < b.length := by omega
   have e1 := wib (n := (i : Int) + 1) (by omega) (by omega)
   have hd1 : b.drop i = b.getD i default :: b.drop (i + 1) := drop_cons default h1
   have hx1 := smallS_mem hb h1
   have IH := fun acc' x' h => ih (i + 1) n acc' x' (by omega) (by omega) h
   rw [hd1]
   generalize hq1 : b.getD i default = t at hx1
   rw [L_piece_Minus_1_1]
   dsimp only [lt]
   simp (discharger := omega) only [rsp_len, cbT, asT, Int.toNat_natCast, rsp_at, hq1, asR, encR0, encR1, encR2, encR3, order_eq hx1.2 hx, order_eq hx1.1 hh, order_eq hx hx1.1, leB, cmpQ_geB, cmpQ_neg, jn_le, e1, decide_true, asr_true, Nat.zero_add, asNo, Bool.true_and]
   dsimp only [Go.Pf.jn]
   unfold left1 at1
   by_cases hc : t.2 ≤ x ∨ hi ≤ t.1
   · have e : (decide (t.2 ≤ x) || decide (hi ≤ t.1)) = true := by rw [Bool.or_eq_true, decide_eq_true_eq, decide_eq_true_eq]; exact hc
     rw [e, cbr_true, if_pos hc, if_pos hc, cast1]
     exact IH acc x (by omega) hx
   · have e : (decide (t.2 ≤ x) || decide (hi ≤ t.1)) = false := by
       rw [Bool.or_eq_false_iff, decide_eq_false_iff_not, decide_eq_false_iff_not]; exact ⟨fun h => hc (.inl h), fun h => hc (.inr h)⟩
     rw [e, cbr_false, if_neg hc, if_neg hc]
     by_cases h2 : x < t.1
     · rw [cbT h2, if_pos h2, asT (by show _ ≤ 35184372088832; omega), rsp_one (x, t.1), rsp_app, cast1, IH _ _ (by simp only [List.length_append, List.length_cons, List.length_nil]; omega) hx1.2, List.append_assoc]
     · rw [cbF h2, if_neg h2, cast1, List.nil_append]
       exact IH acc t.2 (by omega) hx1.2
theorem min0_loop (hb : ∀ s ∈ b, smallS s) (hlb : b.length < 10000) {hi : Rat} (hh : small hi) (l1 l7 : List PV) (i1 i2 i8 i9 : Int)
   {x0 : List PV → Int → Int → Int → Int → Int → Int → List PV → Int → Int → List PV → Int → Int → Bool → Prop} {x1 : List PV → List PV → Int → Int → Int → Int → Int → Int → List PV → Int → Int → List PV → Int → Int → Bool → Prop} :
   ∀ (r i n : Nat) (x : Rat), i + r = b.length → r < n → small x →
     L_piece_Minus_1_0 w_piece_both w_piece_order w_piece_few x0 x1 n l1 i1 i2 hi.num hi.den x.num x.den l7 i8 i9 (rsp b) (b.length : Int) (i : Int) =
       if left1 hi x (b.drop i) = [] then x0 l1 i1 i2 hi.num hi.den (at1 hi x (b.drop i)).num (at1 hi x (b.drop i)).den l7 i8 i9 (rsp b) (b.length : Int) (b.length : Int) false
       else x1 (rsp (left1 hi x (b.drop i))) l1 i1 i2 hi.num hi.den (at1 hi x (b.drop i)).num (at1 hi x (b.drop i)).den l7 i8 i9 (rsp b) (b.length : Int) (b.length : Int) false := by
 intro r
 induction r with
 | zero =>
   intro i n x hi' hn hx
   obtain ⟨n, rfl⟩ : ∃ m, n = m + 1 := ⟨n - 1, by omega⟩
   obtain rfl : i = b.length := by omega
   rw [L_piece_Minus_1_0, cbF (by omega), List.drop_length]
   unfold left1 at1
   rw [if_pos rfl]
 | succ r ih =>
   intro i n x hi' hn hx
   obtain ⟨n, rfl⟩ : ∃ m, n = m + 1 := ⟨n - 1, by omega⟩
   have h1 : i < b.length := by omega
   have e1 := wib (n := (i : Int) + 1) (by omega) (by omega)
   have hd1 : b.drop i = b.getD i default :: b.drop (i + 1) := drop_cons default h1
   have hx1 := smallS_mem hb h1
   have IH := fun x' => ih (i + 1) n x' (by omega) (by omega)
   have JH := fun acc' x' h => min1_loop hb hlb hh [] l1 l7 i1 i2 i8 i9 (x0 := x0) (x1 := x1) r (i + 1) n acc' x' (by omega) (by omega) h
   rw [hd1]
   generalize hq1 : b.getD i default = t at hx1
   rw [L_piece_Minus_1_0]
   dsimp only [lt]
   simp (discharger := omega) only [rsp_len, cbT, asT, Int.toNat_natCast, rsp_at, hq1, asR, encR0, encR1, encR2, encR3, order_eq hx1.2 hx, order_eq hx1.1 hh, order_eq hx hx1.1, leB, cmpQ_geB, cmpQ_neg, jn_le, e1]
   dsimp only [Go.Pf.jn]
   have el : left1 hi x (t :: b.drop (i + 1)) = if t.2 ≤ x ∨ hi ≤ t.1 then left1 hi x (b.drop (i + 1)) else (if x < t.1 then [(x, t.1)] else []) ++ left1 hi t.2 (b.drop (i + 1)) := rfl
   have ea : at1 hi x (t :: b.drop (i + 1)) = if t.2 ≤ x ∨ hi ≤ t.1 then at1 hi x (b.drop (i + 1)) else at1 hi t.2 (b.drop (i + 1)) := rfl
   rw [el, ea]
   by_cases hc : t.2 ≤ x ∨ hi ≤ t.1
   · have e : (decide (t.2 ≤ x) || decide (hi ≤ t.1)) = true := by rw [Bool.or_eq_true, decide_eq_true_eq, decide_eq_true_eq]; exact hc
     rw [e, cbr_true, if_pos hc, if_pos hc, cast1]
     exact IH x hx
   · have e : (decide (t.2 ≤ x) || decide (hi ≤ t.1)) = false := by
       rw [Bool.or_eq_false_iff, decide_eq_false_iff_not, decide_eq_false_iff_not]; exact ⟨fun h => hc (.inl h), fun h => hc (.inr h)⟩
     rw [e, cbr_false, if_neg hc, if_neg hc]
     by_cases h2 : x < t.1
     · rw [cbT h2, if_pos h2, rsp_one (x, t.1), show (rsp [(x, t.1)]).length = 1 from rfl, if_neg (by simp)]
       simp only [decide_true, Bool.true_and, asr_true]
       rw [cast1, JH _ _ (by simp only [List.length_cons, List.length_nil]; omega) hx1.2]
     · rw [cbF h2, if_neg h2, cast1, List.nil_append]
       exact IH t.2 hx1.2
end
end Go.Pf.Vc
namespace Go.Pf.Vc
open Go Go.Pf
section
variable {a b : List RS}
theorem min1_len (hi : Rat) (b : List RS) (x : Rat) : (min1 hi x b).length ≤ b.length + 1 := by
 rw [min1_split, List.length_append]
 have := left1_len hi b x
 split <;> simp only [List.length_cons, List.length_nil] <;> omega
theorem minus_own (ha : ∀ s ∈ a, smallS s) (hb : ∀ s ∈ b, smallS s) (hla : a.length < 1000) (hlb : b.length < 1000)
   {x0 : List PV → List PV → Int → Int → Bool → Prop} {x1 : List PV → List PV → List PV → Int → Int → Bool → Prop} {K : List PV → Prop} (hx : ∀ L i k q, x1 L (rsp b) (rsp a) i k q = K L) :
   ∀ (r i n : Nat) (acc : List RS), i + r = a.length → r < n → acc.length ≤ (b.length + 1) * i → K (rsp (acc ++ minusS (a.drop i) b)) →
     L_piece_Minus_0_1 w_piece_both w_piece_order w_piece_few x0 x1 n (rsp acc) (rsp b) (rsp a) (a.length : Int) (i : Int) := by
 intro r
 induction r with
 | zero =>
   intro i n acc hi hn hac k
   obtain ⟨n, rfl⟩ : ∃ m, n = m + 1 := ⟨n - 1, by omega⟩
   obtain rfl : i = a.length := by omega
   rw [L_piece_Minus_0_1, cbF (by omega), hx]
   rw [List.drop_length] at k
   unfold minusS at k
   rw [List.flatMap_nil, List.append_nil] at k
   exact k
 | succ r ih =>
   intro i n acc hi hn hac k
   obtain ⟨n, rfl⟩ : ∃ m, n = m + 1 := ⟨n - 1, by omega⟩
   have h1 : i < a.length := by omega
   have e1 := wib (n := (i : Int) + 1) (by omega) (by omega)
   have hd1 : a.drop i = a.getD i default :: a.drop (i + 1) := drop_cons default h1
   have hx1 := smallS_mem ha h1
   have hml := min1_len (a.getD i default).2 b (a.getD i default).1
   have hll := left1_len (a.getD i default).2 b (a.getD i default).1
   have hmul : (b.length + 1) * (i + 1) = (b.length + 1) * i + (b.length + 1) := Nat.mul_succ _ _
   have hbig : (b.length + 1) * i ≤ 1000 * 1000 := Nat.mul_le_mul (by omega) (by omega)
   have IH := fun acc' h => ih (i + 1) n acc' (by omega) (by omega) h
   rw [hd1] at k
   unfold minusS at k
   rw [List.flatMap_cons, min1_split, List.append_assoc, ← List.append_assoc] at k
   generalize hq1 : a.getD i default = t at hx1 k hml hll
   have hat := at1_small (hi := t.2) hb hx1.1
   rw [L_piece_Minus_0_1, cbT (by omega)]
   dsimp only [Go.Pf.jn]
   rw [rsp_len, asT (by omega), asT (by omega), Int.toNat_natCast, rsp_at h1, hq1]
   show asr (conf (.agg [.i .i64, .i .i64, .i .i64, .i .i64]) (encR t)) _
   rw [asR, encR0, encR1, encR2, encR3, asEE, asE, rsp_len]
   refine ⟨b.length + 1, ?_⟩
   refine (min1_loop hb (by omega) hx1.2 [] _ _ _ _ _ _ b.length 0 (b.length + 1) acc t.1 (by omega) (by omega) (by omega) hx1.1).mpr ?_
   rw [List.drop_zero]
   show w_piece_order (at1 t.2 t.1 b).num (at1 t.2 t.1 b).den t.2.num t.2.den _
   rw [order_eq hat hx1.2, cmpQ_neg]
   have hlen : (rsp (acc ++ left1 t.2 t.1 b)).length = acc.length + (left1 t.2 t.1 b).length := by rw [rsp_len, List.length_append]
   by_cases h2 : at1 t.2 t.1 b < t.2
   · rw [if_pos h2] at k
     rw [cbT h2, hlen, asE, asT (by omega), asNo (by omega), asE, asT (by show _ ≤ 35184372088832; omega), rsp_one (at1 t.2 t.1 b, t.2), rsp_app]
     show asr _ (L_piece_Minus_0_1 w_piece_both w_piece_order w_piece_few x0 x1 n _ (rsp b) (rsp a) (a.length : Int) (IntKind.i64.wrap ((i : Int) + 1)))
     rw [asEE, asE, e1, cast1]
     refine IH _ (by simp only [List.length_append, List.length_cons, List.length_nil]; omega) ?_
     rw [List.append_assoc (acc ++ left1 t.2 t.1 b)]
     exact k
   · rw [if_neg h2, List.nil_append] at k
     rw [cbF h2]
     show asr _ (L_piece_Minus_0_1 w_piece_both w_piece_order w_piece_few x0 x1 n _ (rsp b) (rsp a) (a.length : Int) (IntKind.i64.wrap ((i : Int) + 1)))
     rw [asEE, asE, e1, cast1]
     exact IH _ (by simp only [List.length_append]; omega) k
theorem minus_nil (ha : ∀ s ∈ a, smallS s) (hb : ∀ s ∈ b, smallS s) (hla : a.length < 1000) (hlb : b.length < 1000)
   {x0 : List PV → List PV → Int → Int → Bool → Prop} {x1 : List PV → List PV → List PV → Int → Int → Bool → Prop} {K : List PV → Prop} (hx0 : ∀ i k q, x0 (rsp b) (rsp a) i k q = K []) (hx : ∀ L i k q, x1 L (rsp b) (rsp a) i k q = K L) :
   ∀ (r i n : Nat), i + r = a.length → r < n → K (rsp (minusS (a.drop i) b)) →
     L_piece_Minus_0_0 w_piece_both w_piece_order w_piece_few x0 x1 n (rsp b) (rsp a) (a.length : Int) (i : Int) := by
 intro r
 induction r with
 | zero =>
   intro i n hi hn k
   obtain ⟨n, rfl⟩ : ∃ m, n = m + 1 := ⟨n - 1, by omega⟩
   obtain rfl : i = a.length := by omega
   rw [L_piece_Minus_0_0, cbF (by omega), hx0]
   rw [List.drop_length] at k
   exact k
 | succ r ih =>
   intro i n hi hn k
   obtain ⟨n, rfl⟩ : ∃ m, n = m + 1 := ⟨n - 1, by omega⟩
   have h1 : i < a.length := by omega
   have e1 := wib (n := (i : Int) + 1) (by omega) (by omega)
   have hd1 : a.drop i = a.getD i default :: a.drop (i + 1) := drop_cons default h1
   have hx1 := smallS_mem ha h1
   have hll := left1_len (a.getD i default).2 b (a.getD i default).1
   have hmul : (b.length + 1) * (i + 1) = (b.length + 1) * i + (b.length + 1) := Nat.mul_succ _ _
   have IH := ih (i + 1) n (by omega) (by omega)
   have JH := fun acc' h => minus_own ha hb hla hlb (x0 := x0) hx r (i + 1) n acc' (by omega) (by omega) h
   rw [hd1] at k
   unfold minusS at k
   rw [List.flatMap_cons, min1_split] at k
   generalize hq1 : a.getD i default = t at hx1 k hll
   have hat := at1_small (hi := t.2) hb hx1.1
   rw [L_piece_Minus_0_0, cbT (by omega)]
   dsimp only [Go.Pf.jn]
   rw [rsp_len, asT (by omega), asT (by omega), Int.toNat_natCast, rsp_at h1, hq1]
   show asr (conf (.agg [.i .i64, .i .i64, .i .i64, .i .i64]) (encR t)) _
   rw [asR, encR0, encR1, encR2, encR3, rsp_len]
   refine ⟨b.length + 1, ?_⟩
   refine (min0_loop hb (by omega) hx1.2 _ _ _ _ _ _ b.length 0 (b.length + 1) t.1 (by omega) (by omega) hx1.1).mpr ?_
   rw [List.drop_zero]
   by_cases hl : left1 t.2 t.1 b = []
   · rw [if_pos hl]
     rw [hl, List.nil_append] at k
     show w_piece_order (at1 t.2 t.1 b).num (at1 t.2 t.1 b).den t.2.num t.2.den _
     rw [order_eq hat hx1.2, cmpQ_neg]
     by_cases h2 : at1 t.2 t.1 b < t.2
     · rw [if_pos h2] at k
       rw [cbT h2, rsp_one (at1 t.2 t.1 b, t.2)]
       show asr _ (L_piece_Minus_0_1 w_piece_both w_piece_order w_piece_few x0 x1 n _ (rsp b) (rsp a) (a.length : Int) (IntKind.i64.wrap ((i : Int) + 1)))
       rw [asEE, asE, e1, cast1]
       exact JH _ (by simp only [List.length_cons, List.length_nil]; omega) k
     · rw [if_neg h2, List.nil_append] at k
       rw [cbF h2]
       show L_piece_Minus_0_0 w_piece_both w_piece_order w_piece_few x0 x1 n (rsp b) (rsp a) (a.length : Int) (IntKind.i64.wrap ((i : Int) + 1))
       rw [e1, cast1]
       exact IH k
   · rw [if_neg hl]
     show w_piece_order (at1 t.2 t.1 b).num (at1 t.2 t.1 b).den t.2.num t.2.den _
     rw [order_eq hat hx1.2, cmpQ_neg]
     have hlen : (rsp (left1 t.2 t.1 b)).length = (left1 t.2 t.1 b).length := rsp_len _
     by_cases h2 : at1 t.2 t.1 b < t.2
     · rw [if_pos h2] at k
       rw [cbT h2, hlen, asE, asT (by omega), asNo (by omega), asE, asT (by show _ ≤ 35184372088832; omega), rsp_one (at1 t.2 t.1 b, t.2), rsp_app]
       show asr _ (L_piece_Minus_0_1 w_piece_both w_piece_order w_piece_few x0 x1 n _ (rsp b) (rsp a) (a.length : Int) (IntKind.i64.wrap ((i : Int) + 1)))
       rw [asEE, asE, e1, cast1]
       exact JH _ (by simp only [List.length_append, List.length_cons, List.length_nil]; omega) k
     · rw [if_neg h2, List.append_nil] at k
       rw [cbF h2]
       show asr _ (L_piece_Minus_0_1 w_piece_both w_piece_order w_piece_few x0 x1 n _ (rsp b) (rsp a) (a.length : Int) (IntKind.i64.wrap ((i : Int) + 1)))
       rw [asEE, asE, e1, cast1]
       exact JH _ (by omega) k
end
theorem both_zero {a b : List Sp} (h : bothE a b = 0) : a.length ≤ 60 ∧ b.length ≤ 60 ∧ (∀ s ∈ a, s.ok) ∧ (∀ s ∈ b, s.ok) ∧ canon (rsL a) ∧ canon (rsL b) ∧ (∀ s ∈ rsL a, smallS s) ∧ (∀ s ∈ rsL b, smallS s) ∧ spans a = rsp (rsL a) ∧ spans b = rsp (rsL b) ∧ (rsL a).length = a.length ∧ (rsL b).length = b.length := by
 unfold bothE at h
 split at h
 · rename_i h3
   obtain ⟨l1, o1, c1⟩ := pieceE_zero h3
   obtain ⟨l2, o2, c2⟩ := pieceE_zero h
   exact ⟨l1, l2, o1, o2, c1, c2, fun s hs => by obtain ⟨t, ht, rfl⟩ := List.mem_map.1 hs; exact rs_small (o1 t ht), fun s hs => by obtain ⟨t, ht, rfl⟩ := List.mem_map.1 hs; exact rs_small (o2 t ht), spans_rsL o1, spans_rsL o2, List.length_map .., List.length_map ..⟩
 · rename_i h3; exact absurd h h3
theorem few_det {w : (List PV → Int → Prop) → Prop} {e : Int} {l : List RS} (det : ∀ r0 r1, (∀ K : List PV → Int → Prop, K r0 r1 → w K) → ∀ K, w K = K r0 r1) (key : ∀ K, fewR e l K → w K) (K : List PV → Int → Prop) : w K = fewR e l K := by
 unfold fewR at key ⊢
 split
 · rename_i h
   simp only [if_pos h] at key
   split
   · rename_i h2; simp only [if_pos h2] at key; exact det _ _ key K
   · rename_i h2; simp only [if_neg h2] at key; exact det _ _ key K
 · rename_i h
   simp only [if_neg h] at key
   exact det _ _ key K
theorem Minus_eq {a b : List Sp} (ha : ∀ s ∈ a, s.i64) (hb : ∀ s ∈ b, s.i64) (hla : a.length < 4611686018427387904) (hlb : b.length < 4611686018427387904) (K : List PV → Int → Prop) :
   w_piece_Minus (spans a) (spans b) K = fewR (bothE a b) (minusS (rsL a) (rsL b)) K := by
 refine few_det (fun r0 r1 h K => det_piece_Minus _ _ r0 r1 h K) (fun K k => ?_) K
 unfold w_piece_Minus wv_piece_Minus
 rw [both_eq ha hb hla hlb]
 unfold fewR at k
 by_cases h : bothE a b = 0
 · rw [cnF h]
   rw [if_pos h] at k
   obtain ⟨l1, l2, _, _, _, _, s1, s2, e1, e2, n1, n2⟩ := both_zero h
   rw [e1, e2, rsp_len]
   refine ⟨(rsL a).length + 1, ?_⟩
   refine minus_nil s1 s2 (by omega) (by omega) (K := fun L => w_piece_few L fun L' e => K L' e) (fun _ _ _ => rfl) (fun L i k q => ?_) (rsL a).length 0 _ (by omega) (by omega) ?_
   · rw [asE, asT (by omega), List.take_length]
   · rw [List.drop_zero, rsp_few]
     exact k
 · rw [cnT h]
   rw [if_neg h] at k
   exact k
end Go.Pf.Vc
namespace Go.Pf.Vc
open Go Go.Pf
theorem rsp_head (l : List RS) : headOk 4 (rsp l) = true := by cases l <;> rfl
theorem rsp_empty (l : List RS) : List.isEmpty (rsp l) = List.isEmpty l := by cases l <;> rfl
theorem datData (l : List PV) : datOfV (.data l) = l := rfl
theorem asDt (l : List PV) (P : Prop) : asr (conf (.one (.d)) (.data l)) P = P := rfl
section
variable {a b : List RS}
theorem cat_size (hla : a.length < 1000) (hlb : b.length < 1000) {x0 : List PV → Int → List PV → Int → Int → Bool → Prop} (l0 : List PV) :
   L_piece_Union_0_0 w_piece_both w_piece_merged w_piece_few x0 3 l0 0 ([(.data (rsp a)), (.data (rsp b))] : List PV) 2 0 = x0 l0 ((a.length + b.length : Nat) : Int) ([(.data (rsp a)), (.data (rsp b))] : List PV) 2 2 false := by
 have e0 : IntKind.i64.wrap ((0 : Int) + 1) = 1 := by decide
 have e1 : IntKind.i64.wrap ((1 : Int) + 1) = 2 := by decide
 have e2 := wib (n := (a.length : Int)) (by omega) (by omega)
 have e3 := wib (n := (a.length : Int) + (b.length : Int)) (by omega) (by omega)
 have d0 : List.getD ([(.data (rsp a)), (.data (rsp b))] : List PV) (0 : Int).toNat .nils = .data (rsp a) := rfl
 have d1 : List.getD ([(.data (rsp a)), (.data (rsp b))] : List PV) (1 : Int).toNat .nils = .data (rsp b) := rfl
 rw [L_piece_Union_0_0, cbT (by omega), asT (by omega), asT (by simp)]
 dsimp only [lt]
 rw [d0, asDt]
 rw [datData, rsp_len, Int.zero_add, e2, cbF (by omega), e0, L_piece_Union_0_0, cbT (by omega), asT (by omega), asT (by simp)]
 dsimp only [lt]
 rw [d1, asDt]
 rw [datData, rsp_len, e3, cbF (by omega), e1, L_piece_Union_0_0, cbF (by omega), Int.natCast_add]
theorem cat_own (hla : a.length < 1000) (hlb : b.length < 1000) {x0 : List PV → Int → Int → Bool → Prop} {x1 : List PV → Nat → List PV → Int → Int → Bool → Prop} (z : PV) :
   L_piece_Union_1_1 w_piece_both w_piece_merged w_piece_few x0 x1 3 (List.replicate (a.length + b.length) z) 0 ([(.data (rsp a)), (.data (rsp b))] : List PV) 2 0 = x1 (rsp (a ++ b)) (a.length + b.length) ([(.data (rsp a)), (.data (rsp b))] : List PV) 2 2 false := by
 have e0 : IntKind.i64.wrap ((0 : Int) + 1) = 1 := by decide
 have e1 : IntKind.i64.wrap ((1 : Int) + 1) = 2 := by decide
 have d0 : List.getD ([(.data (rsp a)), (.data (rsp b))] : List PV) (0 : Int).toNat .nils = .data (rsp a) := rfl
 have d1 : List.getD ([(.data (rsp a)), (.data (rsp b))] : List PV) (1 : Int).toNat .nils = .data (rsp b) := rfl
 have first : L_piece_Union_1_1 w_piece_both w_piece_merged w_piece_few x0 x1 3 (List.replicate (a.length + b.length) z) 0 ([(.data (rsp a)), (.data (rsp b))] : List PV) 2 0 =
     L_piece_Union_1_1 w_piece_both w_piece_merged w_piece_few x0 x1 2 (rsp a ++ List.replicate b.length z) a.length ([(.data (rsp a)), (.data (rsp b))] : List PV) 2 1 := by
   rw [L_piece_Union_1_1, cbT (by omega), asT (by omega), asT (by simp)]
   dsimp only [lt]
   rw [d0, asDt]
   rw [datData, rsp_head, asr_true, asE, asT (by omega), rsp_empty, e0]
   cases a with
   | nil =>
     rw [show List.isEmpty ([] : List RS) = true from rfl, cbr_true, asE]
     simp only [List.length_nil, Nat.zero_add]
     rfl
   | cons s r =>
     rw [show List.isEmpty (s :: r) = false from rfl, cbr_false, rsp_len, List.length_replicate, asT (by omega)]
     have e : List.take (0 + 0) (List.replicate ((s :: r).length + b.length) z) ++ (rsp (s :: r) ++ List.drop (0 + 0 + (s :: r).length) (List.replicate ((s :: r).length + b.length) z)) = rsp (s :: r) ++ List.replicate b.length z := by
       rw [Nat.zero_add, List.take_zero, List.nil_append, Nat.zero_add, List.drop_replicate, Nat.add_sub_cancel_left]
     rw [e, Nat.zero_add, asT (by rw [List.length_append, rsp_len, List.length_replicate])]
 have second : L_piece_Union_1_1 w_piece_both w_piece_merged w_piece_few x0 x1 2 (rsp a ++ List.replicate b.length z) a.length ([(.data (rsp a)), (.data (rsp b))] : List PV) 2 1 =
     L_piece_Union_1_1 w_piece_both w_piece_merged w_piece_few x0 x1 1 (rsp (a ++ b)) (a.length + b.length) ([(.data (rsp a)), (.data (rsp b))] : List PV) 2 2 := by
   have hl : (rsp a ++ List.replicate b.length z).length = a.length + b.length := by rw [List.length_append, rsp_len, List.length_replicate]
   rw [L_piece_Union_1_1, cbT (by omega), asT (by omega), asT (by simp)]
   dsimp only [lt]
   rw [d1, asDt]
   rw [datData, rsp_head, asr_true, asE, hl, asT (by omega), rsp_empty, e1]
   cases b with
   | nil =>
     rw [show List.isEmpty ([] : List RS) = true from rfl, cbr_true, asE]
     simp only [List.length_nil, Nat.add_zero, List.replicate_zero, List.append_nil]
   | cons s r =>
     rw [show List.isEmpty (s :: r) = false from rfl, cbr_false, rsp_len, asT (by omega)]
     have e : List.take (0 + a.length) (rsp a ++ List.replicate (s :: r).length z) ++ (rsp (s :: r) ++ List.drop (0 + a.length + (s :: r).length) (rsp a ++ List.replicate (s :: r).length z)) = rsp (a ++ s :: r) := by
       rw [Nat.zero_add, List.take_left' (rsp_len a), List.drop_eq_nil_of_le (by rw [hl]; exact Nat.le_refl _), List.append_nil, rsp_app]
     rw [e, asT (by rw [rsp_len, List.length_append])]
 rw [first, second, L_piece_Union_1_1, cbF (by omega)]
end
theorem joinR_zero {a b : List RS} {q : Rat} : selF a b 0 q = true ↔ (memP a q ∨ memP b q) := by
 show (inB a q || inB b q) = true ↔ _
 rw [Bool.or_eq_true, inB_iff, inB_iff]
theorem joinR_one {a b : List RS} {q : Rat} : selF a b 1 q = true ↔ (memP a q ∧ memP b q) := by
 show (inB a q && inB b q) = true ↔ _
 rw [Bool.and_eq_true, inB_iff, inB_iff]
theorem joinR_two {a b : List RS} {q : Rat} : selF a b 2 q = true ↔ (memP a q ∧ ¬ memP b q) := by
 show (inB a q && !inB b q) = true ↔ _
 rw [Bool.and_eq_true, inB_iff, Bool.not_eq_true', ← Bool.not_eq_true, inB_iff]
theorem canon_lt {l : List RS} (h : canon l) : ∀ s ∈ l, s.1 < s.2 := by
 induction l with
 | nil => intro s hs; cases hs
 | cons t r ih =>
   intro s hs
   rcases List.mem_cons.1 hs with rfl | hs
   · exact h.1
   · exact ih h.2.2 s hs
def setR (a b : List RS) (how : Int) : List RS := joinR (selF a b how) a b
theorem Union_eq {a b : List Sp} (ha : ∀ s ∈ a, s.i64) (hb : ∀ s ∈ b, s.i64) (hla : a.length < 4611686018427387904) (hlb : b.length < 4611686018427387904) (K : List PV → Int → Prop) :
   w_piece_Union (spans a) (spans b) K = fewR (bothE a b) (setR (rsL a) (rsL b) 0) K := by
 refine few_det (fun r0 r1 h K => det_piece_Union _ _ r0 r1 h K) (fun K k => ?_) K
 unfold w_piece_Union wv_piece_Union
 rw [both_eq ha hb hla hlb]
 unfold fewR at k
 by_cases h : bothE a b = 0
 case neg =>
   rw [cnT h]
   rw [if_neg h] at k
   exact k
 rw [cnF h]
 rw [if_pos h] at k
 obtain ⟨l1, l2, _, _, c1, c2, s1, s2, e1, e2, n1, n2⟩ := both_zero h
 rw [e1, e2]
 have sab : ∀ s ∈ rsL a ++ rsL b, smallS s := fun s hs => by
   rcases List.mem_append.1 hs with hs | hs
   · exact s1 s hs
   · exact s2 s hs
 have vab : ∀ s ∈ rsL a ++ rsL b, s.1 < s.2 := fun s hs => by
   rcases List.mem_append.1 hs with hs | hs
   · exact canon_lt c1 s hs
   · exact canon_lt c2 s hs
 obtain ⟨l', hp, hf, hm⟩ := merged_eq sab vab (by rw [List.length_append]; omega)
 have hj : mergeS l' = setR (rsL a) (rsL b) 0 := either_eq c1 c2 (fun s hs => vab s (hp.mem_iff.1 hs)) (fun s => hp.mem_iff) hf (fun x => joinR_zero)
 rw [hj] at hm
 have key : w_piece_merged (rsp (rsL a ++ rsL b)) (fun L => w_piece_few L fun L' e => K L' e) := by
   rw [hm, rsp_few]
   exact k
 dsimp only [Go.Pf.jn]
 refine ⟨3, ?_⟩
 have z0 : IntKind.i64.wrap (((((rsL a).length + (rsL b).length : Nat) : Int)) - 0) = (((rsL a).length + (rsL b).length : Nat) : Int) := by
   rw [Int.sub_zero]; exact wib (by omega) (by omega)
 refine (cat_size (by omega) (by omega) _).mpr ?_
 rw [cbF (by omega)]
 dsimp only [lt]
 rw [z0]
 by_cases h0 : (rsL a).length + (rsL b).length = 0
 · have ea : rsL a = [] := List.eq_nil_of_length_eq_zero (by omega)
   have eb : rsL b = [] := List.eq_nil_of_length_eq_zero (by omega)
   rw [cbF (by omega)]
   rw [ea, eb] at key ⊢
   have e3 : IntKind.i64.wrap ((0 : Int) + 1) = 1 := by decide
   have e4 : IntKind.i64.wrap ((1 : Int) + 1) = 2 := by decide
   refine ⟨3, ?_⟩
   show L_piece_Union_1_0 _ _ _ _ _ (2 + 1) ([(.data []), (.data [])] : List PV) 2 0
   rw [L_piece_Union_1_0, cbT (by omega), asT (by omega), asT (by simp)]
   dsimp only [lt]
   rw [show List.getD ([(.data []), (.data [])] : List PV) (0 : Int).toNat .nils = .data [] from rfl, asDt]
   show asr true (cbr true (L_piece_Union_1_0 _ _ _ _ _ (1 + 1) ([(.data []), (.data [])] : List PV) 2 (IntKind.i64.wrap ((0 : Int) + 1))) _)
   rw [asr_true, cbr_true, e3, L_piece_Union_1_0, cbT (by omega), asT (by omega), asT (by simp)]
   dsimp only [lt]
   rw [show List.getD ([(.data []), (.data [])] : List PV) (1 : Int).toNat .nils = .data [] from rfl, asDt]
   show asr true (cbr true (L_piece_Union_1_0 _ _ _ _ _ (0 + 1) ([(.data []), (.data [])] : List PV) 2 (IntKind.i64.wrap ((1 : Int) + 1))) _)
   rw [asr_true, cbr_true, e4, L_piece_Union_1_0, cbF (by omega)]
   exact key
 · rw [cbT (by omega), asT (by omega), Int.toNat_natCast, cbF h0, List.length_replicate, asT (by show _ ≤ 35184372088832; omega), asTT (by rw [decide_eq_true (by omega)]; rfl), asE]
   refine ⟨3, ?_⟩
   refine (cat_own (by omega) (by omega) _).mpr ?_
   rw [rsp_len, List.length_append, asE, asT (by omega), List.take_of_length_le (by rw [rsp_len, List.length_append]; exact Nat.le_refl _)]
   exact key
theorem Meet_set {a b : List Sp} (ha : ∀ s ∈ a, s.i64) (hb : ∀ s ∈ b, s.i64) (hla : a.length < 4611686018427387904) (hlb : b.length < 4611686018427387904) (K : List PV → Int → Prop) :
   w_piece_Meet (spans a) (spans b) K = fewR (bothE a b) (setR (rsL a) (rsL b) 1) K := by
 rw [Meet_eq ha hb hla hlb]
 unfold fewR
 split
 · rename_i h
   obtain ⟨_, _, _, _, c1, c2, _⟩ := both_zero h
   rw [common_eq c1 c2 (fun x => joinR_one)]
   rfl
 · rfl
theorem Minus_set {a b : List Sp} (ha : ∀ s ∈ a, s.i64) (hb : ∀ s ∈ b, s.i64) (hla : a.length < 4611686018427387904) (hlb : b.length < 4611686018427387904) (K : List PV → Int → Prop) :
   w_piece_Minus (spans a) (spans b) K = fewR (bothE a b) (setR (rsL a) (rsL b) 2) K := by
 rw [Minus_eq ha hb hla hlb]
 unfold fewR
 split
 · rename_i h
   obtain ⟨_, _, _, _, c1, c2, _⟩ := both_zero h
   rw [without_eq c1 c2 (fun x => joinR_two)]
   rfl
 · rfl
end Go.Pf.Vc
namespace Go.Pf.Vc
open Go Go.Pf
def dsS : DS := .a [dsR, dsR]
theorem F_s {c : List PV} (h : HasF dsS c) : ∃ s : Sp, c = [.int .i64 s.a, .int .i64 s.b, .int .i64 s.c, .int .i64 s.d] ∧ s.i64 := by
 simp only [dsS, dsR, HasF, HasL] at h
 obtain ⟨_, _, rfl, ⟨_, _, rfl, ⟨a, rfl, ha⟩, _, _, rfl, ⟨b, rfl, hb⟩, rfl⟩, _, _, rfl, ⟨_, _, rfl, ⟨c, rfl, hc⟩, _, _, rfl, ⟨d, rfl, hd⟩, rfl⟩, rfl⟩ := h
 exact ⟨⟨a, b, c, d⟩, rfl, inK_i64 ha, inK_i64 hb, inK_i64 hc, inK_i64 hd⟩
theorem spans_of : ∀ (rows : List PV), (∀ x ∈ rows, x.isAgg = dsS.isA ∧ HasF dsS x.cells) → ∃ l : List Sp, rows = spans l ∧ ∀ s ∈ l, s.i64
 | [], _ => ⟨[], rfl, by simp⟩
 | x :: r, h => by
   obtain ⟨l, e, hl⟩ := spans_of r (fun y hy => h y (List.mem_cons_of_mem _ hy))
   obtain ⟨h1, h2⟩ := h x (List.mem_cons_self ..)
   obtain ⟨k, e2, hk⟩ := F_s h2
   have ex : x = encS k := by rw [agg_of h1, e2]; rfl
   refine ⟨k :: l, by rw [ex, e]; rfl, ?_⟩
   intro m hm
   rcases List.mem_cons.1 hm with rfl | hm
   · exact hk
   · exact hl m hm
theorem F_spans {c : List PV} (h : HasF (.s dsS) c) : ∃ l : List Sp, c = [.data (spans l)] ∧ l.length ≤ 9223372036854775807 ∧ ∀ s ∈ l, s.i64 := by
 simp only [HasF] at h
 obtain ⟨rows, rfl, hl, hr⟩ := h
 obtain ⟨l, rfl, hi⟩ := spans_of rows hr
 rw [spans_len] at hl
 exact ⟨l, rfl, hl, hi⟩
def greatS (l : List Sp) : Bool := decide (l.length > 20 ∧ l.length ≤ 60 ∨ l.length > 70)
theorem gGreat_eq (l : List Sp) (K : Bool → Prop) : w_r03_Great (spans l) K = K (greatS l) := by
 unfold w_r03_Great wv_r03_Great greatS
 dsimp only [Go.Pf.jn]
 rw [spans_len]
 by_cases h : l.length > 20
 · rw [cbT (by omega)]
   by_cases h2 : l.length ≤ 60
   · rw [cbT (by omega), decide_eq_true (by omega)]
   · rw [cbF (by omega)]
     congr 1
     rw [decide_eq_decide]; omega
 · rw [cbF (by omega)]
   congr 1
   rw [decide_eq_decide]; omega
theorem greatS_low {l : List Sp} (h : greatS l = false) : l.length ≤ 70 ∧ (l.length ≤ 60 → l.length ≤ 20) := by
 unfold greatS at h
 rw [decide_eq_false_iff_not] at h
 omega
end Go.Pf.Vc
namespace Go.Pf.Vc
open Go Go.Pf
theorem cmpI_Q {a b c d : Int} (h : RV a b) (k : RV c d) : cmpI a b c d = cmpQ (rt a b) (rt c d) := by
 obtain ⟨_, h2, h3⟩ := rt_of h
 obtain ⟨_, k2, k3⟩ := rt_of k
 unfold cmpI cmpQ
 simp only [Rat.lt_iff, h2, h3, k2, k3]
theorem sp_cells : ∀ {cs : List PV}, okL [.i64, .i64, .i64, .i64] cs = true → ∃ a b c d, cs = [.int .i64 a, .int .i64 b, .int .i64 c, .int .i64 d]
 | [], h => by cases h
 | [x], h => by cases x <;> simp [okL] at h
 | [x, y], h => by cases x <;> cases y <;> simp [okL] at h
 | [x, y, z], h => by cases x <;> cases y <;> cases z <;> simp [okL] at h
 | x :: y :: z :: u :: w, h => by
   cases x <;> first | (simp [okL] at h; done) | skip
   cases y <;> first | (simp [okL] at h; done) | skip
   cases z <;> first | (simp [okL] at h; done) | skip
   cases u <;> first | (simp [okL] at h; done) | skip
   simp only [okL, Bool.and_eq_true, decide_eq_true_eq] at h
   obtain ⟨rfl, _, _, rfl, _, _, rfl, _, _, rfl, _, _, h⟩ := h
   cases w with
   | nil => exact ⟨_, _, _, _, rfl⟩
   | cons p q => simp [okL] at h
theorem gd_sp {n g : Nat} {x : PV} (h : (spSrt n g).s.gd x = true) : ∃ a b c d, x = .agg [.int .i64 a, .int .i64 b, .int .i64 c, .int .i64 d] ∧ RV a b := by
 simp only [Srt.gd, Bool.and_eq_true] at h
 have h1 : okI [.i64, .i64, .i64, .i64] x = true := h.1
 have h2 : spGood x = true := h.2
 clear h
 cases x <;> first | (simp [okI] at h1; done) | skip
 obtain ⟨a, b, c, d, rfl⟩ := sp_cells (h1 : okL _ _ = true)
 exact ⟨a, b, c, d, rfl, rvB_iff.1 h2⟩
theorem merged1_ans {n g : Nat} (e : List (Nat × EffF)) (he : EG e) {x y : PV} (hx : (spSrt n g).s.gd x = true) (hy : (spSrt n g).s.gd y = true) : Ans (E e) n_piece_merged_1 [x, y] (.int .i64 (spCmp x y)) := by
 obtain ⟨a, b, c, d, rfl, h1⟩ := gd_sp hx
 obtain ⟨a', b', c', d', rfl, h2⟩ := gd_sp hy
 obtain ⟨r, hr, ha⟩ := ok_piece_merged_1 e he [.agg [.int .i64 a, .int .i64 b, .int .i64 c, .int .i64 d], .agg [.int .i64 a', .int .i64 b', .int .i64 c', .int .i64 d']] (fun r => r = .int .i64 (cmpI a b a' b')) (by
   show w_piece_merged_1 a b c d a' b' c' d' (fun r => PV.int .i64 r = .int .i64 (cmpI a b a' b'))
   unfold w_piece_merged_1 wv_piece_merged_1
   rw [order_rv h1 h2, cmpI_Q h1 h2])
 rw [hr] at ha
 exact ha
end Go.Pf.Vc
namespace Go.Pf.Vc
open Go Go.Pf
theorem jn_len (f : Rat → Bool) : ∀ pts : List Rat, 2 * (jn f pts none).length ≤ pts.length ∧ (∀ c, 2 * (jn f pts (some c)).length ≤ pts.length + 2) ∧ ∀ c x r, pts = x :: r → c.2 = x → 2 * (jn f pts (some c)).length ≤ pts.length + 1
 | [] => by refine ⟨by simp [jn], fun c => by simp [jn], fun c x r h => by cases h⟩
 | [x] => by refine ⟨by simp [jn], fun c => by simp [jn], fun c x r _ _ => by simp [jn]⟩
 | x :: y :: r => by
   obtain ⟨i1, i2, i3⟩ := jn_len f (y :: r)
   refine ⟨?_, fun c => ?_, fun c z t h hc => ?_⟩
   · unfold jn
     split
     · have := i3 (x, y) y r rfl rfl
       simp only [List.length_cons] at this ⊢; omega
     · simp only [List.length_cons] at i1 ⊢; omega
   · unfold jn
     split
     · split
       · have := i2 (c.1, y)
         simp only [List.length_cons] at this ⊢; omega
       · have := i3 (x, y) y r rfl rfl
         simp only [List.length_cons] at this ⊢; omega
     · have := i2 c
       simp only [List.length_cons] at this ⊢; omega
   · cases h
     unfold jn
     split
     · have := i3 (c.1, y) y r rfl rfl
       simp only [List.length_cons] at this ⊢; omega
     · have := i2 c
       simp only [List.length_cons] at this ⊢; omega
theorem jn_small (f : Rat → Bool) : ∀ (pts : List Rat) (cur : Option RS), (∀ x ∈ pts, small x) → (∀ c, cur = some c → smallS c) → ∀ s ∈ jn f pts cur, smallS s
 | [], none, _, _ => by simp [jn]
 | [], some c, _, h => by simpa [jn] using h c rfl
 | [x], none, _, _ => by simp [jn]
 | [x], some c, _, h => by simpa [jn] using h c rfl
 | x :: y :: r, none, hp, _ => by
   have hx := hp x (by simp)
   have hy := hp y (by simp)
   have ht : ∀ z ∈ y :: r, small z := fun z hz => hp z (List.mem_cons_of_mem _ hz)
   intro s hs
   unfold jn at hs
   split at hs
   · exact jn_small f (y :: r) _ ht (fun c e => by cases e; exact ⟨hx, hy⟩) s hs
   · exact jn_small f (y :: r) _ ht (fun c e => by cases e) s hs
 | x :: y :: r, some c, hp, hc => by
   have hx := hp x (by simp)
   have hy := hp y (by simp)
   have h0 := hc c rfl
   have ht : ∀ z ∈ y :: r, small z := fun z hz => hp z (List.mem_cons_of_mem _ hz)
   intro s hs
   unfold jn at hs
   split at hs
   · split at hs
     · exact jn_small f (y :: r) _ ht (fun c e => by cases e; exact ⟨h0.1, hy⟩) s hs
     · rcases List.mem_cons.1 hs with rfl | hs
       · exact h0
       · exact jn_small f (y :: r) _ ht (fun c e => by cases e; exact ⟨hx, hy⟩) s hs
   · exact jn_small f (y :: r) _ ht (fun c e => by cases e; exact h0) s hs
theorem setR_len (a b : List RS) (how : Int) : (setR a b how).length ≤ a.length + b.length := by
 have h1 := (jn_len (selF a b how) (endsR b (endsR a []))).1
 have h2 := endsR_len b (endsR a [])
 have h3 := endsR_len a []
 simp only [List.length_nil] at h3
 unfold setR joinR
 omega
theorem setR_small {a b : List RS} (ha : ∀ s ∈ a, smallS s) (hb : ∀ s ∈ b, smallS s) (how : Int) : ∀ s ∈ setR a b how, smallS s :=
 jn_small _ _ _ (endsR_small hb (endsR_small ha (by simp))) (fun c h => by cases h)
structure Pc (l : List RS) : Prop where
 c : canon l
 s : ∀ s ∈ l, smallS s
 n : l.length ≤ 60
theorem setR_pc {a b : List RS} (ha : Pc a) (hb : Pc b) {how : Int} (h : how = 0 ∨ how = 1 ∨ how = 2) (hl : a.length + b.length ≤ 60) : Pc (setR a b how) := by
 refine ⟨?_, setR_small ha.s hb.s how, by have := setR_len a b how; omega⟩
 rcases h with rfl | rfl | rfl
 · exact (joinR_ok (c := Or) (fun x => joinR_zero) (by simp)).1
 · exact (joinR_ok (c := And) (fun x => joinR_one) (by simp)).1
 · exact (joinR_ok (c := fun x y => x ∧ ¬ y) (fun x => joinR_two) (by simp)).1
theorem mem_union {a b : List RS} {p : Rat} : memP (setR a b 0) p ↔ (memP a p ∨ memP b p) := (joinR_ok (c := Or) (fun x => joinR_zero) (by simp)).2 p
theorem mem_meet {a b : List RS} {p : Rat} : memP (setR a b 1) p ↔ (memP a p ∧ memP b p) := (joinR_ok (c := And) (fun x => joinR_one) (by simp)).2 p
theorem rsL_spOf {l : List RS} (h : ∀ s ∈ l, smallS s) : rsL (l.map spOf) = l := by
 induction l with
 | nil => rfl
 | cons s r ih =>
   show (spOf s).rs :: rsL (r.map spOf) = _
   rw [rs_spOf (h s List.mem_cons_self), ih fun t ht => h t (List.mem_cons_of_mem _ ht)]
theorem Pc.ok {l : List RS} (h : Pc l) : ∀ s ∈ l.map spOf, s.ok := fun s hs => by
 obtain ⟨t, ht, rfl⟩ := List.mem_map.1 hs
 exact spOf_ok (h.s t ht) (canon_lt h.c t ht)
theorem Pc.i64 {l : List RS} (h : Pc l) : ∀ s ∈ l.map spOf, s.i64 := fun s hs => by
 obtain ⟨t, ht, rfl⟩ := List.mem_map.1 hs
 have := h.s t ht
 exact ⟨this.1.i1, this.1.i2, this.2.i1, this.2.i2⟩
theorem Pc.e {l : List RS} (h : Pc l) : pieceE (l.map spOf) = 0 := by
 have hl := h.n
 have ho := h.ok
 have hc := h.c
 rw [← rsL_spOf h.s] at hc
 have h1 : allOkB (l.map spOf) = true := List.all_eq_true.2 fun s hs => decide_eq_true (ho s hs)
 have h2 : allE (l.map spOf) = 0 := by
   unfold allE
   rw [if_neg (by rw [List.length_map]; omega), h1, if_pos rfl]
 unfold pieceE
 rw [h2]
 cases l with
 | nil => rfl
 | cons s r =>
   have hg : gapB (spOf s) (r.map spOf) = true := (gap_canon _ _ (ho _ (by simp)) (fun t ht => ho t (List.mem_cons_of_mem _ ht))).2 hc
   show (if (0 : Int) = 0 then (if gapB (spOf s) (r.map spOf) then 0 else 8) else _) = _
   rw [if_pos rfl, hg, if_pos rfl]
theorem pc_of {l : List Sp} (h : pieceE l = 0) : Pc (rsL l) ∧ spans l = rsp (rsL l) ∧ l = (rsL l).map spOf := by
 obtain ⟨h1, h2, h3⟩ := pieceE_zero h
 refine ⟨⟨h3, fun s hs => by obtain ⟨t, ht, rfl⟩ := List.mem_map.1 hs; exact rs_small (h2 t ht), by unfold rsL; rw [List.length_map]; exact h1⟩, spans_rsL h2, ?_⟩
 unfold rsL
 rw [List.map_map]
 have : ∀ s ∈ l, (spOf ∘ Sp.rs) s = id s := fun s hs => spOf_rs (h2 s hs)
 rw [List.map_congr_left this, List.map_id]
theorem Pc.check {l : List RS} (h : Pc l) (K : Int → Prop) : w_piece_Check (rsp l) K = K 0 := by
 unfold rsp
 rw [pCheck_eq h.i64 (by rw [List.length_map]; have := h.n; omega), h.e]
theorem Pc.both {a b : List RS} (ha : Pc a) (hb : Pc b) : bothE (a.map spOf) (b.map spOf) = 0 := by
 unfold bothE
 rw [ha.e, if_pos rfl, hb.e]
theorem fewR_ok {l : List RS} (h : l.length ≤ 60) (K : List PV → Int → Prop) : fewR 0 l K = K (rsp l) 0 := by
 unfold fewR
 rw [if_pos rfl, if_neg (by omega)]
theorem Pc.union {a b : List RS} (ha : Pc a) (hb : Pc b) (hl : a.length + b.length ≤ 60) (K : List PV → Int → Prop) : w_piece_Union (rsp a) (rsp b) K = K (rsp (setR a b 0)) 0 := by
 unfold rsp
 rw [Union_eq ha.i64 hb.i64 (by rw [List.length_map]; have := ha.n; omega) (by rw [List.length_map]; have := hb.n; omega), ha.both hb, rsL_spOf ha.s, rsL_spOf hb.s, fewR_ok (by have := setR_len a b 0; omega)]
 rfl
theorem Pc.meet {a b : List RS} (ha : Pc a) (hb : Pc b) (hl : a.length + b.length ≤ 60) (K : List PV → Int → Prop) : w_piece_Meet (rsp a) (rsp b) K = K (rsp (setR a b 1)) 0 := by
 unfold rsp
 rw [Meet_set ha.i64 hb.i64 (by rw [List.length_map]; have := ha.n; omega) (by rw [List.length_map]; have := hb.n; omega), ha.both hb, rsL_spOf ha.s, rsL_spOf hb.s, fewR_ok (by have := setR_len a b 1; omega)]
 rfl
theorem Pc.minus {a b : List RS} (ha : Pc a) (hb : Pc b) (hl : a.length + b.length ≤ 60) (K : List PV → Int → Prop) : w_piece_Minus (rsp a) (rsp b) K = K (rsp (setR a b 2)) 0 := by
 unfold rsp
 rw [Minus_set ha.i64 hb.i64 (by rw [List.length_map]; have := ha.n; omega) (by rw [List.length_map]; have := hb.n; omega), ha.both hb, rsL_spOf ha.s, rsL_spOf hb.s, fewR_ok (by have := setR_len a b 2; omega)]
 rfl
theorem Pc.same {a : List RS} (ha : a.length ≤ 60) (K : Bool → Prop) : w_r03_Same (rsp a) (rsp a) K = K true := by
 unfold rsp
 exact cSame_self (by rw [List.length_map]; omega) K
def okS (l : List Sp) : Bool := !greatS l && decide (pieceE l = 0)
theorem okS_pc {l : List Sp} (h : okS l = true) : Pc (rsL l) ∧ spans l = rsp (rsL l) ∧ (rsL l).length ≤ 20 := by
 unfold okS at h
 simp only [Bool.and_eq_true, Bool.not_eq_true', decide_eq_true_eq] at h
 obtain ⟨h1, h2⟩ := h
 obtain ⟨p1, p2, _⟩ := pc_of h2
 refine ⟨p1, p2, ?_⟩
 have := p1.n
 have hl : (rsL l).length = l.length := List.length_map ..
 have := (greatS_low h1).2 (by omega)
 omega
theorem lawValid_eq {l : List Sp} (h64 : ∀ s ∈ l, s.i64) (K : Bool → Prop) : w_l03_valid (spans l) K = K (okS l) := by
 unfold w_l03_valid wv_l03_valid okS
 dsimp only [Go.Pf.jn]
 rw [gGreat_eq]
 cases hg : greatS l with
 | true => rfl
 | false =>
   have := (greatS_low hg).1
   show cbr true _ _ = _
   rw [cbr_true, rCheck3_eq h64 (by omega)]
   rfl
section
theorem has_loop {l : List RS} (hs : ∀ s ∈ l, smallS s) (hl : l.length < 4611686018427387904) {p : Rat} (hp : small p) {x0 : Int → Int → List PV → Int → Int → Bool → Prop} {x1 : Int → Int → Int → Prop} {K : Bool → Prop}
   (hx0 : ∀ a b l i k q, x0 a b l i k q = K false) (hx1 : ∀ a b i, 0 ≤ i → x1 a b i = K true) :
   ∀ (r i n : Nat), i + r = l.length → r < n → L_piece_Has_0_0 w_piece_Check w_ratio_Check w_piece_order x0 x1 n p.num p.den (rsp l) (l.length : Int) (i : Int) = K (inB (l.drop i) p) := by
 intro r
 induction r with
 | zero =>
   intro i n hi hn
   obtain ⟨n, rfl⟩ : ∃ m, n = m + 1 := ⟨n - 1, by omega⟩
   obtain rfl : i = l.length := by omega
   rw [L_piece_Has_0_0, cbF (by omega), List.drop_length, hx0]
   rfl
 | succ r ih =>
   intro i n hi hn
   obtain ⟨n, rfl⟩ : ∃ m, n = m + 1 := ⟨n - 1, by omega⟩
   have hil : i < l.length := by omega
   have e1 := wib (n := (i : Int) + 1) (by omega) (by omega)
   have hd : l.drop i = l.getD i default :: l.drop (i + 1) := drop_cons default hil
   have hx := smallS_mem hs hil
   rw [L_piece_Has_0_0, cbT (by omega)]
   dsimp only [lt, Go.Pf.jn]
   rw [rsp_len, asT (by omega), asT (by omega), Int.toNat_natCast, rsp_at hil, asR, encR0, encR1, encR2, encR3, order_eq hx.1 hp, e1, cast1, cmpQ_le, hd]
   have e : inB (l.getD i default :: l.drop (i + 1)) p = ((!decide (p < (l.getD i default).1) && decide (p < (l.getD i default).2)) || inB (l.drop (i + 1)) p) := rfl
   rw [e]
   cases decide (p < (l.getD i default).1) with
   | true =>
     show cbr false _ _ = _
     rw [cbr_false, cbr_false, show (!true) = false from rfl, Bool.false_and, Bool.false_or]
     exact ih (i + 1) n (by omega) (by omega)
   | false =>
     show cbr true _ _ = _
     rw [cbr_true, show (!false) = true from rfl, Bool.true_and, order_eq hp hx.2, cmpQ_neg]
     cases decide (p < (l.getD i default).2) with
     | true =>
       rw [cbr_true, hx1 _ _ _ (by omega)]
       rfl
     | false =>
       rw [cbr_false, Bool.false_or]
       exact ih (i + 1) n (by omega) (by omega)
end
theorem Pc.has {l : List RS} (h : Pc l) {p : Rat} (hp : small p) (K : Bool → Int → Prop) : w_piece_Has (rsp l) p.num p.den K = K (inB l p) 0 := by
 refine det_piece_Has _ _ _ _ _ (fun K k => ?_) K
 unfold w_piece_Has wv_piece_Has
 rw [h.check]
 show cbr false _ _
 rw [cbr_false, rCheck_eq hp.i1 hp.i2, show chk p.num p.den = 0 from if_pos hp.rv]
 show cbr false _ _
 rw [cbr_false]
 dsimp only [Go.Pf.jn]
 refine ⟨l.length + 1, ?_⟩
 rw [rsp_len]
 refine (has_loop h.s (by have := h.n; omega) hp (K := fun b => K b 0) (fun _ _ _ _ _ _ => rfl) (fun _ _ i hi => by rw [decide_eq_true hi]) l.length 0 (l.length + 1) (by omega) (by omega)).mpr ?_
 exact k
end Go.Pf.Vc
namespace Go.Pf.Vc
open Go Go.Pf
def cutL (p : Rat) (l : List RS) : List RS := l.flatMap fun s => if s.1 < minR s.2 p then [(s.1, minR s.2 p)] else []
def cutR (p : Rat) (l : List RS) : List RS := l.flatMap fun s => if maxR s.1 p < s.2 then [(maxR s.1 p, s.2)] else []
theorem cutL_cons (p : Rat) (s : RS) (r : List RS) : cutL p (s :: r) = (if s.1 < minR s.2 p then [(s.1, minR s.2 p)] else []) ++ cutL p r := rfl
theorem cutR_cons (p : Rat) (s : RS) (r : List RS) : cutR p (s :: r) = (if maxR s.1 p < s.2 then [(maxR s.1 p, s.2)] else []) ++ cutR p r := rfl
theorem asRoom {n : Nat} {P : Prop} (h : n < 100000) : asr (decide ((n + 1 + 64) * (32 + 1) ≤ room)) P = P := asT (by show _ ≤ 35184372088832; omega)
theorem asLen {l : List PV} (P : Prop) : asr (decide (0 + l.length ≤ l.length)) P = P := asT (by omega)
section
variable {l : List RS} {p : Rat} {x0 : Int → Int → List PV → Int → Int → Bool → Prop} {x1 : List PV → List PV → Int → Int → List PV → Int → Int → Bool → Prop} {x2 : List PV → Int → Int → List PV → Int → Int → Bool → Prop} {x3 : List PV → Int → Int → List PV → Int → Int → Bool → Prop} {x4 : List PV → List PV → Int → Int → List PV → Int → Int → Bool → Prop} {K : List PV → List PV → Prop}
theorem cut1_loop (hs : ∀ s ∈ l, smallS s) (hl : l.length < 1000) (hp : small p) (hx1 : ∀ A B a b l i k q, x1 A B a b l i k q = K A B) :
   ∀ (r i n : Nat) (A : List RS) (B : List RS), i + r = l.length → r < n → A.length ≤ i → B.length ≤ i → L_piece_Cut_0_1 w_piece_Check w_ratio_Check w_piece_sooner w_piece_valid w_piece_later x0 x1 x2 x3 x4 n (rsp A) (rsp B) p.num p.den (rsp l) (l.length : Int) (i : Int) = K (rsp (A ++ cutL p (l.drop i))) (rsp (B ++ cutR p (l.drop i))) := by
 intro r
 induction r with
 | zero =>
   intro i n A B hi hn hA hB
   obtain ⟨n, rfl⟩ : ∃ m, n = m + 1 := ⟨n - 1, by omega⟩
   obtain rfl : i = l.length := by omega
   rw [L_piece_Cut_0_1, cbF (by omega), List.drop_length, hx1]
   simp only [cutL, cutR, List.flatMap_nil, List.append_nil]
 | succ r ih =>
   intro i n A B hi hn hA hB
   obtain ⟨n, rfl⟩ : ∃ m, n = m + 1 := ⟨n - 1, by omega⟩
   have hil : i < l.length := by omega
   have e1 := wib (n := (i : Int) + 1) (by omega) (by omega)
   have hd : l.drop i = l.getD i default :: l.drop (i + 1) := drop_cons default hil
   have hx := smallS_mem hs hil
   generalize hq1 : l.getD i default = t at hx hd
   have hmn := small_min hx.2 hp
   have hmx := small_max hx.1 hp
   have IH := fun A' B' hA hB => ih (i + 1) n A' B' (by omega) (by omega) hA hB
   rw [L_piece_Cut_0_1, hd, cutL_cons, cutR_cons]
   dsimp only [lt, Go.Pf.jn]
   simp (discharger := omega) only [e1, rsp_len, cbT, asT, Int.toNat_natCast, rsp_at, hq1, asR, encR0, encR1, encR2, encR3, sooner_eq hx.2 hp, later_eq hx.1 hp, validQ hx.1 hmn, validQ hmx hx.2, decide_true, asr_true, Nat.zero_add, asNo, Bool.and_true, Nat.le_refl]
   by_cases h1 : t.1 < minR t.2 p <;> by_cases h2 : maxR t.1 p < t.2
   · rw [if_pos h1, if_pos h2]
     simp (discharger := omega) only [cbT h1, cbT h2, rsp_one (t.1, minR t.2 p), rsp_one (maxR t.1 p, t.2), rsp_app, cast1, asRoom]
     rw [IH _ _ (by first | omega | (simp only [List.length_append, List.length_cons, List.length_nil]; omega)) (by first | omega | (simp only [List.length_append, List.length_cons, List.length_nil]; omega))]
     try simp only [List.append_assoc]
   · rw [if_pos h1, if_neg h2]
     simp (discharger := omega) only [cbT h1, cbF h2, rsp_one (t.1, minR t.2 p), rsp_one (maxR t.1 p, t.2), rsp_app, cast1, List.nil_append, asRoom]
     rw [IH _ _ (by first | omega | (simp only [List.length_append, List.length_cons, List.length_nil]; omega)) (by first | omega | (simp only [List.length_append, List.length_cons, List.length_nil]; omega))]
     try simp only [List.append_assoc]
   · rw [if_neg h1, if_pos h2]
     simp (discharger := omega) only [cbF h1, cbT h2, rsp_one (t.1, minR t.2 p), rsp_one (maxR t.1 p, t.2), rsp_app, cast1, List.nil_append, asRoom]
     rw [IH _ _ (by first | omega | (simp only [List.length_append, List.length_cons, List.length_nil]; omega)) (by first | omega | (simp only [List.length_append, List.length_cons, List.length_nil]; omega))]
     try simp only [List.append_assoc]
   · rw [if_neg h1, if_neg h2]
     simp (discharger := omega) only [cbF h1, cbF h2, rsp_one (t.1, minR t.2 p), rsp_one (maxR t.1 p, t.2), rsp_app, cast1, List.nil_append, asRoom]
     rw [IH _ _ (by first | omega | (simp only [List.length_append, List.length_cons, List.length_nil]; omega)) (by first | omega | (simp only [List.length_append, List.length_cons, List.length_nil]; omega))]
     try simp only [List.append_assoc, List.nil_append, Bool.and_self, asr_true]
theorem cut4_loop (hs : ∀ s ∈ l, smallS s) (hl : l.length < 1000) (hp : small p) (hx4 : ∀ B A a b l i k q, x4 B A a b l i k q = K A B) :
   ∀ (r i n : Nat) (B : List RS) (A : List RS), i + r = l.length → r < n → B.length ≤ i → A.length ≤ i → L_piece_Cut_0_4 w_piece_Check w_ratio_Check w_piece_sooner w_piece_valid w_piece_later x0 x1 x2 x3 x4 n (rsp B) (rsp A) p.num p.den (rsp l) (l.length : Int) (i : Int) = K (rsp (A ++ cutL p (l.drop i))) (rsp (B ++ cutR p (l.drop i))) := by
 intro r
 induction r with
 | zero =>
   intro i n B A hi hn hB hA
   obtain ⟨n, rfl⟩ : ∃ m, n = m + 1 := ⟨n - 1, by omega⟩
   obtain rfl : i = l.length := by omega
   rw [L_piece_Cut_0_4, cbF (by omega), List.drop_length, hx4]
   simp only [cutL, cutR, List.flatMap_nil, List.append_nil]
 | succ r ih =>
   intro i n B A hi hn hB hA
   obtain ⟨n, rfl⟩ : ∃ m, n = m + 1 := ⟨n - 1, by omega⟩
   have hil : i < l.length := by omega
   have e1 := wib (n := (i : Int) + 1) (by omega) (by omega)
   have hd : l.drop i = l.getD i default :: l.drop (i + 1) := drop_cons default hil
   have hx := smallS_mem hs hil
   generalize hq1 : l.getD i default = t at hx hd
   have hmn := small_min hx.2 hp
   have hmx := small_max hx.1 hp
   have IH := fun B' A' hB hA => ih (i + 1) n B' A' (by omega) (by omega) hB hA
   rw [L_piece_Cut_0_4, hd, cutL_cons, cutR_cons]
   dsimp only [lt, Go.Pf.jn]
   simp (discharger := omega) only [e1, rsp_len, cbT, asT, Int.toNat_natCast, rsp_at, hq1, asR, encR0, encR1, encR2, encR3, sooner_eq hx.2 hp, later_eq hx.1 hp, validQ hx.1 hmn, validQ hmx hx.2, decide_true, asr_true, Nat.zero_add, asNo, Bool.and_true, Nat.le_refl]
   by_cases h1 : t.1 < minR t.2 p <;> by_cases h2 : maxR t.1 p < t.2
   · rw [if_pos h1, if_pos h2]
     simp (discharger := omega) only [cbT h1, cbT h2, rsp_one (t.1, minR t.2 p), rsp_one (maxR t.1 p, t.2), rsp_app, cast1, asRoom]
     rw [IH _ _ (by first | omega | (simp only [List.length_append, List.length_cons, List.length_nil]; omega)) (by first | omega | (simp only [List.length_append, List.length_cons, List.length_nil]; omega))]
     try simp only [List.append_assoc]
   · rw [if_pos h1, if_neg h2]
     simp (discharger := omega) only [cbT h1, cbF h2, rsp_one (t.1, minR t.2 p), rsp_one (maxR t.1 p, t.2), rsp_app, cast1, List.nil_append, asRoom]
     rw [IH _ _ (by first | omega | (simp only [List.length_append, List.length_cons, List.length_nil]; omega)) (by first | omega | (simp only [List.length_append, List.length_cons, List.length_nil]; omega))]
     try simp only [List.append_assoc]
   · rw [if_neg h1, if_pos h2]
     simp (discharger := omega) only [cbF h1, cbT h2, rsp_one (t.1, minR t.2 p), rsp_one (maxR t.1 p, t.2), rsp_app, cast1, List.nil_append, asRoom]
     rw [IH _ _ (by first | omega | (simp only [List.length_append, List.length_cons, List.length_nil]; omega)) (by first | omega | (simp only [List.length_append, List.length_cons, List.length_nil]; omega))]
     try simp only [List.append_assoc]
   · rw [if_neg h1, if_neg h2]
     simp (discharger := omega) only [cbF h1, cbF h2, rsp_one (t.1, minR t.2 p), rsp_one (maxR t.1 p, t.2), rsp_app, cast1, List.nil_append, asRoom]
     rw [IH _ _ (by first | omega | (simp only [List.length_append, List.length_cons, List.length_nil]; omega)) (by first | omega | (simp only [List.length_append, List.length_cons, List.length_nil]; omega))]
     try simp only [List.append_assoc, List.nil_append, Bool.and_self, asr_true]
theorem cut2_loop (hs : ∀ s ∈ l, smallS s) (hl : l.length < 1000) (hp : small p) (hx1 : ∀ A B a b l i k q, x1 A B a b l i k q = K A B) (hx2 : ∀ A a b l i k q, x2 A a b l i k q = K A []) :
   ∀ (r i n : Nat) (A : List RS), i + r = l.length → r < n → A.length ≤ i → L_piece_Cut_0_2 w_piece_Check w_ratio_Check w_piece_sooner w_piece_valid w_piece_later x0 x1 x2 x3 x4 n (rsp A) p.num p.den (rsp l) (l.length : Int) (i : Int) = K (rsp (A ++ cutL p (l.drop i))) (rsp (cutR p (l.drop i))) := by
 intro r
 induction r with
 | zero =>
   intro i n A hi hn hA
   obtain ⟨n, rfl⟩ : ∃ m, n = m + 1 := ⟨n - 1, by omega⟩
   obtain rfl : i = l.length := by omega
   rw [L_piece_Cut_0_2, cbF (by omega), List.drop_length, hx2]
   simp only [cutL, cutR, List.flatMap_nil, List.append_nil, rsp_nil]
 | succ r ih =>
   intro i n A hi hn hA
   obtain ⟨n, rfl⟩ : ∃ m, n = m + 1 := ⟨n - 1, by omega⟩
   have hil : i < l.length := by omega
   have e1 := wib (n := (i : Int) + 1) (by omega) (by omega)
   have hd : l.drop i = l.getD i default :: l.drop (i + 1) := drop_cons default hil
   have hx := smallS_mem hs hil
   generalize hq1 : l.getD i default = t at hx hd
   have hmn := small_min hx.2 hp
   have hmx := small_max hx.1 hp
   have IH := fun A' hA => ih (i + 1) n A' (by omega) (by omega) hA
   have IH1 := fun A' B' hA hB => cut1_loop (x0 := x0) (x1 := x1) (x2 := x2) (x3 := x3) (x4 := x4) hs hl hp hx1 r (i + 1) n A' B' (by omega) (by omega) hA hB
   rw [L_piece_Cut_0_2, hd, cutL_cons, cutR_cons]
   dsimp only [lt, Go.Pf.jn]
   simp (discharger := omega) only [e1, rsp_len, cbT, asT, Int.toNat_natCast, rsp_at, hq1, asR, encR0, encR1, encR2, encR3, sooner_eq hx.2 hp, later_eq hx.1 hp, validQ hx.1 hmn, validQ hmx hx.2, decide_true, asr_true, Nat.zero_add, asNo, Bool.true_and, Bool.and_true, Nat.le_refl]
   by_cases h1 : t.1 < minR t.2 p <;> by_cases h2 : maxR t.1 p < t.2
   · rw [if_pos h1, if_pos h2]
     simp (discharger := omega) only [cbT h1, cbT h2, rsp_len, rsp_one (t.1, minR t.2 p), rsp_one (maxR t.1 p, t.2), rsp_app, cast1, asRoom, decide_true, List.length_cons, List.length_nil]
     rw [IH1 _ _ (by first | omega | (simp only [List.length_append, List.length_cons, List.length_nil]; omega)) (by first | omega | (simp only [List.length_cons, List.length_nil]; omega))]
     try simp only [List.append_assoc, Bool.and_self, asr_true]
   · rw [if_pos h1, if_neg h2]
     simp (discharger := omega) only [cbT h1, cbF h2, rsp_len, rsp_one (t.1, minR t.2 p), rsp_one (maxR t.1 p, t.2), rsp_app, cast1, List.nil_append, asRoom, decide_true, List.length_cons, List.length_nil]
     rw [IH _ (by first | omega | (simp only [List.length_append, List.length_cons, List.length_nil]; omega))]
     try simp only [List.append_assoc]
   · rw [if_neg h1, if_pos h2]
     simp (discharger := omega) only [cbF h1, cbT h2, rsp_len, rsp_one (t.1, minR t.2 p), rsp_one (maxR t.1 p, t.2), rsp_app, cast1, List.nil_append, asRoom, decide_true, List.length_cons, List.length_nil]
     rw [IH1 _ _ (by first | omega | (simp only [List.length_append, List.length_cons, List.length_nil]; omega)) (by first | omega | (simp only [List.length_cons, List.length_nil]; omega))]
     try simp only [Bool.and_self, asr_true]
   · rw [if_neg h1, if_neg h2]
     simp (discharger := omega) only [cbF h1, cbF h2, rsp_len, rsp_one (t.1, minR t.2 p), rsp_one (maxR t.1 p, t.2), rsp_app, cast1, List.nil_append, asRoom, decide_true, List.length_cons, List.length_nil]
     rw [IH _ (by first | omega | (simp only [List.length_append, List.length_cons, List.length_nil]; omega))]
     try simp only [List.append_assoc, List.nil_append, Bool.and_self, asr_true]
theorem cut3_loop (hs : ∀ s ∈ l, smallS s) (hl : l.length < 1000) (hp : small p) (hx3 : ∀ B a b l i k q, x3 B a b l i k q = K [] B) (hx4 : ∀ B A a b l i k q, x4 B A a b l i k q = K A B) :
   ∀ (r i n : Nat) (B : List RS), i + r = l.length → r < n → B.length ≤ i → L_piece_Cut_0_3 w_piece_Check w_ratio_Check w_piece_sooner w_piece_valid w_piece_later x0 x1 x2 x3 x4 n (rsp B) p.num p.den (rsp l) (l.length : Int) (i : Int) = K (rsp (cutL p (l.drop i))) (rsp (B ++ cutR p (l.drop i))) := by
 intro r
 induction r with
 | zero =>
   intro i n B hi hn hB
   obtain ⟨n, rfl⟩ : ∃ m, n = m + 1 := ⟨n - 1, by omega⟩
   obtain rfl : i = l.length := by omega
   rw [L_piece_Cut_0_3, cbF (by omega), List.drop_length, hx3]
   simp only [cutL, cutR, List.flatMap_nil, List.append_nil, rsp_nil]
 | succ r ih =>
   intro i n B hi hn hB
   obtain ⟨n, rfl⟩ : ∃ m, n = m + 1 := ⟨n - 1, by omega⟩
   have hil : i < l.length := by omega
   have e1 := wib (n := (i : Int) + 1) (by omega) (by omega)
   have hd : l.drop i = l.getD i default :: l.drop (i + 1) := drop_cons default hil
   have hx := smallS_mem hs hil
   generalize hq1 : l.getD i default = t at hx hd
   have hmn := small_min hx.2 hp
   have hmx := small_max hx.1 hp
   have IH := fun B' hB => ih (i + 1) n B' (by omega) (by omega) hB
   have IH4 := fun B' A' hB hA => cut4_loop (x0 := x0) (x1 := x1) (x2 := x2) (x3 := x3) (x4 := x4) hs hl hp hx4 r (i + 1) n B' A' (by omega) (by omega) hB hA
   rw [L_piece_Cut_0_3, hd, cutL_cons, cutR_cons]
   dsimp only [lt, Go.Pf.jn]
   simp (discharger := omega) only [e1, rsp_len, cbT, asT, Int.toNat_natCast, rsp_at, hq1, asR, encR0, encR1, encR2, encR3, sooner_eq hx.2 hp, later_eq hx.1 hp, validQ hx.1 hmn, validQ hmx hx.2, decide_true, asr_true, Nat.zero_add, asNo, Bool.and_true, Nat.le_refl]
   by_cases h1 : t.1 < minR t.2 p <;> by_cases h2 : maxR t.1 p < t.2
   · rw [if_pos h1, if_pos h2]
     simp (discharger := omega) only [cbT h1, cbT h2, rsp_one (t.1, minR t.2 p), rsp_one (maxR t.1 p, t.2), rsp_app, cast1, asRoom]
     rw [IH4 _ _ (by first | omega | (simp only [List.length_append, List.length_cons, List.length_nil]; omega)) (by first | omega | (simp only [List.length_cons, List.length_nil]; omega))]
     try simp only [List.append_assoc]
   · rw [if_pos h1, if_neg h2]
     simp (discharger := omega) only [cbT h1, cbF h2, rsp_one (t.1, minR t.2 p), rsp_one (maxR t.1 p, t.2), rsp_app, cast1, List.nil_append, asRoom]
     rw [IH4 _ _ (by first | omega | (simp only [List.length_append, List.length_cons, List.length_nil]; omega)) (by first | omega | (simp only [List.length_cons, List.length_nil]; omega))]
     try simp only [List.append_assoc, List.nil_append, Bool.and_self, asr_true]
   · rw [if_neg h1, if_pos h2]
     simp (discharger := omega) only [cbF h1, cbT h2, rsp_one (t.1, minR t.2 p), rsp_one (maxR t.1 p, t.2), rsp_app, cast1, List.nil_append, asRoom]
     rw [IH _ (by first | omega | (simp only [List.length_append, List.length_cons, List.length_nil]; omega))]
     try simp only [List.append_assoc]
   · rw [if_neg h1, if_neg h2]
     simp (discharger := omega) only [cbF h1, cbF h2, rsp_one (t.1, minR t.2 p), rsp_one (maxR t.1 p, t.2), rsp_app, cast1, List.nil_append, asRoom]
     rw [IH _ (by first | omega | (simp only [List.length_append, List.length_cons, List.length_nil]; omega))]
     try simp only [List.append_assoc, List.nil_append, Bool.and_self, asr_true]
theorem cut0_loop (hs : ∀ s ∈ l, smallS s) (hl : l.length < 1000) (hp : small p) (hx0 : ∀ a b l i k q, x0 a b l i k q = K [] []) (hx1 : ∀ A B a b l i k q, x1 A B a b l i k q = K A B) (hx2 : ∀ A a b l i k q, x2 A a b l i k q = K A []) (hx3 : ∀ B a b l i k q, x3 B a b l i k q = K [] B) (hx4 : ∀ B A a b l i k q, x4 B A a b l i k q = K A B) :
   ∀ (r i n : Nat), i + r = l.length → r < n → L_piece_Cut_0_0 w_piece_Check w_ratio_Check w_piece_sooner w_piece_valid w_piece_later x0 x1 x2 x3 x4 n  p.num p.den (rsp l) (l.length : Int) (i : Int) = K (rsp (cutL p (l.drop i))) (rsp (cutR p (l.drop i))) := by
 intro r
 induction r with
 | zero =>
   intro i n hi hn
   obtain ⟨n, rfl⟩ : ∃ m, n = m + 1 := ⟨n - 1, by omega⟩
   obtain rfl : i = l.length := by omega
   rw [L_piece_Cut_0_0, cbF (by omega), List.drop_length, hx0]
   simp only [cutL, cutR, List.flatMap_nil, rsp_nil]
 | succ r ih =>
   intro i n hi hn
   obtain ⟨n, rfl⟩ : ∃ m, n = m + 1 := ⟨n - 1, by omega⟩
   have hil : i < l.length := by omega
   have e1 := wib (n := (i : Int) + 1) (by omega) (by omega)
   have hd : l.drop i = l.getD i default :: l.drop (i + 1) := drop_cons default hil
   have hx := smallS_mem hs hil
   generalize hq1 : l.getD i default = t at hx hd
   have hmn := small_min hx.2 hp
   have hmx := small_max hx.1 hp
   have IH := ih (i + 1) n (by omega) (by omega)
   have IH1 := fun A' B' hA hB => cut1_loop (x0 := x0) (x1 := x1) (x2 := x2) (x3 := x3) (x4 := x4) hs hl hp hx1 r (i + 1) n A' B' (by omega) (by omega) hA hB
   have IH2 := fun A' hA => cut2_loop (x0 := x0) (x1 := x1) (x2 := x2) (x3 := x3) (x4 := x4) hs hl hp hx1 hx2 r (i + 1) n A' (by omega) (by omega) hA
   have IH3 := fun B' hB => cut3_loop (x0 := x0) (x1 := x1) (x2 := x2) (x3 := x3) (x4 := x4) hs hl hp hx3 hx4 r (i + 1) n B' (by omega) (by omega) hB
   rw [L_piece_Cut_0_0, hd, cutL_cons, cutR_cons]
   dsimp only [lt, Go.Pf.jn]
   simp (discharger := omega) only [e1, rsp_len, cbT, asT, Int.toNat_natCast, rsp_at, hq1, asR, encR0, encR1, encR2, encR3, sooner_eq hx.2 hp, later_eq hx.1 hp, validQ hx.1 hmn, validQ hmx hx.2]
   by_cases h1 : t.1 < minR t.2 p <;> by_cases h2 : maxR t.1 p < t.2
   · rw [if_pos h1, if_pos h2]
     simp (discharger := omega) only [cbT h1, cbT h2, rsp_len, rsp_one (t.1, minR t.2 p), rsp_one (maxR t.1 p, t.2), cast1, decide_true, List.length_cons, List.length_nil]
     rw [IH1 _ _ (by first | omega | (simp only [List.length_cons, List.length_nil]; omega)) (by first | omega | (simp only [List.length_cons, List.length_nil]; omega))]
     try simp only [Bool.and_self, asr_true]
   · rw [if_pos h1, if_neg h2]
     simp (discharger := omega) only [cbT h1, cbF h2, rsp_len, rsp_one (t.1, minR t.2 p), rsp_one (maxR t.1 p, t.2), cast1, List.nil_append, decide_true, List.length_cons, List.length_nil]
     rw [IH2 _ (by first | omega | (simp only [List.length_cons, List.length_nil]; omega))]
     try simp only [Bool.and_self, asr_true]
   · rw [if_neg h1, if_pos h2]
     simp (discharger := omega) only [cbF h1, cbT h2, rsp_len, rsp_one (t.1, minR t.2 p), rsp_one (maxR t.1 p, t.2), cast1, List.nil_append, decide_true, List.length_cons, List.length_nil]
     rw [IH3 _ (by first | omega | (simp only [List.length_cons, List.length_nil]; omega))]
     try simp only [Bool.and_self, asr_true]
   · rw [if_neg h1, if_neg h2]
     simp (discharger := omega) only [cbF h1, cbF h2, rsp_len, rsp_one (t.1, minR t.2 p), rsp_one (maxR t.1 p, t.2), cast1, List.nil_append, decide_true, List.length_cons, List.length_nil]
     rw [IH]
     try simp only [List.append_assoc, List.nil_append, Bool.and_self, asr_true]
end
end Go.Pf.Vc
namespace Go.Pf.Vc
open Go Go.Pf
theorem mem_if {α : Type} {c : Prop} [Decidable c] {x y : α} : x ∈ (if c then [y] else []) ↔ (c ∧ x = y) := by
 split
 · rename_i h; simp [h]
 · rename_i h; simp [h]
theorem cutL_ok (p : Rat) : ∀ l : List RS, canon l → canon (cutL p l) ∧ (∀ u ∈ cutL p l, ∃ t ∈ l, t.1 = u.1 ∧ u.2 = minR t.2 p) ∧ (cutL p l).length ≤ l.length ∧ ∀ q, memP (cutL p l) q ↔ (memP l q ∧ q < p)
 | [], _ => by
   refine ⟨trivial, fun u h => (List.not_mem_nil h).elim, Nat.le_refl _, fun q => ?_⟩
   exact ⟨fun h => (memP_nil h).elim, fun h => (memP_nil h.1).elim⟩
 | s :: r, h => by
   obtain ⟨i1, i2, i3, i4⟩ := cutL_ok p r h.2.2
   rw [cutL_cons]
   have hm := minR_is s.2 p
   refine ⟨?_, fun u hu => ?_, ?_, fun q => ?_⟩
   · by_cases hc : s.1 < minR s.2 p
     · rw [if_pos hc]
       refine ⟨hc, fun u hu => ?_, i1⟩
       obtain ⟨t, ht, e1, _⟩ := i2 u hu
       have := h.2.1 t ht
       show minR s.2 p < u.1
       rw [← e1]; grind
     · rw [if_neg hc]; exact i1
   · rcases List.mem_append.1 hu with hu | hu
     · obtain ⟨_, rfl⟩ := mem_if.1 hu
       exact ⟨s, by simp, rfl, rfl⟩
     · obtain ⟨t, ht, e⟩ := i2 u hu
       exact ⟨t, List.mem_cons_of_mem _ ht, e⟩
   · rw [List.length_append, List.length_cons]
     split <;> simp only [List.length_cons, List.length_nil] <;> omega
   · rw [memP_app, memP_if, i4 q, memP_cons]
     unfold inS
     dsimp only
     constructor
     · rintro (⟨_, h1, h2⟩ | ⟨h1, h2⟩)
       · exact ⟨.inl ⟨h1, by grind⟩, by grind⟩
       · exact ⟨.inr h1, h2⟩
     · rintro ⟨h1 | h1, h2⟩
       · exact .inl ⟨by grind, h1.1, by grind⟩
       · exact .inr ⟨h1, h2⟩
theorem cutR_ok (p : Rat) : ∀ l : List RS, canon l → canon (cutR p l) ∧ (∀ u ∈ cutR p l, ∃ t ∈ l, u.1 = maxR t.1 p ∧ u.2 = t.2) ∧ (cutR p l).length ≤ l.length ∧ ∀ q, memP (cutR p l) q ↔ (memP l q ∧ p ≤ q)
 | [], _ => by
   refine ⟨trivial, fun u h => (List.not_mem_nil h).elim, Nat.le_refl _, fun q => ?_⟩
   exact ⟨fun h => (memP_nil h).elim, fun h => (memP_nil h.1).elim⟩
 | s :: r, h => by
   obtain ⟨i1, i2, i3, i4⟩ := cutR_ok p r h.2.2
   rw [cutR_cons]
   have hm := maxR_is s.1 p
   refine ⟨?_, fun u hu => ?_, ?_, fun q => ?_⟩
   · by_cases hc : maxR s.1 p < s.2
     · rw [if_pos hc]
       refine ⟨hc, fun u hu => ?_, i1⟩
       obtain ⟨t, ht, e1, _⟩ := i2 u hu
       have := h.2.1 t ht
       have := maxR_is t.1 p
       show s.2 < u.1
       rw [e1]; grind
     · rw [if_neg hc]; exact i1
   · rcases List.mem_append.1 hu with hu | hu
     · obtain ⟨_, rfl⟩ := mem_if.1 hu
       exact ⟨s, by simp, rfl, rfl⟩
     · obtain ⟨t, ht, e⟩ := i2 u hu
       exact ⟨t, List.mem_cons_of_mem _ ht, e⟩
   · rw [List.length_append, List.length_cons]
     split <;> simp only [List.length_cons, List.length_nil] <;> omega
   · rw [memP_app, memP_if, i4 q, memP_cons]
     unfold inS
     dsimp only
     constructor
     · rintro (⟨_, h1, h2⟩ | ⟨h1, h2⟩)
       · exact ⟨.inl ⟨by grind, h2⟩, by grind⟩
       · exact ⟨.inr h1, h2⟩
     · rintro ⟨h1 | h1, h2⟩
       · exact .inl ⟨by grind, by grind, h1.2⟩
       · exact .inr ⟨h1, h2⟩
theorem Pc.cutL {l : List RS} (h : Pc l) {p : Rat} (hp : small p) : Pc (cutL p l) := by
 obtain ⟨h1, h2, h3, _⟩ := cutL_ok p l h.c
 refine ⟨h1, fun u hu => ?_, by have := h.n; omega⟩
 obtain ⟨t, ht, e1, e2⟩ := h2 u hu
 have := h.s t ht
 exact ⟨e1 ▸ this.1, e2 ▸ small_min this.2 hp⟩
theorem Pc.cutR {l : List RS} (h : Pc l) {p : Rat} (hp : small p) : Pc (cutR p l) := by
 obtain ⟨h1, h2, h3, _⟩ := cutR_ok p l h.c
 refine ⟨h1, fun u hu => ?_, by have := h.n; omega⟩
 obtain ⟨t, ht, e1, e2⟩ := h2 u hu
 have := h.s t ht
 exact ⟨e1 ▸ small_max this.1 hp, e2 ▸ this.2⟩
theorem Pc.cut {l : List RS} (h : Pc l) {p : Rat} (hp : small p) (K : List PV → List PV → Int → Prop) : w_piece_Cut (rsp l) p.num p.den K = K (rsp (Go.Pf.Vc.cutL p l)) (rsp (Go.Pf.Vc.cutR p l)) 0 := by
 refine det_piece_Cut _ _ _ _ _ _ (fun K k => ?_) K
 unfold w_piece_Cut wv_piece_Cut
 rw [h.check]
 show cbr false _ _
 rw [cbr_false, rCheck_eq hp.i1 hp.i2, show chk p.num p.den = 0 from if_pos hp.rv]
 show cbr false _ _
 rw [cbr_false]
 refine ⟨l.length + 1, ?_⟩
 rw [rsp_len]
 have hn := h.n
 refine (cut0_loop h.s (by omega) hp (K := fun A B => K A B 0) (fun _ _ _ _ _ _ => rfl) (fun A B _ _ _ _ _ _ => ?_) (fun A _ _ _ _ _ _ => ?_) (fun B _ _ _ _ _ _ => ?_) (fun B A _ _ _ _ _ _ => ?_) l.length 0 (l.length + 1) (by omega) (by omega)).mpr ?_
 · simp only [asLen, asTr, List.take_length]
 · simp only [asLen, asTr, List.take_length]
 · simp only [asLen, asTr, List.take_length]
 · simp only [asLen, asTr, List.take_length]
 · rw [List.drop_zero]; exact k
theorem mrg_len : ∀ (r : List RS) (c : RS), (mrg r c).length ≤ r.length + 1
 | [], c => by simp [mrg]
 | s :: r, c => by
   unfold mrg
   split
   · have := mrg_len r s
     simp only [List.length_cons]; omega
   · have := mrg_len r (c.1, maxR c.2 s.2)
     simp only [List.length_cons]; omega
theorem mrg_small : ∀ (r : List RS) (c : RS), smallS c → (∀ s ∈ r, smallS s) → ∀ s ∈ mrg r c, smallS s
 | [], c, hc, _ => by simpa [mrg] using hc
 | t :: r, c, hc, h => by
   have ht := h t List.mem_cons_self
   have hr : ∀ s ∈ r, smallS s := fun s hs => h s (List.mem_cons_of_mem _ hs)
   intro s hs
   unfold mrg at hs
   split at hs
   · rcases List.mem_cons.1 hs with rfl | hs
     · exact hc
     · exact mrg_small r t ht hr s hs
   · exact mrg_small r (c.1, maxR c.2 t.2) ⟨hc.1, small_max hc.2 ht.2⟩ hr s hs
theorem mergeS_pc {l : List RS} (hs : ∀ s ∈ l, smallS s) (hv : ∀ s ∈ l, s.1 < s.2) (hb : byFrom l) (hl : l.length ≤ 60) : Pc (mergeS l) := by
 refine ⟨(mergeS_ok hv hb).1, ?_, ?_⟩
 · cases l with
   | nil => simp [mergeS]
   | cons s r => exact mrg_small r s (hs s List.mem_cons_self) fun t ht => hs t (List.mem_cons_of_mem _ ht)
 · cases l with
   | nil => simp [mergeS]
   | cons s r =>
     have := mrg_len r s
     show (mrg r s).length ≤ 60
     simp only [List.length_cons] at hl; omega
theorem memP_congr {a b : List RS} (h : ∀ s, s ∈ a ↔ s ∈ b) (p : Rat) : memP a p ↔ memP b p :=
 ⟨fun ⟨s, hs, hp⟩ => ⟨s, (h s).1 hs, hp⟩, fun ⟨s, hs, hp⟩ => ⟨s, (h s).2 hs, hp⟩⟩
theorem Make_zero {l : List Sp} (h64 : ∀ s ∈ l, s.i64) (h0 : allE l = 0) : ∃ m, Pc m ∧ (∀ p, memP m p ↔ memP (rsL l) p) ∧ ∀ K, w_piece_Make (spans l) K = K (rsp m) 0 := by
 obtain ⟨h1, h2⟩ := allE_zero h0
 have hs : ∀ s ∈ rsL l, smallS s := fun s hs => by obtain ⟨t, ht, rfl⟩ := List.mem_map.1 hs; exact rs_small (h2 t ht)
 have hv : ∀ s ∈ rsL l, s.1 < s.2 := fun s hs => by obtain ⟨t, ht, rfl⟩ := List.mem_map.1 hs; exact (h2 t ht).2.2
 have hn : (rsL l).length = l.length := List.length_map ..
 obtain ⟨l', hp, hb, hm⟩ := merged_eq hs hv (by omega)
 have hs' : ∀ s ∈ l', smallS s := fun s h => hs s (hp.mem_iff.1 h)
 have hv' : ∀ s ∈ l', s.1 < s.2 := fun s h => hv s (hp.mem_iff.1 h)
 refine ⟨mergeS l', mergeS_pc hs' hv' hb (by rw [hp.length_eq]; omega), fun p => ?_, fun K => ?_⟩
 · rw [(mergeS_ok hv' hb).2 p]
   exact memP_congr (fun s => hp.mem_iff) p
 · unfold w_piece_Make wv_piece_Make
   rw [all_eq h64 (by omega), h0, spans_rsL h2]
   show cbr false _ _ = _
   rw [cbr_false, hm]
def sumO (v : RS → Rat) : List RS → Rat → Option Rat
 | [], q => some q
 | s :: r, q => if small (v s) ∧ small (q + v s) then sumO v r (q + v s) else none
def sumV (v : RS → Rat) : List RS → Rat
 | [] => 0
 | s :: r => v s + sumV v r
def optK (o : Option Rat) (K : Int → Int → Int → Prop) : Prop := match o with | some q => K q.num q.den 0 | none => K 0 0 16
theorem sumO_val {v : RS → Rat} : ∀ {l : List RS} {q t : Rat}, sumO v l q = some t → small q → t = q + sumV v l ∧ small t
 | [], q, t, h, hq => by
   cases h
   exact ⟨(Rat.add_zero _).symm, hq⟩
 | s :: r, q, t, h, hq => by
   unfold sumO at h
   split at h
   · rename_i h1
     obtain ⟨e, h2⟩ := sumO_val h h1.2
     refine ⟨?_, h2⟩
     rw [e]
     show _ = q + (v s + sumV v r)
     grind
   · cases h
theorem length1_eq {s : RS} (h : smallS s) (K : Int → Int → Int → Prop) : w_piece_Length_1 s.1.num s.1.den s.2.num s.2.den K = fitK (s.2 - s.1) K := by
 unfold w_piece_Length_1 wv_piece_Length_1
 rw [rSub_eq h.2 h.1]
theorem length_loop {l : List RS} (hs : ∀ s ∈ l, smallS s) (hl : l.length < 1000) {x0 : Int → Int → Int → Int → List PV → Int → Int → Bool → Prop} {x1 : Int → Int → Int → Prop} {K : Int → Int → Int → Prop}
   (hx0 : ∀ z z' a b l i k q, x0 z z' a b l i k q = K a b 0) (hx1 : ∀ a b e, x1 a b e = K a b e) (z z' : Int) :
   ∀ (r i n : Nat) (q : Rat), i + r = l.length → r < n → small q → L_piece_Length_0_0 w_piece_Check w_piece_Length_1 w_ratio_Add x0 x1 n z z' q.num q.den (rsp l) (l.length : Int) (i : Int) = optK (sumO (fun s => s.2 - s.1) (l.drop i) q) K := by
 intro r
 induction r with
 | zero =>
   intro i n q hi hn hq
   obtain ⟨n, rfl⟩ : ∃ m, n = m + 1 := ⟨n - 1, by omega⟩
   obtain rfl : i = l.length := by omega
   rw [L_piece_Length_0_0, cbF (by omega), List.drop_length, hx0]
   rfl
 | succ r ih =>
   intro i n q hi hn hq
   obtain ⟨n, rfl⟩ : ∃ m, n = m + 1 := ⟨n - 1, by omega⟩
   have hil : i < l.length := by omega
   have e1 := wib (n := (i : Int) + 1) (by omega) (by omega)
   have hd : l.drop i = l.getD i default :: l.drop (i + 1) := drop_cons default hil
   have hx := smallS_mem hs hil
   rw [L_piece_Length_0_0, cbT (by omega), hd]
   generalize hq1 : l.getD i default = t at hx
   dsimp only [lt]
   rw [rsp_len, asT (by omega), asT (by omega), Int.toNat_natCast, rsp_at hil, hq1, asR, encR0, encR1, encR2, encR3, length1_eq hx]
   unfold fitK sumO
   by_cases h1 : small (t.2 - t.1)
   · rw [if_pos h1]
     show cbr false _ _ = _
     rw [cbr_false, rAdd_eq hq h1]
     unfold fitK
     by_cases h2 : small (q + (t.2 - t.1))
     · rw [if_pos h2, if_pos ⟨h1, h2⟩, e1, cast1]
       show cbr false _ _ = _
       rw [cbr_false]
       exact ih (i + 1) n _ (by omega) (by omega) h2
     · rw [if_neg h2, if_neg (fun h => h2 h.2)]
       show cbr true _ _ = _
       rw [cbr_true, hx1]
       rfl
   · rw [if_neg h1, if_neg (fun h => h1 h.1)]
     show cbr true _ _ = _
     rw [cbr_true, hx1]
     rfl
theorem small_zero : small 0 := by decide +kernel
theorem Pc.len {l : List RS} (h : Pc l) (K : Int → Int → Int → Prop) : w_piece_Length (rsp l) K = optK (sumO (fun s => s.2 - s.1) l 0) K := by
 have hn := h.n
 have key : ∀ K : Int → Int → Int → Prop, optK (sumO (fun s => s.2 - s.1) l 0) K → w_piece_Length (rsp l) K := fun K k => by
   unfold w_piece_Length wv_piece_Length
   rw [h.check]
   show cbr false _ _
   rw [cbr_false]
   dsimp only [Go.Pf.jn]
   refine ⟨l.length + 1, ?_⟩
   rw [rsp_len]
   refine (length_loop h.s (by omega) (fun _ _ _ _ _ _ _ _ => rfl) (fun _ _ _ => rfl) 0 0 l.length 0 (l.length + 1) 0 (by omega) (by omega) small_zero).mpr ?_
   rw [List.drop_zero]; exact k
 cases ho : sumO (fun s => s.2 - s.1) l 0 with
 | none => rw [ho] at key; exact det_piece_Length _ _ _ _ key K
 | some q => rw [ho] at key; exact det_piece_Length _ _ _ _ key K
end Go.Pf.Vc
namespace Go.Pf.Vc
open Go Go.Pf
theorem is_ok {l : List RS} (h : l.length ≤ 60) (K : Bool → Prop) : w_l03_is (rsp l) 0 (rsp l) K = K true := by
 unfold w_l03_is wv_l03_is
 dsimp only [Go.Pf.jn]
 show cbr true _ _ = _
 rw [cbr_true, Pc.same h]
def sp2 (a b : Int) : Sp := ⟨a, 1, b, 1⟩
theorem sp2_i64 {a b : Int} (ha : I64 a) (hb : I64 b) : (sp2 a b).i64 := ⟨ha, (show I64 1 from ⟨by decide, by decide⟩), hb, (show I64 1 from ⟨by decide, by decide⟩)⟩
theorem alive_eq (K : Bool → Prop) : w_l03_alive K = K true := by
 have i : ∀ {a : Int}, 0 ≤ a → a ≤ 5 → I64 a := fun h1 h2 => ⟨by omega, by omega⟩
 obtain ⟨m, pm, hm, em⟩ := Make_zero (l := [sp2 2 5, sp2 0 1, sp2 1 2]) (by
   intro s hs
   simp only [List.mem_cons, List.not_mem_nil, or_false] at hs
   rcases hs with rfl | rfl | rfl <;> exact sp2_i64 (i (by omega) (by omega)) (i (by omega) (by omega))) (by decide +kernel)
 have m5 : m = [(0, 5)] := by
   refine canon_unique _ _ pm.c ⟨by decide +kernel, by simp, trivial⟩ fun p => ?_
   have e : rsL [sp2 2 5, sp2 0 1, sp2 1 2] = [(2, 5), (0, 1), (1, 2)] := by decide +kernel
   rw [hm p, e]
   simp only [memP_cons, inS]
   constructor
   · rintro (h | h | h | h)
     · exact .inl ⟨by grind, by grind⟩
     · exact .inl ⟨by grind, by grind⟩
     · exact .inl ⟨by grind, by grind⟩
     · exact (memP_nil h).elim
   · rintro (h | h)
     · by_cases h1 : p < 1
       · exact .inr (.inl ⟨h.1, h1⟩)
       · by_cases h2 : p < 2
         · exact .inr (.inr (.inl ⟨by grind, h2⟩))
         · exact .inl ⟨by grind, h.2⟩
     · exact (memP_nil h).elim
 subst m5
 have s4 : small 4 := by decide +kernel
 have s5 : small 5 := by decide +kernel
 have s3 : small 3 := by decide +kernel
 have p12 : Pc [(1, 2)] := ⟨⟨by decide +kernel, by simp, trivial⟩, by
   intro s hs
   rw [List.mem_singleton] at hs
   subst hs
   exact ⟨by decide +kernel, by decide +kernel⟩, by simp⟩
 have hmin : setR [((0 : Rat), (5 : Rat))] [(1, 2)] 2 = [(0, 1), (2, 5)] := by decide +kernel
 have pmin : Pc [((0 : Rat), (1 : Rat)), (2, 5)] := hmin ▸ setR_pc pm p12 (.inr (.inr rfl)) (by simp)
 unfold w_l03_alive wv_l03_alive
 unfold w_l03_of wv_l03_of
 dsimp only [Go.Pf.jn]
 show w_piece_Make (spans [sp2 2 5, sp2 0 1, sp2 1 2]) _ = _
 rw [em]
 show w_piece_Has (rsp [((0 : Rat), (5 : Rat))]) (4 : Rat).num ((4 : Rat).den : Int) _ = _
 rw [pm.has s4]
 show w_piece_Has (rsp [((0 : Rat), (5 : Rat))]) (5 : Rat).num ((5 : Rat).den : Int) _ = _
 rw [pm.has s5]
 show w_piece_Minus (rsp [((0 : Rat), (5 : Rat))]) (rsp [((1 : Rat), (2 : Rat))]) _ = _
 rw [pm.minus p12 (by simp), hmin, pmin.len, show sumO (fun s => s.2 - s.1) [((0 : Rat), (1 : Rat)), (2, 5)] 0 = some 4 from by decide +kernel]
 show w_piece_Cut (rsp [((0 : Rat), (1 : Rat)), (2, 5)]) (3 : Rat).num ((3 : Rat).den : Int) _ = _
 rw [pmin.cut s3, show cutL 3 [((0 : Rat), (1 : Rat)), (2, 5)] = [(0, 1), (2, 3)] from by decide +kernel, show cutR 3 [((0 : Rat), (1 : Rat)), (2, 5)] = [(3, 5)] from by decide +kernel]
 rw [show inB [((0 : Rat), (5 : Rat))] 4 = true from by decide +kernel, show inB [((0 : Rat), (5 : Rat))] 5 = false from by decide +kernel]
 show w_l03_is (rsp [((0 : Rat), (5 : Rat))]) 0 (rsp [((0 : Rat), (5 : Rat))]) _ = _
 rw [is_ok (by simp)]
 show w_l03_is (rsp [((0 : Rat), (1 : Rat)), (2, 5)]) 0 (rsp [((0 : Rat), (1 : Rat)), (2, 5)]) _ = _
 rw [is_ok (by simp)]
 show w_l03_is (rsp [((0 : Rat), (1 : Rat)), (2, 3)]) 0 (rsp [((0 : Rat), (1 : Rat)), (2, 3)]) _ = _
 rw [is_ok (by simp)]
 show w_l03_is (rsp [((3 : Rat), (5 : Rat))]) 0 (rsp [((3 : Rat), (5 : Rat))]) _ = _
 rw [is_ok (by simp)]
end Go.Pf.Vc
namespace Go.Pf.Vc
open Go Go.Pf
theorem A_sRead {x : PV} (h1 : x.isAgg = (DS.s dsS).isA) (h2 : HasF (.s dsS) x.cells) : ∃ l : List Sp, x = .data (spans l) ∧ ∀ s ∈ l, s.i64 := by
 obtain ⟨l, e, _, h⟩ := F_spans h2
 exact ⟨l, single_of h1 e, h⟩
theorem nz (P Q : Prop) : cbr ((0 : Int) != 0) P Q = Q := rfl
theorem ez (P Q : Prop) : cbr ((0 : Int) == 0) P Q = P := rfl
end Go.Pf.Vc
namespace Go.Pf.Vc
open Go Go.Pf
section
variable (V : Rat → Rat)
def dV (s : RS) : Rat := V s.2 - V s.1
def csum (f : Rat → Bool) : List Rat → Rat
 | x :: y :: r => (bif f x then V y - V x else 0) + csum f (y :: r)
 | _ => 0
theorem jn_sum (f : Rat → Bool) : ∀ (pts : List Rat), sumV (dV V) (jn f pts none) = csum V f pts ∧ ∀ c, sumV (dV V) (jn f pts (some c)) = dV V c + csum V f pts
 | [] => by
   unfold jn csum
   exact ⟨rfl, fun c => rfl⟩
 | [x] => by
   unfold jn csum
   exact ⟨rfl, fun c => rfl⟩
 | x :: y :: r => by
   obtain ⟨i1, i2⟩ := jn_sum f (y :: r)
   unfold jn csum
   cases hf : f x with
   | true =>
     rw [if_pos rfl]
     refine ⟨?_, fun c => ?_⟩
     · rw [i2]; rfl
     · rw [if_pos rfl]
       split
       · rename_i hc
         rw [i2]
         unfold dV
         rw [cond_true, hc]
         dsimp only
         grind
       · show dV V c + sumV (dV V) (jn f (y :: r) (some (x, y))) = _
         rw [i2]
         unfold dV
         rw [cond_true]
   | false =>
     rw [if_neg (by decide)]
     refine ⟨?_, fun c => ?_⟩
     · rw [i1, cond_false]; grind
     · rw [if_neg (by decide), i2, cond_false]; grind
theorem csum_add (f g : Rat → Bool) : ∀ pts : List Rat, csum V f pts + csum V g pts = csum V (fun x => f x || g x) pts + csum V (fun x => f x && g x) pts
 | [] => rfl
 | [x] => rfl
 | x :: y :: r => by
   have ih := csum_add f g (y :: r)
   unfold csum
   cases f x <;> cases g x <;> simp only [cond_true, cond_false, Bool.or_self, Bool.and_self, Bool.or_true, Bool.and_true, Bool.and_false, Bool.or_false] <;> grind
theorem jn_self {pts : List Rat} {A : List RS} (hA : canon A) (hi : incrR pts) (he : endsIn pts A) : jn (inB A) pts none = A := by
 obtain ⟨h1, h2⟩ := jn_set (P := memP A) hi (fun x y p hg h1 h2 => mem_const he hg h1 h2) (fun x _ => inB_iff) (fun p hp => hull_of he hp)
 exact canon_unique _ _ h1 hA h2
theorem sum_sets {A B : List RS} (hA : canon A) (hB : canon B) : sumV (dV V) A + sumV (dV V) B = sumV (dV V) (setR A B 0) + sumV (dV V) (setR A B 1) := by
 have ea : endsIn (endsR B (endsR A [])) A := fun s hs => ⟨endsR_keep B _ _ (endsR_has A [] s hs).1, endsR_keep B _ _ (endsR_has A [] s hs).2⟩
 have eb : endsIn (endsR B (endsR A [])) B := endsR_has B _
 have hi : incrR (endsR B (endsR A [])) := endsR_incr B _ (endsR_incr A _ trivial)
 have h1 := (jn_sum V (inB A) (endsR B (endsR A []))).1
 have h2 := (jn_sum V (inB B) (endsR B (endsR A []))).1
 have h3 := (jn_sum V (selF A B 0) (endsR B (endsR A []))).1
 have h4 := (jn_sum V (selF A B 1) (endsR B (endsR A []))).1
 rw [jn_self hA hi ea] at h1
 rw [jn_self hB hi eb] at h2
 show _ = sumV (dV V) (jn (selF A B 0) (endsR B (endsR A [])) none) + sumV (dV V) (jn (selF A B 1) (endsR B (endsR A [])) none)
 rw [h1, h2, h3, h4, csum_add]
 rfl
end
def outW (w : (Int → Int → Int → Prop) → Prop) (t : Rat) : Prop := (∃ c, c ≠ 0 ∧ ∀ K, w K = K 0 0 c) ∨ (small t ∧ ∀ K, w K = K t.num t.den 0)
theorem Pc.outLen {l : List RS} (h : Pc l) : outW (fun K => w_piece_Length (rsp l) K) (sumV (dV id) l) := by
 cases ho : sumO (fun s => s.2 - s.1) l 0 with
 | none =>
   refine .inl ⟨16, by decide, fun K => ?_⟩
   show w_piece_Length (rsp l) K = _
   rw [h.len, ho]
   rfl
 | some q =>
   obtain ⟨e, hq⟩ := sumO_val ho small_zero
   rw [Rat.zero_add] at e
   subst e
   refine .inr ⟨hq, fun K => ?_⟩
   show w_piece_Length (rsp l) K = _
   rw [h.len, ho]
   rfl
theorem adds_eq {a b u m : Rat} (ha : small a) (hb : small b) (hu : small u) (hm : small m) (h : a + b = u + m) (K : Bool → Prop) : w_l03_adds a.num a.den b.num b.den u.num u.den m.num m.den true K = K true := by
 unfold w_l03_adds wv_l03_adds
 dsimp only [Go.Pf.jn]
 show cbr false _ _ = _
 rw [cbr_false, rAdd_eq ha hb, h]
 unfold fitK
 by_cases hs : small (u + m)
 · rw [if_pos hs]
   dsimp only
   rw [rAdd_eq hu hm]
   unfold fitK
   rw [if_pos hs]
   show cbr false _ (cbr false _ _) = _
   rw [cbr_false, cbr_false]
   simp
 · rw [if_neg hs]
   dsimp only
   rw [rAdd_eq hu hm]
   unfold fitK
   rw [if_neg hs]
   rfl
theorem adds_no (a b c d e f g h : Int) (K : Bool → Prop) : w_l03_adds a b c d e f g h false K = K true := by
 unfold w_l03_adds wv_l03_adds
 rfl
theorem outW.const {w : (Int → Int → Int → Prop) → Prop} {t : Rat} (h : outW w t) (P : Prop) : w (fun _ _ _ => P) = P := by
 rcases h with ⟨c, _, q⟩ | ⟨_, q⟩ <;> rw [q]
theorem four {w1 w2 w3 w4 : (Int → Int → Int → Prop) → Prop} {a b u m : Rat} (h1 : outW w1 a) (h2 : outW w2 b) (h3 : outW w3 u) (h4 : outW w4 m) (h : a + b = u + m) (K : Bool → Prop) :
   w1 (fun x1 y1 e1 => w2 (fun x2 y2 e2 => w3 (fun x3 y3 e3 => w4 (fun x4 y4 e4 =>
     cbr (e1 == 0) (cbr (e2 == 0) (cbr (e3 == 0) (w_l03_adds x1 y1 x2 y2 x3 y3 x4 y4 (e4 == 0) K) (w_l03_adds x1 y1 x2 y2 x3 y3 x4 y4 false K)) (w_l03_adds x1 y1 x2 y2 x3 y3 x4 y4 false K)) (w_l03_adds x1 y1 x2 y2 x3 y3 x4 y4 false K))))) = K true := by
 rcases h1 with ⟨c1, n1, q1⟩ | ⟨s1, q1⟩
 · simp only [q1, ceF n1, adds_no, h4.const, h3.const, h2.const]
 rcases h2 with ⟨c2, n2, q2⟩ | ⟨s2, q2⟩
 · simp only [q1, q2, ez, ceF n2, adds_no, h4.const, h3.const]
 rcases h3 with ⟨c3, n3, q3⟩ | ⟨s3, q3⟩
 · simp only [q1, q2, q3, ez, ceF n3, adds_no, h4.const]
 rcases h4 with ⟨c4, n4, q4⟩ | ⟨s4, q4⟩
 · simp only [q1, q2, q3, q4, ez, beq_f n4, adds_no]
 · simp only [q1, q2, q3, q4, ez]
   exact adds_eq s1 s2 s3 s4 h K
end Go.Pf.Vc
namespace Go.Pf.Vc
open Go Go.Pf
section
variable {len : Int} {cuts dens : List Int}
def uC (cuts : List Int) (i : Nat) (x : Rat) : Rat := minR (maxR x (cuts.getD i 0 : Int)) (cuts.getD (i + 1) 0 : Int)
def vu (cuts dens : List Int) (x : Rat) : Nat → Nat → Rat
 | 0, _ => 0
 | r + 1, i => (dens.getD i 0 : Int) * uC cuts i x + vu cuts dens x r (i + 1)
theorem vu_low (h : VC len cuts dens) : ∀ (r i : Nat) {x y : Rat}, i + r = dens.length → x ≤ (cuts.getD i 0 : Int) → y ≤ (cuts.getD i 0 : Int) → vu cuts dens x r i = vu cuts dens y r i
 | 0, _, _, _, _, _, _ => rfl
 | r + 1, i, x, y, hi, hx, hy => by
   have l1 := h.l1
   have hst : ((cuts.getD i 0 : Int) : Rat) < ((cuts.getD (i + 1) 0 : Int) : Rat) := Rat.intCast_lt_intCast.2 (h.step (i := i) (by omega))
   have ih := vu_low h r (i + 1) (x := x) (y := y) (by omega) (by grind) (by grind)
   unfold vu
   rw [ih]
   have e : uC cuts i x = uC cuts i y := by
     unfold uC
     have a1 := maxR_is x (cuts.getD i 0 : Int)
     have a2 := maxR_is y (cuts.getD i 0 : Int)
     have e1 : maxR x (cuts.getD i 0 : Int) = (cuts.getD i 0 : Int) := by grind
     have e2 : maxR y (cuts.getD i 0 : Int) = (cuts.getD i 0 : Int) := by grind
     rw [e1, e2]
   rw [e]
theorem fit_inv {α : Type} {q : Rat} {k : Rat → Except Int α} {v : α} (h : fit q k = .ok v) : k q = .ok v := by
 unfold fit at h
 split at h
 · exact h
 · cases h
theorem valS_vu (h : VC len cuts dens) {b : Rat} : ∀ (r i : Nat) (p sum v : Rat), i + r = dens.length → p ≤ b → (p = b ∨ ((cuts.getD i 0 : Int) : Rat) ≤ p) → valS cuts dens b r i p sum = .ok v → v = sum + (vu cuts dens b r i - vu cuts dens p r i)
 | 0, i, p, sum, v, hi, hp, hc, hv => by
   unfold valS at hv
   cases hv
   unfold vu
   grind
 | r + 1, i, p, sum, v, hi, hp, hc, hv => by
   have l1 := h.l1
   have hst : ((cuts.getD i 0 : Int) : Rat) < ((cuts.getD (i + 1) 0 : Int) : Rat) := Rat.intCast_lt_intCast.2 (h.step (i := i) (by omega))
   unfold valS at hv
   dsimp only at hv
   have hen : ∃ en : Rat, (if b < ((cuts.getD (i + 1) 0 : Int) : Rat) then b else ((cuts.getD (i + 1) 0 : Int) : Rat)) = en ∧ en ≤ b ∧ en ≤ ((cuts.getD (i + 1) 0 : Int) : Rat) ∧ (en = b ∨ en = ((cuts.getD (i + 1) 0 : Int) : Rat)) := by
     refine ⟨_, rfl, ?_⟩
     split <;> grind
   obtain ⟨en, e0, he1, he2, he3⟩ := hen
   rw [e0] at hv
   have low := vu_low h r (i + 1) (x := en) (y := p) (by omega)
   have m1 := maxR_is b (cuts.getD i 0 : Int)
   have m2 := maxR_is p (cuts.getD i 0 : Int)
   have n1 := minR_is (maxR b (cuts.getD i 0 : Int)) (cuts.getD (i + 1) 0 : Int)
   have n2 := minR_is (maxR p (cuts.getD i 0 : Int)) (cuts.getD (i + 1) 0 : Int)
   unfold vu uC
   generalize ((cuts.getD i 0 : Int) : Rat) = c0 at *
   generalize hc1 : ((cuts.getD (i + 1) 0 : Int) : Rat) = c1 at *
   by_cases hlt : p < en
   · have hb : minR (maxR b c0) c1 = en := by grind
     have hq : minR (maxR p c0) c1 = p := by grind
     by_cases hd : dens.getD i 0 = 0
     · rw [if_pos (.inl hd), if_pos hlt] at hv
       have ih := valS_vu h r (i + 1) en sum v (by omega) he1 (by rw [hc1]; grind) hv
       rw [ih, hd, low (by grind) (by grind)]
       grind
     · rw [if_neg (by intro k; rcases k with k | k; exact hd k; exact k hlt)] at hv
       have hv := fit_inv (fit_inv (fit_inv hv))
       have ih := valS_vu h r (i + 1) en _ v (by omega) he1 (by rw [hc1]; grind) hv
       rw [ih, low (by grind) (by grind), hb, hq]
       grind
   · rw [if_pos (.inr hlt), if_neg hlt] at hv
     have ih := valS_vu h r (i + 1) p sum v (by omega) hp (by rw [hc1]; grind) hv
     have : minR (maxR b c0) c1 = minR (maxR p c0) c1 := by grind
     rw [ih, this]
     grind
end
end Go.Pf.Vc
namespace Go.Pf.Vc
open Go Go.Pf
section
variable {len : Int} {cuts dens : List Int}
def vX (cuts dens : List Int) (x : Rat) : Rat := vu cuts dens x dens.length 0
theorem valC_vX (h : VC len cuts dens) {a b v : Rat} (h0 : 0 ≤ a) (hab : a ≤ b) (hv : valC cuts dens a b = .ok v) : v = vX cuts dens b - vX cuts dens a := by
 have c0 : cuts.getD 0 0 = 0 := h.2.2.2.2.2.1
 have := valS_vu h dens.length 0 a 0 v (by omega) hab (.inr (by rw [c0]; exact h0)) hv
 unfold vX
 rw [this]; grind
def Wi (len : Int) (l : List RS) : Prop := ∀ s ∈ l, 0 ≤ s.1 ∧ s.2 ≤ (len : Rat)
theorem valS_small (cuts dens : List Int) (b : Rat) : ∀ (r i : Nat) (p sum v : Rat), small sum → valS cuts dens b r i p sum = .ok v → small v := by
 intro r
 induction r with
 | zero => intro i p sum v hs e; unfold valS at e; cases e; exact hs
 | succ r ih =>
   intro i p sum v hs e
   unfold valS fit at e
   repeat' (first | split at e | dsimp only at e)
   all_goals first | exact ih _ _ _ _ hs e | (rename_i h; exact ih _ _ _ _ h e) | cases e
theorem cValue_out2 (h : VC len cuts dens) {s : RS} (hs : smallS s) (hv : s.1 < s.2) (hw : 0 ≤ s.1 ∧ s.2 ≤ (len : Rat)) :
   outW (fun K => w_cake_Value len (ints cuts) (ints dens) s.1.num s.1.den s.2.num s.2.den K) (dV (vX cuts dens) s) := by
 have l1 := h.l1; have l2 := h.l2
 have e : ∀ K, w_cake_Value len (ints cuts) (ints dens) s.1.num s.1.den s.2.num s.2.den K = exK (valC cuts dens s.1 s.2) K := fun K => by
   rw [cValue_eq (by omega) (by omega) hs.1.i1 hs.1.i2 hs.2.i1 hs.2.i2]
   unfold valR
   rw [if_pos h.ck, if_pos ⟨PT_of hs.1 hw.1 (by grind), PT_of hs.2 (by grind) hw.2, by rw [rt_self, rt_self]; grind⟩, rt_self, rt_self]
 cases hc : valC cuts dens s.1 s.2 with
 | error c =>
   refine .inl ⟨c, fun e0 => valS_ne0 _ _ _ _ _ _ _ (by rw [← e0]; exact hc), fun K => ?_⟩
   show w_cake_Value _ _ _ _ _ _ _ K = _
   rw [e, hc]; rfl
 | ok v =>
   have hv2 := valC_vX h hw.1 (by grind) hc
   have hsm : small v := valS_small _ _ _ _ _ _ _ _ small_zero hc
   have ev : dV (vX cuts dens) s = v := hv2.symm
   rw [ev]
   refine .inr ⟨hsm, fun K => ?_⟩
   show w_cake_Value _ _ _ _ _ _ _ K = _
   rw [e, hc]; rfl
theorem worth_loop (h : VC len cuts dens) {l : List RS} (hs : ∀ s ∈ l, smallS s) (hv : ∀ s ∈ l, s.1 < s.2) (hw : Wi len l) (hl : l.length < 1000) (z z' : Int) :
   ∀ (r i n : Nat) (q : Rat), i + r = l.length → r < n → small q →
     outW (fun K => L_piece_Worth_0_0 w_cake_Check w_piece_Check w_piece_order w_cake_Value w_ratio_Add (fun _ _ _ _ _ a b _ _ _ _ => K a b 0) (fun _ _ _ a b e => K a b e) n len (ints cuts) (ints dens) z z' q.num q.den (rsp l) (l.length : Int) (i : Int)) (q + sumV (dV (vX cuts dens)) (l.drop i)) := by
 intro r
 induction r with
 | zero =>
   intro i n q hi hn hq
   obtain ⟨n, rfl⟩ : ∃ m, n = m + 1 := ⟨n - 1, by omega⟩
   obtain rfl : i = l.length := by omega
   rw [List.drop_length]
   have e : q + sumV (dV (vX cuts dens)) [] = q := Rat.add_zero q
   rw [e]
   refine .inr ⟨hq, fun K => ?_⟩
   dsimp only
   rw [L_piece_Worth_0_0, cbF (by omega)]
 | succ r ih =>
   intro i n q hi hn hq
   obtain ⟨n, rfl⟩ : ∃ m, n = m + 1 := ⟨n - 1, by omega⟩
   have hil : i < l.length := by omega
   have e1 := wib (n := (i : Int) + 1) (by omega) (by omega)
   have hd : l.drop i = l.getD i default :: l.drop (i + 1) := drop_cons default hil
   have hm : l.getD i default ∈ l := by
     rw [List.getD_eq_getElem?_getD, List.getElem?_eq_getElem hil]
     exact List.getElem_mem hil
   have hx := hs _ hm
   have hx2 := hv _ hm
   have hx3 := hw _ hm
   rw [hd]
   have step : ∀ K : Int → Int → Int → Prop, L_piece_Worth_0_0 w_cake_Check w_piece_Check w_piece_order w_cake_Value w_ratio_Add (fun _ _ _ _ _ a b _ _ _ _ => K a b 0) (fun _ _ _ a b e => K a b e) (n + 1) len (ints cuts) (ints dens) z z' q.num q.den (rsp l) (l.length : Int) (i : Int) =
       w_cake_Value len (ints cuts) (ints dens) (l.getD i default).1.num (l.getD i default).1.den (l.getD i default).2.num (l.getD i default).2.den (fun a b e => cbr (e != 0) (K 0 0 e) (w_ratio_Add q.num q.den a b (fun a b e => cbr (e != 0) (K 0 0 e) (L_piece_Worth_0_0 w_cake_Check w_piece_Check w_piece_order w_cake_Value w_ratio_Add (fun _ _ _ _ _ a b _ _ _ _ => K a b 0) (fun _ _ _ a b e => K a b e) n len (ints cuts) (ints dens) z z' a b (rsp l) (l.length : Int) ((i + 1 : Nat) : Int))))) := fun K => by
     rw [L_piece_Worth_0_0, cbT (by omega)]
     dsimp only [lt]
     rw [rsp_len, asT (by omega), asT (by omega), Int.toNat_natCast, rsp_at hil, asR, encR0, encR1, encR2, encR3, e1, cast1]
   generalize hq1 : l.getD i default = t at hx hx2 hx3 step
   have es : q + sumV (dV (vX cuts dens)) (t :: l.drop (i + 1)) = (q + dV (vX cuts dens) t) + sumV (dV (vX cuts dens)) (l.drop (i + 1)) := by
     show q + (dV (vX cuts dens) t + sumV (dV (vX cuts dens)) (l.drop (i + 1))) = _
     grind
   rw [es]
   rcases cValue_out2 h hx hx2 hx3 with ⟨c, hc, ec⟩ | ⟨sc, ec⟩
   · dsimp only at ec
     refine .inl ⟨c, hc, fun K => ?_⟩
     show L_piece_Worth_0_0 _ _ _ _ _ _ _ _ _ _ _ _ _ _ _ _ _ _ = _
     rw [step, ec, cnT hc]
   · dsimp only at ec
     by_cases hsm : small (q + dV (vX cuts dens) t)
     · rcases ih (i + 1) n _ (by omega) (by omega) hsm with ⟨c, hc, e2⟩ | ⟨s2, e2⟩
       · refine .inl ⟨c, hc, fun K => ?_⟩
         show L_piece_Worth_0_0 _ _ _ _ _ _ _ _ _ _ _ _ _ _ _ _ _ _ = _
         rw [step, ec, nz, rAdd_eq hq sc]
         unfold fitK
         rw [if_pos hsm]
         dsimp only
         rw [nz]
         exact e2 K
       · refine .inr ⟨s2, fun K => ?_⟩
         show L_piece_Worth_0_0 _ _ _ _ _ _ _ _ _ _ _ _ _ _ _ _ _ _ = _
         rw [step, ec, nz, rAdd_eq hq sc]
         unfold fitK
         rw [if_pos hsm]
         dsimp only
         rw [nz]
         exact e2 K
     · refine .inl ⟨16, by decide, fun K => ?_⟩
       show L_piece_Worth_0_0 _ _ _ _ _ _ _ _ _ _ _ _ _ _ _ _ _ _ = _
       rw [step, ec, nz, rAdd_eq hq sc]
       unfold fitK
       rw [if_neg hsm]
       rfl
theorem outW_of {w w' : (Int → Int → Int → Prop) → Prop} {t : Rat} (det : ∀ r0 r1 r2, (∀ K : Int → Int → Int → Prop, K r0 r1 r2 → w K) → ∀ K, w K = K r0 r1 r2) (key : ∀ K, w' K → w K) (h : outW w' t) : outW w t := by
 rcases h with ⟨c, hc, e⟩ | ⟨s, e⟩
 · exact .inl ⟨c, hc, det _ _ _ fun K k => key K (by rw [e]; exact k)⟩
 · exact .inr ⟨s, det _ _ _ fun K k => key K (by rw [e]; exact k)⟩
theorem cmpQ_gt (q r : Rat) : decide (cmpQ q r > 0) = decide (r < q) := by
 rw [← Bool.not_eq_not, ← cmpQ_le, Bool.eq_iff_iff]
 simp only [decide_eq_true_eq]
 omega
theorem Pc.outWorth {l : List RS} (p : Pc l) (h : VC len cuts dens) (hw : Wi len l) : outW (fun K => w_piece_Worth len (ints cuts) (ints dens) (rsp l) K) (sumV (dV (vX cuts dens)) l) := by
 have l1 := h.l1; have l2 := h.l2; have l0 := h.len0; have hn := p.n
 have hl := worth_loop h p.s (canon_lt p.c) hw (by omega) 0 0 l.length 0 (l.length + 1) 0 (by omega) (by omega) small_zero
 rw [List.drop_zero, Rat.zero_add] at hl
 refine outW_of (fun r0 r1 r2 h K => det_piece_Worth _ _ _ _ _ _ _ h K) (fun K k => ?_) hl
 unfold w_piece_Worth wv_piece_Worth
 rw [cCheck_eq (by omega) (by omega), h.ck, nz, p.check, nz]
 dsimp only [Go.Pf.jn, lt]
 rw [rsp_len]
 have fin : ∃ n, L_piece_Worth_0_0 w_cake_Check w_piece_Check w_piece_order w_cake_Value w_ratio_Add (fun _ _ _ _ _ a b _ _ _ _ => K a b 0) (fun _ _ _ a b e => K a b e) n len (ints cuts) (ints dens) 0 0 0 1 (rsp l) (l.length : Int) 0 := ⟨l.length + 1, k⟩
 by_cases hl0 : l.length = 0
 · rw [cbF (by omega), cbr_false]
   exact fin
 · have h0 : 0 < l.length := by omega
   have m0 : l.getD 0 default ∈ l := by
     rw [List.getD_eq_getElem?_getD, List.getElem?_eq_getElem h0]
     exact List.getElem_mem h0
   have m1 : l.getD (l.length - 1) default ∈ l := by
     rw [List.getD_eq_getElem?_getD, List.getElem?_eq_getElem (by omega)]
     exact List.getElem_mem (by omega)
   have w0 := hw _ m0
   have w1 := hw _ m1
   have s1 := p.s _ m1
   have n0 : 0 ≤ (l.getD 0 default).1.num := Rat.num_nonneg.2 w0.1
   have e1 := wib (n := (l.length : Int) - 1) (by omega) (by omega)
   have et : ((l.length : Int) - 1).toNat = l.length - 1 := by omega
   rw [cbT (by omega), asT (by omega), rsp_at h0, asR, encR0, cbF (by omega), e1, asT (by omega), asT (by omega), et, rsp_at (by omega), asR, encR2, encR3]
   have sl : small (len : Rat) := small_int (by omega)
   show w_piece_order (l.getD (l.length - 1) default).2.num (l.getD (l.length - 1) default).2.den (len : Rat).num ((len : Rat).den : Int) _
   rw [order_eq s1.2 sl, cmpQ_gt, cbF (by grind)]
   exact fin
theorem Wi_sub {A B X : List RS} (px : canon X) (ha : Wi len A) (hb : Wi len B) (h : ∀ p, memP X p → memP A p ∨ memP B p) : Wi len X := fun s hs => by
 have hv := canon_lt px s hs
 have hAB : ∀ p, memP X p → 0 ≤ p ∧ p < (len : Rat) := fun p hp => by
   rcases h p hp with ⟨t, ht, h1, h2⟩ | ⟨t, ht, h1, h2⟩
   · have := ha t ht; exact ⟨by grind, by grind⟩
   · have := hb t ht; exact ⟨by grind, by grind⟩
 refine ⟨(hAB s.1 ⟨s, hs, Rat.le_refl, hv⟩).1, ?_⟩
 refine Rat.not_lt.1 fun hlt => ?_
 by_cases hc : s.1 < (len : Rat)
 · have := (hAB (len : Rat) ⟨s, hs, by grind, hlt⟩).2
   exact absurd this (by grind)
 · have := (hAB s.1 ⟨s, hs, Rat.le_refl, hv⟩).2
   exact hc this
end
end Go.Pf.Vc
namespace Go.Pf.Vc
open Go Go.Pf
theorem A_sums {as : List PV} (h : HasAs [.s dsS, .s dsS, dsC] as) : ∃ (a b : List Sp) (c : Ck), as = [.data (spans a), .data (spans b), .agg [.int .i64 c.len, .data (ints c.cuts), .data (ints c.dens)]] ∧ (∀ s ∈ a, s.i64) ∧ (∀ s ∈ b, s.i64) ∧ c.i64 := by
 simp only [HasAs] at h
 obtain ⟨x, _, rfl, x1, x2, y, _, rfl, y1, y2, z, _, rfl, z1, z2, rfl⟩ := h
 obtain ⟨a, rfl, ha⟩ := A_sRead x1 x2
 obtain ⟨b, rfl, hb⟩ := A_sRead y1 y2
 obtain ⟨c, e, hc, _, _⟩ := F_c z2
 exact ⟨a, b, c, by rw [agg_of (l := [.i .i64, .s (.i .i64), .s (.i .i64)]) z1, e], ha, hb, hc⟩
def withB (len : Int) (l : List RS) : Bool := l.all fun s => decide (PT len s.1.num s.1.den) && decide (PT len s.2.num s.2.den)
theorem withB_wi {len : Int} {l : List RS} (h : withB len l = true) : Wi len l := fun s hs => by
 have := List.all_eq_true.1 h s hs
 simp only [Bool.and_eq_true, decide_eq_true_eq] at this
 obtain ⟨h1, h2⟩ := this
 have p1 := h1.pt
 have p2 := h2.pt
 rw [rt_self] at p1 p2
 exact ⟨p1.2.2.2.1, p2.2.2.2.2⟩
theorem within_loop {len : Int} (h0 : -1000000000000000000 ≤ len ∧ len ≤ 1000000000000000000) {l : List RS} (hs : ∀ s ∈ l, smallS s) (hl : l.length < 1000) {K : Bool → Prop} :
   ∀ (r i n : Nat), i + r = l.length → r < n → L_r03_Within_0_0 w_r02_Point (fun _ _ _ _ => K true) (fun b => K b) n len (rsp l) (i : Int) = K (withB len (l.drop i)) := by
 intro r
 induction r with
 | zero =>
   intro i n hi hn
   obtain ⟨n, rfl⟩ : ∃ m, n = m + 1 := ⟨n - 1, by omega⟩
   obtain rfl : i = l.length := by omega
   rw [L_r03_Within_0_0, rsp_len, cbF (by omega), List.drop_length]
   rfl
 | succ r ih =>
   intro i n hi hn
   obtain ⟨n, rfl⟩ : ∃ m, n = m + 1 := ⟨n - 1, by omega⟩
   have hil : i < l.length := by omega
   have e1 := wib (n := (i : Int) + 1) (by omega) (by omega)
   have hd : l.drop i = l.getD i default :: l.drop (i + 1) := drop_cons default hil
   have hx := smallS_mem hs hil
   have IH := ih (i + 1) n (by omega) (by omega)
   generalize hq : l.getD i default = t at hx hd
   have e : withB len (t :: l.drop (i + 1)) = ((decide (PT len t.1.num t.1.den) && decide (PT len t.2.num t.2.den)) && withB len (l.drop (i + 1))) := rfl
   rw [L_r03_Within_0_0, hd, e]
   dsimp only [lt, Go.Pf.jn]
   simp (discharger := omega) only [rsp_len, cbT, asT, Int.toNat_natCast, rsp_at, hq, asR, encR0, encR1, encR2, encR3, e1, dPoint_eq h0 hx.1.i1 hx.1.i2, dPoint_eq h0 hx.2.i1 hx.2.i2]
   cases decide (PT len t.1.num t.1.den) with
   | false => rfl
   | true =>
     rw [Bool.not_true, cbr_false, Bool.true_and]
     cases decide (PT len t.2.num t.2.den) with
     | false => rfl
     | true =>
       rw [Bool.not_true, cbr_false, Bool.true_and, cast1]
       exact IH
theorem Pc.within {len : Int} (h0 : -1000000000000000000 ≤ len ∧ len ≤ 1000000000000000000) {l : List RS} (h : Pc l) (K : Bool → Prop) : w_r03_Within len (rsp l) K = K (withB len l) := by
 refine det_r03_Within _ _ _ (fun K k => ?_) K
 unfold w_r03_Within wv_r03_Within
 refine ⟨l.length + 1, ?_⟩
 have := within_loop h0 h.s (by have := h.n; omega) (K := K) l.length 0 (l.length + 1) (by omega) (by omega)
 rw [List.drop_zero] at this
 exact this.mpr k
theorem lengths_adds {A B U M : List RS} (pa : Pc A) (pb : Pc B) (pu : Pc U) (pm : Pc M) (h : sumV (dV id) A + sumV (dV id) B = sumV (dV id) U + sumV (dV id) M) (K : Bool → Prop) :
   w_l03_lengths (rsp A) (rsp B) (rsp U) (rsp M) (fun x1 y1 x2 y2 x3 y3 x4 y4 b => w_l03_adds x1 y1 x2 y2 x3 y3 x4 y4 b K) = K true := by
 unfold w_l03_lengths wv_l03_lengths
 dsimp only [Go.Pf.jn]
 exact four pa.outLen pb.outLen pu.outLen pm.outLen h K
theorem worths_adds {len : Int} {cuts dens : List Int} (hv : VC len cuts dens) {A B U M : List RS} (pa : Pc A) (pb : Pc B) (pu : Pc U) (pm : Pc M) (wa : Wi len A) (wb : Wi len B) (wu : Wi len U) (wm : Wi len M) (h : sumV (dV (vX cuts dens)) A + sumV (dV (vX cuts dens)) B = sumV (dV (vX cuts dens)) U + sumV (dV (vX cuts dens)) M) (K : Bool → Prop) :
   w_l03_worths len (ints cuts) (ints dens) (rsp A) (rsp B) (rsp U) (rsp M) (fun x1 y1 x2 y2 x3 y3 x4 y4 b => w_l03_adds x1 y1 x2 y2 x3 y3 x4 y4 b K) = K true := by
 unfold w_l03_worths wv_l03_worths
 dsimp only [Go.Pf.jn]
 exact four (pa.outWorth hv wa) (pb.outWorth hv wb) (pu.outWorth hv wu) (pm.outWorth hv wm) h K
theorem PieceSums_ok {a b : List Sp} {c : Ck} (ha : ∀ s ∈ a, s.i64) (hb : ∀ s ∈ b, s.i64) (_hc : c.i64) : w_l03_PieceSums (spans a) (spans b) c.len (ints c.cuts) (ints c.dens) (fun b => b = true) := by
 unfold w_l03_PieceSums wv_l03_PieceSums
 dsimp only [Go.Pf.jn]
 rw [lawValid_eq ha]
 cases h1 : okS a with
 | false =>
   show w_l03_alive _
   rw [alive_eq]
 | true =>
   show cbr false _ _
   rw [cbr_false, lawValid_eq hb]
   cases h2 : okS b with
   | false =>
     show w_l03_alive _
     rw [alive_eq]
   | true =>
     show cbr false _ _
     rw [cbr_false, dGreat_eq]
     cases hg : (decide (c.cuts.length > 60) || decide (c.dens.length > 60)) with
     | true =>
       show w_l03_alive _
       rw [alive_eq]
     | false =>
       rw [cbr_false]
       simp only [Bool.or_eq_false_iff, decide_eq_false_iff_not] at hg
       obtain ⟨pa, ea, la⟩ := okS_pc h1
       obtain ⟨pb, eb, lb⟩ := okS_pc h2
       rw [ea, eb]
       generalize rsL a = A at pa la
       generalize rsL b = B at pb lb
       have pu := setR_pc pa pb (.inl rfl) (by omega)
       have pm := setR_pc pa pb (.inr (.inl rfl)) (by omega)
       rw [pa.union pb (by omega), pa.meet pb (by omega), nz, nz, lengths_adds pa pb pu pm (sum_sets id pa.c pb.c), dCheck_eq (by omega) (by omega)]
       show cbr false _ _
       rw [cbr_false]
       by_cases hk : ckC c.len c.cuts c.dens = 0
       case neg =>
         rw [cnT hk, cbr_true, alive_eq]
       rw [cnF hk]
       have hv := ckC_zero hk
       have l0 := hv.len0
       rw [pa.within (by omega)]
       cases w1 : withB c.len A with
       | false =>
         show w_l03_alive _
         rw [alive_eq]
       | true =>
         show cbr false _ _
         rw [cbr_false, pb.within (by omega)]
         cases w2 : withB c.len B with
         | false =>
           show w_l03_alive _
           rw [alive_eq]
         | true =>
           show cbr false _ _
           have wa := withB_wi w1
           have wb := withB_wi w2
           rw [cbr_false, worths_adds hv pa pb pu pm wa wb (Wi_sub pu.c wa wb fun p hp => mem_union.1 hp) (Wi_sub pm.c wa wb fun p hp => .inl (mem_meet.1 hp).1) (sum_sets _ pa.c pb.c), cbr_true, alive_eq]
end Go.Pf.Vc
