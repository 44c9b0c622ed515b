/- Part 4 of what the statement rests on: a verified evaluator over pure values, the conditions of the program's functions, and their plain laws. -/
import Derived.Test.YtnbebjhmfpchcaaPcW3
namespace Go.Pf.Vc
open Go Go.Pf
section
variable {a b : List RS}
theorem meet0_loop (ha : ∀ s ∈ a, smallS s) (hb : ∀ s ∈ b, smallS s) (hla : a.length < 10000) (hlb : b.length < 10000)
   {x0 : List PV → List PV → Int → Int → Bool → Prop} {x1 : List PV → List PV → List PV → Int → Int → Bool → Prop} {K : List PV → Prop} (hx0 : ∀ i k q, x0 (rsp a) (rsp b) i k q = K []) (hx : ∀ L i k q, x1 L (rsp a) (rsp b) i k q = K L) :
   ∀ (m i k n : Nat), i ≤ a.length → k ≤ b.length → (a.length - i) + (b.length - k) = m → m < n →
     L_piece_Meet_0_0 w_piece_both w_piece_later w_piece_sooner w_piece_valid w_piece_order w_piece_few x0 x1 n (rsp a) (rsp b) (i : Int) (k : Int) = K (rsp (meetS (a.drop i) (b.drop k))) := by
 intro m
 induction m with
 | zero =>
   intro i k n hi hk hm hn
   obtain ⟨n, rfl⟩ : ∃ m, n = m + 1 := ⟨n - 1, by omega⟩
   rw [L_piece_Meet_0_0]
   dsimp only [Go.Pf.jn]
   rw [rsp_len, cbF (by omega), cbr_false, hx0, List.drop_eq_nil_of_le (by omega), meetS_nil]
   rfl
 | succ m ih =>
   intro i k n hi hk hm hn
   obtain ⟨n, rfl⟩ : ∃ m, n = m + 1 := ⟨n - 1, by omega⟩
   by_cases h1 : i < a.length
   case neg =>
     rw [L_piece_Meet_0_0]
     dsimp only [Go.Pf.jn]
     rw [rsp_len, cbF (by omega), cbr_false, hx0, List.drop_eq_nil_of_le (by omega), meetS_nil]
     rfl
   by_cases h2 : k < b.length
   case neg =>
     rw [L_piece_Meet_0_0]
     dsimp only [Go.Pf.jn]
     rw [rsp_len, rsp_len, cbT (by omega), decide_eq_false (by omega), cbr_false, hx0, List.drop_eq_nil_of_le (as := b) (by omega), meetS_nil2]
     rfl
   have e1 := wib (n := (i : Int) + 1) (by omega) (by omega)
   have e2 := wib (n := (k : Int) + 1) (by omega) (by omega)
   have hd1 : a.drop i = a.getD i default :: a.drop (i + 1) := drop_cons default h1
   have hd2 : b.drop k = b.getD k default :: b.drop (k + 1) := drop_cons default h2
   have hx1 := smallS_mem ha h1
   have hx2 := smallS_mem hb h2
   have IH1 := ih (i + 1) k n (by omega) hk (by omega) (by omega)
   have IH2 := ih i (k + 1) n hi (by omega) (by omega) (by omega)
   have JH1 := fun acc' h => meet1_loop ha hb hla hlb (x0 := x0) hx m (i + 1) k n acc' (by omega) hk (by omega) (by omega) h
   have JH2 := fun acc' h => meet1_loop ha hb hla hlb (x0 := x0) hx m i (k + 1) n acc' hi (by omega) (by omega) (by omega) h
   rw [hd2] at IH1 JH1
   rw [hd1] at IH2 JH2
   rw [hd1, hd2]
   generalize hq1 : a.getD i default = s at hx1 IH2 JH2
   generalize hq2 : b.getD k default = t at hx2 IH1 JH1
   have em : meetS (s :: a.drop (i + 1)) (t :: b.drop (k + 1)) = (if maxR s.1 t.1 < minR s.2 t.2 then [(maxR s.1 t.1, minR s.2 t.2)] else []) ++ (if s.2 ≤ t.2 then meetS (a.drop (i + 1)) (t :: b.drop (k + 1)) else meetS (s :: a.drop (i + 1)) (b.drop (k + 1))) := by rw [meetS]
   have hmx := small_max hx1.1 hx2.1
   have hmn := small_min hx1.2 hx2.2
   rw [L_piece_Meet_0_0, em]
   dsimp only [lt, Go.Pf.jn]
   simp (discharger := omega) only [e1, e2, rsp_len, cbT, asT, Int.toNat_natCast, rsp_at, hq1, hq2, asR, encR0, encR1, encR2, encR3, later_eq hx1.1 hx2.1, sooner_eq hx1.2 hx2.2, validQ hmx hmn, order_eq hx1.2 hx2.2, cmpQ_le, notLt]
   by_cases hv : maxR s.1 t.1 < minR s.2 t.2
   · rw [cbT hv, if_pos hv, rsp_one (maxR s.1 t.1, minR s.2 t.2), show (rsp [(maxR s.1 t.1, minR s.2 t.2)]).length = 1 from rfl]
     simp only [decide_true, Bool.true_and, asr_true]
     by_cases hle : s.2 ≤ t.2
     · rw [cbT hle, if_pos hle, cast1, JH1 _ (by simp only [List.length_cons, List.length_nil]; omega)]
     · rw [cbF hle, if_neg hle, cast1, JH2 _ (by simp only [List.length_cons, List.length_nil]; omega)]
   · rw [cbF hv, if_neg hv, List.nil_append]
     by_cases hle : s.2 ≤ t.2
     · rw [cbT hle, if_pos hle, cast1, IH1]
     · rw [cbF hle, if_neg hle, cast1, IH2]
end
theorem rsp_few (l : List RS) (K : List PV → Int → Prop) : w_piece_few (rsp l) K = if l.length > 60 then K [] 4 else K (rsp l) 0 := by
 have := few_eq (l := l.map spOf) K
 rw [List.length_map] at this
 exact this
def fewR (e : Int) (l : List RS) (K : List PV → Int → Prop) : Prop := if e = 0 then (if l.length > 60 then K [] 4 else K (rsp l) 0) else K [] e
theorem Meet_eq {a b : List Sp} (ha : ∀ s ∈ a, s.i64) (hb : ∀ s ∈ b, s.i64) (hla : a.length < 4611686018427387904) (hlb : b.length < 4611686018427387904) (K : List PV → Int → Prop) :
   w_piece_Meet (spans a) (spans b) K = fewR (bothE a b) (meetS (rsL a) (rsL b)) K := by
 have key : ∀ K : List PV → Int → Prop, fewR (bothE a b) (meetS (rsL a) (rsL b)) K → w_piece_Meet (spans a) (spans b) K := by
   intro K k
   unfold w_piece_Meet wv_piece_Meet
   rw [both_eq ha hb hla hlb]
   unfold fewR at k
   by_cases h : bothE a b = 0
   · rw [cnF h]
     rw [if_pos h] at k
     have h2 := h
     unfold bothE at h2
     split at h2
     · rename_i h3
       obtain ⟨l1, o1, _⟩ := pieceE_zero h3
       obtain ⟨l2, o2, _⟩ := pieceE_zero h2
       rw [spans_rsL o1, spans_rsL o2]
       have s1 : ∀ s ∈ rsL a, smallS s := fun s hs => by obtain ⟨t, ht, rfl⟩ := List.mem_map.1 hs; exact rs_small (o1 t ht)
       have s2 : ∀ s ∈ rsL b, smallS s := fun s hs => by obtain ⟨t, ht, rfl⟩ := List.mem_map.1 hs; exact rs_small (o2 t ht)
       have n1 : (rsL a).length = a.length := List.length_map ..
       have n2 : (rsL b).length = b.length := List.length_map ..
       refine ⟨(rsL a).length + (rsL b).length + 1, ?_⟩
       refine (meet0_loop s1 s2 (by omega) (by omega) (K := fun L => w_piece_few L fun L' e => K L' e) (fun _ _ _ => rfl) (fun L i k q => ?_) ((rsL a).length + (rsL b).length) 0 0 _ (by omega) (by omega) (by omega) (by omega)).mpr ?_
       · rw [asE, asT (by omega), List.take_length]
       · rw [List.drop_zero, List.drop_zero]
         rw [rsp_few]
         exact k
     · rename_i h3; exact absurd h2 h3
   · rw [cnT h]
     rw [if_neg h] at k
     exact k
 unfold fewR at key ⊢
 split
 · rename_i h
   simp only [if_pos h] at key
   split
   · rename_i h2; simp only [if_pos h2] at key; exact det_piece_Meet _ _ _ _ key K
   · rename_i h2; simp only [if_neg h2] at key; exact det_piece_Meet _ _ _ _ key K
 · rename_i h
   simp only [if_neg h] at key
   exact det_piece_Meet _ _ _ _ key K
end Go.Pf.Vc
namespace Go.Pf.Vc
open Go Go.Pf
theorem cmpQ_geB (q r : Rat) : decide (cmpQ q r ≥ 0) = decide (r ≤ q) := by
 have := cmpQ_ge q r
 rw [this, notLt]
theorem leB (q r : Rat) : decide (cmpQ q r ≤ 0) = decide (q ≤ r) := by rw [cmpQ_le, notLt]
theorem min1_cons (hi x : Rat) (t : RS) (b : List RS) : min1 hi x (t :: b) = if t.2 ≤ x ∨ hi ≤ t.1 then min1 hi x b else (if x < t.1 then [(x, t.1)] else []) ++ min1 hi t.2 b := rfl
def at1 (hi : Rat) : Rat → List RS → Rat
 | x, [] => x
 | x, t :: b => if t.2 ≤ x ∨ hi ≤ t.1 then at1 hi x b else at1 hi t.2 b
def left1 (hi : Rat) : Rat → List RS → List RS
 | _, [] => []
 | x, t :: b => if t.2 ≤ x ∨ hi ≤ t.1 then left1 hi x b else (if x < t.1 then [(x, t.1)] else []) ++ left1 hi t.2 b
theorem min1_split (hi : Rat) : ∀ (b : List RS) (x : Rat), min1 hi x b = left1 hi x b ++ (if at1 hi x b < hi then [(at1 hi x b, hi)] else [])
 | [], x => rfl
 | t :: b, x => by
   rw [min1_cons]
   unfold left1 at1
   split
   · exact min1_split hi b x
   · rw [min1_split hi b t.2, List.append_assoc]
theorem jn_le {d : Bool} {c : Bool} {k : Bool → Prop} : Go.Pf.jn (fun j => cbr d (j true) (j c)) k = k (d || c) := by cases d <;> rfl
theorem at1_small {hi x : Rat} {b : List RS} (hb : ∀ s ∈ b, smallS s) (hx : small x) : small (at1 hi x b) := by
 induction b generalizing x with
 | nil => exact hx
 | cons t b ih =>
   unfold at1
   split
   · exact ih (fun s hs => hb s (List.mem_cons_of_mem _ hs)) hx
   · exact ih (fun s hs => hb s (List.mem_cons_of_mem _ hs)) (hb t List.mem_cons_self).2
theorem left1_len (hi : Rat) : ∀ (b : List RS) (x : Rat), (left1 hi x b).length ≤ b.length
 | [], _ => Nat.le_refl _
 | t :: b, x => by
   unfold left1
   split
   · have := left1_len hi b x; simp only [List.length_cons]; omega
   · have := left1_len hi b t.2
     rw [List.length_append]
     split
     · simp only [List.length_cons, List.length_nil]; omega
     · simp only [List.length_cons, List.length_nil]; omega
section
variable {b : List RS}
theorem min1_loop (hb : ∀ s ∈ b, smallS s) (hlb : b.length < 10000) {hi : Rat} (hh : small hi) (_ l1 l7 : List PV) (i1 i2 i8 i9 : Int)
   {x0 : List PV → Int → Int → Int → Int → Int → Int → List PV → Int → Int → List PV → Int → Int → Bool → Prop} {x1 : List PV → List PV → Int → Int → Int → Int → Int → Int → List PV → Int → Int → List PV → Int → Int → Bool → Prop} :
   ∀ (r i n : Nat) (acc : List RS) (x : Rat), i + r = b.length → r < n → acc.length ≤ 100000000 + i → small x →
     L_piece_Minus_1_1 w_piece_both w_piece_order w_piece_few x0 x1 n (rsp acc) l1 i1 i2 hi.num hi.den x.num x.den l7 i8 i9 (rsp b) (b.length : Int) (i : Int) =
       x1 (rsp (acc ++ left1 hi x (b.drop i))) l1 i1 i2 hi.num hi.den (at1 hi x (b.drop i)).num (at1 hi x (b.drop i)).den l7 i8 i9 (rsp b) (b.length : Int) (b.length : Int) false := by
 intro r
 induction r with
 | zero =>
   intro i n acc x hi' hn hac hx
   obtain ⟨n, rfl⟩ : ∃ m, n = m + 1 := ⟨n - 1, by omega⟩
   obtain rfl : i = b.length := by omega
   rw [L_piece_Minus_1_1, cbF (by omega), List.drop_length]
   unfold left1 at1
   rw [List.append_nil]
 | succ r ih =>
   intro i n acc x hi' hn hac hx
   obtain ⟨n, rfl⟩ : ∃ m, n = m + 1 := ⟨n - 1, by omega⟩
   have h1 : i < b.length := by omega
   have e1 := wib (n := (i : Int) + 1) (by omega) (by omega)
   have hd1 : b.drop i = b.getD i default :: b.drop (i + 1) := drop_cons default h1
   have hx1 := smallS_mem hb h1
   have IH := fun acc' x' h => ih (i + 1) n acc' x' (by omega) (by omega) h
   rw [hd1]
   generalize hq1 : b.getD i default = t at hx1
   rw [L_piece_Minus_1_1]
   dsimp only [lt]
   simp (discharger := omega) only [rsp_len, cbT, asT, Int.toNat_natCast, rsp_at, hq1, asR, encR0, encR1, encR2, encR3, order_eq hx1.2 hx, order_eq hx1.1 hh, order_eq hx hx1.1, leB, cmpQ_geB, cmpQ_neg, jn_le, e1, decide_true, asr_true, Nat.zero_add, asNo, Bool.true_and]
   dsimp only [Go.Pf.jn]
   unfold left1 at1
   by_cases hc : t.2 ≤ x ∨ hi ≤ t.1
   · have e : (decide (t.2 ≤ x) || decide (hi ≤ t.1)) = true := by rw [Bool.or_eq_true, decide_eq_true_eq, decide_eq_true_eq]; exact hc
     rw [e, cbr_true, if_pos hc, if_pos hc, cast1]
     exact IH acc x (by omega) hx
   · have e : (decide (t.2 ≤ x) || decide (hi ≤ t.1)) = false := by
       rw [Bool.or_eq_false_iff, decide_eq_false_iff_not, decide_eq_false_iff_not]; exact ⟨fun h => hc (.inl h), fun h => hc (.inr h)⟩
     rw [e, cbr_false, if_neg hc, if_neg hc]
     by_cases h2 : x < t.1
     · rw [cbT h2, if_pos h2, asT (by show _ ≤ 35184372088832; omega), rsp_one (x, t.1), rsp_app, cast1, IH _ _ (by simp only [List.length_append, List.length_cons, List.length_nil]; omega) hx1.2, List.append_assoc]
     · rw [cbF h2, if_neg h2, cast1, List.nil_append]
       exact IH acc t.2 (by omega) hx1.2
theorem min0_loop (hb : ∀ s ∈ b, smallS s) (hlb : b.length < 10000) {hi : Rat} (hh : small hi) (l1 l7 : List PV) (i1 i2 i8 i9 : Int)
   {x0 : List PV → Int → Int → Int → Int → Int → Int → List PV → Int → Int → List PV → Int → Int → Bool → Prop} {x1 : List PV → List PV → Int → Int → Int → Int → Int → Int → List PV → Int → Int → List PV → Int → Int → Bool → Prop} :
   ∀ (r i n : Nat) (x : Rat), i + r = b.length → r < n → small x →
     L_piece_Minus_1_0 w_piece_both w_piece_order w_piece_few x0 x1 n l1 i1 i2 hi.num hi.den x.num x.den l7 i8 i9 (rsp b) (b.length : Int) (i : Int) =
       if left1 hi x (b.drop i) = [] then x0 l1 i1 i2 hi.num hi.den (at1 hi x (b.drop i)).num (at1 hi x (b.drop i)).den l7 i8 i9 (rsp b) (b.length : Int) (b.length : Int) false
       else x1 (rsp (left1 hi x (b.drop i))) l1 i1 i2 hi.num hi.den (at1 hi x (b.drop i)).num (at1 hi x (b.drop i)).den l7 i8 i9 (rsp b) (b.length : Int) (b.length : Int) false := by
 intro r
 induction r with
 | zero =>
   intro i n x hi' hn hx
   obtain ⟨n, rfl⟩ : ∃ m, n = m + 1 := ⟨n - 1, by omega⟩
   obtain rfl : i = b.length := by omega
   rw [L_piece_Minus_1_0, cbF (by omega), List.drop_length]
   unfold left1 at1
   rw [if_pos rfl]
 | succ r ih =>
   intro i n x hi' hn hx
   obtain ⟨n, rfl⟩ : ∃ m, n = m + 1 := ⟨n - 1, by omega⟩
   have h1 : i < b.length := by omega
   have e1 := wib (n := (i : Int) + 1) (by omega) (by omega)
   have hd1 : b.drop i = b.getD i default :: b.drop (i + 1) := drop_cons default h1
   have hx1 := smallS_mem hb h1
   have IH := fun x' => ih (i + 1) n x' (by omega) (by omega)
   have JH := fun acc' x' h => min1_loop hb hlb hh [] l1 l7 i1 i2 i8 i9 (x0 := x0) (x1 := x1) r (i + 1) n acc' x' (by omega) (by omega) h
   rw [hd1]
   generalize hq1 : b.getD i default = t at hx1
   rw [L_piece_Minus_1_0]
   dsimp only [lt]
   simp (discharger := omega) only [rsp_len, cbT, asT, Int.toNat_natCast, rsp_at, hq1, asR, encR0, encR1, encR2, encR3, order_eq hx1.2 hx, order_eq hx1.1 hh, order_eq hx hx1.1, leB, cmpQ_geB, cmpQ_neg, jn_le, e1]
   dsimp only [Go.Pf.jn]
   have el : left1 hi x (t :: b.drop (i + 1)) = if t.2 ≤ x ∨ hi ≤ t.1 then left1 hi x (b.drop (i + 1)) else (if x < t.1 then [(x, t.1)] else []) ++ left1 hi t.2 (b.drop (i + 1)) := rfl
   have ea : at1 hi x (t :: b.drop (i + 1)) = if t.2 ≤ x ∨ hi ≤ t.1 then at1 hi x (b.drop (i + 1)) else at1 hi t.2 (b.drop (i + 1)) := rfl
   rw [el, ea]
   by_cases hc : t.2 ≤ x ∨ hi ≤ t.1
   · have e : (decide (t.2 ≤ x) || decide (hi ≤ t.1)) = true := by rw [Bool.or_eq_true, decide_eq_true_eq, decide_eq_true_eq]; exact hc
     rw [e, cbr_true, if_pos hc, if_pos hc, cast1]
     exact IH x hx
   · have e : (decide (t.2 ≤ x) || decide (hi ≤ t.1)) = false := by
       rw [Bool.or_eq_false_iff, decide_eq_false_iff_not, decide_eq_false_iff_not]; exact ⟨fun h => hc (.inl h), fun h => hc (.inr h)⟩
     rw [e, cbr_false, if_neg hc, if_neg hc]
     by_cases h2 : x < t.1
     · rw [cbT h2, if_pos h2, rsp_one (x, t.1), show (rsp [(x, t.1)]).length = 1 from rfl, if_neg (by simp)]
       simp only [decide_true, Bool.true_and, asr_true]
       rw [cast1, JH _ _ (by simp only [List.length_cons, List.length_nil]; omega) hx1.2]
     · rw [cbF h2, if_neg h2, cast1, List.nil_append]
       exact IH t.2 hx1.2
end
end Go.Pf.Vc
namespace Go.Pf.Vc
open Go Go.Pf
section
variable {a b : List RS}
theorem min1_len (hi : Rat) (b : List RS) (x : Rat) : (min1 hi x b).length ≤ b.length + 1 := by
 rw [min1_split, List.length_append]
 have := left1_len hi b x
 split <;> simp only [List.length_cons, List.length_nil] <;> omega
theorem minus_own (ha : ∀ s ∈ a, smallS s) (hb : ∀ s ∈ b, smallS s) (hla : a.length < 1000) (hlb : b.length < 1000)
   {x0 : List PV → List PV → Int → Int → Bool → Prop} {x1 : List PV → List PV → List PV → Int → Int → Bool → Prop} {K : List PV → Prop} (hx : ∀ L i k q, x1 L (rsp b) (rsp a) i k q = K L) :
   ∀ (r i n : Nat) (acc : List RS), i + r = a.length → r < n → acc.length ≤ (b.length + 1) * i → K (rsp (acc ++ minusS (a.drop i) b)) →
     L_piece_Minus_0_1 w_piece_both w_piece_order w_piece_few x0 x1 n (rsp acc) (rsp b) (rsp a) (a.length : Int) (i : Int) := by
 intro r
 induction r with
 | zero =>
   intro i n acc hi hn hac k
   obtain ⟨n, rfl⟩ : ∃ m, n = m + 1 := ⟨n - 1, by omega⟩
   obtain rfl : i = a.length := by omega
   rw [L_piece_Minus_0_1, cbF (by omega), hx]
   rw [List.drop_length] at k
   unfold minusS at k
   rw [List.flatMap_nil, List.append_nil] at k
   exact k
 | succ r ih =>
   intro i n acc hi hn hac k
   obtain ⟨n, rfl⟩ : ∃ m, n = m + 1 := ⟨n - 1, by omega⟩
   have h1 : i < a.length := by omega
   have e1 := wib (n := (i : Int) + 1) (by omega) (by omega)
   have hd1 : a.drop i = a.getD i default :: a.drop (i + 1) := drop_cons default h1
   have hx1 := smallS_mem ha h1
   have hml := min1_len (a.getD i default).2 b (a.getD i default).1
   have hll := left1_len (a.getD i default).2 b (a.getD i default).1
   have hmul : (b.length + 1) * (i + 1) = (b.length + 1) * i + (b.length + 1) := Nat.mul_succ _ _
   have hbig : (b.length + 1) * i ≤ 1000 * 1000 := Nat.mul_le_mul (by omega) (by omega)
   have IH := fun acc' h => ih (i + 1) n acc' (by omega) (by omega) h
   rw [hd1] at k
   unfold minusS at k
   rw [List.flatMap_cons, min1_split, List.append_assoc, ← List.append_assoc] at k
   generalize hq1 : a.getD i default = t at hx1 k hml hll
   have hat := at1_small (hi := t.2) hb hx1.1
   rw [L_piece_Minus_0_1, cbT (by omega)]
   dsimp only [Go.Pf.jn]
   rw [rsp_len, asT (by omega), asT (by omega), Int.toNat_natCast, rsp_at h1, hq1]
   show asr (conf (.agg [.i .i64, .i .i64, .i .i64, .i .i64]) (encR t)) _
   rw [asR, encR0, encR1, encR2, encR3, asEE, asE, rsp_len]
   refine ⟨b.length + 1, ?_⟩
   refine (min1_loop hb (by omega) hx1.2 [] _ _ _ _ _ _ b.length 0 (b.length + 1) acc t.1 (by omega) (by omega) (by omega) hx1.1).mpr ?_
   rw [List.drop_zero]
   show w_piece_order (at1 t.2 t.1 b).num (at1 t.2 t.1 b).den t.2.num t.2.den _
   rw [order_eq hat hx1.2, cmpQ_neg]
   have hlen : (rsp (acc ++ left1 t.2 t.1 b)).length = acc.length + (left1 t.2 t.1 b).length := by rw [rsp_len, List.length_append]
   by_cases h2 : at1 t.2 t.1 b < t.2
   · rw [if_pos h2] at k
     rw [cbT h2, hlen, asE, asT (by omega), asNo (by omega), asE, asT (by show _ ≤ 35184372088832; omega), rsp_one (at1 t.2 t.1 b, t.2), rsp_app]
     show asr _ (L_piece_Minus_0_1 w_piece_both w_piece_order w_piece_few x0 x1 n _ (rsp b) (rsp a) (a.length : Int) (IntKind.i64.wrap ((i : Int) + 1)))
     rw [asEE, asE, e1, cast1]
     refine IH _ (by simp only [List.length_append, List.length_cons, List.length_nil]; omega) ?_
     rw [List.append_assoc (acc ++ left1 t.2 t.1 b)]
     exact k
   · rw [if_neg h2, List.nil_append] at k
     rw [cbF h2]
     show asr _ (L_piece_Minus_0_1 w_piece_both w_piece_order w_piece_few x0 x1 n _ (rsp b) (rsp a) (a.length : Int) (IntKind.i64.wrap ((i : Int) + 1)))
     rw [asEE, asE, e1, cast1]
     exact IH _ (by simp only [List.length_append]; omega) k
theorem minus_nil (ha : ∀ s ∈ a, smallS s) (hb : ∀ s ∈ b, smallS s) (hla : a.length < 1000) (hlb : b.length < 1000)
   {x0 : List PV → List PV → Int → Int → Bool → Prop} {x1 : List PV → List PV → List PV → Int → Int → Bool → Prop} {K : List PV → Prop} (hx0 : ∀ i k q, x0 (rsp b) (rsp a) i k q = K []) (hx : ∀ L i k q, x1 L (rsp b) (rsp a) i k q = K L) :
   ∀ (r i n : Nat), i + r = a.length → r < n → K (rsp (minusS (a.drop i) b)) →
     L_piece_Minus_0_0 w_piece_both w_piece_order w_piece_few x0 x1 n (rsp b) (rsp a) (a.length : Int) (i : Int) := by
 intro r
 induction r with
 | zero =>
   intro i n hi hn k
   obtain ⟨n, rfl⟩ : ∃ m, n = m + 1 := ⟨n - 1, by omega⟩
   obtain rfl : i = a.length := by omega
   rw [L_piece_Minus_0_0, cbF (by omega), hx0]
   rw [List.drop_length] at k
   exact k
 | succ r ih =>
   intro i n hi hn k
   obtain ⟨n, rfl⟩ : ∃ m, n = m + 1 := ⟨n - 1, by omega⟩
   have h1 : i < a.length := by omega
   have e1 := wib (n := (i : Int) + 1) (by omega) (by omega)
   have hd1 : a.drop i = a.getD i default :: a.drop (i + 1) := drop_cons default h1
   have hx1 := smallS_mem ha h1
   have hll := left1_len (a.getD i default).2 b (a.getD i default).1
   have hmul : (b.length + 1) * (i + 1) = (b.length + 1) * i + (b.length + 1) := Nat.mul_succ _ _
   have IH := ih (i + 1) n (by omega) (by omega)
   have JH := fun acc' h => minus_own ha hb hla hlb (x0 := x0) hx r (i + 1) n acc' (by omega) (by omega) h
   rw [hd1] at k
   unfold minusS at k
   rw [List.flatMap_cons, min1_split] at k
   generalize hq1 : a.getD i default = t at hx1 k hll
   have hat := at1_small (hi := t.2) hb hx1.1
   rw [L_piece_Minus_0_0, cbT (by omega)]
   dsimp only [Go.Pf.jn]
   rw [rsp_len, asT (by omega), asT (by omega), Int.toNat_natCast, rsp_at h1, hq1]
   show asr (conf (.agg [.i .i64, .i .i64, .i .i64, .i .i64]) (encR t)) _
   rw [asR, encR0, encR1, encR2, encR3, rsp_len]
   refine ⟨b.length + 1, ?_⟩
   refine (min0_loop hb (by omega) hx1.2 _ _ _ _ _ _ b.length 0 (b.length + 1) t.1 (by omega) (by omega) hx1.1).mpr ?_
   rw [List.drop_zero]
   by_cases hl : left1 t.2 t.1 b = []
   · rw [if_pos hl]
     rw [hl, List.nil_append] at k
     show w_piece_order (at1 t.2 t.1 b).num (at1 t.2 t.1 b).den t.2.num t.2.den _
     rw [order_eq hat hx1.2, cmpQ_neg]
     by_cases h2 : at1 t.2 t.1 b < t.2
     · rw [if_pos h2] at k
       rw [cbT h2, rsp_one (at1 t.2 t.1 b, t.2)]
       show asr _ (L_piece_Minus_0_1 w_piece_both w_piece_order w_piece_few x0 x1 n _ (rsp b) (rsp a) (a.length : Int) (IntKind.i64.wrap ((i : Int) + 1)))
       rw [asEE, asE, e1, cast1]
       exact JH _ (by simp only [List.length_cons, List.length_nil]; omega) k
     · rw [if_neg h2, List.nil_append] at k
       rw [cbF h2]
       show L_piece_Minus_0_0 w_piece_both w_piece_order w_piece_few x0 x1 n (rsp b) (rsp a) (a.length : Int) (IntKind.i64.wrap ((i : Int) + 1))
       rw [e1, cast1]
       exact IH k
   · rw [if_neg hl]
     show w_piece_order (at1 t.2 t.1 b).num (at1 t.2 t.1 b).den t.2.num t.2.den _
     rw [order_eq hat hx1.2, cmpQ_neg]
     have hlen : (rsp (left1 t.2 t.1 b)).length = (left1 t.2 t.1 b).length := rsp_len _
     by_cases h2 : at1 t.2 t.1 b < t.2
     · rw [if_pos h2] at k
       rw [cbT h2, hlen, asE, asT (by omega), asNo (by omega), asE, asT (by show _ ≤ 35184372088832; omega), rsp_one (at1 t.2 t.1 b, t.2), rsp_app]
       show asr _ (L_piece_Minus_0_1 w_piece_both w_piece_order w_piece_few x0 x1 n _ (rsp b) (rsp a) (a.length : Int) (IntKind.i64.wrap ((i : Int) + 1)))
       rw [asEE, asE, e1, cast1]
       exact JH _ (by simp only [List.length_append, List.length_cons, List.length_nil]; omega) k
     · rw [if_neg h2, List.append_nil] at k
       rw [cbF h2]
       show asr _ (L_piece_Minus_0_1 w_piece_both w_piece_order w_piece_few x0 x1 n _ (rsp b) (rsp a) (a.length : Int) (IntKind.i64.wrap ((i : Int) + 1)))
       rw [asEE, asE, e1, cast1]
       exact JH _ (by omega) k
end
theorem both_zero {a b : List Sp} (h : bothE a b = 0) : a.length ≤ 60 ∧ b.length ≤ 60 ∧ (∀ s ∈ a, s.ok) ∧ (∀ s ∈ b, s.ok) ∧ canon (rsL a) ∧ canon (rsL b) ∧ (∀ s ∈ rsL a, smallS s) ∧ (∀ s ∈ rsL b, smallS s) ∧ spans a = rsp (rsL a) ∧ spans b = rsp (rsL b) ∧ (rsL a).length = a.length ∧ (rsL b).length = b.length := by
 unfold bothE at h
 split at h
 · rename_i h3
   obtain ⟨l1, o1, c1⟩ := pieceE_zero h3
   obtain ⟨l2, o2, c2⟩ := pieceE_zero h
   exact ⟨l1, l2, o1, o2, c1, c2, fun s hs => by obtain ⟨t, ht, rfl⟩ := List.mem_map.1 hs; exact rs_small (o1 t ht), fun s hs => by obtain ⟨t, ht, rfl⟩ := List.mem_map.1 hs; exact rs_small (o2 t ht), spans_rsL o1, spans_rsL o2, List.length_map .., List.length_map ..⟩
 · rename_i h3; exact absurd h h3
theorem few_det {w : (List PV → Int → Prop) → Prop} {e : Int} {l : List RS} (det : ∀ r0 r1, (∀ K : List PV → Int → Prop, K r0 r1 → w K) → ∀ K, w K = K r0 r1) (key : ∀ K, fewR e l K → w K) (K : List PV → Int → Prop) : w K = fewR e l K := by
 unfold fewR at key ⊢
 split
 · rename_i h
   simp only [if_pos h] at key
   split
   · rename_i h2; simp only [if_pos h2] at key; exact det _ _ key K
   · rename_i h2; simp only [if_neg h2] at key; exact det _ _ key K
 · rename_i h
   simp only [if_neg h] at key
   exact det _ _ key K
theorem Minus_eq {a b : List Sp} (ha : ∀ s ∈ a, s.i64) (hb : ∀ s ∈ b, s.i64) (hla : a.length < 4611686018427387904) (hlb : b.length < 4611686018427387904) (K : List PV → Int → Prop) :
   w_piece_Minus (spans a) (spans b) K = fewR (bothE a b) (minusS (rsL a) (rsL b)) K := by
 refine few_det (fun r0 r1 h K => det_piece_Minus _ _ r0 r1 h K) (fun K k => ?_) K
 unfold w_piece_Minus wv_piece_Minus
 rw [both_eq ha hb hla hlb]
 unfold fewR at k
 by_cases h : bothE a b = 0
 · rw [cnF h]
   rw [if_pos h] at k
   obtain ⟨l1, l2, _, _, _, _, s1, s2, e1, e2, n1, n2⟩ := both_zero h
   rw [e1, e2, rsp_len]
   refine ⟨(rsL a).length + 1, ?_⟩
   refine minus_nil s1 s2 (by omega) (by omega) (K := fun L => w_piece_few L fun L' e => K L' e) (fun _ _ _ => rfl) (fun L i k q => ?_) (rsL a).length 0 _ (by omega) (by omega) ?_
   · rw [asE, asT (by omega), List.take_length]
   · rw [List.drop_zero, rsp_few]
     exact k
 · rw [cnT h]
   rw [if_neg h] at k
   exact k
end Go.Pf.Vc
namespace Go.Pf.Vc
open Go Go.Pf
theorem rsp_head (l : List RS) : headOk 4 (rsp l) = true := by cases l <;> rfl
theorem rsp_empty (l : List RS) : List.isEmpty (rsp l) = List.isEmpty l := by cases l <;> rfl
theorem datData (l : List PV) : datOfV (.data l) = l := rfl
theorem asDt (l : List PV) (P : Prop) : asr (conf (.one (.d)) (.data l)) P = P := rfl
section
variable {a b : List RS}
theorem cat_size (hla : a.length < 1000) (hlb : b.length < 1000) {x0 : List PV → Int → List PV → Int → Int → Bool → Prop} (l0 : List PV) :
   L_piece_Union_0_0 w_piece_both w_piece_merged w_piece_few x0 3 l0 0 ([(.data (rsp a)), (.data (rsp b))] : List PV) 2 0 = x0 l0 ((a.length + b.length : Nat) : Int) ([(.data (rsp a)), (.data (rsp b))] : List PV) 2 2 false := by
 have e0 : IntKind.i64.wrap ((0 : Int) + 1) = 1 := by decide
 have e1 : IntKind.i64.wrap ((1 : Int) + 1) = 2 := by decide
 have e2 := wib (n := (a.length : Int)) (by omega) (by omega)
 have e3 := wib (n := (a.length : Int) + (b.length : Int)) (by omega) (by omega)
 have d0 : List.getD ([(.data (rsp a)), (.data (rsp b))] : List PV) (0 : Int).toNat .nils = .data (rsp a) := rfl
 have d1 : List.getD ([(.data (rsp a)), (.data (rsp b))] : List PV) (1 : Int).toNat .nils = .data (rsp b) := rfl
 rw [L_piece_Union_0_0, cbT (by omega), asT (by omega), asT (by simp)]
 dsimp only [lt]
 rw [d0, asDt]
 rw [datData, rsp_len, Int.zero_add, e2, cbF (by omega), e0, L_piece_Union_0_0, cbT (by omega), asT (by omega), asT (by simp)]
 dsimp only [lt]
 rw [d1, asDt]
 rw [datData, rsp_len, e3, cbF (by omega), e1, L_piece_Union_0_0, cbF (by omega), Int.natCast_add]
theorem cat_own (hla : a.length < 1000) (hlb : b.length < 1000) {x0 : List PV → Int → Int → Bool → Prop} {x1 : List PV → Nat → List PV → Int → Int → Bool → Prop} (z : PV) :
   L_piece_Union_1_1 w_piece_both w_piece_merged w_piece_few x0 x1 3 (List.replicate (a.length + b.length) z) 0 ([(.data (rsp a)), (.data (rsp b))] : List PV) 2 0 = x1 (rsp (a ++ b)) (a.length + b.length) ([(.data (rsp a)), (.data (rsp b))] : List PV) 2 2 false := by
 have e0 : IntKind.i64.wrap ((0 : Int) + 1) = 1 := by decide
 have e1 : IntKind.i64.wrap ((1 : Int) + 1) = 2 := by decide
 have d0 : List.getD ([(.data (rsp a)), (.data (rsp b))] : List PV) (0 : Int).toNat .nils = .data (rsp a) := rfl
 have d1 : List.getD ([(.data (rsp a)), (.data (rsp b))] : List PV) (1 : Int).toNat .nils = .data (rsp b) := rfl
 have first : L_piece_Union_1_1 w_piece_both w_piece_merged w_piece_few x0 x1 3 (List.replicate (a.length + b.length) z) 0 ([(.data (rsp a)), (.data (rsp b))] : List PV) 2 0 =
     L_piece_Union_1_1 w_piece_both w_piece_merged w_piece_few x0 x1 2 (rsp a ++ List.replicate b.length z) a.length ([(.data (rsp a)), (.data (rsp b))] : List PV) 2 1 := by
   rw [L_piece_Union_1_1, cbT (by omega), asT (by omega), asT (by simp)]
   dsimp only [lt]
   rw [d0, asDt]
   rw [datData, rsp_head, asr_true, asE, asT (by omega), rsp_empty, e0]
   cases a with
   | nil =>
     rw [show List.isEmpty ([] : List RS) = true from rfl, cbr_true, asE]
     simp only [List.length_nil, Nat.zero_add]
     rfl
   | cons s r =>
     rw [show List.isEmpty (s :: r) = false from rfl, cbr_false, rsp_len, List.length_replicate, asT (by omega)]
     have e : List.take (0 + 0) (List.replicate ((s :: r).length + b.length) z) ++ (rsp (s :: r) ++ List.drop (0 + 0 + (s :: r).length) (List.replicate ((s :: r).length + b.length) z)) = rsp (s :: r) ++ List.replicate b.length z := by
       rw [Nat.zero_add, List.take_zero, List.nil_append, Nat.zero_add, List.drop_replicate, Nat.add_sub_cancel_left]
     rw [e, Nat.zero_add, asT (by rw [List.length_append, rsp_len, List.length_replicate])]
 have second : L_piece_Union_1_1 w_piece_both w_piece_merged w_piece_few x0 x1 2 (rsp a ++ List.replicate b.length z) a.length ([(.data (rsp a)), (.data (rsp b))] : List PV) 2 1 =
     L_piece_Union_1_1 w_piece_both w_piece_merged w_piece_few x0 x1 1 (rsp (a ++ b)) (a.length + b.length) ([(.data (rsp a)), (.data (rsp b))] : List PV) 2 2 := by
   have hl : (rsp a ++ List.replicate b.length z).length = a.length + b.length := by rw [List.length_append, rsp_len, List.length_replicate]
   rw [L_piece_Union_1_1, cbT (by omega), asT (by omega), asT (by simp)]
   dsimp only [lt]
   rw [d1, asDt]
   rw [datData, rsp_head, asr_true, asE, hl, asT (by omega), rsp_empty, e1]
   cases b with
   | nil =>
     rw [show List.isEmpty ([] : List RS) = true from rfl, cbr_true, asE]
     simp only [List.length_nil, Nat.add_zero, List.replicate_zero, List.append_nil]
   | cons s r =>
     rw [show List.isEmpty (s :: r) = false from rfl, cbr_false, rsp_len, asT (by omega)]
     have e : List.take (0 + a.length) (rsp a ++ List.replicate (s :: r).length z) ++ (rsp (s :: r) ++ List.drop (0 + a.length + (s :: r).length) (rsp a ++ List.replicate (s :: r).length z)) = rsp (a ++ s :: r) := by
       rw [Nat.zero_add, List.take_left' (rsp_len a), List.drop_eq_nil_of_le (by rw [hl]; exact Nat.le_refl _), List.append_nil, rsp_app]
     rw [e, asT (by rw [rsp_len, List.length_append])]
 rw [first, second, L_piece_Union_1_1, cbF (by omega)]
end
theorem joinR_zero {a b : List RS} {q : Rat} : selF a b 0 q = true ↔ (memP a q ∨ memP b q) := by
 show (inB a q || inB b q) = true ↔ _
 rw [Bool.or_eq_true, inB_iff, inB_iff]
theorem joinR_one {a b : List RS} {q : Rat} : selF a b 1 q = true ↔ (memP a q ∧ memP b q) := by
 show (inB a q && inB b q) = true ↔ _
 rw [Bool.and_eq_true, inB_iff, inB_iff]
theorem joinR_two {a b : List RS} {q : Rat} : selF a b 2 q = true ↔ (memP a q ∧ ¬ memP b q) := by
 show (inB a q && !inB b q) = true ↔ _
 rw [Bool.and_eq_true, inB_iff, Bool.not_eq_true', ← Bool.not_eq_true, inB_iff]
theorem canon_lt {l : List RS} (h : canon l) : ∀ s ∈ l, s.1 < s.2 := by
 induction l with
 | nil => intro s hs; cases hs
 | cons t r ih =>
   intro s hs
   rcases List.mem_cons.1 hs with rfl | hs
   · exact h.1
   · exact ih h.2.2 s hs
def setR (a b : List RS) (how : Int) : List RS := joinR (selF a b how) a b
theorem Union_eq {a b : List Sp} (ha : ∀ s ∈ a, s.i64) (hb : ∀ s ∈ b, s.i64) (hla : a.length < 4611686018427387904) (hlb : b.length < 4611686018427387904) (K : List PV → Int → Prop) :
   w_piece_Union (spans a) (spans b) K = fewR (bothE a b) (setR (rsL a) (rsL b) 0) K := by
 refine few_det (fun r0 r1 h K => det_piece_Union _ _ r0 r1 h K) (fun K k => ?_) K
 unfold w_piece_Union wv_piece_Union
 rw [both_eq ha hb hla hlb]
 unfold fewR at k
 by_cases h : bothE a b = 0
 case neg =>
   rw [cnT h]
   rw [if_neg h] at k
   exact k
 rw [cnF h]
 rw [if_pos h] at k
 obtain ⟨l1, l2, _, _, c1, c2, s1, s2, e1, e2, n1, n2⟩ := both_zero h
 rw [e1, e2]
 have sab : ∀ s ∈ rsL a ++ rsL b, smallS s := fun s hs => by
   rcases List.mem_append.1 hs with hs | hs
   · exact s1 s hs
   · exact s2 s hs
 have vab : ∀ s ∈ rsL a ++ rsL b, s.1 < s.2 := fun s hs => by
   rcases List.mem_append.1 hs with hs | hs
   · exact canon_lt c1 s hs
   · exact canon_lt c2 s hs
 obtain ⟨l', hp, hf, hm⟩ := merged_eq sab vab (by rw [List.length_append]; omega)
 have hj : mergeS l' = setR (rsL a) (rsL b) 0 := either_eq c1 c2 (fun s hs => vab s (hp.mem_iff.1 hs)) (fun s => hp.mem_iff) hf (fun x => joinR_zero)
 rw [hj] at hm
 have key : w_piece_merged (rsp (rsL a ++ rsL b)) (fun L => w_piece_few L fun L' e => K L' e) := by
   rw [hm, rsp_few]
   exact k
 dsimp only [Go.Pf.jn]
 refine ⟨3, ?_⟩
 have z0 : IntKind.i64.wrap (((((rsL a).length + (rsL b).length : Nat) : Int)) - 0) = (((rsL a).length + (rsL b).length : Nat) : Int) := by
   rw [Int.sub_zero]; exact wib (by omega) (by omega)
 refine (cat_size (by omega) (by omega) _).mpr ?_
 rw [cbF (by omega)]
 dsimp only [lt]
 rw [z0]
 by_cases h0 : (rsL a).length + (rsL b).length = 0
 · have ea : rsL a = [] := List.eq_nil_of_length_eq_zero (by omega)
   have eb : rsL b = [] := List.eq_nil_of_length_eq_zero (by omega)
   rw [cbF (by omega)]
   rw [ea, eb] at key ⊢
   have e3 : IntKind.i64.wrap ((0 : Int) + 1) = 1 := by decide
   have e4 : IntKind.i64.wrap ((1 : Int) + 1) = 2 := by decide
   refine ⟨3, ?_⟩
   show L_piece_Union_1_0 _ _ _ _ _ (2 + 1) ([(.data []), (.data [])] : List PV) 2 0
   rw [L_piece_Union_1_0, cbT (by omega), asT (by omega), asT (by simp)]
   dsimp only [lt]
   rw [show List.getD ([(.data []), (.data [])] : List PV) (0 : Int).toNat .nils = .data [] from rfl, asDt]
   show asr true (cbr true (L_piece_Union_1_0 _ _ _ _ _ (1 + 1) ([(.data []), (.data [])] : List PV) 2 (IntKind.i64.wrap ((0 : Int) + 1))) _)
   rw [asr_true, cbr_true, e3, L_piece_Union_1_0, cbT (by omega), asT (by omega), asT (by simp)]
   dsimp only [lt]
   rw [show List.getD ([(.data []), (.data [])] : List PV) (1 : Int).toNat .nils = .data [] from rfl, asDt]
   show asr true (cbr true (L_piece_Union_1_0 _ _ _ _ _ (0 + 1) ([(.data []), (.data [])] : List PV) 2 (IntKind.i64.wrap ((1 : Int) + 1))) _)
   rw [asr_true, cbr_true, e4, L_piece_Union_1_0, cbF (by omega)]
   exact key
 · rw [cbT (by omega), asT (by omega), Int.toNat_natCast, cbF h0, List.length_replicate, asT (by show _ ≤ 35184372088832; omega), asTT (by rw [decide_eq_true (by omega)]; rfl), asE]
   refine ⟨3, ?_⟩
   refine (cat_own (by omega) (by omega) _).mpr ?_
   rw [rsp_len, List.length_append, asE, asT (by omega), List.take_of_length_le (by rw [rsp_len, List.length_append]; exact Nat.le_refl _)]
   exact key
theorem Meet_set {a b : List Sp} (ha : ∀ s ∈ a, s.i64) (hb : ∀ s ∈ b, s.i64) (hla : a.length < 4611686018427387904) (hlb : b.length < 4611686018427387904) (K : List PV → Int → Prop) :
   w_piece_Meet (spans a) (spans b) K = fewR (bothE a b) (setR (rsL a) (rsL b) 1) K := by
 rw [Meet_eq ha hb hla hlb]
 unfold fewR
 split
 · rename_i h
   obtain ⟨_, _, _, _, c1, c2, _⟩ := both_zero h
   rw [common_eq c1 c2 (fun x => joinR_one)]
   rfl
 · rfl
theorem Minus_set {a b : List Sp} (ha : ∀ s ∈ a, s.i64) (hb : ∀ s ∈ b, s.i64) (hla : a.length < 4611686018427387904) (hlb : b.length < 4611686018427387904) (K : List PV → Int → Prop) :
   w_piece_Minus (spans a) (spans b) K = fewR (bothE a b) (setR (rsL a) (rsL b) 2) K := by
 rw [Minus_eq ha hb hla hlb]
 unfold fewR
 split
 · rename_i h
   obtain ⟨_, _, _, _, c1, c2, _⟩ := both_zero h
   rw [without_eq c1 c2 (fun x => joinR_two)]
   rfl
 · rfl
end Go.Pf.Vc
namespace Go.Pf.Vc
open Go Go.Pf
def dsS : DS := .a [dsR, dsR]
theorem F_s {c : List PV} (h : HasF dsS c) : ∃ s : Sp, c = [.int .i64 s.a, .int .i64 s.b, .int .i64 s.c, .int .i64 s.d] ∧ s.i64 := by
 simp only [dsS, dsR, HasF, HasL] at h
 obtain ⟨_, _, rfl, ⟨_, _, rfl, ⟨a, rfl, ha⟩, _, _, rfl, ⟨b, rfl, hb⟩, rfl⟩, _, _, rfl, ⟨_, _, rfl, ⟨c, rfl, hc⟩, _, _, rfl, ⟨d, rfl, hd⟩, rfl⟩, rfl⟩ := h
 exact ⟨⟨a, b, c, d⟩, rfl, inK_i64 ha, inK_i64 hb, inK_i64 hc, inK_i64 hd⟩
theorem spans_of : ∀ (rows : List PV), (∀ x ∈ rows, x.isAgg = dsS.isA ∧ HasF dsS x.cells) → ∃ l : List Sp, rows = spans l ∧ ∀ s ∈ l, s.i64
 | [], _ => ⟨[], rfl, by simp⟩
 | x :: r, h => by
   obtain ⟨l, e, hl⟩ := spans_of r (fun y hy => h y (List.mem_cons_of_mem _ hy))
   obtain ⟨h1, h2⟩ := h x (List.mem_cons_self ..)
   obtain ⟨k, e2, hk⟩ := F_s h2
   have ex : x = encS k := by rw [agg_of h1, e2]; rfl
   refine ⟨k :: l, by rw [ex, e]; rfl, ?_⟩
   intro m hm
   rcases List.mem_cons.1 hm with rfl | hm
   · exact hk
   · exact hl m hm
theorem F_spans {c : List PV} (h : HasF (.s dsS) c) : ∃ l : List Sp, c = [.data (spans l)] ∧ l.length ≤ 9223372036854775807 ∧ ∀ s ∈ l, s.i64 := by
 simp only [HasF] at h
 obtain ⟨rows, rfl, hl, hr⟩ := h
 obtain ⟨l, rfl, hi⟩ := spans_of rows hr
 rw [spans_len] at hl
 exact ⟨l, rfl, hl, hi⟩
def greatS (l : List Sp) : Bool := decide (l.length > 20 ∧ l.length ≤ 60 ∨ l.length > 70)
theorem gGreat_eq (l : List Sp) (K : Bool → Prop) : w_r03_Great (spans l) K = K (greatS l) := by
 unfold w_r03_Great wv_r03_Great greatS
 dsimp only [Go.Pf.jn]
 rw [spans_len]
 by_cases h : l.length > 20
 · rw [cbT (by omega)]
   by_cases h2 : l.length ≤ 60
   · rw [cbT (by omega), decide_eq_true (by omega)]
   · rw [cbF (by omega)]
     congr 1
     rw [decide_eq_decide]; omega
 · rw [cbF (by omega)]
   congr 1
   rw [decide_eq_decide]; omega
theorem greatS_low {l : List Sp} (h : greatS l = false) : l.length ≤ 70 ∧ (l.length ≤ 60 → l.length ≤ 20) := by
 unfold greatS at h
 rw [decide_eq_false_iff_not] at h
 omega
end Go.Pf.Vc
namespace Go.Pf.Vc
open Go Go.Pf
theorem cmpI_Q {a b c d : Int} (h : RV a b) (k : RV c d) : cmpI a b c d = cmpQ (rt a b) (rt c d) := by
 obtain ⟨_, h2, h3⟩ := rt_of h
 obtain ⟨_, k2, k3⟩ := rt_of k
 unfold cmpI cmpQ
 simp only [Rat.lt_iff, h2, h3, k2, k3]
theorem sp_cells : ∀ {cs : List PV}, okL [.i64, .i64, .i64, .i64] cs = true → ∃ a b c d, cs = [.int .i64 a, .int .i64 b, .int .i64 c, .int .i64 d]
 | [], h => by cases h
 | [x], h => by cases x <;> simp [okL] at h
 | [x, y], h => by cases x <;> cases y <;> simp [okL] at h
 | [x, y, z], h => by cases x <;> cases y <;> cases z <;> simp [okL] at h
 | x :: y :: z :: u :: w, h => by
   cases x <;> first | (simp [okL] at h; done) | skip
   cases y <;> first | (simp [okL] at h; done) | skip
   cases z <;> first | (simp [okL] at h; done) | skip
   cases u <;> first | (simp [okL] at h; done) | skip
   simp only [okL, Bool.and_eq_true, decide_eq_true_eq] at h
   obtain ⟨rfl, _, _, rfl, _, _, rfl, _, _, rfl, _, _, h⟩ := h
   cases w with
   | nil => exact ⟨_, _, _, _, rfl⟩
   | cons p q => simp [okL] at h
theorem gd_sp {n g : Nat} {x : PV} (h : (spSrt n g).s.gd x = true) : ∃ a b c d, x = .agg [.int .i64 a, .int .i64 b, .int .i64 c, .int .i64 d] ∧ RV a b := by
 simp only [Srt.gd, Bool.and_eq_true] at h
 have h1 : okI [.i64, .i64, .i64, .i64] x = true := h.1
 have h2 : spGood x = true := h.2
 clear h
 cases x <;> first | (simp [okI] at h1; done) | skip
 obtain ⟨a, b, c, d, rfl⟩ := sp_cells (h1 : okL _ _ = true)
 exact ⟨a, b, c, d, rfl, rvB_iff.1 h2⟩
theorem merged1_ans {n g : Nat} (e : List (Nat × EffF)) (he : EG e) {x y : PV} (hx : (spSrt n g).s.gd x = true) (hy : (spSrt n g).s.gd y = true) : Ans (E e) n_piece_merged_1 [x, y] (.int .i64 (spCmp x y)) := by
 obtain ⟨a, b, c, d, rfl, h1⟩ := gd_sp hx
 obtain ⟨a', b', c', d', rfl, h2⟩ := gd_sp hy
 obtain ⟨r, hr, ha⟩ := ok_piece_merged_1 e he [.agg [.int .i64 a, .int .i64 b, .int .i64 c, .int .i64 d], .agg [.int .i64 a', .int .i64 b', .int .i64 c', .int .i64 d']] (fun r => r = .int .i64 (cmpI a b a' b')) (by
   show w_piece_merged_1 a b c d a' b' c' d' (fun r => PV.int .i64 r = .int .i64 (cmpI a b a' b'))
   unfold w_piece_merged_1 wv_piece_merged_1
   rw [order_rv h1 h2, cmpI_Q h1 h2])
 rw [hr] at ha
 exact ha
end Go.Pf.Vc
namespace Go.Pf.Vc
open Go Go.Pf
theorem jn_len (f : Rat → Bool) : ∀ pts : List Rat, 2 * (jn f pts none).length ≤ pts.length ∧ (∀ c, 2 * (jn f pts (some c)).length ≤ pts.length + 2) ∧ ∀ c x r, pts = x :: r → c.2 = x → 2 * (jn f pts (some c)).length ≤ pts.length + 1
 | [] => by refine ⟨by simp [jn], fun c => by simp [jn], fun c x r h => by cases h⟩
 | [x] => by refine ⟨by simp [jn], fun c => by simp [jn], fun c x r _ _ => by simp [jn]⟩
 | x :: y :: r => by
   obtain ⟨i1, i2, i3⟩ := jn_len f (y :: r)
   refine ⟨?_, fun c => ?_, fun c z t h hc => ?_⟩
   · unfold jn
     split
     · have := i3 (x, y) y r rfl rfl
       simp only [List.length_cons] at this ⊢; omega
     · simp only [List.length_cons] at i1 ⊢; omega
   · unfold jn
     split
     · split
       · have := i2 (c.1, y)
         simp only [List.length_cons] at this ⊢; omega
       · have := i3 (x, y) y r rfl rfl
         simp only [List.length_cons] at this ⊢; omega
     · have := i2 c
       simp only [List.length_cons] at this ⊢; omega
   · cases h
     unfold jn
     split
     · have := i3 (c.1, y) y r rfl rfl
       simp only [List.length_cons] at this ⊢; omega
     · have := i2 c
       simp only [List.length_cons] at this ⊢; omega
theorem jn_small (f : Rat → Bool) : ∀ (pts : List Rat) (cur : Option RS), (∀ x ∈ pts, small x) → (∀ c, cur = some c → smallS c) → ∀ s ∈ jn f pts cur, smallS s
 | [], none, _, _ => by simp [jn]
 | [], some c, _, h => by simpa [jn] using h c rfl
 | [x], none, _, _ => by simp [jn]
 | [x], some c, _, h => by simpa [jn] using h c rfl
 | x :: y :: r, none, hp, _ => by
   have hx := hp x (by simp)
   have hy := hp y (by simp)
   have ht : ∀ z ∈ y :: r, small z := fun z hz => hp z (List.mem_cons_of_mem _ hz)
   intro s hs
   unfold jn at hs
   split at hs
   · exact jn_small f (y :: r) _ ht (fun c e => by cases e; exact ⟨hx, hy⟩) s hs
   · exact jn_small f (y :: r) _ ht (fun c e => by cases e) s hs
 | x :: y :: r, some c, hp, hc => by
   have hx := hp x (by simp)
   have hy := hp y (by simp)
   have h0 := hc c rfl
   have ht : ∀ z ∈ y :: r, small z := fun z hz => hp z (List.mem_cons_of_mem _ hz)
   intro s hs
   unfold jn at hs
   split at hs
   · split at hs
     · exact jn_small f (y :: r) _ ht (fun c e => by cases e; exact ⟨h0.1, hy⟩) s hs
     · rcases List.mem_cons.1 hs with rfl | hs
       · exact h0
       · exact jn_small f (y :: r) _ ht (fun c e => by cases e; exact ⟨hx, hy⟩) s hs
   · exact jn_small f (y :: r) _ ht (fun c e => by cases e; exact h0) s hs
theorem setR_len (a b : List RS) (how : Int) : (setR a b how).length ≤ a.length + b.length := by
 have h1 := (jn_len (selF a b how) (endsR b (endsR a []))).1
 have h2 := endsR_len b (endsR a [])
 have h3 := endsR_len a []
 simp only [List.length_nil] at h3
 unfold setR joinR
 omega
theorem setR_small {a b : List RS} (ha : ∀ s ∈ a, smallS s) (hb : ∀ s ∈ b, smallS s) (how : Int) : ∀ s ∈ setR a b how, smallS s :=
 jn_small _ _ _ (endsR_small hb (endsR_small ha (by simp))) (fun c h => by cases h)
structure Pc (l : List RS) : Prop where
 c : canon l
 s : ∀ s ∈ l, smallS s
 n : l.length ≤ 60
theorem setR_pc {a b : List RS} (ha : Pc a) (hb : Pc b) {how : Int} (h : how = 0 ∨ how = 1 ∨ how = 2) (hl : a.length + b.length ≤ 60) : Pc (setR a b how) := by
 refine ⟨?_, setR_small ha.s hb.s how, by have := setR_len a b how; omega⟩
 rcases h with rfl | rfl | rfl
 · exact (joinR_ok (c := Or) (fun x => joinR_zero) (by simp)).1
 · exact (joinR_ok (c := And) (fun x => joinR_one) (by simp)).1
 · exact (joinR_ok (c := fun x y => x ∧ ¬ y) (fun x => joinR_two) (by simp)).1
theorem mem_union {a b : List RS} {p : Rat} : memP (setR a b 0) p ↔ (memP a p ∨ memP b p) := (joinR_ok (c := Or) (fun x => joinR_zero) (by simp)).2 p
theorem mem_meet {a b : List RS} {p : Rat} : memP (setR a b 1) p ↔ (memP a p ∧ memP b p) := (joinR_ok (c := And) (fun x => joinR_one) (by simp)).2 p
theorem rsL_spOf {l : List RS} (h : ∀ s ∈ l, smallS s) : rsL (l.map spOf) = l := by
 induction l with
 | nil => rfl
 | cons s r ih =>
   show (spOf s).rs :: rsL (r.map spOf) = _
   rw [rs_spOf (h s List.mem_cons_self), ih fun t ht => h t (List.mem_cons_of_mem _ ht)]
theorem Pc.ok {l : List RS} (h : Pc l) : ∀ s ∈ l.map spOf, s.ok := fun s hs => by
 obtain ⟨t, ht, rfl⟩ := List.mem_map.1 hs
 exact spOf_ok (h.s t ht) (canon_lt h.c t ht)
theorem Pc.i64 {l : List RS} (h : Pc l) : ∀ s ∈ l.map spOf, s.i64 := fun s hs => by
 obtain ⟨t, ht, rfl⟩ := List.mem_map.1 hs
 have := h.s t ht
 exact ⟨this.1.i1, this.1.i2, this.2.i1, this.2.i2⟩
theorem Pc.e {l : List RS} (h : Pc l) : pieceE (l.map spOf) = 0 := by
 have hl := h.n
 have ho := h.ok
 have hc := h.c
 rw [← rsL_spOf h.s] at hc
 have h1 : allOkB (l.map spOf) = true := List.all_eq_true.2 fun s hs => decide_eq_true (ho s hs)
 have h2 : allE (l.map spOf) = 0 := by
   unfold allE
   rw [if_neg (by rw [List.length_map]; omega), h1, if_pos rfl]
 unfold pieceE
 rw [h2]
 cases l with
 | nil => rfl
 | cons s r =>
   have hg : gapB (spOf s) (r.map spOf) = true := (gap_canon _ _ (ho _ (by simp)) (fun t ht => ho t (List.mem_cons_of_mem _ ht))).2 hc
   show (if (0 : Int) = 0 then (if gapB (spOf s) (r.map spOf) then 0 else 8) else _) = _
   rw [if_pos rfl, hg, if_pos rfl]
theorem pc_of {l : List Sp} (h : pieceE l = 0) : Pc (rsL l) ∧ spans l = rsp (rsL l) ∧ l = (rsL l).map spOf := by
 obtain ⟨h1, h2, h3⟩ := pieceE_zero h
 refine ⟨⟨h3, fun s hs => by obtain ⟨t, ht, rfl⟩ := List.mem_map.1 hs; exact rs_small (h2 t ht), by unfold rsL; rw [List.length_map]; exact h1⟩, spans_rsL h2, ?_⟩
 unfold rsL
 rw [List.map_map]
 have : ∀ s ∈ l, (spOf ∘ Sp.rs) s = id s := fun s hs => spOf_rs (h2 s hs)
 rw [List.map_congr_left this, List.map_id]
theorem Pc.check {l : List RS} (h : Pc l) (K : Int → Prop) : w_piece_Check (rsp l) K = K 0 := by
 unfold rsp
 rw [pCheck_eq h.i64 (by rw [List.length_map]; have := h.n; omega), h.e]
theorem Pc.both {a b : List RS} (ha : Pc a) (hb : Pc b) : bothE (a.map spOf) (b.map spOf) = 0 := by
 unfold bothE
 rw [ha.e, if_pos rfl, hb.e]
theorem fewR_ok {l : List RS} (h : l.length ≤ 60) (K : List PV → Int → Prop) : fewR 0 l K = K (rsp l) 0 := by
 unfold fewR
 rw [if_pos rfl, if_neg (by omega)]
theorem Pc.union {a b : List RS} (ha : Pc a) (hb : Pc b) (hl : a.length + b.length ≤ 60) (K : List PV → Int → Prop) : w_piece_Union (rsp a) (rsp b) K = K (rsp (setR a b 0)) 0 := by
 unfold rsp
 rw [Union_eq ha.i64 hb.i64 (by rw [List.length_map]; have := ha.n; omega) (by rw [List.length_map]; have := hb.n; omega), ha.both hb, rsL_spOf ha.s, rsL_spOf hb.s, fewR_ok (by have := setR_len a b 0; omega)]
 rfl
theorem Pc.meet {a b : List RS} (ha : Pc a) (hb : Pc b) (hl : a.length + b.length ≤ 60) (K : List PV → Int → Prop) : w_piece_Meet (rsp a) (rsp b) K = K (rsp (setR a b 1)) 0 := by
 unfold rsp
 rw [Meet_set ha.i64 hb.i64 (by rw [List.length_map]; have := ha.n; omega) (by rw [List.length_map]; have := hb.n; omega), ha.both hb, rsL_spOf ha.s, rsL_spOf hb.s, fewR_ok (by have := setR_len a b 1; omega)]
 rfl
theorem Pc.minus {a b : List RS} (ha : Pc a) (hb : Pc b) (hl : a.length + b.length ≤ 60) (K : List PV → Int → Prop) : w_piece_Minus (rsp a) (rsp b) K = K (rsp (setR a b 2)) 0 := by
 unfold rsp
 rw [Minus_set ha.i64 hb.i64 (by rw [List.length_map]; have := ha.n; omega) (by rw [List.length_map]; have := hb.n; omega), ha.both hb, rsL_spOf ha.s, rsL_spOf hb.s, fewR_ok (by have := setR_len a b 2; omega)]
 rfl
theorem Pc.same {a : List RS} (ha : a.length ≤ 60) (K : Bool → Prop) : w_r03_Same (rsp a) (rsp a) K = K true := by
 unfold rsp
 exact cSame_self (by rw [List.length_map]; omega) K
def okS (l : List Sp) : Bool := !greatS l && decide (pieceE l = 0)
theorem okS_pc {l : List Sp} (h : okS l = true) : Pc (rsL l) ∧ spans l = rsp (rsL l) ∧ (rsL l).length ≤ 20 := by
 unfold okS at h
 simp only [Bool.and_eq_true, Bool.not_eq_true', decide_eq_true_eq] at h
 obtain ⟨h1, h2⟩ := h
 obtain ⟨p1, p2, _⟩ := pc_of h2
 refine ⟨p1, p2, ?_⟩
 have := p1.n
 have hl : (rsL l).length = l.length := List.length_map ..
 have := (greatS_low h1).2 (by omega)
 omega
theorem lawValid_eq {l : List Sp} (h64 : ∀ s ∈ l, s.i64) (K : Bool → Prop) : w_l03_valid (spans l) K = K (okS l) := by
 unfold w_l03_valid wv_l03_valid okS
 dsimp only [Go.Pf.jn]
 rw [gGreat_eq]
 cases hg : greatS l with
 | true => rfl
 | false =>
   have := (greatS_low hg).1
   show cbr true _ _ = _
   rw [cbr_true, rCheck3_eq h64 (by omega)]
   rfl
section
theorem has_loop {l : List RS} (hs : ∀ s ∈ l, smallS s) (hl : l.length < 4611686018427387904) {p : Rat} (hp : small p) {x0 : Int → Int → List PV → Int → Int → Bool → Prop} {x1 : Int → Int → Int → Prop} {K : Bool → Prop}
   (hx0 : ∀ a b l i k q, x0 a b l i k q = K false) (hx1 : ∀ a b i, 0 ≤ i → x1 a b i = K true) :
   ∀ (r i n : Nat), i + r = l.length → r < n → L_piece_Has_0_0 w_piece_Check w_ratio_Check w_piece_order x0 x1 n p.num p.den (rsp l) (l.length : Int) (i : Int) = K (inB (l.drop i) p) := by
 intro r
 induction r with
 | zero =>
   intro i n hi hn
   obtain ⟨n, rfl⟩ : ∃ m, n = m + 1 := ⟨n - 1, by omega⟩
   obtain rfl : i = l.length := by omega
   rw [L_piece_Has_0_0, cbF (by omega), List.drop_length, hx0]
   rfl
 | succ r ih =>
   intro i n hi hn
   obtain ⟨n, rfl⟩ : ∃ m, n = m + 1 := ⟨n - 1, by omega⟩
   have hil : i < l.length := by omega
   have e1 := wib (n := (i : Int) + 1) (by omega) (by omega)
   have hd : l.drop i = l.getD i default :: l.drop (i + 1) := drop_cons default hil
   have hx := smallS_mem hs hil
   rw [L_piece_Has_0_0, cbT (by omega)]
   dsimp only [lt, Go.Pf.jn]
   rw [rsp_len, asT (by omega), asT (by omega), Int.toNat_natCast, rsp_at hil, asR, encR0, encR1, encR2, encR3, order_eq hx.1 hp, e1, cast1, cmpQ_le, hd]
   have e : inB (l.getD i default :: l.drop (i + 1)) p = ((!decide (p < (l.getD i default).1) && decide (p < (l.getD i default).2)) || inB (l.drop (i + 1)) p) := rfl
   rw [e]
   cases decide (p < (l.getD i default).1) with
   | true =>
     show cbr false _ _ = _
     rw [cbr_false, cbr_false, show (!true) = false from rfl, Bool.false_and, Bool.false_or]
     exact ih (i + 1) n (by omega) (by omega)
   | false =>
     show cbr true _ _ = _
     rw [cbr_true, show (!false) = true from rfl, Bool.true_and, order_eq hp hx.2, cmpQ_neg]
     cases decide (p < (l.getD i default).2) with
     | true =>
       rw [cbr_true, hx1 _ _ _ (by omega)]
       rfl
     | false =>
       rw [cbr_false, Bool.false_or]
       exact ih (i + 1) n (by omega) (by omega)
end
theorem Pc.has {l : List RS} (h : Pc l) {p : Rat} (hp : small p) (K : Bool → Int → Prop) : w_piece_Has (rsp l) p.num p.den K = K (inB l p) 0 := by
 refine det_piece_Has _ _ _ _ _ (fun K k => ?_) K
 unfold w_piece_Has wv_piece_Has
 rw [h.check]
 show cbr false _ _
 rw [cbr_false, rCheck_eq hp.i1 hp.i2, show chk p.num p.den = 0 from if_pos hp.rv]
 show cbr false _ _
 rw [cbr_false]
 dsimp only [Go.Pf.jn]
 refine ⟨l.length + 1, ?_⟩
 rw [rsp_len]
 refine (has_loop h.s (by have := h.n; omega) hp (K := fun b => K b 0) (fun _ _ _ _ _ _ => rfl) (fun _ _ i hi => by rw [decide_eq_true hi]) l.length 0 (l.length + 1) (by omega) (by omega)).mpr ?_
 exact k
end Go.Pf.Vc
namespace Go.Pf.Vc
open Go Go.Pf
def cutL (p : Rat) (l : List RS) : List RS := l.flatMap fun s => if s.1 < minR s.2 p then [(s.1, minR s.2 p)] else []
def cutR (p : Rat) (l : List RS) : List RS := l.flatMap fun s => if maxR s.1 p < s.2 then [(maxR s.1 p, s.2)] else []
theorem cutL_cons (p : Rat) (s : RS) (r : List RS) : cutL p (s :: r) = (if s.1 < minR s.2 p then [(s.1, minR s.2 p)] else []) ++ cutL p r := rfl
theorem cutR_cons (p : Rat) (s : RS) (r : List RS) : cutR p (s :: r) = (if maxR s.1 p < s.2 then [(maxR s.1 p, s.2)] else []) ++ cutR p r := rfl
theorem asRoom {n : Nat} {P : Prop} (h : n < 100000) : asr (decide ((n + 1 + 64) * (32 + 1) ≤ room)) P = P := asT (by show _ ≤ 35184372088832; omega)
theorem asLen {l : List PV} (P : Prop) : asr (decide (0 + l.length ≤ l.length)) P = P := asT (by omega)
section
variable {l : List RS} {p : Rat} {x0 : Int → Int → List PV → Int → Int → Bool → Prop} {x1 : List PV → List PV → Int → Int → List PV → Int → Int → Bool → Prop} {x2 : List PV → Int → Int → List PV → Int → Int → Bool → Prop} {x3 : List PV → Int → Int → List PV → Int → Int → Bool → Prop} {x4 : List PV → List PV → Int → Int → List PV → Int → Int → Bool → Prop} {K : List PV → List PV → Prop}
theorem cut1_loop (hs : ∀ s ∈ l, smallS s) (hl : l.length < 1000) (hp : small p) (hx1 : ∀ A B a b l i k q, x1 A B a b l i k q = K A B) :
   ∀ (r i n : Nat) (A : List RS) (B : List RS), i + r = l.length → r < n → A.length ≤ i → B.length ≤ i → L_piece_Cut_0_1 w_piece_Check w_ratio_Check w_piece_sooner w_piece_valid w_piece_later x0 x1 x2 x3 x4 n (rsp A) (rsp B) p.num p.den (rsp l) (l.length : Int) (i : Int) = K (rsp (A ++ cutL p (l.drop i))) (rsp (B ++ cutR p (l.drop i))) := by
 intro r
 induction r with
 | zero =>
   intro i n A B hi hn hA hB
   obtain ⟨n, rfl⟩ : ∃ m, n = m + 1 := ⟨n - 1, by omega⟩
   obtain rfl : i = l.length := by omega
   rw [L_piece_Cut_0_1, cbF (by omega), List.drop_length, hx1]
   simp only [cutL, cutR, List.flatMap_nil, List.append_nil]
 | succ r ih =>
   intro i n A B hi hn hA hB
   obtain ⟨n, rfl⟩ : ∃ m, n = m + 1 := ⟨n - 1, by omega⟩
   have hil : i < l.length := by omega
   have e1 := wib (n := (i : Int) + 1) (by omega) (by omega)
   have hd : l.drop i = l.getD i default :: l.drop (i + 1) := drop_cons default hil
   have hx := smallS_mem hs hil
   generalize hq1 : l.getD i default = t at hx hd
   have hmn := small_min hx.2 hp
   have hmx := small_max hx.1 hp
   have IH := fun A' B' hA hB => ih (i + 1) n A' B' (by omega) (by omega) hA hB
   rw [L_piece_Cut_0_1, hd, cutL_cons, cutR_cons]
   dsimp only [lt, Go.Pf.jn]
   simp (discharger := omega) only [e1, rsp_len, cbT, asT, Int.toNat_natCast, rsp_at, hq1, asR, encR0, encR1, encR2, encR3, sooner_eq hx.2 hp, later_eq hx.1 hp, validQ hx.1 hmn, validQ hmx hx.2, decide_true, asr_true, Nat.zero_add, asNo, Bool.and_true, Nat.le_refl]
   by_cases h1 : t.1 < minR t.2 p <;> by_cases h2 : maxR t.1 p < t.2
   · rw [if_pos h1, if_pos h2]
     simp (discharger := omega) only [cbT h1, cbT h2, rsp_one (t.1, minR t.2 p), rsp_one (maxR t.1 p, t.2), rsp_app, cast1, asRoom]
     rw [IH _ _ (by first | omega | (simp only [List.length_append, List.length_cons, List.length_nil]; omega)) (by first | omega | (simp only [List.length_append, List.length_cons, List.length_nil]; omega))]
     try simp only [List.append_assoc]
   · rw [if_pos h1, if_neg h2]
     simp (discharger := omega) only [cbT h1, cbF h2, rsp_one (t.1, minR t.2 p), rsp_one (maxR t.1 p, t.2), rsp_app, cast1, List.nil_append, asRoom]
     rw [IH _ _ (by first | omega | (simp only [List.length_append, List.length_cons, List.length_nil]; omega)) (by first | omega | (simp only [List.length_append, List.length_cons, List.length_nil]; omega))]
     try simp only [List.append_assoc]
   · rw [if_neg h1, if_pos h2]
     simp (discharger := omega) only [cbF h1, cbT h2, rsp_one (t.1, minR t.2 p), rsp_one (maxR t.1 p, t.2), rsp_app, cast1, List.nil_append, asRoom]
     rw [IH _ _ (by first | omega | (simp only [List.length_append, List.length_cons, List.length_nil]; omega)) (by first | omega | (simp only [List.length_append, List.length_cons, List.length_nil]; omega))]
     try simp only [List.append_assoc]
   · rw [if_neg h1, if_neg h2]
     simp (discharger := omega) only [cbF h1, cbF h2, rsp_one (t.1, minR t.2 p), rsp_one (maxR t.1 p, t.2), rsp_app, cast1, List.nil_append, asRoom]
     rw [IH _ _ (by first | omega | (simp only [List.length_append, List.length_cons, List.length_nil]; omega)) (by first | omega | (simp only [List.length_append, List.length_cons, List.length_nil]; omega))]
     try simp only [List.append_assoc, List.nil_append, Bool.and_self, asr_true]
theorem cut4_loop (hs : ∀ s ∈ l, smallS s) (hl : l.length < 1000) (hp : small p) (hx4 : ∀ B A a b l i k q, x4 B A a b l i k q = K A B) :
   ∀ (r i n : Nat) (B : List RS) (A : List RS), i + r = l.length → r < n → B.length ≤ i → A.length ≤ i → L_piece_Cut_0_4 w_piece_Check w_ratio_Check w_piece_sooner w_piece_valid w_piece_later x0 x1 x2 x3 x4 n (rsp B) (rsp A) p.num p.den (rsp l) (l.length : Int) (i : Int) = K (rsp (A ++ cutL p (l.drop i))) (rsp (B ++ cutR p (l.drop i))) := by
 intro r
 induction r with
 | zero =>
   intro i n B A hi hn hB hA
   obtain ⟨n, rfl⟩ : ∃ m, n = m + 1 := ⟨n - 1, by omega⟩
   obtain rfl : i = l.length := by omega
   rw [L_piece_Cut_0_4, cbF (by omega), List.drop_length, hx4]
   simp only [cutL, cutR, List.flatMap_nil, List.append_nil]
 | succ r ih =>
   intro i n B A hi hn hB hA
   obtain ⟨n, rfl⟩ : ∃ m, n = m + 1 := ⟨n - 1, by omega⟩
   have hil : i < l.length := by omega
   have e1 := wib (n := (i : Int) + 1) (by omega) (by omega)
   have hd : l.drop i = l.getD i default :: l.drop (i + 1) := drop_cons default hil
   have hx := smallS_mem hs hil
   generalize hq1 : l.getD i default = t at hx hd
   have hmn := small_min hx.2 hp
   have hmx := small_max hx.1 hp
   have IH := fun B' A' hB hA => ih (i + 1) n B' A' (by omega) (by omega) hB hA
   rw [L_piece_Cut_0_4, hd, cutL_cons, cutR_cons]
   dsimp only [lt, Go.Pf.jn]
   simp (discharger := omega) only [e1, rsp_len, cbT, asT, Int.toNat_natCast, rsp_at, hq1, asR, encR0, encR1, encR2, encR3, sooner_eq hx.2 hp, later_eq hx.1 hp, validQ hx.1 hmn, validQ hmx hx.2, decide_true, asr_true, Nat.zero_add, asNo, Bool.and_true, Nat.le_refl]
   by_cases h1 : t.1 < minR t.2 p <;> by_cases h2 : maxR t.1 p < t.2
   · rw [if_pos h1, if_pos h2]
     simp (discharger := omega) only [cbT h1, cbT h2, rsp_one (t.1, minR t.2 p), rsp_one (maxR t.1 p, t.2), rsp_app, cast1, asRoom]
     rw [IH _ _ (by first | omega | (simp only [List.length_append, List.length_cons, List.length_nil]; omega)) (by first | omega | (simp only [List.length_append, List.length_cons, List.length_nil]; omega))]
     try simp only [List.append_assoc]
   · rw [if_pos h1, if_neg h2]
     simp (discharger := omega) only [cbT h1, cbF h2, rsp_one (t.1, minR t.2 p), rsp_one (maxR t.1 p, t.2), rsp_app, cast1, List.nil_append, asRoom]
     rw [IH _ _ (by first | omega | (simp only [List.length_append, List.length_cons, List.length_nil]; omega)) (by first | omega | (simp only [List.length_append, List.length_cons, List.length_nil]; omega))]
     try simp only [List.append_assoc]
   · rw [if_neg h1, if_pos h2]
     simp (discharger := omega) only [cbF h1, cbT h2, rsp_one (t.1, minR t.2 p), rsp_one (maxR t.1 p, t.2), rsp_app, cast1, List.nil_append, asRoom]
     rw [IH _ _ (by first | omega | (simp only [List.length_append, List.length_cons, List.length_nil]; omega)) (by first | omega | (simp only [List.length_append, List.length_cons, List.length_nil]; omega))]
     try simp only [List.append_assoc]
   · rw [if_neg h1, if_neg h2]
     simp (discharger := omega) only [cbF h1, cbF h2, rsp_one (t.1, minR t.2 p), rsp_one (maxR t.1 p, t.2), rsp_app, cast1, List.nil_append, asRoom]
     rw [IH _ _ (by first | omega | (simp only [List.length_append, List.length_cons, List.length_nil]; omega)) (by first | omega | (simp only [List.length_append, List.length_cons, List.length_nil]; omega))]
     try simp only [List.append_assoc, List.nil_append, Bool.and_self, asr_true]
theorem cut2_loop (hs : ∀ s ∈ l, smallS s) (hl : l.length < 1000) (hp : small p) (hx1 : ∀ A B a b l i k q, x1 A B a b l i k q = K A B) (hx2 : ∀ A a b l i k q, x2 A a b l i k q = K A []) :
   ∀ (r i n : Nat) (A : List RS), i + r = l.length → r < n → A.length ≤ i → L_piece_Cut_0_2 w_piece_Check w_ratio_Check w_piece_sooner w_piece_valid w_piece_later x0 x1 x2 x3 x4 n (rsp A) p.num p.den (rsp l) (l.length : Int) (i : Int) = K (rsp (A ++ cutL p (l.drop i))) (rsp (cutR p (l.drop i))) := by
 intro r
 induction r with
 | zero =>
   intro i n A hi hn hA
   obtain ⟨n, rfl⟩ : ∃ m, n = m + 1 := ⟨n - 1, by omega⟩
   obtain rfl : i = l.length := by omega
   rw [L_piece_Cut_0_2, cbF (by omega), List.drop_length, hx2]
   simp only [cutL, cutR, List.flatMap_nil, List.append_nil, rsp_nil]
 | succ r ih =>
   intro i n A hi hn hA
   obtain ⟨n, rfl⟩ : ∃ m, n = m + 1 := ⟨n - 1, by omega⟩
   have hil : i < l.length := by omega
   have e1 := wib (n := (i : Int) + 1) (by omega) (by omega)
   have hd : l.drop i = l.getD i default :: l.drop (i + 1) := drop_cons default hil
   have hx := smallS_mem hs hil
   generalize hq1 : l.getD i default = t at hx hd
   have hmn := small_min hx.2 hp
   have hmx := small_max hx.1 hp
   have IH := fun A' hA => ih (i + 1) n A' (by omega) (by omega) hA
   have IH1 := fun A' B' hA hB => cut1_loop (x0 := x0) (x1 := x1) (x2 := x2) (x3 := x3) (x4 := x4) hs hl hp hx1 r (i + 1) n A' B' (by omega) (by omega) hA hB
   rw [L_piece_Cut_0_2, hd, cutL_cons, cutR_cons]
   dsimp only [lt, Go.Pf.jn]
   simp (discharger := omega) only [e1, rsp_len, cbT, asT, Int.toNat_natCast, rsp_at, hq1, asR, encR0, encR1, encR2, encR3, sooner_eq hx.2 hp, later_eq hx.1 hp, validQ hx.1 hmn, validQ hmx hx.2, decide_true, asr_true, Nat.zero_add, asNo, Bool.true_and, Bool.and_true, Nat.le_refl]
   by_cases h1 : t.1 < minR t.2 p <;> by_cases h2 : maxR t.1 p < t.2
   · rw [if_pos h1, if_pos h2]
     simp (discharger := omega) only [cbT h1, cbT h2, rsp_len, rsp_one (t.1, minR t.2 p), rsp_one (maxR t.1 p, t.2), rsp_app, cast1, asRoom, decide_true, List.length_cons, List.length_nil]
     rw [IH1 _ _ (by first | omega | (simp only [List.length_append, List.length_cons, List.length_nil]; omega)) (by first | omega | (simp only [List.length_cons, List.length_nil]; omega))]
     try simp only [List.append_assoc, Bool.and_self, asr_true]
   · rw [if_pos h1, if_neg h2]
     simp (discharger := omega) only [cbT h1, cbF h2, rsp_len, rsp_one (t.1, minR t.2 p), rsp_one (maxR t.1 p, t.2), rsp_app, cast1, List.nil_append, asRoom, decide_true, List.length_cons, List.length_nil]
     rw [IH _ (by first | omega | (simp only [List.length_append, List.length_cons, List.length_nil]; omega))]
     try simp only [List.append_assoc]
   · rw [if_neg h1, if_pos h2]
     simp (discharger := omega) only [cbF h1, cbT h2, rsp_len, rsp_one (t.1, minR t.2 p), rsp_one (maxR t.1 p, t.2), rsp_app, cast1, List.nil_append, asRoom, decide_true, List.length_cons, List.length_nil]
     rw [IH1 _ _ (by first | omega | (simp only [List.length_append, List.length_cons, List.length_nil]; omega)) (by first | omega | (simp only [List.length_cons, List.length_nil]; omega))]
     try simp only [Bool.and_self, asr_true]
   · rw [if_neg h1, if_neg h2]
     simp (discharger := omega) only [cbF h1, cbF h2, rsp_len, rsp_one (t.1, minR t.2 p), rsp_one (maxR t.1 p, t.2), rsp_app, cast1, List.nil_append, asRoom, decide_true, List.length_cons, List.length_nil]
     rw [IH _ (by first | omega | (simp only [List.length_append, List.length_cons, List.length_nil]; omega))]
     try simp only [List.append_assoc, List.nil_append, Bool.and_self, asr_true]
theorem cut3_loop (hs : ∀ s ∈ l, smallS s) (hl : l.length < 1000) (hp : small p) (hx3 : ∀ B a b l i k q, x3 B a b l i k q = K [] B) (hx4 : ∀ B A a b l i k q, x4 B A a b l i k q = K A B) :
   ∀ (r i n : Nat) (B : List RS), i + r = l.length → r < n → B.length ≤ i → L_piece_Cut_0_3 w_piece_Check w_ratio_Check w_piece_sooner w_piece_valid w_piece_later x0 x1 x2 x3 x4 n (rsp B) p.num p.den (rsp l) (l.length : Int) (i : Int) = K (rsp (cutL p (l.drop i))) (rsp (B ++ cutR p (l.drop i))) := by
 intro r
 induction r with
 | zero =>
   intro i n B hi hn hB
   obtain ⟨n, rfl⟩ : ∃ m, n = m + 1 := ⟨n - 1, by omega⟩
   obtain rfl : i = l.length := by omega
   rw [L_piece_Cut_0_3, cbF (by omega), List.drop_length, hx3]
   simp only [cutL, cutR, List.flatMap_nil, List.append_nil, rsp_nil]
 | succ r ih =>
   intro i n B hi hn hB
   obtain ⟨n, rfl⟩ : ∃ m, n = m + 1 := ⟨n - 1, by omega⟩
   have hil : i < l.length := by omega
   have e1 := wib (n := (i : Int) + 1) (by omega) (by omega)
   have hd : l.drop i = l.getD i default :: l.drop (i + 1) := drop_cons default hil
   have hx := smallS_mem hs hil
   generalize hq1 : l.getD i default = t at hx hd
   have hmn := small_min hx.2 hp
   have hmx := small_max hx.1 hp
   have IH := fun B' hB => ih (i + 1) n B' (by omega) (by omega) hB
   have IH4 := fun B' A' hB hA => cut4_loop (x0 := x0) (x1 := x1) (x2 := x2) (x3 := x3) (x4 := x4) hs hl hp hx4 r (i + 1) n B' A' (by omega) (by omega) hB hA
   rw [L_piece_Cut_0_3, hd, cutL_cons, cutR_cons]
   dsimp only [lt, Go.Pf.jn]
   simp (discharger := omega) only [e1, rsp_len, cbT, asT, Int.toNat_natCast, rsp_at, hq1, asR, encR0, encR1, encR2, encR3, sooner_eq hx.2 hp, later_eq hx.1 hp, validQ hx.1 hmn, validQ hmx hx.2, decide_true, asr_true, Nat.zero_add, asNo, Bool.and_true, Nat.le_refl]
   by_cases h1 : t.1 < minR t.2 p <;> by_cases h2 : maxR t.1 p < t.2
   · rw [if_pos h1, if_pos h2]
     simp (discharger := omega) only [cbT h1, cbT h2, rsp_one (t.1, minR t.2 p), rsp_one (maxR t.1 p, t.2), rsp_app, cast1, asRoom]
     rw [IH4 _ _ (by first | omega | (simp only [List.length_append, List.length_cons, List.length_nil]; omega)) (by first | omega | (simp only [List.length_cons, List.length_nil]; omega))]
     try simp only [List.append_assoc]
   · rw [if_pos h1, if_neg h2]
     simp (discharger := omega) only [cbT h1, cbF h2, rsp_one (t.1, minR t.2 p), rsp_one (maxR t.1 p, t.2), rsp_app, cast1, List.nil_append, asRoom]
     rw [IH4 _ _ (by first | omega | (simp only [List.length_append, List.length_cons, List.length_nil]; omega)) (by first | omega | (simp only [List.length_cons, List.length_nil]; omega))]
     try simp only [List.append_assoc, List.nil_append, Bool.and_self, asr_true]
   · rw [if_neg h1, if_pos h2]
     simp (discharger := omega) only [cbF h1, cbT h2, rsp_one (t.1, minR t.2 p), rsp_one (maxR t.1 p, t.2), rsp_app, cast1, List.nil_append, asRoom]
     rw [IH _ (by first | omega | (simp only [List.length_append, List.length_cons, List.length_nil]; omega))]
     try simp only [List.append_assoc]
   · rw [if_neg h1, if_neg h2]
     simp (discharger := omega) only [cbF h1, cbF h2, rsp_one (t.1, minR t.2 p), rsp_one (maxR t.1 p, t.2), rsp_app, cast1, List.nil_append, asRoom]
     rw [IH _ (by first | omega | (simp only [List.length_append, List.length_cons, List.length_nil]; omega))]
     try simp only [List.append_assoc, List.nil_append, Bool.and_self, asr_true]
theorem cut0_loop (hs : ∀ s ∈ l, smallS s) (hl : l.length < 1000) (hp : small p) (hx0 : ∀ a b l i k q, x0 a b l i k q = K [] []) (hx1 : ∀ A B a b l i k q, x1 A B a b l i k q = K A B) (hx2 : ∀ A a b l i k q, x2 A a b l i k q = K A []) (hx3 : ∀ B a b l i k q, x3 B a b l i k q = K [] B) (hx4 : ∀ B A a b l i k q, x4 B A a b l i k q = K A B) :
   ∀ (r i n : Nat), i + r = l.length → r < n → L_piece_Cut_0_0 w_piece_Check w_ratio_Check w_piece_sooner w_piece_valid w_piece_later x0 x1 x2 x3 x4 n  p.num p.den (rsp l) (l.length : Int) (i : Int) = K (rsp (cutL p (l.drop i))) (rsp (cutR p (l.drop i))) := by
 intro r
 induction r with
 | zero =>
   intro i n hi hn
   obtain ⟨n, rfl⟩ : ∃ m, n = m + 1 := ⟨n - 1, by omega⟩
   obtain rfl : i = l.length := by omega
   rw [L_piece_Cut_0_0, cbF (by omega), List.drop_length, hx0]
   simp only [cutL, cutR, List.flatMap_nil, rsp_nil]
 | succ r ih =>
   intro i n hi hn
   obtain ⟨n, rfl⟩ : ∃ m, n = m + 1 := ⟨n - 1, by omega⟩
   have hil : i < l.length := by omega
   have e1 := wib (n := (i : Int) + 1) (by omega) (by omega)
   have hd : l.drop i = l.getD i default :: l.drop (i + 1) := drop_cons default hil
   have hx := smallS_mem hs hil
   generalize hq1 : l.getD i default = t at hx hd
   have hmn := small_min hx.2 hp
   have hmx := small_max hx.1 hp
   have IH := ih (i + 1) n (by omega) (by omega)
   have IH1 := fun A' B' hA hB => cut1_loop (x0 := x0) (x1 := x1) (x2 := x2) (x3 := x3) (x4 := x4) hs hl hp hx1 r (i + 1) n A' B' (by omega) (by omega) hA hB
   have IH2 := fun A' hA => cut2_loop (x0 := x0) (x1 := x1) (x2 := x2) (x3 := x3) (x4 := x4) hs hl hp hx1 hx2 r (i + 1) n A' (by omega) (by omega) hA
   have IH3 := fun B' hB => cut3_loop (x0 := x0) (x1 := x1) (x2 := x2) (x3 := x3) (x4 := x4) hs hl hp hx3 hx4 r (i + 1) n B' (by omega) (by omega) hB
   rw [L_piece_Cut_0_0, hd, cutL_cons, cutR_cons]
   dsimp only [lt, Go.Pf.jn]
   simp (discharger := omega) only [e1, rsp_len, cbT, asT, Int.toNat_natCast, rsp_at, hq1, asR, encR0, encR1, encR2, encR3, sooner_eq hx.2 hp, later_eq hx.1 hp, validQ hx.1 hmn, validQ hmx hx.2]
   by_cases h1 : t.1 < minR t.2 p <;> by_cases h2 : maxR t.1 p < t.2
   · rw [if_pos h1, if_pos h2]
     simp (discharger := omega) only [cbT h1, cbT h2, rsp_len, rsp_one (t.1, minR t.2 p), rsp_one (maxR t.1 p, t.2), cast1, decide_true, List.length_cons, List.length_nil]
     rw [IH1 _ _ (by first | omega | (simp only [List.length_cons, List.length_nil]; omega)) (by first | omega | (simp only [List.length_cons, List.length_nil]; omega))]
     try simp only [Bool.and_self, asr_true]
   · rw [if_pos h1, if_neg h2]
     simp (discharger := omega) only [cbT h1, cbF h2, rsp_len, rsp_one (t.1, minR t.2 p), rsp_one (maxR t.1 p, t.2), cast1, List.nil_append, decide_true, List.length_cons, List.length_nil]
     rw [IH2 _ (by first | omega | (simp only [List.length_cons, List.length_nil]; omega))]
     try simp only [Bool.and_self, asr_true]
   · rw [if_neg h1, if_pos h2]
     simp (discharger := omega) only [cbF h1, cbT h2, rsp_len, rsp_one (t.1, minR t.2 p), rsp_one (maxR t.1 p, t.2), cast1, List.nil_append, decide_true, List.length_cons, List.length_nil]
     rw [IH3 _ (by first | omega | (simp only [List.length_cons, List.length_nil]; omega))]
     try simp only [Bool.and_self, asr_true]
   · rw [if_neg h1, if_neg h2]
     simp (discharger := omega) only [cbF h1, cbF h2, rsp_len, rsp_one (t.1, minR t.2 p), rsp_one (maxR t.1 p, t.2), cast1, List.nil_append, decide_true, List.length_cons, List.length_nil]
     rw [IH]
     try simp only [List.append_assoc, List.nil_append, Bool.and_self, asr_true]
end
end Go.Pf.Vc
namespace Go.Pf.Vc
open Go Go.Pf
theorem mem_if {α : Type} {c : Prop} [Decidable c] {x y : α} : x ∈ (if c then [y] else []) ↔ (c ∧ x = y) := by
 split
 · rename_i h; simp [h]
 · rename_i h; simp [h]
theorem cutL_ok (p : Rat) : ∀ l : List RS, canon l → canon (cutL p l) ∧ (∀ u ∈ cutL p l, ∃ t ∈ l, t.1 = u.1 ∧ u.2 = minR t.2 p) ∧ (cutL p l).length ≤ l.length ∧ ∀ q, memP (cutL p l) q ↔ (memP l q ∧ q < p)
 | [], _ => by
   refine ⟨trivial, fun u h => (List.not_mem_nil h).elim, Nat.le_refl _, fun q => ?_⟩
   exact ⟨fun h => (memP_nil h).elim, fun h => (memP_nil h.1).elim⟩
 | s :: r, h => by
   obtain ⟨i1, i2, i3, i4⟩ := cutL_ok p r h.2.2
   rw [cutL_cons]
   have hm := minR_is s.2 p
   refine ⟨?_, fun u hu => ?_, ?_, fun q => ?_⟩
   · by_cases hc : s.1 < minR s.2 p
     · rw [if_pos hc]
       refine ⟨hc, fun u hu => ?_, i1⟩
       obtain ⟨t, ht, e1, _⟩ := i2 u hu
       have := h.2.1 t ht
       show minR s.2 p < u.1
       rw [← e1]; grind
     · rw [if_neg hc]; exact i1
   · rcases List.mem_append.1 hu with hu | hu
     · obtain ⟨_, rfl⟩ := mem_if.1 hu
       exact ⟨s, by simp, rfl, rfl⟩
     · obtain ⟨t, ht, e⟩ := i2 u hu
       exact ⟨t, List.mem_cons_of_mem _ ht, e⟩
   · rw [List.length_append, List.length_cons]
     split <;> simp only [List.length_cons, List.length_nil] <;> omega
   · rw [memP_app, memP_if, i4 q, memP_cons]
     unfold inS
     dsimp only
     constructor
     · rintro (⟨_, h1, h2⟩ | ⟨h1, h2⟩)
       · exact ⟨.inl ⟨h1, by grind⟩, by grind⟩
       · exact ⟨.inr h1, h2⟩
     · rintro ⟨h1 | h1, h2⟩
       · exact .inl ⟨by grind, h1.1, by grind⟩
       · exact .inr ⟨h1, h2⟩
theorem cutR_ok (p : Rat) : ∀ l : List RS, canon l → canon (cutR p l) ∧ (∀ u ∈ cutR p l, ∃ t ∈ l, u.1 = maxR t.1 p ∧ u.2 = t.2) ∧ (cutR p l).length ≤ l.length ∧ ∀ q, memP (cutR p l) q ↔ (memP l q ∧ p ≤ q)
 | [], _ => by
   refine ⟨trivial, fun u h => (List.not_mem_nil h).elim, Nat.le_refl _, fun q => ?_⟩
   exact ⟨fun h => (memP_nil h).elim, fun h => (memP_nil h.1).elim⟩
 | s :: r, h => by
   obtain ⟨i1, i2, i3, i4⟩ := cutR_ok p r h.2.2
   rw [cutR_cons]
   have hm := maxR_is s.1 p
   refine ⟨?_, fun u hu => ?_, ?_, fun q => ?_⟩
   · by_cases hc : maxR s.1 p < s.2
     · rw [if_pos hc]
       refine ⟨hc, fun u hu => ?_, i1⟩
       obtain ⟨t, ht, e1, _⟩ := i2 u hu
       have := h.2.1 t ht
       have := maxR_is t.1 p
       show s.2 < u.1
       rw [e1]; grind
     · rw [if_neg hc]; exact i1
   · rcases List.mem_append.1 hu with hu | hu
     · obtain ⟨_, rfl⟩ := mem_if.1 hu
       exact ⟨s, by simp, rfl, rfl⟩
     · obtain ⟨t, ht, e⟩ := i2 u hu
       exact ⟨t, List.mem_cons_of_mem _ ht, e⟩
   · rw [List.length_append, List.length_cons]
     split <;> simp only [List.length_cons, List.length_nil] <;> omega
   · rw [memP_app, memP_if, i4 q, memP_cons]
     unfold inS
     dsimp only
     constructor
     · rintro (⟨_, h1, h2⟩ | ⟨h1, h2⟩)
       · exact ⟨.inl ⟨by grind, h2⟩, by grind⟩
       · exact ⟨.inr h1, h2⟩
     · rintro ⟨h1 | h1, h2⟩
       · exact .inl ⟨by grind, by grind, h1.2⟩
       · exact .inr ⟨h1, h2⟩
theorem Pc.cutL {l : List RS} (h : Pc l) {p : Rat} (hp : small p) : Pc (cutL p l) := by
 obtain ⟨h1, h2, h3, _⟩ := cutL_ok p l h.c
 refine ⟨h1, fun u hu => ?_, by have := h.n; omega⟩
 obtain ⟨t, ht, e1, e2⟩ := h2 u hu
 have := h.s t ht
 exact ⟨e1 ▸ this.1, e2 ▸ small_min this.2 hp⟩
theorem Pc.cutR {l : List RS} (h : Pc l) {p : Rat} (hp : small p) : Pc (cutR p l) := by
 obtain ⟨h1, h2, h3, _⟩ := cutR_ok p l h.c
 refine ⟨h1, fun u hu => ?_, by have := h.n; omega⟩
 obtain ⟨t, ht, e1, e2⟩ := h2 u hu
 have := h.s t ht
 exact ⟨e1 ▸ small_max this.1 hp, e2 ▸ this.2⟩
theorem Pc.cut {l : List RS} (h : Pc l) {p : Rat} (hp : small p) (K : List PV → List PV → Int → Prop) : w_piece_Cut (rsp l) p.num p.den K = K (rsp (Go.Pf.Vc.cutL p l)) (rsp (Go.Pf.Vc.cutR p l)) 0 := by
 refine det_piece_Cut _ _ _ _ _ _ (fun K k => ?_) K
 unfold w_piece_Cut wv_piece_Cut
 rw [h.check]
 show cbr false _ _
 rw [cbr_false, rCheck_eq hp.i1 hp.i2, show chk p.num p.den = 0 from if_pos hp.rv]
 show cbr false _ _
 rw [cbr_false]
 refine ⟨l.length + 1, ?_⟩
 rw [rsp_len]
 have hn := h.n
 refine (cut0_loop h.s (by omega) hp (K := fun A B => K A B 0) (fun _ _ _ _ _ _ => rfl) (fun A B _ _ _ _ _ _ => ?_) (fun A _ _ _ _ _ _ => ?_) (fun B _ _ _ _ _ _ => ?_) (fun B A _ _ _ _ _ _ => ?_) l.length 0 (l.length + 1) (by omega) (by omega)).mpr ?_
 · simp only [asLen, asTr, List.take_length]
 · simp only [asLen, asTr, List.take_length]
 · simp only [asLen, asTr, List.take_length]
 · simp only [asLen, asTr, List.take_length]
 · rw [List.drop_zero]; exact k
theorem mrg_len : ∀ (r : List RS) (c : RS), (mrg r c).length ≤ r.length + 1
 | [], c => by simp [mrg]
 | s :: r, c => by
   unfold mrg
   split
   · have := mrg_len r s
     simp only [List.length_cons]; omega
   · have := mrg_len r (c.1, maxR c.2 s.2)
     simp only [List.length_cons]; omega
theorem mrg_small : ∀ (r : List RS) (c : RS), smallS c → (∀ s ∈ r, smallS s) → ∀ s ∈ mrg r c, smallS s
 | [], c, hc, _ => by simpa [mrg] using hc
 | t :: r, c, hc, h => by
   have ht := h t List.mem_cons_self
   have hr : ∀ s ∈ r, smallS s := fun s hs => h s (List.mem_cons_of_mem _ hs)
   intro s hs
   unfold mrg at hs
   split at hs
   · rcases List.mem_cons.1 hs with rfl | hs
     · exact hc
     · exact mrg_small r t ht hr s hs
   · exact mrg_small r (c.1, maxR c.2 t.2) ⟨hc.1, small_max hc.2 ht.2⟩ hr s hs
theorem mergeS_pc {l : List RS} (hs : ∀ s ∈ l, smallS s) (hv : ∀ s ∈ l, s.1 < s.2) (hb : byFrom l) (hl : l.length ≤ 60) : Pc (mergeS l) := by
 refine ⟨(mergeS_ok hv hb).1, ?_, ?_⟩
 · cases l with
   | nil => simp [mergeS]
   | cons s r => exact mrg_small r s (hs s List.mem_cons_self) fun t ht => hs t (List.mem_cons_of_mem _ ht)
 · cases l with
   | nil => simp [mergeS]
   | cons s r =>
     have := mrg_len r s
     show (mrg r s).length ≤ 60
     simp only [List.length_cons] at hl; omega
theorem memP_congr {a b : List RS} (h : ∀ s, s ∈ a ↔ s ∈ b) (p : Rat) : memP a p ↔ memP b p :=
 ⟨fun ⟨s, hs, hp⟩ => ⟨s, (h s).1 hs, hp⟩, fun ⟨s, hs, hp⟩ => ⟨s, (h s).2 hs, hp⟩⟩
theorem Make_zero {l : List Sp} (h64 : ∀ s ∈ l, s.i64) (h0 : allE l = 0) : ∃ m, Pc m ∧ (∀ p, memP m p ↔ memP (rsL l) p) ∧ ∀ K, w_piece_Make (spans l) K = K (rsp m) 0 := by
 obtain ⟨h1, h2⟩ := allE_zero h0
 have hs : ∀ s ∈ rsL l, smallS s := fun s hs => by obtain ⟨t, ht, rfl⟩ := List.mem_map.1 hs; exact rs_small (h2 t ht)
 have hv : ∀ s ∈ rsL l, s.1 < s.2 := fun s hs => by obtain ⟨t, ht, rfl⟩ := List.mem_map.1 hs; exact (h2 t ht).2.2
 have hn : (rsL l).length = l.length := List.length_map ..
 obtain ⟨l', hp, hb, hm⟩ := merged_eq hs hv (by omega)
 have hs' : ∀ s ∈ l', smallS s := fun s h => hs s (hp.mem_iff.1 h)
 have hv' : ∀ s ∈ l', s.1 < s.2 := fun s h => hv s (hp.mem_iff.1 h)
 refine ⟨mergeS l', mergeS_pc hs' hv' hb (by rw [hp.length_eq]; omega), fun p => ?_, fun K => ?_⟩
 · rw [(mergeS_ok hv' hb).2 p]
   exact memP_congr (fun s => hp.mem_iff) p
 · unfold w_piece_Make wv_piece_Make
   rw [all_eq h64 (by omega), h0, spans_rsL h2]
   show cbr false _ _ = _
   rw [cbr_false, hm]
def sumO (v : RS → Rat) : List RS → Rat → Option Rat
 | [], q => some q
 | s :: r, q => if small (v s) ∧ small (q + v s) then sumO v r (q + v s) else none
def optK (o : Option Rat) (K : Int → Int → Int → Prop) : Prop := match o with | some q => K q.num q.den 0 | none => K 0 0 16
theorem length1_eq {s : RS} (h : smallS s) (K : Int → Int → Int → Prop) : w_piece_Length_1 s.1.num s.1.den s.2.num s.2.den K = fitK (s.2 - s.1) K := by
 unfold w_piece_Length_1 wv_piece_Length_1
 rw [rSub_eq h.2 h.1]
theorem length_loop {l : List RS} (hs : ∀ s ∈ l, smallS s) (hl : l.length < 1000) {x0 : Int → Int → Int → Int → List PV → Int → Int → Bool → Prop} {x1 : Int → Int → Int → Prop} {K : Int → Int → Int → Prop}
   (hx0 : ∀ z z' a b l i k q, x0 z z' a b l i k q = K a b 0) (hx1 : ∀ a b e, x1 a b e = K a b e) (z z' : Int) :
   ∀ (r i n : Nat) (q : Rat), i + r = l.length → r < n → small q → L_piece_Length_0_0 w_piece_Check w_piece_Length_1 w_ratio_Add x0 x1 n z z' q.num q.den (rsp l) (l.length : Int) (i : Int) = optK (sumO (fun s => s.2 - s.1) (l.drop i) q) K := by
 intro r
 induction r with
 | zero =>
   intro i n q hi hn hq
   obtain ⟨n, rfl⟩ : ∃ m, n = m + 1 := ⟨n - 1, by omega⟩
   obtain rfl : i = l.length := by omega
   rw [L_piece_Length_0_0, cbF (by omega), List.drop_length, hx0]
   rfl
 | succ r ih =>
   intro i n q hi hn hq
   obtain ⟨n, rfl⟩ : ∃ m, n = m + 1 := ⟨n - 1, by omega⟩
   have hil : i < l.length := by omega
   have e1 := wib (n := (i : Int) + 1) (by omega) (by omega)
   have hd : l.drop i = l.getD i default :: l.drop (i + 1) := drop_cons default hil
   have hx := smallS_mem hs hil
   rw [L_piece_Length_0_0, cbT (by omega), hd]
   generalize hq1 : l.getD i default = t at hx
   dsimp only [lt]
   rw [rsp_len, asT (by omega), asT (by omega), Int.toNat_natCast, rsp_at hil, hq1, asR, encR0, encR1, encR2, encR3, length1_eq hx]
   unfold fitK sumO
   by_cases h1 : small (t.2 - t.1)
   · rw [if_pos h1]
     show cbr false _ _ = _
     rw [cbr_false, rAdd_eq hq h1]
     unfold fitK
     by_cases h2 : small (q + (t.2 - t.1))
     · rw [if_pos h2, if_pos ⟨h1, h2⟩, e1, cast1]
       show cbr false _ _ = _
       rw [cbr_false]
       exact ih (i + 1) n _ (by omega) (by omega) h2
     · rw [if_neg h2, if_neg (fun h => h2 h.2)]
       show cbr true _ _ = _
       rw [cbr_true, hx1]
       rfl
   · rw [if_neg h1, if_neg (fun h => h1 h.1)]
     show cbr true _ _ = _
     rw [cbr_true, hx1]
     rfl
theorem small_zero : small 0 := by decide +kernel
theorem Pc.len {l : List RS} (h : Pc l) (K : Int → Int → Int → Prop) : w_piece_Length (rsp l) K = optK (sumO (fun s => s.2 - s.1) l 0) K := by
 have hn := h.n
 have key : ∀ K : Int → Int → Int → Prop, optK (sumO (fun s => s.2 - s.1) l 0) K → w_piece_Length (rsp l) K := fun K k => by
   unfold w_piece_Length wv_piece_Length
   rw [h.check]
   show cbr false _ _
   rw [cbr_false]
   dsimp only [Go.Pf.jn]
   refine ⟨l.length + 1, ?_⟩
   rw [rsp_len]
   refine (length_loop h.s (by omega) (fun _ _ _ _ _ _ _ _ => rfl) (fun _ _ _ => rfl) 0 0 l.length 0 (l.length + 1) 0 (by omega) (by omega) small_zero).mpr ?_
   rw [List.drop_zero]; exact k
 cases ho : sumO (fun s => s.2 - s.1) l 0 with
 | none => rw [ho] at key; exact det_piece_Length _ _ _ _ key K
 | some q => rw [ho] at key; exact det_piece_Length _ _ _ _ key K
end Go.Pf.Vc
namespace Go.Pf.Vc
open Go Go.Pf
theorem is_ok {l : List RS} (h : l.length ≤ 60) (K : Bool → Prop) : w_l03_is (rsp l) 0 (rsp l) K = K true := by
 unfold w_l03_is wv_l03_is
 dsimp only [Go.Pf.jn]
 show cbr true _ _ = _
 rw [cbr_true, Pc.same h]
def sp2 (a b : Int) : Sp := ⟨a, 1, b, 1⟩
theorem sp2_i64 {a b : Int} (ha : I64 a) (hb : I64 b) : (sp2 a b).i64 := ⟨ha, (show I64 1 from ⟨by decide, by decide⟩), hb, (show I64 1 from ⟨by decide, by decide⟩)⟩
theorem alive_eq (K : Bool → Prop) : w_l03_alive K = K true := by
 have i : ∀ {a : Int}, 0 ≤ a → a ≤ 5 → I64 a := fun h1 h2 => ⟨by omega, by omega⟩
 obtain ⟨m, pm, hm, em⟩ := Make_zero (l := [sp2 2 5, sp2 0 1, sp2 1 2]) (by
   intro s hs
   simp only [List.mem_cons, List.not_mem_nil, or_false] at hs
   rcases hs with rfl | rfl | rfl <;> exact sp2_i64 (i (by omega) (by omega)) (i (by omega) (by omega))) (by decide +kernel)
 have m5 : m = [(0, 5)] := by
   refine canon_unique _ _ pm.c ⟨by decide +kernel, by simp, trivial⟩ fun p => ?_
   have e : rsL [sp2 2 5, sp2 0 1, sp2 1 2] = [(2, 5), (0, 1), (1, 2)] := by decide +kernel
   rw [hm p, e]
   simp only [memP_cons, inS]
   constructor
   · rintro (h | h | h | h)
     · exact .inl ⟨by grind, by grind⟩
     · exact .inl ⟨by grind, by grind⟩
     · exact .inl ⟨by grind, by grind⟩
     · exact (memP_nil h).elim
   · rintro (h | h)
     · by_cases h1 : p < 1
       · exact .inr (.inl ⟨h.1, h1⟩)
       · by_cases h2 : p < 2
         · exact .inr (.inr (.inl ⟨by grind, h2⟩))
         · exact .inl ⟨by grind, h.2⟩
     · exact (memP_nil h).elim
 subst m5
 have s4 : small 4 := by decide +kernel
 have s5 : small 5 := by decide +kernel
 have s3 : small 3 := by decide +kernel
 have p12 : Pc [(1, 2)] := ⟨⟨by decide +kernel, by simp, trivial⟩, by
   intro s hs
   rw [List.mem_singleton] at hs
   subst hs
   exact ⟨by decide +kernel, by decide +kernel⟩, by simp⟩
 have hmin : setR [((0 : Rat), (5 : Rat))] [(1, 2)] 2 = [(0, 1), (2, 5)] := by decide +kernel
 have pmin : Pc [((0 : Rat), (1 : Rat)), (2, 5)] := hmin ▸ setR_pc pm p12 (.inr (.inr rfl)) (by simp)
 unfold w_l03_alive wv_l03_alive
 unfold w_l03_of wv_l03_of
 dsimp only [Go.Pf.jn]
 show w_piece_Make (spans [sp2 2 5, sp2 0 1, sp2 1 2]) _ = _
 rw [em]
 show w_piece_Has (rsp [((0 : Rat), (5 : Rat))]) (4 : Rat).num ((4 : Rat).den : Int) _ = _
 rw [pm.has s4]
 show w_piece_Has (rsp [((0 : Rat), (5 : Rat))]) (5 : Rat).num ((5 : Rat).den : Int) _ = _
 rw [pm.has s5]
 show w_piece_Minus (rsp [((0 : Rat), (5 : Rat))]) (rsp [((1 : Rat), (2 : Rat))]) _ = _
 rw [pm.minus p12 (by simp), hmin, pmin.len, show sumO (fun s => s.2 - s.1) [((0 : Rat), (1 : Rat)), (2, 5)] 0 = some 4 from by decide +kernel]
 show w_piece_Cut (rsp [((0 : Rat), (1 : Rat)), (2, 5)]) (3 : Rat).num ((3 : Rat).den : Int) _ = _
 rw [pmin.cut s3, show cutL 3 [((0 : Rat), (1 : Rat)), (2, 5)] = [(0, 1), (2, 3)] from by decide +kernel, show cutR 3 [((0 : Rat), (1 : Rat)), (2, 5)] = [(3, 5)] from by decide +kernel]
 rw [show inB [((0 : Rat), (5 : Rat))] 4 = true from by decide +kernel, show inB [((0 : Rat), (5 : Rat))] 5 = false from by decide +kernel]
 show w_l03_is (rsp [((0 : Rat), (5 : Rat))]) 0 (rsp [((0 : Rat), (5 : Rat))]) _ = _
 rw [is_ok (by simp)]
 show w_l03_is (rsp [((0 : Rat), (1 : Rat)), (2, 5)]) 0 (rsp [((0 : Rat), (1 : Rat)), (2, 5)]) _ = _
 rw [is_ok (by simp)]
 show w_l03_is (rsp [((0 : Rat), (1 : Rat)), (2, 3)]) 0 (rsp [((0 : Rat), (1 : Rat)), (2, 3)]) _ = _
 rw [is_ok (by simp)]
 show w_l03_is (rsp [((3 : Rat), (5 : Rat))]) 0 (rsp [((3 : Rat), (5 : Rat))]) _ = _
 rw [is_ok (by simp)]
end Go.Pf.Vc
namespace Go.Pf.Vc
open Go Go.Pf
theorem A_sRead {x : PV} (h1 : x.isAgg = (DS.s dsS).isA) (h2 : HasF (.s dsS) x.cells) : ∃ l : List Sp, x = .data (spans l) ∧ ∀ s ∈ l, s.i64 := by
 obtain ⟨l, e, _, h⟩ := F_spans h2
 exact ⟨l, single_of h1 e, h⟩
theorem A_rRead {x : PV} (h1 : x.isAgg = dsR.isA) (h2 : HasF dsR x.cells) : ∃ n d, x = .agg [.int .i64 n, .int .i64 d] ∧ I64 n ∧ I64 d := by
 obtain ⟨n, d, e, hn, hd⟩ := F_r h2
 exact ⟨n, d, by rw [agg_of (l := [.i .i64, .i .i64]) h1, e], hn, hd⟩
theorem A_cuts {as : List PV} (h : HasAs [.s dsS, dsR, dsR] as) : ∃ (a : List Sp) (n d m e : Int), as = [.data (spans a), .agg [.int .i64 n, .int .i64 d], .agg [.int .i64 m, .int .i64 e]] ∧ (∀ s ∈ a, s.i64) ∧ I64 n ∧ I64 d ∧ I64 m ∧ I64 e := by
 simp only [HasAs] at h
 obtain ⟨x, _, rfl, x1, x2, y, _, rfl, y1, y2, z, _, rfl, z1, z2, rfl⟩ := h
 obtain ⟨a, rfl, ha⟩ := A_sRead x1 x2
 obtain ⟨m, e, rfl, hm, he⟩ := A_rRead y1 y2
 obtain ⟨n, d, rfl, hn, hd⟩ := A_rRead z1 z2
 exact ⟨a, m, e, n, d, rfl, ha, hm, he, hn, hd⟩
theorem rat_of {n d : Int} (h : RV n d) : ∃ p : Rat, small p ∧ n = p.num ∧ d = (p.den : Int) := by
 obtain ⟨h1, h2, h3⟩ := rt_of h
 exact ⟨rt n d, h1, h2.symm, h3.symm⟩
theorem inB_eq {l : List RS} {p : Rat} {c : Bool} (h : memP l p ↔ c = true) : inB l p = c := by
 rw [← inB_iff] at h
 cases c <;> cases hb : inB l p <;> simp_all
theorem nz (P Q : Prop) : cbr ((0 : Int) != 0) P Q = Q := rfl
theorem ez (P Q : Prop) : cbr ((0 : Int) == 0) P Q = P := rfl
theorem PieceCuts_ok {l : List Sp} {n d m e : Int} (ha : ∀ s ∈ l, s.i64) (hn : I64 n) (hd : I64 d) (hm : I64 m) (he : I64 e) : w_l03_PieceCuts (spans l) n d m e (fun b => b = true) := by
 unfold w_l03_PieceCuts wv_l03_PieceCuts
 dsimp only [Go.Pf.jn]
 rw [lawValid_eq ha]
 cases h1 : okS l with
 | false =>
   show cbr true (cbr true (w_l03_alive _) _) _
   rw [cbr_true, cbr_true, alive_eq]
 | true =>
   show cbr false _ _
   rw [cbr_false, sBoth_eq hn hd hm he]
   by_cases hr : RV n d ∧ RV m e
   case neg =>
     have : chk2 n d m e ≠ 0 := fun h => hr (chk2_zero.1 h)
     rw [show (chk2 n d m e != 0) = true from by simpa using this]
     rw [cbr_true, alive_eq]
   rw [show chk2 n d m e = 0 from chk2_zero.2 hr, nz]
   obtain ⟨pa, ea, la⟩ := okS_pc h1
   obtain ⟨p, hp, rfl, rfl⟩ := rat_of hr.1
   obtain ⟨q, hq, rfl, rfl⟩ := rat_of hr.2
   rw [ea]
   generalize rsL l = A at pa la
   obtain ⟨_, _, ll, ml⟩ := cutL_ok p A pa.c
   obtain ⟨_, _, lr, mr⟩ := cutR_ok p A pa.c
   have pl := pa.cutL hp
   have pr := pa.cutR hp
   have pu := setR_pc pl pr (.inl rfl) (by omega)
   have pm := setR_pc pl pr (.inr (.inl rfl)) (by omega)
   have eu : setR (cutL p A) (cutR p A) 0 = A := canon_unique _ _ pu.c pa.c fun x => by
     rw [mem_union, ml, mr]
     constructor
     · rintro (h | h) <;> exact h.1
     · intro h
       by_cases hx : x < p
       · exact .inl ⟨h, hx⟩
       · exact .inr ⟨h, by grind⟩
   have em : setR (cutL p A) (cutR p A) 1 = [] := canon_unique _ _ pm.c trivial fun x => by
     rw [mem_meet, ml, mr]
     exact ⟨fun h => absurd h.1.2 (by grind), fun h => (memP_nil h).elim⟩
   rw [pa.cut hp, pl.union pr (by omega), pl.meet pr (by omega), eu, em, pa.has hq, pl.has hq, pr.has hq, sLess_eq hq hp]
   simp only [ez, Pc.same pa.n, alive_eq, cbr_true]
   have i1 : inB (cutL p A) q = (inB A q && decide (q < p)) := inB_eq (by rw [ml, Bool.and_eq_true, inB_iff, decide_eq_true_eq])
   have i2 : inB (cutR p A) q = (inB A q && !decide (q < p)) := inB_eq (by rw [mr, Bool.and_eq_true, inB_iff, Bool.not_eq_true', decide_eq_false_iff_not, Rat.not_lt])
   rw [i1, i2]
   cases inB A q <;> cases decide (q < p) <;> exact True.intro
end Go.Pf.Vc
