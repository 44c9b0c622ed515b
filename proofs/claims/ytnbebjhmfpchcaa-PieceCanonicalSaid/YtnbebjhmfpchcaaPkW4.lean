/- Part 4 of what the statement rests on: a verified evaluator over pure values, the conditions of the program's functions, and their plain laws. -/
import Derived.Test.YtnbebjhmfpchcaaPkW3
namespace Go.Pf.Vc
open Go Go.Pf
theorem setR_pc {a b : List RS} (ha : Pc a) (hb : Pc b) {how : Int} (h : how = 0 ∨ how = 1 ∨ how = 2) (hl : a.length + b.length ≤ 60) : Pc (setR a b how) := by
 refine ⟨?_, setR_small ha.s hb.s how, by have := setR_len a b how; omega⟩
 rcases h with rfl | rfl | rfl
 · exact (joinR_ok (c := Or) (fun x => joinR_zero) (by simp)).1
 · exact (joinR_ok (c := And) (fun x => joinR_one) (by simp)).1
 · exact (joinR_ok (c := fun x y => x ∧ ¬ y) (fun x => joinR_two) (by simp)).1
theorem mem_minus {a b : List RS} {p : Rat} : memP (setR a b 2) p ↔ (memP a p ∧ ¬ memP b p) := (joinR_ok (c := fun x y => x ∧ ¬ y) (fun x => joinR_two) (by simp)).2 p
theorem rsL_spOf {l : List RS} (h : ∀ s ∈ l, smallS s) : rsL (l.map spOf) = l := by
 induction l with
 | nil => rfl
 | cons s r ih =>
   show (spOf s).rs :: rsL (r.map spOf) = _
   rw [rs_spOf (h s List.mem_cons_self), ih fun t ht => h t (List.mem_cons_of_mem _ ht)]
theorem Pc.ok {l : List RS} (h : Pc l) : ∀ s ∈ l.map spOf, s.ok := fun s hs => by
 obtain ⟨t, ht, rfl⟩ := List.mem_map.1 hs
 exact spOf_ok (h.s t ht) (canon_lt h.c t ht)
theorem Pc.i64 {l : List RS} (h : Pc l) : ∀ s ∈ l.map spOf, s.i64 := fun s hs => by
 obtain ⟨t, ht, rfl⟩ := List.mem_map.1 hs
 have := h.s t ht
 exact ⟨this.1.i1, this.1.i2, this.2.i1, this.2.i2⟩
theorem Pc.e {l : List RS} (h : Pc l) : pieceE (l.map spOf) = 0 := by
 have hl := h.n
 have ho := h.ok
 have hc := h.c
 rw [← rsL_spOf h.s] at hc
 have h1 : allOkB (l.map spOf) = true := List.all_eq_true.2 fun s hs => decide_eq_true (ho s hs)
 have h2 : allE (l.map spOf) = 0 := by
   unfold allE
   rw [if_neg (by rw [List.length_map]; omega), h1, if_pos rfl]
 unfold pieceE
 rw [h2]
 cases l with
 | nil => rfl
 | cons s r =>
   have hg : gapB (spOf s) (r.map spOf) = true := (gap_canon _ _ (ho _ (by simp)) (fun t ht => ho t (List.mem_cons_of_mem _ ht))).2 hc
   show (if (0 : Int) = 0 then (if gapB (spOf s) (r.map spOf) then 0 else 8) else _) = _
   rw [if_pos rfl, hg, if_pos rfl]
theorem pc_of {l : List Sp} (h : pieceE l = 0) : Pc (rsL l) ∧ spans l = rsp (rsL l) ∧ l = (rsL l).map spOf := by
 obtain ⟨h1, h2, h3⟩ := pieceE_zero h
 refine ⟨⟨h3, fun s hs => by obtain ⟨t, ht, rfl⟩ := List.mem_map.1 hs; exact rs_small (h2 t ht), by unfold rsL; rw [List.length_map]; exact h1⟩, spans_rsL h2, ?_⟩
 unfold rsL
 rw [List.map_map]
 have : ∀ s ∈ l, (spOf ∘ Sp.rs) s = id s := fun s hs => spOf_rs (h2 s hs)
 rw [List.map_congr_left this, List.map_id]
theorem Pc.check {l : List RS} (h : Pc l) (K : Int → Prop) : w_piece_Check (rsp l) K = K 0 := by
 unfold rsp
 rw [pCheck_eq h.i64 (by rw [List.length_map]; have := h.n; omega), h.e]
theorem Pc.check3 {l : List RS} (h : Pc l) (K : Int → Prop) : w_r03_Check (rsp l) K = K 0 := by
 unfold rsp
 rw [rCheck3_eq h.i64 (by rw [List.length_map]; have := h.n; omega), h.e]
theorem Pc.both {a b : List RS} (ha : Pc a) (hb : Pc b) : bothE (a.map spOf) (b.map spOf) = 0 := by
 unfold bothE
 rw [ha.e, if_pos rfl, hb.e]
theorem fewR_ok {l : List RS} (h : l.length ≤ 60) (K : List PV → Int → Prop) : fewR 0 l K = K (rsp l) 0 := by
 unfold fewR
 rw [if_pos rfl, if_neg (by omega)]
theorem Pc.minus {a b : List RS} (ha : Pc a) (hb : Pc b) (hl : a.length + b.length ≤ 60) (K : List PV → Int → Prop) : w_piece_Minus (rsp a) (rsp b) K = K (rsp (setR a b 2)) 0 := by
 unfold rsp
 rw [Minus_set ha.i64 hb.i64 (by rw [List.length_map]; have := ha.n; omega) (by rw [List.length_map]; have := hb.n; omega), ha.both hb, rsL_spOf ha.s, rsL_spOf hb.s, fewR_ok (by have := setR_len a b 2; omega)]
 rfl
theorem Pc.same {a : List RS} (ha : a.length ≤ 60) (K : Bool → Prop) : w_r03_Same (rsp a) (rsp a) K = K true := by
 unfold rsp
 exact cSame_self (by rw [List.length_map]; omega) K
def okS (l : List Sp) : Bool := !greatS l && decide (pieceE l = 0)
theorem okS_pc {l : List Sp} (h : okS l = true) : Pc (rsL l) ∧ spans l = rsp (rsL l) ∧ (rsL l).length ≤ 20 := by
 unfold okS at h
 simp only [Bool.and_eq_true, Bool.not_eq_true', decide_eq_true_eq] at h
 obtain ⟨h1, h2⟩ := h
 obtain ⟨p1, p2, _⟩ := pc_of h2
 refine ⟨p1, p2, ?_⟩
 have := p1.n
 have hl : (rsL l).length = l.length := List.length_map ..
 have := (greatS_low h1).2 (by omega)
 omega
theorem lawValid_eq {l : List Sp} (h64 : ∀ s ∈ l, s.i64) (K : Bool → Prop) : w_l03_valid (spans l) K = K (okS l) := by
 unfold w_l03_valid wv_l03_valid okS
 dsimp only [Go.Pf.jn]
 rw [gGreat_eq]
 cases hg : greatS l with
 | true => rfl
 | false =>
   have := (greatS_low hg).1
   show cbr true _ _ = _
   rw [cbr_true, rCheck3_eq h64 (by omega)]
   rfl
section
theorem has_loop {l : List RS} (hs : ∀ s ∈ l, smallS s) (hl : l.length < 4611686018427387904) {p : Rat} (hp : small p) {x0 : Int → Int → List PV → Int → Int → Bool → Prop} {x1 : Int → Int → Int → Prop} {K : Bool → Prop}
   (hx0 : ∀ a b l i k q, x0 a b l i k q = K false) (hx1 : ∀ a b i, 0 ≤ i → x1 a b i = K true) :
   ∀ (r i n : Nat), i + r = l.length → r < n → L_piece_Has_0_0 w_piece_Check w_ratio_Check w_piece_order x0 x1 n p.num p.den (rsp l) (l.length : Int) (i : Int) = K (inB (l.drop i) p) := by
 intro r
 induction r with
 | zero =>
   intro i n hi hn
   obtain ⟨n, rfl⟩ : ∃ m, n = m + 1 := ⟨n - 1, by omega⟩
   obtain rfl : i = l.length := by omega
   rw [L_piece_Has_0_0, cbF (by omega), List.drop_length, hx0]
   rfl
 | succ r ih =>
   intro i n hi hn
   obtain ⟨n, rfl⟩ : ∃ m, n = m + 1 := ⟨n - 1, by omega⟩
   have hil : i < l.length := by omega
   have e1 := wib (n := (i : Int) + 1) (by omega) (by omega)
   have hd : l.drop i = l.getD i default :: l.drop (i + 1) := drop_cons default hil
   have hx := smallS_mem hs hil
   rw [L_piece_Has_0_0, cbT (by omega)]
   dsimp only [lt, Go.Pf.jn]
   rw [rsp_len, asT (by omega), asT (by omega), Int.toNat_natCast, rsp_at hil, asR, encR0, encR1, encR2, encR3, order_eq hx.1 hp, e1, cast1, cmpQ_le, hd]
   have e : inB (l.getD i default :: l.drop (i + 1)) p = ((!decide (p < (l.getD i default).1) && decide (p < (l.getD i default).2)) || inB (l.drop (i + 1)) p) := rfl
   rw [e]
   cases decide (p < (l.getD i default).1) with
   | true =>
     show cbr false _ _ = _
     rw [cbr_false, cbr_false, show (!true) = false from rfl, Bool.false_and, Bool.false_or]
     exact ih (i + 1) n (by omega) (by omega)
   | false =>
     show cbr true _ _ = _
     rw [cbr_true, show (!false) = true from rfl, Bool.true_and, order_eq hp hx.2, cmpQ_neg]
     cases decide (p < (l.getD i default).2) with
     | true =>
       rw [cbr_true, hx1 _ _ _ (by omega)]
       rfl
     | false =>
       rw [cbr_false, Bool.false_or]
       exact ih (i + 1) n (by omega) (by omega)
end
theorem Pc.has {l : List RS} (h : Pc l) {p : Rat} (hp : small p) (K : Bool → Int → Prop) : w_piece_Has (rsp l) p.num p.den K = K (inB l p) 0 := by
 refine det_piece_Has _ _ _ _ _ (fun K k => ?_) K
 unfold w_piece_Has wv_piece_Has
 rw [h.check]
 show cbr false _ _
 rw [cbr_false, rCheck_eq hp.i1 hp.i2, show chk p.num p.den = 0 from if_pos hp.rv]
 show cbr false _ _
 rw [cbr_false]
 dsimp only [Go.Pf.jn]
 refine ⟨l.length + 1, ?_⟩
 rw [rsp_len]
 refine (has_loop h.s (by have := h.n; omega) hp (K := fun b => K b 0) (fun _ _ _ _ _ _ => rfl) (fun _ _ i hi => by rw [decide_eq_true hi]) l.length 0 (l.length + 1) (by omega) (by omega)).mpr ?_
 exact k
theorem Pc.has_bad {l : List RS} (h : Pc l) {a b : Int} (ha : I64 a) (hb : I64 b) (hp : ¬ RV a b) (K : Bool → Int → Prop) : w_piece_Has (rsp l) a b K = K false 2 := by
 unfold w_piece_Has wv_piece_Has
 rw [h.check]
 show cbr false _ _ = _
 rw [cbr_false, rCheck_eq ha hb, show chk a b = 8 from if_neg hp]
 rfl
end Go.Pf.Vc
namespace Go.Pf.Vc
open Go Go.Pf
def cutL (p : Rat) (l : List RS) : List RS := l.flatMap fun s => if s.1 < minR s.2 p then [(s.1, minR s.2 p)] else []
def cutR (p : Rat) (l : List RS) : List RS := l.flatMap fun s => if maxR s.1 p < s.2 then [(maxR s.1 p, s.2)] else []
theorem cutL_cons (p : Rat) (s : RS) (r : List RS) : cutL p (s :: r) = (if s.1 < minR s.2 p then [(s.1, minR s.2 p)] else []) ++ cutL p r := rfl
theorem cutR_cons (p : Rat) (s : RS) (r : List RS) : cutR p (s :: r) = (if maxR s.1 p < s.2 then [(maxR s.1 p, s.2)] else []) ++ cutR p r := rfl
theorem asRoom {n : Nat} {P : Prop} (h : n < 100000) : asr (decide ((n + 1 + 64) * (32 + 1) ≤ room)) P = P := asT (by show _ ≤ 35184372088832; omega)
theorem asLen {l : List PV} (P : Prop) : asr (decide (0 + l.length ≤ l.length)) P = P := asT (by omega)
section
variable {l : List RS} {p : Rat} {x0 : Int → Int → List PV → Int → Int → Bool → Prop} {x1 : List PV → List PV → Int → Int → List PV → Int → Int → Bool → Prop} {x2 : List PV → Int → Int → List PV → Int → Int → Bool → Prop} {x3 : List PV → Int → Int → List PV → Int → Int → Bool → Prop} {x4 : List PV → List PV → Int → Int → List PV → Int → Int → Bool → Prop} {K : List PV → List PV → Prop}
theorem cut1_loop (hs : ∀ s ∈ l, smallS s) (hl : l.length < 1000) (hp : small p) (hx1 : ∀ A B a b l i k q, x1 A B a b l i k q = K A B) :
   ∀ (r i n : Nat) (A : List RS) (B : List RS), i + r = l.length → r < n → A.length ≤ i → B.length ≤ i → L_piece_Cut_0_1 w_piece_Check w_ratio_Check w_piece_sooner w_piece_valid w_piece_later x0 x1 x2 x3 x4 n (rsp A) (rsp B) p.num p.den (rsp l) (l.length : Int) (i : Int) = K (rsp (A ++ cutL p (l.drop i))) (rsp (B ++ cutR p (l.drop i))) := by
 intro r
 induction r with
 | zero =>
   intro i n A B hi hn hA hB
   obtain ⟨n, rfl⟩ : ∃ m, n = m + 1 := ⟨n - 1, by omega⟩
   obtain rfl : i = l.length := by omega
   rw [L_piece_Cut_0_1, cbF (by omega), List.drop_length, hx1]
   simp only [cutL, cutR, List.flatMap_nil, List.append_nil]
 | succ r ih =>
   intro i n A B hi hn hA hB
   obtain ⟨n, rfl⟩ : ∃ m, n = m + 1 := ⟨n - 1, by omega⟩
   have hil : i < l.length := by omega
   have e1 := wib (n := (i : Int) + 1) (by omega) (by omega)
   have hd : l.drop i = l.getD i default :: l.drop (i + 1) := drop_cons default hil
   have hx := smallS_mem hs hil
   generalize hq1 : l.getD i default = t at hx hd
   have hmn := small_min hx.2 hp
   have hmx := small_max hx.1 hp
   have IH := fun A' B' hA hB => ih (i + 1) n A' B' (by omega) (by omega) hA hB
   rw [L_piece_Cut_0_1, hd, cutL_cons, cutR_cons]
   dsimp only [lt, Go.Pf.jn]
   simp (discharger := omega) only [e1, rsp_len, cbT, asT, Int.toNat_natCast, rsp_at, hq1, asR, encR0, encR1, encR2, encR3, sooner_eq hx.2 hp, later_eq hx.1 hp, validQ hx.1 hmn, validQ hmx hx.2, decide_true, asr_true, Nat.zero_add, asNo, Bool.and_true, Nat.le_refl]
   by_cases h1 : t.1 < minR t.2 p <;> by_cases h2 : maxR t.1 p < t.2
   · rw [if_pos h1, if_pos h2]
     simp (discharger := omega) only [cbT h1, cbT h2, rsp_one (t.1, minR t.2 p), rsp_one (maxR t.1 p, t.2), rsp_app, cast1, asRoom]
     rw [IH _ _ (by first | omega | (simp only [List.length_append, List.length_cons, List.length_nil]; omega)) (by first | omega | (simp only [List.length_append, List.length_cons, List.length_nil]; omega))]
     try simp only [List.append_assoc]
   · rw [if_pos h1, if_neg h2]
     simp (discharger := omega) only [cbT h1, cbF h2, rsp_one (t.1, minR t.2 p), rsp_one (maxR t.1 p, t.2), rsp_app, cast1, List.nil_append, asRoom]
     rw [IH _ _ (by first | omega | (simp only [List.length_append, List.length_cons, List.length_nil]; omega)) (by first | omega | (simp only [List.length_append, List.length_cons, List.length_nil]; omega))]
     try simp only [List.append_assoc]
   · rw [if_neg h1, if_pos h2]
     simp (discharger := omega) only [cbF h1, cbT h2, rsp_one (t.1, minR t.2 p), rsp_one (maxR t.1 p, t.2), rsp_app, cast1, List.nil_append, asRoom]
     rw [IH _ _ (by first | omega | (simp only [List.length_append, List.length_cons, List.length_nil]; omega)) (by first | omega | (simp only [List.length_append, List.length_cons, List.length_nil]; omega))]
     try simp only [List.append_assoc]
   · rw [if_neg h1, if_neg h2]
     simp (discharger := omega) only [cbF h1, cbF h2, rsp_one (t.1, minR t.2 p), rsp_one (maxR t.1 p, t.2), rsp_app, cast1, List.nil_append, asRoom]
     rw [IH _ _ (by first | omega | (simp only [List.length_append, List.length_cons, List.length_nil]; omega)) (by first | omega | (simp only [List.length_append, List.length_cons, List.length_nil]; omega))]
     try simp only [List.append_assoc, List.nil_append, Bool.and_self, asr_true]
theorem cut4_loop (hs : ∀ s ∈ l, smallS s) (hl : l.length < 1000) (hp : small p) (hx4 : ∀ B A a b l i k q, x4 B A a b l i k q = K A B) :
   ∀ (r i n : Nat) (B : List RS) (A : List RS), i + r = l.length → r < n → B.length ≤ i → A.length ≤ i → L_piece_Cut_0_4 w_piece_Check w_ratio_Check w_piece_sooner w_piece_valid w_piece_later x0 x1 x2 x3 x4 n (rsp B) (rsp A) p.num p.den (rsp l) (l.length : Int) (i : Int) = K (rsp (A ++ cutL p (l.drop i))) (rsp (B ++ cutR p (l.drop i))) := by
 intro r
 induction r with
 | zero =>
   intro i n B A hi hn hB hA
   obtain ⟨n, rfl⟩ : ∃ m, n = m + 1 := ⟨n - 1, by omega⟩
   obtain rfl : i = l.length := by omega
   rw [L_piece_Cut_0_4, cbF (by omega), List.drop_length, hx4]
   simp only [cutL, cutR, List.flatMap_nil, List.append_nil]
 | succ r ih =>
   intro i n B A hi hn hB hA
   obtain ⟨n, rfl⟩ : ∃ m, n = m + 1 := ⟨n - 1, by omega⟩
   have hil : i < l.length := by omega
   have e1 := wib (n := (i : Int) + 1) (by omega) (by omega)
   have hd : l.drop i = l.getD i default :: l.drop (i + 1) := drop_cons default hil
   have hx := smallS_mem hs hil
   generalize hq1 : l.getD i default = t at hx hd
   have hmn := small_min hx.2 hp
   have hmx := small_max hx.1 hp
   have IH := fun B' A' hB hA => ih (i + 1) n B' A' (by omega) (by omega) hB hA
   rw [L_piece_Cut_0_4, hd, cutL_cons, cutR_cons]
   dsimp only [lt, Go.Pf.jn]
   simp (discharger := omega) only [e1, rsp_len, cbT, asT, Int.toNat_natCast, rsp_at, hq1, asR, encR0, encR1, encR2, encR3, sooner_eq hx.2 hp, later_eq hx.1 hp, validQ hx.1 hmn, validQ hmx hx.2, decide_true, asr_true, Nat.zero_add, asNo, Bool.and_true, Nat.le_refl]
   by_cases h1 : t.1 < minR t.2 p <;> by_cases h2 : maxR t.1 p < t.2
   · rw [if_pos h1, if_pos h2]
     simp (discharger := omega) only [cbT h1, cbT h2, rsp_one (t.1, minR t.2 p), rsp_one (maxR t.1 p, t.2), rsp_app, cast1, asRoom]
     rw [IH _ _ (by first | omega | (simp only [List.length_append, List.length_cons, List.length_nil]; omega)) (by first | omega | (simp only [List.length_append, List.length_cons, List.length_nil]; omega))]
     try simp only [List.append_assoc]
   · rw [if_pos h1, if_neg h2]
     simp (discharger := omega) only [cbT h1, cbF h2, rsp_one (t.1, minR t.2 p), rsp_one (maxR t.1 p, t.2), rsp_app, cast1, List.nil_append, asRoom]
     rw [IH _ _ (by first | omega | (simp only [List.length_append, List.length_cons, List.length_nil]; omega)) (by first | omega | (simp only [List.length_append, List.length_cons, List.length_nil]; omega))]
     try simp only [List.append_assoc]
   · rw [if_neg h1, if_pos h2]
     simp (discharger := omega) only [cbF h1, cbT h2, rsp_one (t.1, minR t.2 p), rsp_one (maxR t.1 p, t.2), rsp_app, cast1, List.nil_append, asRoom]
     rw [IH _ _ (by first | omega | (simp only [List.length_append, List.length_cons, List.length_nil]; omega)) (by first | omega | (simp only [List.length_append, List.length_cons, List.length_nil]; omega))]
     try simp only [List.append_assoc]
   · rw [if_neg h1, if_neg h2]
     simp (discharger := omega) only [cbF h1, cbF h2, rsp_one (t.1, minR t.2 p), rsp_one (maxR t.1 p, t.2), rsp_app, cast1, List.nil_append, asRoom]
     rw [IH _ _ (by first | omega | (simp only [List.length_append, List.length_cons, List.length_nil]; omega)) (by first | omega | (simp only [List.length_append, List.length_cons, List.length_nil]; omega))]
     try simp only [List.append_assoc, List.nil_append, Bool.and_self, asr_true]
theorem cut2_loop (hs : ∀ s ∈ l, smallS s) (hl : l.length < 1000) (hp : small p) (hx1 : ∀ A B a b l i k q, x1 A B a b l i k q = K A B) (hx2 : ∀ A a b l i k q, x2 A a b l i k q = K A []) :
   ∀ (r i n : Nat) (A : List RS), i + r = l.length → r < n → A.length ≤ i → L_piece_Cut_0_2 w_piece_Check w_ratio_Check w_piece_sooner w_piece_valid w_piece_later x0 x1 x2 x3 x4 n (rsp A) p.num p.den (rsp l) (l.length : Int) (i : Int) = K (rsp (A ++ cutL p (l.drop i))) (rsp (cutR p (l.drop i))) := by
 intro r
 induction r with
 | zero =>
   intro i n A hi hn hA
   obtain ⟨n, rfl⟩ : ∃ m, n = m + 1 := ⟨n - 1, by omega⟩
   obtain rfl : i = l.length := by omega
   rw [L_piece_Cut_0_2, cbF (by omega), List.drop_length, hx2]
   simp only [cutL, cutR, List.flatMap_nil, List.append_nil, rsp_nil]
 | succ r ih =>
   intro i n A hi hn hA
   obtain ⟨n, rfl⟩ : ∃ m, n = m + 1 := ⟨n - 1, by omega⟩
   have hil : i < l.length := by omega
   have e1 := wib (n := (i : Int) + 1) (by omega) (by omega)
   have hd : l.drop i = l.getD i default :: l.drop (i + 1) := drop_cons default hil
   have hx := smallS_mem hs hil
   generalize hq1 : l.getD i default = t at hx hd
   have hmn := small_min hx.2 hp
   have hmx := small_max hx.1 hp
   have IH := fun A' hA => ih (i + 1) n A' (by omega) (by omega) hA
   have IH1 := fun A' B' hA hB => cut1_loop (x0 := x0) (x1 := x1) (x2 := x2) (x3 := x3) (x4 := x4) hs hl hp hx1 r (i + 1) n A' B' (by omega) (by omega) hA hB
   rw [L_piece_Cut_0_2, hd, cutL_cons, cutR_cons]
   dsimp only [lt, Go.Pf.jn]
   simp (discharger := omega) only [e1, rsp_len, cbT, asT, Int.toNat_natCast, rsp_at, hq1, asR, encR0, encR1, encR2, encR3, sooner_eq hx.2 hp, later_eq hx.1 hp, validQ hx.1 hmn, validQ hmx hx.2, decide_true, asr_true, Nat.zero_add, asNo, Bool.true_and, Bool.and_true, Nat.le_refl]
   by_cases h1 : t.1 < minR t.2 p <;> by_cases h2 : maxR t.1 p < t.2
   · rw [if_pos h1, if_pos h2]
     simp (discharger := omega) only [cbT h1, cbT h2, rsp_len, rsp_one (t.1, minR t.2 p), rsp_one (maxR t.1 p, t.2), rsp_app, cast1, asRoom, decide_true, List.length_cons, List.length_nil]
     rw [IH1 _ _ (by first | omega | (simp only [List.length_append, List.length_cons, List.length_nil]; omega)) (by first | omega | (simp only [List.length_cons, List.length_nil]; omega))]
     try simp only [List.append_assoc, Bool.and_self, asr_true]
   · rw [if_pos h1, if_neg h2]
     simp (discharger := omega) only [cbT h1, cbF h2, rsp_len, rsp_one (t.1, minR t.2 p), rsp_one (maxR t.1 p, t.2), rsp_app, cast1, List.nil_append, asRoom, decide_true, List.length_cons, List.length_nil]
     rw [IH _ (by first | omega | (simp only [List.length_append, List.length_cons, List.length_nil]; omega))]
     try simp only [List.append_assoc]
   · rw [if_neg h1, if_pos h2]
     simp (discharger := omega) only [cbF h1, cbT h2, rsp_len, rsp_one (t.1, minR t.2 p), rsp_one (maxR t.1 p, t.2), rsp_app, cast1, List.nil_append, asRoom, decide_true, List.length_cons, List.length_nil]
     rw [IH1 _ _ (by first | omega | (simp only [List.length_append, List.length_cons, List.length_nil]; omega)) (by first | omega | (simp only [List.length_cons, List.length_nil]; omega))]
     try simp only [Bool.and_self, asr_true]
   · rw [if_neg h1, if_neg h2]
     simp (discharger := omega) only [cbF h1, cbF h2, rsp_len, rsp_one (t.1, minR t.2 p), rsp_one (maxR t.1 p, t.2), rsp_app, cast1, List.nil_append, asRoom, decide_true, List.length_cons, List.length_nil]
     rw [IH _ (by first | omega | (simp only [List.length_append, List.length_cons, List.length_nil]; omega))]
     try simp only [List.append_assoc, List.nil_append, Bool.and_self, asr_true]
theorem cut3_loop (hs : ∀ s ∈ l, smallS s) (hl : l.length < 1000) (hp : small p) (hx3 : ∀ B a b l i k q, x3 B a b l i k q = K [] B) (hx4 : ∀ B A a b l i k q, x4 B A a b l i k q = K A B) :
   ∀ (r i n : Nat) (B : List RS), i + r = l.length → r < n → B.length ≤ i → L_piece_Cut_0_3 w_piece_Check w_ratio_Check w_piece_sooner w_piece_valid w_piece_later x0 x1 x2 x3 x4 n (rsp B) p.num p.den (rsp l) (l.length : Int) (i : Int) = K (rsp (cutL p (l.drop i))) (rsp (B ++ cutR p (l.drop i))) := by
 intro r
 induction r with
 | zero =>
   intro i n B hi hn hB
   obtain ⟨n, rfl⟩ : ∃ m, n = m + 1 := ⟨n - 1, by omega⟩
   obtain rfl : i = l.length := by omega
   rw [L_piece_Cut_0_3, cbF (by omega), List.drop_length, hx3]
   simp only [cutL, cutR, List.flatMap_nil, List.append_nil, rsp_nil]
 | succ r ih =>
   intro i n B hi hn hB
   obtain ⟨n, rfl⟩ : ∃ m, n = m + 1 := ⟨n - 1, by omega⟩
   have hil : i < l.length := by omega
   have e1 := wib (n := (i : Int) + 1) (by omega) (by omega)
   have hd : l.drop i = l.getD i default :: l.drop (i + 1) := drop_cons default hil
   have hx := smallS_mem hs hil
   generalize hq1 : l.getD i default = t at hx hd
   have hmn := small_min hx.2 hp
   have hmx := small_max hx.1 hp
   have IH := fun B' hB => ih (i + 1) n B' (by omega) (by omega) hB
   have IH4 := fun B' A' hB hA => cut4_loop (x0 := x0) (x1 := x1) (x2 := x2) (x3 := x3) (x4 := x4) hs hl hp hx4 r (i + 1) n B' A' (by omega) (by omega) hB hA
   rw [L_piece_Cut_0_3, hd, cutL_cons, cutR_cons]
   dsimp only [lt, Go.Pf.jn]
   simp (discharger := omega) only [e1, rsp_len, cbT, asT, Int.toNat_natCast, rsp_at, hq1, asR, encR0, encR1, encR2, encR3, sooner_eq hx.2 hp, later_eq hx.1 hp, validQ hx.1 hmn, validQ hmx hx.2, decide_true, asr_true, Nat.zero_add, asNo, Bool.and_true, Nat.le_refl]
   by_cases h1 : t.1 < minR t.2 p <;> by_cases h2 : maxR t.1 p < t.2
   · rw [if_pos h1, if_pos h2]
     simp (discharger := omega) only [cbT h1, cbT h2, rsp_one (t.1, minR t.2 p), rsp_one (maxR t.1 p, t.2), rsp_app, cast1, asRoom]
     rw [IH4 _ _ (by first | omega | (simp only [List.length_append, List.length_cons, List.length_nil]; omega)) (by first | omega | (simp only [List.length_cons, List.length_nil]; omega))]
     try simp only [List.append_assoc]
   · rw [if_pos h1, if_neg h2]
     simp (discharger := omega) only [cbT h1, cbF h2, rsp_one (t.1, minR t.2 p), rsp_one (maxR t.1 p, t.2), rsp_app, cast1, List.nil_append, asRoom]
     rw [IH4 _ _ (by first | omega | (simp only [List.length_append, List.length_cons, List.length_nil]; omega)) (by first | omega | (simp only [List.length_cons, List.length_nil]; omega))]
     try simp only [List.append_assoc, List.nil_append, Bool.and_self, asr_true]
   · rw [if_neg h1, if_pos h2]
     simp (discharger := omega) only [cbF h1, cbT h2, rsp_one (t.1, minR t.2 p), rsp_one (maxR t.1 p, t.2), rsp_app, cast1, List.nil_append, asRoom]
     rw [IH _ (by first | omega | (simp only [List.length_append, List.length_cons, List.length_nil]; omega))]
     try simp only [List.append_assoc]
   · rw [if_neg h1, if_neg h2]
     simp (discharger := omega) only [cbF h1, cbF h2, rsp_one (t.1, minR t.2 p), rsp_one (maxR t.1 p, t.2), rsp_app, cast1, List.nil_append, asRoom]
     rw [IH _ (by first | omega | (simp only [List.length_append, List.length_cons, List.length_nil]; omega))]
     try simp only [List.append_assoc, List.nil_append, Bool.and_self, asr_true]
theorem cut0_loop (hs : ∀ s ∈ l, smallS s) (hl : l.length < 1000) (hp : small p) (hx0 : ∀ a b l i k q, x0 a b l i k q = K [] []) (hx1 : ∀ A B a b l i k q, x1 A B a b l i k q = K A B) (hx2 : ∀ A a b l i k q, x2 A a b l i k q = K A []) (hx3 : ∀ B a b l i k q, x3 B a b l i k q = K [] B) (hx4 : ∀ B A a b l i k q, x4 B A a b l i k q = K A B) :
   ∀ (r i n : Nat), i + r = l.length → r < n → L_piece_Cut_0_0 w_piece_Check w_ratio_Check w_piece_sooner w_piece_valid w_piece_later x0 x1 x2 x3 x4 n  p.num p.den (rsp l) (l.length : Int) (i : Int) = K (rsp (cutL p (l.drop i))) (rsp (cutR p (l.drop i))) := by
 intro r
 induction r with
 | zero =>
   intro i n hi hn
   obtain ⟨n, rfl⟩ : ∃ m, n = m + 1 := ⟨n - 1, by omega⟩
   obtain rfl : i = l.length := by omega
   rw [L_piece_Cut_0_0, cbF (by omega), List.drop_length, hx0]
   simp only [cutL, cutR, List.flatMap_nil, rsp_nil]
 | succ r ih =>
   intro i n hi hn
   obtain ⟨n, rfl⟩ : ∃ m, n = m + 1 := ⟨n - 1, by omega⟩
   have hil : i < l.length := by omega
   have e1 := wib (n := (i : Int) + 1) (by omega) (by omega)
   have hd : l.drop i = l.getD i default :: l.drop (i + 1) := drop_cons default hil
   have hx := smallS_mem hs hil
   generalize hq1 : l.getD i default = t at hx hd
   have hmn := small_min hx.2 hp
   have hmx := small_max hx.1 hp
   have IH := ih (i + 1) n (by omega) (by omega)
   have IH1 := fun A' B' hA hB => cut1_loop (x0 := x0) (x1 := x1) (x2 := x2) (x3 := x3) (x4 := x4) hs hl hp hx1 r (i + 1) n A' B' (by omega) (by omega) hA hB
   have IH2 := fun A' hA => cut2_loop (x0 := x0) (x1 := x1) (x2 := x2) (x3 := x3) (x4 := x4) hs hl hp hx1 hx2 r (i + 1) n A' (by omega) (by omega) hA
   have IH3 := fun B' hB => cut3_loop (x0 := x0) (x1 := x1) (x2 := x2) (x3 := x3) (x4 := x4) hs hl hp hx3 hx4 r (i + 1) n B' (by omega) (by omega) hB
   rw [L_piece_Cut_0_0, hd, cutL_cons, cutR_cons]
   dsimp only [lt, Go.Pf.jn]
   simp (discharger := omega) only [e1, rsp_len, cbT, asT, Int.toNat_natCast, rsp_at, hq1, asR, encR0, encR1, encR2, encR3, sooner_eq hx.2 hp, later_eq hx.1 hp, validQ hx.1 hmn, validQ hmx hx.2]
   by_cases h1 : t.1 < minR t.2 p <;> by_cases h2 : maxR t.1 p < t.2
   · rw [if_pos h1, if_pos h2]
     simp (discharger := omega) only [cbT h1, cbT h2, rsp_len, rsp_one (t.1, minR t.2 p), rsp_one (maxR t.1 p, t.2), cast1, decide_true, List.length_cons, List.length_nil]
     rw [IH1 _ _ (by first | omega | (simp only [List.length_cons, List.length_nil]; omega)) (by first | omega | (simp only [List.length_cons, List.length_nil]; omega))]
     try simp only [Bool.and_self, asr_true]
   · rw [if_pos h1, if_neg h2]
     simp (discharger := omega) only [cbT h1, cbF h2, rsp_len, rsp_one (t.1, minR t.2 p), rsp_one (maxR t.1 p, t.2), cast1, List.nil_append, decide_true, List.length_cons, List.length_nil]
     rw [IH2 _ (by first | omega | (simp only [List.length_cons, List.length_nil]; omega))]
     try simp only [Bool.and_self, asr_true]
   · rw [if_neg h1, if_pos h2]
     simp (discharger := omega) only [cbF h1, cbT h2, rsp_len, rsp_one (t.1, minR t.2 p), rsp_one (maxR t.1 p, t.2), cast1, List.nil_append, decide_true, List.length_cons, List.length_nil]
     rw [IH3 _ (by first | omega | (simp only [List.length_cons, List.length_nil]; omega))]
     try simp only [Bool.and_self, asr_true]
   · rw [if_neg h1, if_neg h2]
     simp (discharger := omega) only [cbF h1, cbF h2, rsp_len, rsp_one (t.1, minR t.2 p), rsp_one (maxR t.1 p, t.2), cast1, List.nil_append, decide_true, List.length_cons, List.length_nil]
     rw [IH]
     try simp only [List.append_assoc, List.nil_append, Bool.and_self, asr_true]
end
end Go.Pf.Vc
namespace Go.Pf.Vc
open Go Go.Pf
theorem mem_if {α : Type} {c : Prop} [Decidable c] {x y : α} : x ∈ (if c then [y] else []) ↔ (c ∧ x = y) := by
 split
 · rename_i h; simp [h]
 · rename_i h; simp [h]
theorem cutL_ok (p : Rat) : ∀ l : List RS, canon l → canon (cutL p l) ∧ (∀ u ∈ cutL p l, ∃ t ∈ l, t.1 = u.1 ∧ u.2 = minR t.2 p) ∧ (cutL p l).length ≤ l.length ∧ ∀ q, memP (cutL p l) q ↔ (memP l q ∧ q < p)
 | [], _ => by
   refine ⟨trivial, fun u h => (List.not_mem_nil h).elim, Nat.le_refl _, fun q => ?_⟩
   exact ⟨fun h => (memP_nil h).elim, fun h => (memP_nil h.1).elim⟩
 | s :: r, h => by
   obtain ⟨i1, i2, i3, i4⟩ := cutL_ok p r h.2.2
   rw [cutL_cons]
   have hm := minR_is s.2 p
   refine ⟨?_, fun u hu => ?_, ?_, fun q => ?_⟩
   · by_cases hc : s.1 < minR s.2 p
     · rw [if_pos hc]
       refine ⟨hc, fun u hu => ?_, i1⟩
       obtain ⟨t, ht, e1, _⟩ := i2 u hu
       have := h.2.1 t ht
       show minR s.2 p < u.1
       rw [← e1]; grind
     · rw [if_neg hc]; exact i1
   · rcases List.mem_append.1 hu with hu | hu
     · obtain ⟨_, rfl⟩ := mem_if.1 hu
       exact ⟨s, by simp, rfl, rfl⟩
     · obtain ⟨t, ht, e⟩ := i2 u hu
       exact ⟨t, List.mem_cons_of_mem _ ht, e⟩
   · rw [List.length_append, List.length_cons]
     split <;> simp only [List.length_cons, List.length_nil] <;> omega
   · rw [memP_app, memP_if, i4 q, memP_cons]
     unfold inS
     dsimp only
     constructor
     · rintro (⟨_, h1, h2⟩ | ⟨h1, h2⟩)
       · exact ⟨.inl ⟨h1, by grind⟩, by grind⟩
       · exact ⟨.inr h1, h2⟩
     · rintro ⟨h1 | h1, h2⟩
       · exact .inl ⟨by grind, h1.1, by grind⟩
       · exact .inr ⟨h1, h2⟩
theorem cutR_ok (p : Rat) : ∀ l : List RS, canon l → canon (cutR p l) ∧ (∀ u ∈ cutR p l, ∃ t ∈ l, u.1 = maxR t.1 p ∧ u.2 = t.2) ∧ (cutR p l).length ≤ l.length ∧ ∀ q, memP (cutR p l) q ↔ (memP l q ∧ p ≤ q)
 | [], _ => by
   refine ⟨trivial, fun u h => (List.not_mem_nil h).elim, Nat.le_refl _, fun q => ?_⟩
   exact ⟨fun h => (memP_nil h).elim, fun h => (memP_nil h.1).elim⟩
 | s :: r, h => by
   obtain ⟨i1, i2, i3, i4⟩ := cutR_ok p r h.2.2
   rw [cutR_cons]
   have hm := maxR_is s.1 p
   refine ⟨?_, fun u hu => ?_, ?_, fun q => ?_⟩
   · by_cases hc : maxR s.1 p < s.2
     · rw [if_pos hc]
       refine ⟨hc, fun u hu => ?_, i1⟩
       obtain ⟨t, ht, e1, _⟩ := i2 u hu
       have := h.2.1 t ht
       have := maxR_is t.1 p
       show s.2 < u.1
       rw [e1]; grind
     · rw [if_neg hc]; exact i1
   · rcases List.mem_append.1 hu with hu | hu
     · obtain ⟨_, rfl⟩ := mem_if.1 hu
       exact ⟨s, by simp, rfl, rfl⟩
     · obtain ⟨t, ht, e⟩ := i2 u hu
       exact ⟨t, List.mem_cons_of_mem _ ht, e⟩
   · rw [List.length_append, List.length_cons]
     split <;> simp only [List.length_cons, List.length_nil] <;> omega
   · rw [memP_app, memP_if, i4 q, memP_cons]
     unfold inS
     dsimp only
     constructor
     · rintro (⟨_, h1, h2⟩ | ⟨h1, h2⟩)
       · exact ⟨.inl ⟨by grind, h2⟩, by grind⟩
       · exact ⟨.inr h1, h2⟩
     · rintro ⟨h1 | h1, h2⟩
       · exact .inl ⟨by grind, by grind, h1.2⟩
       · exact .inr ⟨h1, h2⟩
theorem Pc.cutL {l : List RS} (h : Pc l) {p : Rat} (hp : small p) : Pc (cutL p l) := by
 obtain ⟨h1, h2, h3, _⟩ := cutL_ok p l h.c
 refine ⟨h1, fun u hu => ?_, by have := h.n; omega⟩
 obtain ⟨t, ht, e1, e2⟩ := h2 u hu
 have := h.s t ht
 exact ⟨e1 ▸ this.1, e2 ▸ small_min this.2 hp⟩
theorem Pc.cutR {l : List RS} (h : Pc l) {p : Rat} (hp : small p) : Pc (cutR p l) := by
 obtain ⟨h1, h2, h3, _⟩ := cutR_ok p l h.c
 refine ⟨h1, fun u hu => ?_, by have := h.n; omega⟩
 obtain ⟨t, ht, e1, e2⟩ := h2 u hu
 have := h.s t ht
 exact ⟨e1 ▸ small_max this.1 hp, e2 ▸ this.2⟩
theorem Pc.cut {l : List RS} (h : Pc l) {p : Rat} (hp : small p) (K : List PV → List PV → Int → Prop) : w_piece_Cut (rsp l) p.num p.den K = K (rsp (Go.Pf.Vc.cutL p l)) (rsp (Go.Pf.Vc.cutR p l)) 0 := by
 refine det_piece_Cut _ _ _ _ _ _ (fun K k => ?_) K
 unfold w_piece_Cut wv_piece_Cut
 rw [h.check]
 show cbr false _ _
 rw [cbr_false, rCheck_eq hp.i1 hp.i2, show chk p.num p.den = 0 from if_pos hp.rv]
 show cbr false _ _
 rw [cbr_false]
 refine ⟨l.length + 1, ?_⟩
 rw [rsp_len]
 have hn := h.n
 refine (cut0_loop h.s (by omega) hp (K := fun A B => K A B 0) (fun _ _ _ _ _ _ => rfl) (fun A B _ _ _ _ _ _ => ?_) (fun A _ _ _ _ _ _ => ?_) (fun B _ _ _ _ _ _ => ?_) (fun B A _ _ _ _ _ _ => ?_) l.length 0 (l.length + 1) (by omega) (by omega)).mpr ?_
 · simp only [asLen, asTr, List.take_length]
 · simp only [asLen, asTr, List.take_length]
 · simp only [asLen, asTr, List.take_length]
 · simp only [asLen, asTr, List.take_length]
 · rw [List.drop_zero]; exact k
theorem mrg_len : ∀ (r : List RS) (c : RS), (mrg r c).length ≤ r.length + 1
 | [], c => by simp [mrg]
 | s :: r, c => by
   unfold mrg
   split
   · have := mrg_len r s
     simp only [List.length_cons]; omega
   · have := mrg_len r (c.1, maxR c.2 s.2)
     simp only [List.length_cons]; omega
theorem mrg_small : ∀ (r : List RS) (c : RS), smallS c → (∀ s ∈ r, smallS s) → ∀ s ∈ mrg r c, smallS s
 | [], c, hc, _ => by simpa [mrg] using hc
 | t :: r, c, hc, h => by
   have ht := h t List.mem_cons_self
   have hr : ∀ s ∈ r, smallS s := fun s hs => h s (List.mem_cons_of_mem _ hs)
   intro s hs
   unfold mrg at hs
   split at hs
   · rcases List.mem_cons.1 hs with rfl | hs
     · exact hc
     · exact mrg_small r t ht hr s hs
   · exact mrg_small r (c.1, maxR c.2 t.2) ⟨hc.1, small_max hc.2 ht.2⟩ hr s hs
theorem mergeS_pc {l : List RS} (hs : ∀ s ∈ l, smallS s) (hv : ∀ s ∈ l, s.1 < s.2) (hb : byFrom l) (hl : l.length ≤ 60) : Pc (mergeS l) := by
 refine ⟨(mergeS_ok hv hb).1, ?_, ?_⟩
 · cases l with
   | nil => simp [mergeS]
   | cons s r => exact mrg_small r s (hs s List.mem_cons_self) fun t ht => hs t (List.mem_cons_of_mem _ ht)
 · cases l with
   | nil => simp [mergeS]
   | cons s r =>
     have := mrg_len r s
     show (mrg r s).length ≤ 60
     simp only [List.length_cons] at hl; omega
theorem memP_congr {a b : List RS} (h : ∀ s, s ∈ a ↔ s ∈ b) (p : Rat) : memP a p ↔ memP b p :=
 ⟨fun ⟨s, hs, hp⟩ => ⟨s, (h s).1 hs, hp⟩, fun ⟨s, hs, hp⟩ => ⟨s, (h s).2 hs, hp⟩⟩
theorem Make_zero {l : List Sp} (h64 : ∀ s ∈ l, s.i64) (h0 : allE l = 0) : ∃ m, Pc m ∧ (∀ p, memP m p ↔ memP (rsL l) p) ∧ ∀ K, w_piece_Make (spans l) K = K (rsp m) 0 := by
 obtain ⟨h1, h2⟩ := allE_zero h0
 have hs : ∀ s ∈ rsL l, smallS s := fun s hs => by obtain ⟨t, ht, rfl⟩ := List.mem_map.1 hs; exact rs_small (h2 t ht)
 have hv : ∀ s ∈ rsL l, s.1 < s.2 := fun s hs => by obtain ⟨t, ht, rfl⟩ := List.mem_map.1 hs; exact (h2 t ht).2.2
 have hn : (rsL l).length = l.length := List.length_map ..
 obtain ⟨l', hp, hb, hm⟩ := merged_eq hs hv (by omega)
 have hs' : ∀ s ∈ l', smallS s := fun s h => hs s (hp.mem_iff.1 h)
 have hv' : ∀ s ∈ l', s.1 < s.2 := fun s h => hv s (hp.mem_iff.1 h)
 refine ⟨mergeS l', mergeS_pc hs' hv' hb (by rw [hp.length_eq]; omega), fun p => ?_, fun K => ?_⟩
 · rw [(mergeS_ok hv' hb).2 p]
   exact memP_congr (fun s => hp.mem_iff) p
 · unfold w_piece_Make wv_piece_Make
   rw [all_eq h64 (by omega), h0, spans_rsL h2]
   show cbr false _ _ = _
   rw [cbr_false, hm]
theorem Make_bad {l : List Sp} (h64 : ∀ s ∈ l, s.i64) (hl : l.length < 4611686018427387904) (h0 : allE l ≠ 0) (K : List PV → Int → Prop) : w_piece_Make (spans l) K = K [] (allE l) := by
 unfold w_piece_Make wv_piece_Make
 rw [all_eq h64 hl, cnT h0]
def sumO (v : RS → Rat) : List RS → Rat → Option Rat
 | [], q => some q
 | s :: r, q => if small (v s) ∧ small (q + v s) then sumO v r (q + v s) else none
def optK (o : Option Rat) (K : Int → Int → Int → Prop) : Prop := match o with | some q => K q.num q.den 0 | none => K 0 0 16
theorem length1_eq {s : RS} (h : smallS s) (K : Int → Int → Int → Prop) : w_piece_Length_1 s.1.num s.1.den s.2.num s.2.den K = fitK (s.2 - s.1) K := by
 unfold w_piece_Length_1 wv_piece_Length_1
 rw [rSub_eq h.2 h.1]
theorem length_loop {l : List RS} (hs : ∀ s ∈ l, smallS s) (hl : l.length < 1000) {x0 : Int → Int → Int → Int → List PV → Int → Int → Bool → Prop} {x1 : Int → Int → Int → Prop} {K : Int → Int → Int → Prop}
   (hx0 : ∀ z z' a b l i k q, x0 z z' a b l i k q = K a b 0) (hx1 : ∀ a b e, x1 a b e = K a b e) (z z' : Int) :
   ∀ (r i n : Nat) (q : Rat), i + r = l.length → r < n → small q → L_piece_Length_0_0 w_piece_Check w_piece_Length_1 w_ratio_Add x0 x1 n z z' q.num q.den (rsp l) (l.length : Int) (i : Int) = optK (sumO (fun s => s.2 - s.1) (l.drop i) q) K := by
 intro r
 induction r with
 | zero =>
   intro i n q hi hn hq
   obtain ⟨n, rfl⟩ : ∃ m, n = m + 1 := ⟨n - 1, by omega⟩
   obtain rfl : i = l.length := by omega
   rw [L_piece_Length_0_0, cbF (by omega), List.drop_length, hx0]
   rfl
 | succ r ih =>
   intro i n q hi hn hq
   obtain ⟨n, rfl⟩ : ∃ m, n = m + 1 := ⟨n - 1, by omega⟩
   have hil : i < l.length := by omega
   have e1 := wib (n := (i : Int) + 1) (by omega) (by omega)
   have hd : l.drop i = l.getD i default :: l.drop (i + 1) := drop_cons default hil
   have hx := smallS_mem hs hil
   rw [L_piece_Length_0_0, cbT (by omega), hd]
   generalize hq1 : l.getD i default = t at hx
   dsimp only [lt]
   rw [rsp_len, asT (by omega), asT (by omega), Int.toNat_natCast, rsp_at hil, hq1, asR, encR0, encR1, encR2, encR3, length1_eq hx]
   unfold fitK sumO
   by_cases h1 : small (t.2 - t.1)
   · rw [if_pos h1]
     show cbr false _ _ = _
     rw [cbr_false, rAdd_eq hq h1]
     unfold fitK
     by_cases h2 : small (q + (t.2 - t.1))
     · rw [if_pos h2, if_pos ⟨h1, h2⟩, e1, cast1]
       show cbr false _ _ = _
       rw [cbr_false]
       exact ih (i + 1) n _ (by omega) (by omega) h2
     · rw [if_neg h2, if_neg (fun h => h2 h.2)]
       show cbr true _ _ = _
       rw [cbr_true, hx1]
       rfl
   · rw [if_neg h1, if_neg (fun h => h1 h.1)]
     show cbr true _ _ = _
     rw [cbr_true, hx1]
     rfl
theorem small_zero : small 0 := by decide +kernel
theorem Pc.len {l : List RS} (h : Pc l) (K : Int → Int → Int → Prop) : w_piece_Length (rsp l) K = optK (sumO (fun s => s.2 - s.1) l 0) K := by
 have hn := h.n
 have key : ∀ K : Int → Int → Int → Prop, optK (sumO (fun s => s.2 - s.1) l 0) K → w_piece_Length (rsp l) K := fun K k => by
   unfold w_piece_Length wv_piece_Length
   rw [h.check]
   show cbr false _ _
   rw [cbr_false]
   dsimp only [Go.Pf.jn]
   refine ⟨l.length + 1, ?_⟩
   rw [rsp_len]
   refine (length_loop h.s (by omega) (fun _ _ _ _ _ _ _ _ => rfl) (fun _ _ _ => rfl) 0 0 l.length 0 (l.length + 1) 0 (by omega) (by omega) small_zero).mpr ?_
   rw [List.drop_zero]; exact k
 cases ho : sumO (fun s => s.2 - s.1) l 0 with
 | none => rw [ho] at key; exact det_piece_Length _ _ _ _ key K
 | some q => rw [ho] at key; exact det_piece_Length _ _ _ _ key K
end Go.Pf.Vc
namespace Go.Pf.Vc
open Go Go.Pf
theorem is_ok {l : List RS} (h : l.length ≤ 60) (K : Bool → Prop) : w_l03_is (rsp l) 0 (rsp l) K = K true := by
 unfold w_l03_is wv_l03_is
 dsimp only [Go.Pf.jn]
 show cbr true _ _ = _
 rw [cbr_true, Pc.same h]
def sp2 (a b : Int) : Sp := ⟨a, 1, b, 1⟩
theorem sp2_i64 {a b : Int} (ha : I64 a) (hb : I64 b) : (sp2 a b).i64 := ⟨ha, (show I64 1 from ⟨by decide, by decide⟩), hb, (show I64 1 from ⟨by decide, by decide⟩)⟩
theorem alive_eq (K : Bool → Prop) : w_l03_alive K = K true := by
 have i : ∀ {a : Int}, 0 ≤ a → a ≤ 5 → I64 a := fun h1 h2 => ⟨by omega, by omega⟩
 obtain ⟨m, pm, hm, em⟩ := Make_zero (l := [sp2 2 5, sp2 0 1, sp2 1 2]) (by
   intro s hs
   simp only [List.mem_cons, List.not_mem_nil, or_false] at hs
   rcases hs with rfl | rfl | rfl <;> exact sp2_i64 (i (by omega) (by omega)) (i (by omega) (by omega))) (by decide +kernel)
 have m5 : m = [(0, 5)] := by
   refine canon_unique _ _ pm.c ⟨by decide +kernel, by simp, trivial⟩ fun p => ?_
   have e : rsL [sp2 2 5, sp2 0 1, sp2 1 2] = [(2, 5), (0, 1), (1, 2)] := by decide +kernel
   rw [hm p, e]
   simp only [memP_cons, inS]
   constructor
   · rintro (h | h | h | h)
     · exact .inl ⟨by grind, by grind⟩
     · exact .inl ⟨by grind, by grind⟩
     · exact .inl ⟨by grind, by grind⟩
     · exact (memP_nil h).elim
   · rintro (h | h)
     · by_cases h1 : p < 1
       · exact .inr (.inl ⟨h.1, h1⟩)
       · by_cases h2 : p < 2
         · exact .inr (.inr (.inl ⟨by grind, h2⟩))
         · exact .inl ⟨by grind, h.2⟩
     · exact (memP_nil h).elim
 subst m5
 have s4 : small 4 := by decide +kernel
 have s5 : small 5 := by decide +kernel
 have s3 : small 3 := by decide +kernel
 have p12 : Pc [(1, 2)] := ⟨⟨by decide +kernel, by simp, trivial⟩, by
   intro s hs
   rw [List.mem_singleton] at hs
   subst hs
   exact ⟨by decide +kernel, by decide +kernel⟩, by simp⟩
 have hmin : setR [((0 : Rat), (5 : Rat))] [(1, 2)] 2 = [(0, 1), (2, 5)] := by decide +kernel
 have pmin : Pc [((0 : Rat), (1 : Rat)), (2, 5)] := hmin ▸ setR_pc pm p12 (.inr (.inr rfl)) (by simp)
 unfold w_l03_alive wv_l03_alive
 unfold w_l03_of wv_l03_of
 dsimp only [Go.Pf.jn]
 show w_piece_Make (spans [sp2 2 5, sp2 0 1, sp2 1 2]) _ = _
 rw [em]
 show w_piece_Has (rsp [((0 : Rat), (5 : Rat))]) (4 : Rat).num ((4 : Rat).den : Int) _ = _
 rw [pm.has s4]
 show w_piece_Has (rsp [((0 : Rat), (5 : Rat))]) (5 : Rat).num ((5 : Rat).den : Int) _ = _
 rw [pm.has s5]
 show w_piece_Minus (rsp [((0 : Rat), (5 : Rat))]) (rsp [((1 : Rat), (2 : Rat))]) _ = _
 rw [pm.minus p12 (by simp), hmin, pmin.len, show sumO (fun s => s.2 - s.1) [((0 : Rat), (1 : Rat)), (2, 5)] 0 = some 4 from by decide +kernel]
 show w_piece_Cut (rsp [((0 : Rat), (1 : Rat)), (2, 5)]) (3 : Rat).num ((3 : Rat).den : Int) _ = _
 rw [pmin.cut s3, show cutL 3 [((0 : Rat), (1 : Rat)), (2, 5)] = [(0, 1), (2, 3)] from by decide +kernel, show cutR 3 [((0 : Rat), (1 : Rat)), (2, 5)] = [(3, 5)] from by decide +kernel]
 rw [show inB [((0 : Rat), (5 : Rat))] 4 = true from by decide +kernel, show inB [((0 : Rat), (5 : Rat))] 5 = false from by decide +kernel]
 show w_l03_is (rsp [((0 : Rat), (5 : Rat))]) 0 (rsp [((0 : Rat), (5 : Rat))]) _ = _
 rw [is_ok (by simp)]
 show w_l03_is (rsp [((0 : Rat), (1 : Rat)), (2, 5)]) 0 (rsp [((0 : Rat), (1 : Rat)), (2, 5)]) _ = _
 rw [is_ok (by simp)]
 show w_l03_is (rsp [((0 : Rat), (1 : Rat)), (2, 3)]) 0 (rsp [((0 : Rat), (1 : Rat)), (2, 3)]) _ = _
 rw [is_ok (by simp)]
 show w_l03_is (rsp [((3 : Rat), (5 : Rat))]) 0 (rsp [((3 : Rat), (5 : Rat))]) _ = _
 rw [is_ok (by simp)]
end Go.Pf.Vc
namespace Go.Pf.Vc
open Go Go.Pf
theorem A_sRead {x : PV} (h1 : x.isAgg = (DS.s dsS).isA) (h2 : HasF (.s dsS) x.cells) : ∃ l : List Sp, x = .data (spans l) ∧ ∀ s ∈ l, s.i64 := by
 obtain ⟨l, e, _, h⟩ := F_spans h2
 exact ⟨l, single_of h1 e, h⟩
theorem A_rRead {x : PV} (h1 : x.isAgg = dsR.isA) (h2 : HasF dsR x.cells) : ∃ n d, x = .agg [.int .i64 n, .int .i64 d] ∧ I64 n ∧ I64 d := by
 obtain ⟨n, d, e, hn, hd⟩ := F_r h2
 exact ⟨n, d, by rw [agg_of (l := [.i .i64, .i .i64]) h1, e], hn, hd⟩
theorem A_canon {as : List PV} (h : HasAs [.s dsS, dsR, .s dsS, .s dsS] as) : ∃ (l a b : List Sp) (n d : Int), as = [.data (spans l), .agg [.int .i64 n, .int .i64 d], .data (spans a), .data (spans b)] ∧ (∀ s ∈ l, s.i64) ∧ (∀ s ∈ a, s.i64) ∧ (∀ s ∈ b, s.i64) ∧ I64 n ∧ I64 d := by
 simp only [HasAs] at h
 obtain ⟨w, _, rfl, w1, w2, z, _, rfl, z1, z2, x, _, rfl, x1, x2, y, _, rfl, y1, y2, rfl⟩ := h
 obtain ⟨l, rfl, hl⟩ := A_sRead w1 w2
 obtain ⟨a, rfl, ha⟩ := A_sRead x1 x2
 obtain ⟨b, rfl, hb⟩ := A_sRead y1 y2
 obtain ⟨n, d, rfl, hn, hd⟩ := A_rRead z1 z2
 exact ⟨l, a, b, n, d, rfl, hl, ha, hb, hn, hd⟩
theorem inB_eq {l : List RS} {p : Rat} {c : Bool} (h : memP l p ↔ c = true) : inB l p = c := by
 rw [← inB_iff] at h
 cases c <;> cases hb : inB l p <;> simp_all
theorem nz (P Q : Prop) : cbr ((0 : Int) != 0) P Q = Q := rfl
theorem ez (P Q : Prop) : cbr ((0 : Int) == 0) P Q = P := rfl
end Go.Pf.Vc
namespace Go.Pf.Vc
open Go Go.Pf
theorem spEq (x y : Sp) : (x.a == y.a && (x.b == y.b && (x.c == y.c && (x.d == y.d && true)))) = decide (x = y) := by
 cases x; cases y
 rw [Bool.eq_iff_iff]
 simp only [Bool.and_eq_true, beq_iff_eq, decide_eq_true_eq, Sp.mk.injEq, and_true]
theorem cSame2_loop {s t : List Sp} (hl : s.length < 4611686018427387904) (he : s.length = t.length) (K : Bool → Prop) :
   ∀ (r i n : Nat), i + r = s.length → r < n → L_r03_Same_0_0 (fun yb0 => (K yb0)) (fun _ _ _ _ => (K true)) n (spans s) (spans t) i = K (decide (s.drop i = t.drop i))
 | 0, i, n + 1, hi, hn => by
   unfold L_r03_Same_0_0
   rw [spans_len, cbF (by omega), List.drop_eq_nil_of_le (by omega), List.drop_eq_nil_of_le (by omega), decide_eq_true rfl]
 | r + 1, i, n + 1, hi, hn => by
   unfold L_r03_Same_0_0
   have e1 := wib (n := (i : Int) + 1) (by omega) (by omega)
   rw [spans_len, spans_len, cbT (by omega), Int.toNat_natCast, spans_at (l := s) (by omega), spans_at (l := t) (by omega), asT (by omega), asT (by omega), asS, asT (by omega), asT (by omega), asS, e1, cast1]
   have hd1 : s.drop i = s.getD i default :: s.drop (i + 1) := drop_cons default (by omega)
   have hd2 : t.drop i = t.getD i default :: t.drop (i + 1) := drop_cons default (by omega)
   have e : decide (s.drop i = t.drop i) = (decide (s.getD i default = t.getD i default) && decide (s.drop (i + 1) = t.drop (i + 1))) := by
     rw [hd1, hd2, Bool.eq_iff_iff]
     simp only [Bool.and_eq_true, decide_eq_true_eq, List.cons.injEq]
   rw [e]
   show cbr (!((s.getD i default).a == (t.getD i default).a && ((s.getD i default).b == (t.getD i default).b && ((s.getD i default).c == (t.getD i default).c && ((s.getD i default).d == (t.getD i default).d && true))))) _ _ = _
   rw [spEq]
   cases decide (s.getD i default = t.getD i default) with
   | false => rfl
   | true =>
     show cbr false _ _ = _
     rw [cbr_false, Bool.true_and]
     exact cSame2_loop hl he K r (i + 1) n (by omega) (by omega)
theorem cSame_eq {s t : List Sp} (hl : s.length < 4611686018427387904) (K : Bool → Prop) : w_r03_Same (spans s) (spans t) K = K (decide (s = t)) := by
 refine det_r03_Same _ _ _ (fun K k => ?_) K
 unfold w_r03_Same wv_r03_Same
 rw [spans_len, spans_len]
 by_cases h : s.length = t.length
 · rw [h, cnF rfl]
   refine ⟨s.length + 1, ?_⟩
   exact (cSame2_loop hl h K s.length 0 (s.length + 1) (by omega) (by omega)).mpr (by rw [List.drop_zero, List.drop_zero]; exact k)
 · rw [cnT (by omega)]
   rw [decide_eq_false (fun e => h (by rw [e]))] at k
   exact k
theorem rsp_same {a b : List RS} (ha : Pc a) (hb : Pc b) (K : Bool → Prop) : w_r03_Same (rsp a) (rsp b) K = K (decide (a = b)) := by
 unfold rsp
 rw [cSame_eq (by rw [List.length_map]; have := ha.n; omega)]
 congr 1
 rw [decide_eq_decide]
 constructor
 · intro h
   have h2 := congrArg rsL h
   rw [rsL_spOf ha.s, rsL_spOf hb.s] at h2
   exact h2
 · rintro rfl; rfl
def inN (n d : Int) (l : List RS) : Bool := decide (RV n d) && inB l (rt n d)
theorem inN_test {n d : Int} (hn : I64 n) (hd : I64 d) {s : RS} (hs : smallS s) (J : Bool → Prop) :
   w_r01_Check n d (fun y => cbr (y == 0) (w_r01_Less n d s.1.num s.1.den (fun u => cbr (!u) (w_r01_Less n d s.2.num s.2.den (fun v => J v)) (J false))) (J false)) = J (inN n d [s]) := by
 rw [sCheck_eq hn hd]
 unfold inN
 by_cases h : RV n d
 · rw [show chk n d = 0 from if_pos h, ez, decide_eq_true h, Bool.true_and]
   obtain ⟨h1, h2, h3⟩ := rt_of h
   have l1 : ∀ K, w_r01_Less n d s.1.num s.1.den K = K (decide (rt n d < s.1)) := fun K => by
     have := sLess_eq h1 hs.1 K; rw [h2, h3] at this; exact this
   have l2 : ∀ K, w_r01_Less n d s.2.num s.2.den K = K (decide (rt n d < s.2)) := fun K => by
     have := sLess_eq h1 hs.2 K; rw [h2, h3] at this; exact this
   rw [l1]
   show _ = J ((!decide (rt n d < s.1) && decide (rt n d < s.2)) || false)
   rw [Bool.or_false]
   cases decide (rt n d < s.1) with
   | true => rfl
   | false =>
     show cbr true _ _ = _
     rw [cbr_true, l2]
     rfl
 · rw [show chk n d = 8 from if_neg h, decide_eq_false h]
   rfl
theorem inB_app {a b : List RS} {p : Rat} : inB (a ++ b) p = (inB a p || inB b p) := List.any_append
theorem inN_app {n d : Int} {a b : List RS} : inN n d (a ++ b) = (inN n d a || inN n d b) := by
 unfold inN
 rw [inB_app]
 cases decide (RV n d) <;> rfl
theorem take_snoc {l : List RS} {k : Nat} (h : k < l.length) : l.take (k + 1) = l.take k ++ [l.getD k default] := by
 rw [List.take_add_one, List.getElem?_eq_getElem h, List.getD_eq_getElem?_getD, List.getElem?_eq_getElem h]
 rfl
section
variable {L : List RS} {A B M : List PV} {n d : Int} {x0 : List PV → List PV → List PV → Int → Int → List PV → Bool → Int → Bool → Prop} {x1 : List PV → List PV → List PV → List PV → Int → Int → List PV → Bool → Int → Bool → Prop} {K : List PV → Bool → Prop}
theorem back1_loop (hn : I64 n) (hd : I64 d) (hs : ∀ s ∈ L, smallS s) (hx1 : ∀ back b i q, x1 back (rsp L) A B n d M b i q = K back b) :
   ∀ (k m : Nat) (back : List RS) (b : Bool), k ≤ L.length → k < m → back.length + k ≤ 1000 → L_l03_PieceCanonical_0_1 w_r03_Great w_l03_valid w_l03_alive w_piece_Make w_r01_Check w_r01_Less w_piece_Has w_r03_Check w_r03_Same w_piece_Minus x0 x1 m (rsp back) (rsp L) A B n d M b ((k : Int) - 1) = K (rsp (back ++ (L.take k).reverse)) (b || inN n d (L.take k)) := by
 intro k
 induction k with
 | zero =>
   intro m back b hk hm hb
   obtain ⟨m, rfl⟩ : ∃ j, m = j + 1 := ⟨m - 1, by omega⟩
   rw [L_l03_PieceCanonical_0_1, cbF (by omega), hx1, List.take_zero, List.reverse_nil, List.append_nil]
   unfold inN inB
   rw [List.any_nil, Bool.and_false, Bool.or_false]
 | succ k ih =>
   intro m back b hk hm hb
   obtain ⟨m, rfl⟩ : ∃ j, m = j + 1 := ⟨m - 1, by omega⟩
   have hx := smallS_mem hs (show k < L.length by omega)
   have ec : ((k + 1 : Nat) : Int) - 1 = (k : Int) := by omega
   have e1 := wib (n := (k : Int) - 1) (by omega) (by omega)
   have T := fun J => inN_test hn hd hx J
   have IH := fun b' => ih m (back ++ [L.getD k default]) b' (by omega) (by omega) (by simp only [List.length_append, List.length_cons, List.length_nil]; omega)
   have hsn := take_snoc (show k < L.length by omega)
   generalize hq : L.getD k default = t at hx T IH hsn
   rw [L_l03_PieceCanonical_0_1, ec, cbT (by omega), hsn, List.reverse_append, List.reverse_singleton]
   dsimp only [lt, Go.Pf.jn]
   simp (discharger := omega) only [e1, rsp_len, asT, Int.toNat_natCast, rsp_at, hq, asR, encR0, encR1, encR2, encR3, decide_true, asr_true, Nat.zero_add, asNo, asRoom, Bool.and_self, rsp_one t, rsp_app, T, List.length_append, List.length_cons, List.length_nil]
   rw [IH, IH, ← List.append_assoc, inN_app]
   cases b with
   | true => rw [cbr_true, Bool.true_or, Bool.true_or]
   | false => rw [cbr_false, Bool.false_or, Bool.or_comm]
theorem back0_loop (hn : I64 n) (hd : I64 d) (hs : ∀ s ∈ L, smallS s) (hl : L.length ≤ 60) (hL : L ≠ []) (hx1 : ∀ back b i q, x1 back (rsp L) A B n d M b i q = K back b) :
   L_l03_PieceCanonical_0_0 w_r03_Great w_l03_valid w_l03_alive w_piece_Make w_r01_Check w_r01_Less w_piece_Has w_r03_Check w_r03_Same w_piece_Minus x0 x1 (L.length + 2) (rsp L) A B n d M false ((L.length : Int) - 1) = K (rsp L.reverse) (inN n d L) := by
 obtain ⟨k, hk⟩ : ∃ k, L.length = k + 1 := by
   cases L with
   | nil => exact absurd rfl hL
   | cons s r => exact ⟨r.length, rfl⟩
 have hx := smallS_mem hs (show k < L.length by omega)
 have ec : ((k + 1 : Nat) : Int) - 1 = (k : Int) := by omega
 have e1 := wib (n := (k : Int) - 1) (by omega) (by omega)
 have T := fun J => inN_test hn hd hx J
 have IH := fun b' => back1_loop (x0 := x0) hn hd hs hx1 k (L.length + 1) [L.getD k default] b' (by omega) (by omega) (by simp only [List.length_cons, List.length_nil]; omega)
 have hsn := take_snoc (show k < L.length by omega)
 rw [← hk, List.take_length] at hsn
 have hr : L.reverse = [L.getD k default] ++ (L.take k).reverse := by
   rw [hsn, List.reverse_append, List.reverse_singleton]
   congr 1
   · rw [← hsn]
   · rw [← hsn]
 have hi : inN n d L = (inN n d (L.take k) || inN n d [L.getD k default]) := by rw [← inN_app, ← hsn]
 generalize hq : L.getD k default = t at hx T IH hr hi
 rw [L_l03_PieceCanonical_0_0, hk, ec, cbT (by omega), ← hk]
 dsimp only [lt, Go.Pf.jn]
 simp (discharger := omega) only [e1, rsp_len, asT, Int.toNat_natCast, rsp_at, hq, asR, encR0, encR1, encR2, encR3, decide_true, asr_true, Nat.zero_add, Bool.and_self, rsp_one t, T, List.length_cons, List.length_nil, cbr_false, IH]
 rw [hr, hi, Bool.or_comm]
end
end Go.Pf.Vc
namespace Go.Pf.Vc
open Go Go.Pf
theorem allE_ok {L : List RS} (hs : ∀ s ∈ L, smallS s) (hv : ∀ s ∈ L, s.1 < s.2) (hl : L.length ≤ 60) : allE (L.map spOf) = 0 := by
 have h1 : allOkB (L.map spOf) = true := List.all_eq_true.2 fun s h => by
   obtain ⟨t, ht, rfl⟩ := List.mem_map.1 h
   exact decide_eq_true (spOf_ok (hs t ht) (hv t ht))
 unfold allE
 rw [if_neg (by rw [List.length_map]; omega), h1, if_pos rfl]
theorem Make_rs {L : List RS} (hs : ∀ s ∈ L, smallS s) (hv : ∀ s ∈ L, s.1 < s.2) (hl : L.length ≤ 60) : ∃ m, Pc m ∧ (∀ p, memP m p ↔ memP L p) ∧ ∀ K, w_piece_Make (rsp L) K = K (rsp m) 0 := by
 obtain ⟨m, h1, h2, h3⟩ := Make_zero (l := L.map spOf) (fun s h => by
   obtain ⟨t, ht, rfl⟩ := List.mem_map.1 h
   have := hs t ht
   exact ⟨this.1.i1, this.1.i2, this.2.i1, this.2.i2⟩) (allE_ok hs hv hl)
 rw [rsL_spOf hs] at h2
 exact ⟨m, h1, h2, h3⟩
theorem Pc.make {L : List RS} (h : Pc L) (K : List PV → Int → Prop) : w_piece_Make (rsp L) K = K (rsp L) 0 := by
 obtain ⟨m, h1, h2, h3⟩ := Make_rs h.s (canon_lt h.c) h.n
 rw [h3, canon_unique m L h1.c h.c h2]
theorem Make_rev {L M : List RS} (hs : ∀ s ∈ L, smallS s) (hv : ∀ s ∈ L, s.1 < s.2) (hl : L.length ≤ 60) (pm : Pc M) (hm : ∀ p, memP M p ↔ memP L p) (K : List PV → Int → Prop) : w_piece_Make (rsp L.reverse) K = K (rsp M) 0 := by
 obtain ⟨m, h1, h2, h3⟩ := Make_rs (L := L.reverse) (fun s h => hs s (List.mem_reverse.1 h)) (fun s h => hv s (List.mem_reverse.1 h)) (by rw [List.length_reverse]; exact hl)
 have : m = M := canon_unique _ _ h1.c pm.c fun p => by
   rw [h2, hm]
   exact memP_congr (fun s => List.mem_reverse) p
 rw [h3, this]
theorem only_eq {A B : List RS} (pa : Pc A) (pb : Pc B) : decide (A = B) = (((((rsp (setR A B 2)).length : Nat) : Int) == 0) && ((((rsp (setR B A 2)).length : Nat) : Int) == 0)) := by
 have e : ∀ l : List RS, ((((rsp l).length : Nat) : Int) == 0) = decide (l = []) := fun l => by
   rw [rsp_len]
   cases l with
   | nil => rfl
   | cons s r => rfl
 rw [e, e, Bool.eq_iff_iff]
 simp only [Bool.and_eq_true, decide_eq_true_eq]
 constructor
 · rintro rfl
   have h := (joinR_ok (a := A) (b := A) (c := fun x y => x ∧ ¬ y) (fun x => joinR_two) (by simp))
   have : setR A A 2 = [] := canon_unique _ _ h.1 trivial fun p => by
     rw [mem_minus]
     exact ⟨fun h => absurd h.1 h.2, fun h => (memP_nil h).elim⟩
   exact ⟨this, this⟩
 · rintro ⟨h1, h2⟩
   refine canon_unique _ _ pa.c pb.c fun p => ?_
   have m1 := mem_minus (a := A) (b := B) (p := p)
   have m2 := mem_minus (a := B) (b := A) (p := p)
   rw [h1] at m1
   rw [h2] at m2
   have n1 := fun h => memP_nil (m1.2 h)
   have n2 := fun h => memP_nil (m2.2 h)
   constructor
   · intro h
     exact Classical.byContradiction fun k => n1 ⟨h, k⟩
   · intro h
     exact Classical.byContradiction fun k => n2 ⟨h, k⟩
theorem has_any {M : List RS} (h : Pc M) {n d : Int} (hn : I64 n) (hd : I64 d) (K : Bool → Int → Prop) : w_piece_Has (rsp M) n d K = if RV n d then K (inN n d M) 0 else K false 2 := by
 by_cases hr : RV n d
 · rw [if_pos hr]
   unfold inN
   rw [decide_eq_true hr, Bool.true_and]
   obtain ⟨h1, h2, h3⟩ := rt_of hr
   have := h.has h1 K
   rw [h2, h3] at this
   exact this
 · rw [if_neg hr, h.has_bad hn hd hr]
theorem inN_congr {n d : Int} {a b : List RS} (h : ∀ p, memP a p ↔ memP b p) : inN n d a = inN n d b := by
 unfold inN
 have : inB a (rt n d) = inB b (rt n d) := inB_eq (by rw [h, inB_iff])
 rw [this]
section
variable {A B : List RS}
theorem tail_eq (pa : Pc A) (pb : Pc B) (la : A.length ≤ 20) (lb : B.length ≤ 20) :
   w_piece_Minus (rsp A) (rsp B) (fun yl146 yi147 => w_piece_Minus (rsp B) (rsp A) (fun yl150 yi151 => cbr (yi147 != 0) (cbr true (false = true) (cbr (((List.length yl146 : Nat) : Int) == 0) (w_r03_Same (rsp A) (rsp B) (fun yb162 => cbr ((((List.length yl150 : Nat) : Int) == 0) == yb162) (w_l03_alive (fun yb163 => yb163 = true)) (false = true))) (w_r03_Same (rsp A) (rsp B) (fun yb164 => cbr (false == yb164) (w_l03_alive (fun yb165 => yb165 = true)) (false = true)))))
     (cbr (yi151 != 0) (false = true) (cbr (((List.length yl146 : Nat) : Int) == 0) (w_r03_Same (rsp A) (rsp B) (fun yb162 => cbr ((((List.length yl150 : Nat) : Int) == 0) == yb162) (w_l03_alive (fun yb163 => yb163 = true)) (false = true))) (w_r03_Same (rsp A) (rsp B) (fun yb164 => cbr (false == yb164) (w_l03_alive (fun yb165 => yb165 = true)) (false = true))))))) := by
 rw [pa.minus pb (by omega), pb.minus pa (by omega), nz, nz]
 simp only [rsp_same pa pb, alive_eq, only_eq pa pb]
 generalize ((((rsp (setR A B 2)).length : Nat) : Int) == 0) = x
 generalize ((((rsp (setR B A 2)).length : Nat) : Int) == 0) = y
 cases x <;> cases y <;> exact True.intro
end
theorem PieceCanonical_ok {l a b : List Sp} {n d : Int} (hl : ∀ s ∈ l, s.i64) (ha : ∀ s ∈ a, s.i64) (hb : ∀ s ∈ b, s.i64) (hn : I64 n) (hd : I64 d) : w_l03_PieceCanonical (spans l) n d (spans a) (spans b) (fun b => b = true) := by
 unfold w_l03_PieceCanonical wv_l03_PieceCanonical
 dsimp only [Go.Pf.jn]
 rw [gGreat_eq]
 cases hg : greatS l with
 | true =>
   show w_l03_alive _
   rw [alive_eq]
 | false =>
   obtain ⟨g1, g2⟩ := greatS_low hg
   rw [cbr_false, lawValid_eq ha]
   cases h1 : okS a with
   | false =>
     show w_l03_alive _
     rw [alive_eq]
   | true =>
     show cbr false _ _
     rw [cbr_false, lawValid_eq hb]
     cases h2 : okS b with
     | false =>
       show w_l03_alive _
       rw [alive_eq]
     | true =>
       show cbr false _ _
       rw [cbr_false]
       obtain ⟨pa, ea, la⟩ := okS_pc h1
       obtain ⟨pb, eb, lb⟩ := okS_pc h2
       rw [ea, eb]
       generalize rsL a = A at pa la
       generalize rsL b = B at pb lb
       have T := tail_eq pa pb la lb
       by_cases h0 : allE l = 0
       case neg =>
         rw [Make_bad hl (by omega) h0]
         have he : allE l = 4 ∨ allE l = 8 := by
           unfold allE at h0 ⊢
           split
           · exact .inl rfl
           · rename_i h3; rw [if_neg h3] at h0
             split
             · rename_i h4; rw [if_pos h4] at h0; exact absurd rfl h0
             · exact .inr rfl
         rcases he with he | he <;> rw [he] <;> exact T
       obtain ⟨o1, o2⟩ := allE_zero h0
       have hs : ∀ s ∈ rsL l, smallS s := fun s h => by obtain ⟨t, ht, rfl⟩ := List.mem_map.1 h; exact rs_small (o2 t ht)
       have hv : ∀ s ∈ rsL l, s.1 < s.2 := fun s h => by obtain ⟨t, ht, rfl⟩ := List.mem_map.1 h; exact (o2 t ht).2.2
       obtain ⟨M, pm, hm, em⟩ := Make_zero hl h0
       have hn' : (rsL l).length = l.length := List.length_map ..
       rw [em, spans_rsL o2, ez]
       generalize rsL l = L at hs hv hm hn'
       have hi : inN n d M = inN n d L := inN_congr hm
       rw [rsp_len]
       have e1 := wib (n := (L.length : Int) - 1) (by omega) (by omega)
       dsimp only [lt]
       rw [e1]
       by_cases hL : L = []
       · subst hL
         refine ⟨1, ?_⟩
         rw [L_l03_PieceCanonical_0_0, cbF (by decide)]
         have er := Make_rev (L := []) hs hv (by simp) pm hm
         rw [show ([] : List PV) = rsp ([] : List RS).reverse from rfl, er, pm.make, has_any pm hn hd]
         have hi0 : inN n d M = false := by rw [hi]; unfold inN inB; rw [List.any_nil, Bool.and_false]
         by_cases hr : RV n d
         · rw [if_pos hr, pm.check3]
           simp only [nz, ez, Pc.same pm.n, Bool.not_true, cbr_false, hi0]
           exact T
         · rw [if_neg hr, pm.check3]
           simp only [nz, Pc.same pm.n, Bool.not_true, cbr_false]
           exact T
       · refine ⟨L.length + 2, ?_⟩
         refine (back0_loop hn hd hs (by omega) hL (fun _ _ _ _ => rfl)).mpr ?_
         simp only [asLen, asTr, List.take_length]
         rw [Make_rev hs hv (by omega) pm hm, pm.make, has_any pm hn hd]
         by_cases hr : RV n d
         · rw [if_pos hr, pm.check3]
           simp only [ez, Pc.same pm.n, Bool.not_true, cbr_false, hi, bne_self_eq_false]
           exact T
         · rw [if_neg hr, pm.check3]
           simp only [nz, Pc.same pm.n, Bool.not_true, cbr_false]
           exact T
end Go.Pf.Vc
