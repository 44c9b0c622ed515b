/- Part 5 of what the statement rests on: a verified evaluator over pure values, the conditions of the program's functions, and their plain laws. -/
import Derived.Test.YtniodknidoemfaaKsW4
namespace Go.Pf.Vc
open Go Go.Pf
section
variable {l : List Ck}
theorem K11_loop (hd : DK l) (R : KR → Prop) {y0 : List PV → List PV → Int → Prop} {y1 : List PV → List PV → List PV → Int → Prop} {y2 : List PV → List PV → List PV → List PV → Nat → Nat → Nat → List PV → List PV → Nat → Nat → Nat → Int → Int → Bool → Prop}
   {y3 : List PV → List PV → List PV → Nat → Nat → Nat → List PV → List PV → Nat → Nat → Nat → Int → Int → Bool → Prop}
   (h1 : ∀ a b c e, e ≠ 0 → R (.error e) → y1 a b c e)
   (h2 : ∀ (bk : List Nat) (an ad : Int) (pcs : List (List Sp)) (ord : List Nat) (lg : List Qy), bk.length = l.length → (∀ a ∈ bk, a < l.length) → pcs.length = l.length → ord.length + 1 = l.length → R (knf l 0 (bk.take 1) an ad pcs ord lg) →
     y2 (nts bk) (pieces pcs) (nts ord) (cks l) l.length l.length l.length (cks l) (logs lg) 1 bk.length bk.length an ad false) :
   ∀ (r n : Nat) (bk : List Nat) (an ad : Int) (pcs : List (List Sp)) (ord : List Nat) (lg : List Qy), r < n → r + 1 ≤ bk.length → bk.length = l.length → (∀ a ∈ bk, a < l.length) → I64 an → I64 ad → pcs.length = l.length → ord.length + (r + 1) = l.length → ord ≠ [] →
     R (knf l r (bk.take (r + 1)) an ad pcs ord lg) →
     L_knife_Spans_1_1 w_ask_Open w_knife_whole w_knife_part w_ask_Mark w_knife_less y0 y1 y2 y3 n (nts bk) (pieces pcs) (nts ord) (cks l) l.length l.length l.length (cks l) (logs lg) (r + 1) bk.length bk.length an ad
 | 0, n + 1, bk, an, ad, pcs, ord, lg, hn, hk, hbl, hb, ha, ha', hp, ho, hne, h => by
   rw [L_knife_Spans_1_1, cbF (by omega)]
   exact h2 bk an ad pcs ord lg hbl hb hp ho h
 | r + 1, n + 1, bk, an, ad, pcs, ord, lg, hn, hk, hbl, hb, ha, ha', hp, ho, hne, h => by
   have n6 := hd.n6
   rw [L_knife_Spans_1_1, cbT (by omega), asTT (by simp)]
   refine ⟨r + 2 + 1, ?_⟩
   refine (K21_loop hd ha ha' bk (k := r + 2) (by omega) hb (by omega) (pieces pcs) (nts ord) l.length l.length l.length bk.length bk.length _ _ _ _ (r + 2) 0 (r + 2 + 1) lg none (by omega) (by omega) (fun _ => rfl) (fun h => absurd h (by omega)) trivial).mpr ?_
   rw [List.drop_zero]
   unfold knf at h
   cases hr : rnd l an ad 0 (bk.take (r + 2)) lg none with
   | error e => rw [hr] at h; exact h1 _ _ _ _ (rnd_err _ _ _ _ _ hr) h
   | ok x =>
     obtain ⟨lg', b⟩ := x
     have hlen : (bk.take (r + 2)).length = r + 2 := by rw [List.length_take]; omega
     have hbo := rnd_ok (bk.take (r + 2)) (r + 2) 0 lg none (lg', b) (by omega) rfl (by rw [List.drop_zero]; exact hr)
     rw [hr] at h
     cases b with
     | none => have : (bk.take (r + 2)).length = 0 := hbo; omega
     | some y =>
       obtain ⟨j, a, p⟩ := y
       obtain ⟨hj, haj, hps⟩ := hbo
       rw [hlen] at hj
       rw [take_getD hj] at haj
       dsimp only at h ⊢
       have hjl : j < bk.length := by omega
       have ham : a < l.length := by rw [← haj]; exact hb _ (getD_mem hjl)
       have e1 := wib (n := (j : Int) + 1) (by omega) (by omega)
       have hl' : ∀ (P : Prop), asr (decide True) P = P := fun _ => rfl
       have hl2 : ∀ (P : Prop), asr (decide True && decide True) P = P := fun _ => rfl
       have no1 : ([.int .i64 (a : Int)] : List PV) = nts [a] := rfl
       have hkj : (((r + 2 : Nat) : Int) - ((j : Int) + 1)).toNat = r + 2 - (j + 1) := by omega
       rw [show bJ (some (j, a, p)) = (j : Int) from rfl, show bN (some (j, a, p)) = p.num from rfl, show bD (some (j, a, p)) = p.den from rfl]
       simp only [nts_len, pieces_len, Int.toNat_natCast, Nat.zero_add, Int.sub_zero, Nat.sub_zero, e1, toNat1, intOf_nts hjl, haj, hl', hl2, hkj, nts_take, nts_drop, nts_app, no1, nts_head, nts_emp, asr_true]
       rw [asN hjl, asP (by omega)]
       simp (discharger := omega) only [asT, asO, asNF]
       unfold room
       simp (discharger := omega) only [asT]
       have hl3 : (List.take (r + 2 - (j + 1)) (List.drop (j + 1) bk)).length = r + 2 - (j + 1) := by rw [List.length_take, List.length_drop]; omega
       by_cases hj2 : j + 1 = r + 2
       · have e0 : (List.take (r + 2 - (j + 1)) (List.drop (j + 1) bk)).isEmpty = true := by rw [show r + 2 - (j + 1) = 0 by omega]; rfl
         rw [e0, cbr_true]
         have IH := K11_loop (y0 := y0) (y3 := y3) hd R h1 h2 r n bk p.num p.den (pcs.set a [⟨an, ad, p.num, p.den⟩]) (ord ++ [a]) lg' (by omega) (by omega) hbl hb hps.i1 hps.i2 (by rw [List.length_set]; exact hp) (by simp; omega) (by simp)
           (by rw [show bk.take (r + 1) = _ from last_take (k := r + 2) hj2 (by omega)]; exact h)
         rw [← pieces_set] at IH
         obtain rfl : j = r + 1 := by omega
         exact IH
       · have e0 : (List.take (r + 2 - (j + 1)) (List.drop (j + 1) bk)).isEmpty = false := by
           cases hx : List.take (r + 2 - (j + 1)) (List.drop (j + 1) bk) with
           | nil => rw [hx] at hl3; simp at hl3; omega
           | cons _ _ => rfl
         have e2 : j + (r + 2 - (j + 1)) = r + 1 := by omega
         rw [e0, cbr_false, hl3]
         have hrl := remK_len (bk := bk) (k := r + 2) hj (by omega)
         have IH := K11_loop (y0 := y0) (y3 := y3) hd R h1 h2 r n (remK bk (r + 2) j) p.num p.den (pcs.set a [⟨an, ad, p.num, p.den⟩]) (ord ++ [a]) lg' (by omega) (by omega) (by omega) (fun x hx => hb x (remK_mem hx)) hps.i1 hps.i2 (by rw [List.length_set]; exact hp) (by simp; omega) (by simp)
           (by rw [show (remK bk (r + 2) j).take (r + 1) = _ from remK_take (k := r + 2) hj (by omega)]; exact h)
         rw [← pieces_set, hrl] at IH
         unfold remK at IH
         rw [e2] at IH ⊢
         rw [asT (by omega)]
         exact IH
end
end Go.Pf.Vc
namespace Go.Pf.Vc
open Go Go.Pf
section
variable {l : List Ck}
theorem K10_loop (hd : DK l) (R : KR → Prop) {y0 : List PV → List PV → Int → Prop} {y1 : List PV → List PV → List PV → Int → Prop} {y2 : List PV → List PV → List PV → List PV → Nat → Nat → Nat → List PV → List PV → Nat → Nat → Nat → Int → Int → Bool → Prop}
   {y3 : List PV → List PV → List PV → Nat → Nat → Nat → List PV → List PV → Nat → Nat → Nat → Int → Int → Bool → Prop}
   (h0 : ∀ a b e, e ≠ 0 → R (.error e) → y0 a b e)
   (h1 : ∀ a b c e, e ≠ 0 → R (.error e) → y1 a b c e)
   (h2 : ∀ (bk : List Nat) (an ad : Int) (pcs : List (List Sp)) (ord : List Nat) (lg : List Qy), bk.length = l.length → (∀ a ∈ bk, a < l.length) → pcs.length = l.length → ord.length + 1 = l.length → R (knf l 0 (bk.take 1) an ad pcs ord lg) →
     y2 (nts bk) (pieces pcs) (nts ord) (cks l) l.length l.length l.length (cks l) (logs lg) 1 bk.length bk.length an ad false)
   (r n : Nat) (bk : List Nat) (an ad : Int) (pcs : List (List Sp)) (lg : List Qy) (hn : r + 1 < n + 1) (hk : r + 1 + 1 ≤ bk.length) (hbl : bk.length = l.length) (hb : ∀ a ∈ bk, a < l.length) (ha : I64 an) (ha' : I64 ad) (hp : pcs.length = l.length) (ho : r + 1 + 1 = l.length)
   (h : R (knf l (r + 1) (bk.take (r + 1 + 1)) an ad pcs [] lg)) :
   L_knife_Spans_1_0 w_ask_Open w_knife_whole w_knife_part w_ask_Mark w_knife_less y0 y1 y2 y3 (n + 1) (nts bk) (pieces pcs) (cks l) l.length l.length l.length (cks l) (logs lg) (r + 1 + 1) bk.length bk.length an ad := by
 have n6 := hd.n6
 rw [L_knife_Spans_1_0, cbT (by omega)]
 refine ⟨r + 2 + 1, ?_⟩
 refine (K20_loop hd ha ha' bk (k := r + 2) (by omega) hb (by omega) (pieces pcs) l.length l.length l.length bk.length bk.length _ _ _ _ (r + 2) 0 (r + 2 + 1) lg none (by omega) (by omega) (fun _ => rfl) (fun h => absurd h (by omega)) trivial).mpr ?_
 rw [List.drop_zero]
 unfold knf at h
 cases hr : rnd l an ad 0 (bk.take (r + 2)) lg none with
 | error e => rw [hr] at h; exact h0 _ _ _ (rnd_err _ _ _ _ _ hr) h
 | ok x =>
   obtain ⟨lg', b⟩ := x
   have hlen : (bk.take (r + 2)).length = r + 2 := by rw [List.length_take]; omega
   have hbo := rnd_ok (bk.take (r + 2)) (r + 2) 0 lg none (lg', b) (by omega) rfl (by rw [List.drop_zero]; exact hr)
   rw [hr] at h
   cases b with
   | none => have : (bk.take (r + 2)).length = 0 := hbo; omega
   | some y =>
     obtain ⟨j, a, p⟩ := y
     obtain ⟨hj, haj, hps⟩ := hbo
     rw [hlen] at hj
     rw [take_getD hj] at haj
     dsimp only at h ⊢
     have hjl : j < bk.length := by omega
     have ham : a < l.length := by rw [← haj]; exact hb _ (getD_mem hjl)
     have e1 := wib (n := (j : Int) + 1) (by omega) (by omega)
     have hl' : ∀ (P : Prop), asr (decide True) P = P := fun _ => rfl
     have hl2 : ∀ (P : Prop), asr (decide True && decide True) P = P := fun _ => rfl
     have no1 : ([.int .i64 (a : Int)] : List PV) = nts [a] := rfl
     have hkj : (((r + 2 : Nat) : Int) - ((j : Int) + 1)).toNat = r + 2 - (j + 1) := by omega
     rw [show bJ (some (j, a, p)) = (j : Int) from rfl, show bN (some (j, a, p)) = p.num from rfl, show bD (some (j, a, p)) = p.den from rfl]
     simp only [nts_len, pieces_len, Int.toNat_natCast, Nat.zero_add, Int.sub_zero, Nat.sub_zero, e1, toNat1, intOf_nts hjl, haj, hl', hl2, hkj, nts_take, nts_drop, nts_app, no1, nts_head, nts_emp, asr_true]
     rw [asN hjl, asP (by omega)]
     simp (discharger := omega) only [asT, asO]
     have hl3 : (List.take (r + 2 - (j + 1)) (List.drop (j + 1) bk)).length = r + 2 - (j + 1) := by rw [List.length_take, List.length_drop]; omega
     by_cases hj2 : j + 1 = r + 2
     · have e0 : (List.take (r + 2 - (j + 1)) (List.drop (j + 1) bk)).isEmpty = true := by rw [show r + 2 - (j + 1) = 0 by omega]; rfl
       rw [e0, cbr_true]
       have IH := K11_loop (y0 := y0) (y3 := y3) hd R h1 h2 r n bk p.num p.den (pcs.set a [⟨an, ad, p.num, p.den⟩]) [a] lg' (by omega) (by omega) hbl hb hps.i1 hps.i2 (by rw [List.length_set]; exact hp) (by simp; omega) (by simp)
         (by rw [show bk.take (r + 1) = _ from last_take (k := r + 2) hj2 (by omega)]; exact h)
       rw [← pieces_set] at IH
       obtain rfl : j = r + 1 := by omega
       exact IH
     · have e0 : (List.take (r + 2 - (j + 1)) (List.drop (j + 1) bk)).isEmpty = false := by
         cases hx : List.take (r + 2 - (j + 1)) (List.drop (j + 1) bk) with
         | nil => rw [hx] at hl3; simp at hl3; omega
         | cons _ _ => rfl
       have e2 : j + (r + 2 - (j + 1)) = r + 1 := by omega
       rw [e0, cbr_false, hl3]
       have hrl := remK_len (bk := bk) (k := r + 2) hj (by omega)
       have IH := K11_loop (y0 := y0) (y3 := y3) hd R h1 h2 r n (remK bk (r + 2) j) p.num p.den (pcs.set a [⟨an, ad, p.num, p.den⟩]) [a] lg' (by omega) (by omega) (by omega) (fun x hx => hb x (remK_mem hx)) hps.i1 hps.i2 (by rw [List.length_set]; exact hp) (by simp; omega) (by simp)
         (by rw [show (remK bk (r + 2) j).take (r + 1) = _ from remK_take (k := r + 2) hj (by omega)]; exact h)
       rw [← pieces_set, hrl] at IH
       unfold remK at IH
       rw [e2] at IH ⊢
       rw [asT (by omega)]
       exact IH
theorem K10' (hd : DK l) (R : KR → Prop) {y0 : List PV → List PV → Int → Prop} {y1 : List PV → List PV → List PV → Int → Prop} {y2 : List PV → List PV → List PV → List PV → Nat → Nat → Nat → List PV → List PV → Nat → Nat → Nat → Int → Int → Bool → Prop}
   {y3 : List PV → List PV → List PV → Nat → Nat → Nat → List PV → List PV → Nat → Nat → Nat → Int → Int → Bool → Prop}
   (h0 : ∀ a b e, e ≠ 0 → R (.error e) → y0 a b e)
   (h1 : ∀ a b c e, e ≠ 0 → R (.error e) → y1 a b c e)
   (h2 : ∀ (bk : List Nat) (an ad : Int) (pcs : List (List Sp)) (ord : List Nat) (lg : List Qy), bk.length = l.length → (∀ a ∈ bk, a < l.length) → pcs.length = l.length → ord.length + 1 = l.length → R (knf l 0 (bk.take 1) an ad pcs ord lg) →
     y2 (nts bk) (pieces pcs) (nts ord) (cks l) l.length l.length l.length (cks l) (logs lg) 1 bk.length bk.length an ad false)
   (r n : Nat) (bk : List Nat) (an ad : Int) (pcs : List (List Sp)) (lg : List Qy) (hn : r + 1 < n + 1) (hk : r + 1 + 1 ≤ bk.length) (hbl : bk.length = l.length) (hb : ∀ a ∈ bk, a < l.length) (ha : I64 an) (ha' : I64 ad) (hp : pcs.length = l.length) (ho : r + 1 + 1 = l.length)
   (h : R (knf l (r + 1) (bk.take (r + 1 + 1)) an ad pcs [] lg)) (k e : Nat) (hk3 : k = r + 1 + 1) (he : e = bk.length) :
   L_knife_Spans_1_0 w_ask_Open w_knife_whole w_knife_part w_ask_Mark w_knife_less y0 y1 y2 y3 (n + 1) (nts bk) (pieces pcs) (cks l) l.length l.length l.length (cks l) (logs lg) k e e an ad := by
 subst hk3; subst he
 exact K10_loop hd R h0 h1 h2 r n bk an ad pcs lg hn hk hbl hb ha ha' hp ho h
theorem K00_loop (l1 l2 l3 : List PV) {len : Nat} (hl : len ≤ 1000) : ∀ x, ∀ (r i n : Nat), i + r = len → r < n →
   L_knife_Spans_0_0 w_ask_Open w_knife_whole w_knife_part w_ask_Mark w_knife_less x n (nts (List.range i) ++ List.replicate r (.int .i64 0)) l1 l2 l3 i len len len i = x (nts (List.range len)) l1 l2 l3 len len len len len false := by
 intro x r
 induction r with
 | zero =>
   intro i n hi hn
   obtain ⟨n, rfl⟩ : ∃ m, n = m + 1 := ⟨n - 1, by omega⟩
   obtain rfl : i = len := by omega
   rw [L_knife_Spans_0_0, cbF (by omega), List.replicate_zero, List.append_nil]
 | succ r ih =>
   intro i n hi hn
   obtain ⟨n, rfl⟩ : ∃ m, n = m + 1 := ⟨n - 1, by omega⟩
   have e1 := wib (n := (i : Int) + 1) (by omega) (by omega)
   have hln : (nts (List.range i)).length = i := by rw [nts_len, List.length_range]
   have et : List.take i (nts (List.range i) ++ List.replicate (r + 1) (PV.int .i64 0)) = nts (List.range i) := by
     rw [List.take_append_of_le_length (by omega), List.take_of_length_le (by omega)]
   have ed : List.drop (i + 1) (nts (List.range i) ++ List.replicate (r + 1) (PV.int .i64 0)) = List.replicate r (.int .i64 0) := by
     rw [List.drop_append, hln, List.drop_eq_nil_of_le (by omega), List.nil_append, List.drop_replicate]
     congr 1
     omega
   have ea : nts (List.range i) ++ ([.int .i64 (i : Int)] ++ List.replicate r (.int .i64 0)) = nts (List.range (i + 1)) ++ List.replicate r (.int .i64 0) := by
     rw [List.range_succ, ← nts_app, List.append_assoc]; rfl
   rw [L_knife_Spans_0_0, cbT (by omega), Nat.zero_add, asT (by rw [List.length_append, hln, List.length_replicate]; omega), asT (by omega), asT (by omega), et, ed, ea, e1, cast1]
   exact ih (i + 1) n (by omega) (by omega)
def kE (l : List Ck) : KR := if deskE l 0 = 0 then knf l (l.length - 1) (List.range l.length) 0 1 (List.replicate l.length []) [] [] else .error (deskE l 0)
def ansK (e : KR) (K : List PV → List PV → List PV → Int → Prop) : Prop :=
 match e with
 | .ok (p, o, lg) => K (pieces p) (nts o) (logs lg) 0
 | .error e => K [] [] [] e
theorem det_ansK {w : (List PV → List PV → List PV → Int → Prop) → Prop} {e : KR} (det : ∀ r0 r1 r2 r3, (∀ K : List PV → List PV → List PV → Int → Prop, K r0 r1 r2 r3 → w K) → ∀ K, w K = K r0 r1 r2 r3)
   (h : ∀ K, ansK e K → w K) (K) : w K = ansK e K := by
 cases e with
 | ok x => exact det _ _ _ _ h K
 | error c => exact det _ _ _ _ h K
theorem kwhole (n : Int) (K : Int → Int → Prop) : w_knife_whole n K = K n 1 := rfl
theorem pieces_rep (n : Nat) : List.replicate n (.data [] : PV) = pieces (List.replicate n []) := by unfold pieces; rw [List.map_replicate]; rfl
theorem kSpans_eq (hf : finC l) (hl : l.length < 4611686018427387904) (K : List PV → List PV → List PV → Int → Prop) : w_knife_Spans (cks l) K = ansK (kE l) K := by
 refine det_ansK (fun r0 r1 r2 r3 h K => det_knife_Spans _ r0 r1 r2 r3 h K) (fun K k => ?_) K
 unfold w_knife_Spans wv_knife_Spans
 unfold kE at k
 rw [aOpen_eq hf hl]
 by_cases h : deskE l 0 = 0
 case neg => rw [if_neg h] at k ⊢; rw [cnT h]; exact k
 have hd := (deskE_zero h).1
 have n6 := hd.n6; have n0 := hd.n0
 rw [if_pos h] at k ⊢
 rw [cnF rfl, cks_len, asT (by omega), asT (by unfold room; omega)]
 refine ⟨l.length + 1, ?_⟩
 refine (K00_loop (cks l) (cks l) [] (len := l.length) (by omega) _ l.length 0 (l.length + 1) (by omega) (by omega)).mpr ?_
 rw [cks_len, asT (by omega), asT (by omega), asT (by unfold room; omega), kwhole]
 rw [pieces_rep]
 have hrl : (List.range l.length).length = l.length := List.length_range ..
 have hrm : ∀ a ∈ List.range l.length, a < l.length := fun a ha => List.mem_range.1 ha
 obtain ⟨m, hm⟩ : ∃ m, l.length = m + 1 := ⟨l.length - 1, by omega⟩
 have k2 : ansK (knf l m ((List.range l.length).take (m + 1)) 0 1 (List.replicate l.length []) [] []) K := by
   rw [List.take_of_length_le (by omega)]
   rw [show l.length - 1 = m by omega] at k
   exact k
 cases m with
 | zero =>
   refine ⟨1, ?_⟩
   rw [L_knife_Spans_1_0, cbF (by omega)]
   have h0l : 0 < (List.range l.length).length := by omega
   have ham := hrm _ (getD_mem h0l)
   have no1 : ([.int .i64 (((List.range l.length).getD 0 0 : Nat) : Int)] : List PV) = nts [(List.range l.length).getD 0 0] := rfl
   have hs1 : ∀ z : Int, ([.agg [.int .i64 0, .int .i64 1, .int .i64 z, .int .i64 1]] : List PV) = spans [⟨0, 1, z, 1⟩] := fun z => rfl
   have hpl : (List.replicate l.length ([] : List Sp)).length = l.length := by rw [List.length_replicate]
   unfold knf ansK at k2
   dsimp only at k2
   rw [take_getD (by omega), List.nil_append] at k2
   simp only [nts_len, pieces_len, cks_len, intOf_nts h0l, kwhole, cks_at (l := l) (i := 0) (by omega), asCk, ck0, Int.toNat_natCast, Nat.zero_add, List.length_set, asN h0l, no1, hs1, pieces_set, hrl]
   rw [asP (by omega)]
   simp (discharger := omega) only [asT]
   rw [List.take_of_length_le (by rw [pieces_len, List.length_set]; omega)]
   exact k2
 | succ r =>
   refine ⟨r + 2 + 1, ?_⟩
   refine K10' hd (fun e => ansK e K) (fun _ _ e _ h => h) (fun _ _ _ e _ h => h) ?_ r (r + 2) (List.range l.length) 0 1 (List.replicate l.length []) [] (by omega) (by omega) hrl hrm ⟨by decide, by decide⟩ ⟨by decide, by decide⟩ (by rw [List.length_replicate]) (by omega) k2 l.length l.length (by omega) hrl.symm
   intro bk an ad pcs ord lg hbl hb hp ho hk
   have h0l : 0 < bk.length := by omega
   have ham := hb _ (getD_mem h0l)
   have no1 : ([.int .i64 ((bk.getD 0 0 : Nat) : Int)] : List PV) = nts [bk.getD 0 0] := rfl
   have hs1 : ∀ z : Int, ([.agg [.int .i64 an, .int .i64 ad, .int .i64 z, .int .i64 1]] : List PV) = spans [⟨an, ad, z, 1⟩] := fun z => rfl
   unfold knf ansK at hk
   dsimp only at hk
   rw [take_getD (by omega)] at hk
   simp only [nts_len, pieces_len, cks_len, intOf_nts h0l, kwhole, cks_at (l := l) (i := 0) (by omega), asCk, ck0, Int.toNat_natCast, Nat.zero_add, List.length_set, asN h0l, no1, nts_app, hs1, pieces_set, nts_take]
   rw [asP (by omega)]
   unfold room
   simp (discharger := omega) only [asT, asNF]
   rw [List.take_of_length_le (by rw [pieces_len, List.length_set]; omega), List.take_of_length_le (by omega)]
   exact hk
end
end Go.Pf.Vc
namespace Go.Pf.Vc
open Go Go.Pf
section
variable {l : List Ck}
def bls (hs : List Bool) : List PV := hs.map PV.bool
theorem bls_len (hs : List Bool) : (bls hs).length = hs.length := List.length_map ..
theorem bls_at {hs : List Bool} {i : Nat} (h : i < hs.length) : List.getD (bls hs) i .nils = .bool (hs.getD i false) := by
 unfold bls
 rw [List.getD_eq_getElem?_getD, List.getElem?_map, List.getElem?_eq_getElem h, List.getD_eq_getElem?_getD, List.getElem?_eq_getElem h]
 rfl
theorem bls_set (hs : List Bool) (i : Nat) (b : Bool) : List.set (bls hs) i (.bool b) = bls (hs.set i b) := by unfold bls; rw [List.map_set]
def left : Nat → List Bool → List Nat
 | _, [] => []
 | i, b :: r => if b then left (i + 1) r else i :: left (i + 1) r
theorem left_mem : ∀ (hs : List Bool) (i a : Nat), a ∈ left i hs → i ≤ a ∧ a < i + hs.length
 | [], i, a, h => by cases h
 | b :: r, i, a, h => by
   unfold left at h
   rw [List.length_cons]
   split at h
   · have := left_mem r (i + 1) a h; omega
   · rcases List.mem_cons.1 h with rfl | h
     · omega
     · have := left_mem r (i + 1) a h; omega
theorem left_set : ∀ (hs : List Bool) (i j a : Nat), j < (left i hs).length → (left i hs).getD j 0 = a → left i (hs.set (a - i) true) = (left i hs).eraseIdx j
 | [], i, j, a, hj, _ => absurd hj (Nat.not_lt_zero j)
 | b :: r, i, j, a, hj, h => by
   unfold left at hj h ⊢
   cases b with
   | true =>
     rw [if_pos rfl] at hj h
     have hm := left_mem r (i + 1) a (by rw [← h]; exact getD_mem hj)
     rw [show a - i = (a - (i + 1)) + 1 by omega, List.set_cons_succ]
     dsimp only
     rw [if_pos rfl, if_pos rfl]
     exact left_set r (i + 1) j a hj h
   | false =>
     rw [if_neg (by decide)] at hj h
     cases j with
     | zero =>
       have : i = a := h
       subst this
       rw [Nat.sub_self, List.set_cons_zero]
       rfl
     | succ j =>
       rw [List.length_cons] at hj
       have h2 : (left (i + 1) r).getD j 0 = a := h
       have hm := left_mem r (i + 1) a (by rw [← h2]; exact getD_mem (by omega))
       rw [show a - i = (a - (i + 1)) + 1 by omega, List.set_cons_succ]
       dsimp only
       rw [if_neg (by decide), if_neg (by decide), List.eraseIdx_cons_succ, left_set r (i + 1) j a (by omega) h2]
theorem left_none : ∀ (n i : Nat), left i (List.replicate n false) = (List.range n).map (fun k => k + i)
 | 0, _ => rfl
 | n + 1, i => by
   rw [List.replicate_succ, List.range_succ_eq_map]
   unfold left
   rw [if_neg (by decide), left_none n (i + 1), List.map_cons, List.map_map, Nat.zero_add]
   congr 1
   apply List.map_congr_left
   intro k _
   simp only [Function.comp]
   omega
def bA : Option (Nat × Nat × Rat) → Int | none => -1 | some (_, a, _) => a
def tN (q : Rat) : Option (Nat × Nat × Rat) → Int | none => q.num | some (_, _, t) => t.num
def tD (q : Rat) : Option (Nat × Nat × Rat) → Int | none => q.den | some (_, _, t) => t.den
theorem rmark_eq (hd : DK l) {a : Nat} (h : a < l.length) {an ad : Int} (ha : I64 an) (ha' : I64 ad) (lg : List Qy) (K : List PV → List PV → Int → Int → Int → Prop) :
   w_r08_Share (cks l) (logs lg) a (fun n d => w_r04_Mark (cks l) (logs lg) a an ad n d K) =
     match markE l an ad lg.length a with
     | .ok p => K (cks l) (logs (lg ++ [markQ l an ad a p])) p.num p.den 0
     | .error e => K [] [] 0 0 e := by
 have hs := shN_small hd h
 have n6 := hd.n6
 rw [fShare_eq h (hd.ok a h) (by omega)]
 rw [show shr (l.getD a default) l.length = shN l a from rfl, fMark_eq hd.fin (by omega) (logs_head lg) ha ha' hs.i1 hs.i2, logs_len]
 have em : qryR l lg.length a (Ck.mark an ad (shN l a).num (shN l a).den) = markE l an ad lg.length a := rfl
 rw [em]
 cases markE l an ad lg.length a with
 | ok p =>
   show K (cks l) (logs lg ++ [_]) _ _ _ = K (cks l) (logs (lg ++ [_])) _ _ _
   rw [logs_app]; rfl
 | error c => rfl
theorem H10_loop (hd : DK l) (h1l : 1 < l.length) {an ad : Int} (ha : I64 an) (ha' : I64 ad) (hs : List Bool) (hhs : hs.length = l.length) (q : Rat) (pcs : List PV) (n5 n6 n7 n10 : Nat) :
   ∀ x0 x1 x2 x3, ∀ (r i n j : Nat) (lg : List Qy) (b : Option (Nat × Nat × Rat)), i + r = l.length → r < n → bSmall b →
     L_r11_Spans_1_0 w_r04_Open w_r01_Of w_r08_Share w_r04_Mark w_r01_Less x0 x1 x2 x3 n pcs (bls hs) (cks l) (cks l) (logs lg) n5 n6 n7 l.length l.length n10 an ad q.num q.den (bA b) (tN q b) (tD q b) i =
       match rnd l an ad j (left i (hs.drop i)) lg b with
       | .ok x => x1 pcs (bls hs) (cks l) (cks l) (logs x.1) n5 n6 n7 l.length l.length n10 an ad q.num q.den (bA x.2) (tN q x.2) (tD q x.2) l.length false
       | .error e => x0 pcs (bls hs) e := by
 intro x0 x1 x2 x3 r
 induction r with
 | zero =>
   intro i n j lg b hi hn _
   obtain ⟨n, rfl⟩ : ∃ m, n = m + 1 := ⟨n - 1, by omega⟩
   obtain rfl : i = l.length := by omega
   rw [L_r11_Spans_1_0, cks_len, cbF (by omega), List.drop_eq_nil_of_le (by omega)]
   unfold left rnd
   rfl
 | succ r ih =>
   intro i n j lg b hi hn hs0
   obtain ⟨n, rfl⟩ : ∃ m, n = m + 1 := ⟨n - 1, by omega⟩
   have hil : i < l.length := by omega
   have n6' := hd.n6
   have e1 := wib (n := (i : Int) + 1) (by omega) (by omega)
   rw [L_r11_Spans_1_0, cks_len, cbT (by omega), asT (by omega), asT (by omega), bls_len, asT hhs, Int.toNat_natCast, Nat.zero_add, asT (by omega), bls_at (by omega), drop_cons false (by omega), e1, cast1]
   change cbr (hs.getD i false) _ _ = _
   unfold left
   cases hb : hs.getD i false with
   | true =>
     rw [cbr_true, if_pos rfl]
     exact ih (i + 1) n j lg b (by omega) (by omega) hs0
   | false =>
     rw [cbr_false, if_neg (by decide), cbT (by omega), rmark_eq hd hil ha ha']
     unfold rnd
     cases hm : markE l an ad lg.length i with
     | error e =>
       dsimp only
       rw [cnT (markE_err hm)]
     | ok p =>
       dsimp only
       have hp : small p := by unfold markE at hm; exact qryR_small hm
       rw [cnF rfl]
       have hs2 := better_small (j := j) (a := i) hp hs0
       have IH := fun bb h2 => ih (i + 1) n (j + 1) (lg ++ [markQ l an ad i p]) bb (by omega) (by omega) h2
       cases b with
       | none =>
         rw [show bA none = -1 from rfl, cbT (by omega)]
         exact IH (better j i p none) hs2
       | some x =>
         obtain ⟨kk, c, t⟩ := x
         rw [show bA (some (kk, c, t)) = (c : Int) from rfl, cbF (by omega)]
         change w_r01_Less p.num p.den t.num t.den _ = _
         rw [sLess_eq hp hs0]
         by_cases hlt : p < t
         · rw [cbT hlt]
           have eb : better j i p (some (kk, c, t)) = some (j, i, p) := if_pos hlt
           rw [eb] at hs2 ⊢
           exact IH _ hs2
         · rw [cbF hlt]
           have eb : better j i p (some (kk, c, t)) = some (kk, c, t) := if_neg hlt
           rw [eb] at hs2 ⊢
           exact IH _ hs2
end
end Go.Pf.Vc
namespace Go.Pf.Vc
open Go Go.Pf
section
variable {l : List Ck}
theorem H11_loop (hd : DK l) {ord : List Nat} (h1l : ord.length + 1 < l.length) {an ad : Int} (ha : I64 an) (ha' : I64 ad) (hs : List Bool) (hhs : hs.length = l.length) (q : Rat) (pcs : List PV) (n5 n6 n7 n10 : Nat) :
   ∀ x0 x1 x2 x3, ∀ (r i n j : Nat) (lg : List Qy) (b : Option (Nat × Nat × Rat)), i + r = l.length → r < n → bSmall b →
     L_r11_Spans_1_1 w_r04_Open w_r01_Of w_r08_Share w_r04_Mark w_r01_Less x0 x1 x2 x3 n pcs (bls hs) (nts ord) (cks l) (cks l) (logs lg) n5 n6 n7 l.length l.length n10 an ad q.num q.den (bA b) (tN q b) (tD q b) i =
       match rnd l an ad j (left i (hs.drop i)) lg b with
       | .ok x => x3 pcs (bls hs) (nts ord) (cks l) (cks l) (logs x.1) n5 n6 n7 l.length l.length n10 an ad q.num q.den (bA x.2) (tN q x.2) (tD q x.2) l.length false
       | .error e => x2 pcs (bls hs) (nts ord) e := by
 intro x0 x1 x2 x3 r
 induction r with
 | zero =>
   intro i n j lg b hi hn _
   obtain ⟨n, rfl⟩ : ∃ m, n = m + 1 := ⟨n - 1, by omega⟩
   obtain rfl : i = l.length := by omega
   rw [L_r11_Spans_1_1, cks_len, cbF (by omega), List.drop_eq_nil_of_le (by omega)]
   unfold left rnd
   rfl
 | succ r ih =>
   intro i n j lg b hi hn hs0
   obtain ⟨n, rfl⟩ : ∃ m, n = m + 1 := ⟨n - 1, by omega⟩
   have hil : i < l.length := by omega
   have n6' := hd.n6
   have e2 := wib (n := (ord.length : Int) + 1) (by omega) (by omega)
   have e1 := wib (n := (i : Int) + 1) (by omega) (by omega)
   rw [L_r11_Spans_1_1, cks_len, cbT (by omega), asT (by omega), asT (by omega), bls_len, asT hhs, Int.toNat_natCast, Nat.zero_add, asT (by omega), bls_at (by omega), drop_cons false (by omega), e1, cast1]
   change cbr (hs.getD i false) _ _ = _
   unfold left
   cases hb : hs.getD i false with
   | true =>
     rw [cbr_true, if_pos rfl, asTT (by simp)]
     exact ih (i + 1) n j lg b (by omega) (by omega) hs0
   | false =>
     rw [cbr_false, if_neg (by decide), nts_len, e2, cbT (by omega), rmark_eq hd hil ha ha']
     unfold rnd
     cases hm : markE l an ad lg.length i with
     | error e =>
       dsimp only
       rw [cnT (markE_err hm)]
     | ok p =>
       dsimp only
       have hp : small p := by unfold markE at hm; exact qryR_small hm
       rw [cnF rfl]
       have hs2 := better_small (j := j) (a := i) hp hs0
       have IH := fun bb h2 => ih (i + 1) n (j + 1) (lg ++ [markQ l an ad i p]) bb (by omega) (by omega) h2
       cases b with
       | none =>
         rw [show bA none = -1 from rfl, cbT (by omega), asTT (by simp)]
         exact IH (better j i p none) hs2
       | some x =>
         obtain ⟨kk, c, t⟩ := x
         rw [show bA (some (kk, c, t)) = (c : Int) from rfl, cbF (by omega)]
         change w_r01_Less p.num p.den t.num t.den _ = _
         rw [sLess_eq hp hs0]
         by_cases hlt : p < t
         · rw [cbT hlt, asTT (by simp)]
           have eb : better j i p (some (kk, c, t)) = some (j, i, p) := if_pos hlt
           rw [eb] at hs2 ⊢
           exact IH _ hs2
         · rw [cbF hlt, asTT (by simp)]
           have eb : better j i p (some (kk, c, t)) = some (kk, c, t) := if_neg hlt
           rw [eb] at hs2 ⊢
           exact IH _ hs2
def lastW (r : List Nat) (w : Int) : Int := if w < 0 then (match r with | [] => w | a :: _ => (a : Int)) else w
theorem G10_loop (hd : DK l) (h1l : ¬ 1 < l.length) (an ad : Int) (hs : List Bool) (hhs : hs.length = l.length) (q : Rat) (hq : small q) (pcs : List PV) (lg : List Qy) (n5 n6 n7 n10 : Nat) :
   ∀ x0 x1 x2 x3, ∀ (r i n : Nat) (w : Int), i + r = l.length → r < n →
     L_r11_Spans_1_0 w_r04_Open w_r01_Of w_r08_Share w_r04_Mark w_r01_Less x0 x1 x2 x3 n pcs (bls hs) (cks l) (cks l) (logs lg) n5 n6 n7 l.length l.length n10 an ad q.num q.den w q.num q.den i =
       x1 pcs (bls hs) (cks l) (cks l) (logs lg) n5 n6 n7 l.length l.length n10 an ad q.num q.den (lastW (left i (hs.drop i)) w) q.num q.den l.length false := by
 intro x0 x1 x2 x3 r
 induction r with
 | zero =>
   intro i n w hi hn
   obtain ⟨n, rfl⟩ : ∃ m, n = m + 1 := ⟨n - 1, by omega⟩
   obtain rfl : i = l.length := by omega
   rw [L_r11_Spans_1_0, cks_len, cbF (by omega), List.drop_eq_nil_of_le (by omega)]
   unfold left lastW
   dsimp only
   rw [ite_self]
 | succ r ih =>
   intro i n w hi hn
   obtain ⟨n, rfl⟩ : ∃ m, n = m + 1 := ⟨n - 1, by omega⟩
   have hil : i < l.length := by omega
   have n6' := hd.n6
   have e1 := wib (n := (i : Int) + 1) (by omega) (by omega)
   rw [L_r11_Spans_1_0, cks_len, cbT (by omega), asT (by omega), asT (by omega), bls_len, asT hhs, Int.toNat_natCast, Nat.zero_add, asT (by omega), bls_at (by omega), drop_cons false (by omega), e1, cast1]
   change cbr (hs.getD i false) _ _ = _
   unfold left
   cases hb : hs.getD i false with
   | true =>
     rw [cbr_true, if_pos rfl]
     exact ih (i + 1) n w (by omega) (by omega)
   | false =>
     rw [cbr_false, if_neg (by decide), cbF (by omega)]
     by_cases hw : w < 0
     · rw [cbT hw, ih (i + 1) n (i : Int) (by omega) (by omega)]
       unfold lastW
       rw [if_neg (by omega), if_pos hw]
     · rw [cbF hw, sLess_eq hq hq]
       have hqq : ¬ q < q := Rat.lt_irrefl
       rw [cbF hqq, ih (i + 1) n w (by omega) (by omega)]
       unfold lastW
       rw [if_neg hw, if_neg hw]
theorem G11_loop (hd : DK l) {ord : List Nat} (h1l : ¬ ord.length + 1 < l.length) (ho : ord.length < l.length) (an ad : Int) (hs : List Bool) (hhs : hs.length = l.length) (q : Rat) (hq : small q) (pcs : List PV) (lg : List Qy) (n5 n6 n7 n10 : Nat) :
   ∀ x0 x1 x2 x3, ∀ (r i n : Nat) (w : Int), i + r = l.length → r < n →
     L_r11_Spans_1_1 w_r04_Open w_r01_Of w_r08_Share w_r04_Mark w_r01_Less x0 x1 x2 x3 n pcs (bls hs) (nts ord) (cks l) (cks l) (logs lg) n5 n6 n7 l.length l.length n10 an ad q.num q.den w q.num q.den i =
       x3 pcs (bls hs) (nts ord) (cks l) (cks l) (logs lg) n5 n6 n7 l.length l.length n10 an ad q.num q.den (lastW (left i (hs.drop i)) w) q.num q.den l.length false := by
 intro x0 x1 x2 x3 r
 induction r with
 | zero =>
   intro i n w hi hn
   obtain ⟨n, rfl⟩ : ∃ m, n = m + 1 := ⟨n - 1, by omega⟩
   obtain rfl : i = l.length := by omega
   rw [L_r11_Spans_1_1, cks_len, cbF (by omega), List.drop_eq_nil_of_le (by omega)]
   unfold left lastW
   dsimp only
   rw [ite_self]
 | succ r ih =>
   intro i n w hi hn
   obtain ⟨n, rfl⟩ : ∃ m, n = m + 1 := ⟨n - 1, by omega⟩
   have hil : i < l.length := by omega
   have n6' := hd.n6
   have e2 := wib (n := (ord.length : Int) + 1) (by omega) (by omega)
   have e1 := wib (n := (i : Int) + 1) (by omega) (by omega)
   rw [L_r11_Spans_1_1, cks_len, cbT (by omega), asT (by omega), asT (by omega), bls_len, asT hhs, Int.toNat_natCast, Nat.zero_add, asT (by omega), bls_at (by omega), drop_cons false (by omega), e1, cast1]
   change cbr (hs.getD i false) _ _ = _
   unfold left
   cases hb : hs.getD i false with
   | true =>
     rw [cbr_true, if_pos rfl, asTT (by simp)]
     exact ih (i + 1) n w (by omega) (by omega)
   | false =>
     rw [cbr_false, if_neg (by decide), nts_len, e2, cbF (by omega)]
     by_cases hw : w < 0
     · rw [cbT hw, asTT (by simp), ih (i + 1) n (i : Int) (by omega) (by omega)]
       unfold lastW
       rw [if_neg (by omega), if_pos hw]
     · rw [cbF hw, sLess_eq hq hq]
       have hqq : ¬ q < q := Rat.lt_irrefl
       rw [cbF hqq, asTT (by simp), ih (i + 1) n w (by omega) (by omega)]
       unfold lastW
       rw [if_neg hw, if_neg hw]
end
end Go.Pf.Vc
namespace Go.Pf.Vc
open Go Go.Pf
section
variable {l : List Ck}
theorem asB {hs : List Bool} {i : Nat} {P : Prop} (h : i < hs.length) : asr (conf (.one (.b)) (List.getD (bls hs) i .nils)) P = P := by rw [bls_at h]; rfl
theorem H01_loop (hd : DK l) (R : KR → Prop) {y0 : List PV → List PV → Int → Prop} {y1 : List PV → List PV → List PV → Int → Prop} {y2 : List PV → List PV → List PV → List PV → List PV → List PV → Nat → Nat → Nat → Nat → Nat → Nat → Int → Int → Int → Int → Bool → Prop}
   {y3 : List PV → List PV → List PV → List PV → List PV → Nat → Nat → Nat → Nat → Nat → Nat → Int → Int → Int → Int → Bool → Prop} {q : Rat} (hq : small q) (hqn : q.num = (l.getD 0 default).len) (hqd : q.den = 1)
   (h1 : ∀ a b c e, e ≠ 0 → R (.error e) → y1 a b c e)
   (h2 : ∀ (hs : List Bool) (an ad : Int) (pcs : List (List Sp)) (ord : List Nat) (lg : List Qy), pcs.length = l.length → ord.length = l.length → R (.ok (pcs, ord, lg)) →
     y2 (pieces pcs) (bls hs) (nts ord) (cks l) (cks l) (logs lg) l.length l.length l.length l.length l.length l.length an ad q.num q.den false) :
   ∀ (r n : Nat) (hs : List Bool) (an ad : Int) (pcs : List (List Sp)) (ord : List Nat) (lg : List Qy), r + 1 < n → (left 0 hs).length = r + 1 → hs.length = l.length → I64 an → I64 ad → pcs.length = l.length → ord.length + (r + 1) = l.length →
     R (knf l r (left 0 hs) an ad pcs ord lg) →
     L_r11_Spans_0_1 w_r04_Open w_r01_Of w_r08_Share w_r04_Mark w_r01_Less y0 y1 y2 y3 n (pieces pcs) (bls hs) (nts ord) (cks l) (cks l) (logs lg) l.length l.length l.length l.length l.length l.length an ad q.num q.den
 | 0, n + 1, hs, an, ad, pcs, ord, lg, hn, hk, hhs, ha, ha', hp, ho, h => by
   have n6 := hd.n6
   obtain ⟨n, rfl⟩ : ∃ m, n = m + 1 := ⟨n - 1, by omega⟩
   rw [L_r11_Spans_0_1, nts_len, cks_len, cbT (by omega), asTT (by simp)]
   refine ⟨l.length + 1, ?_⟩
   refine (G11_loop hd (ord := ord) (by omega) (by omega) an ad hs hhs q hq (pieces pcs) lg l.length l.length l.length l.length _ _ _ _ l.length 0 (l.length + 1) (-1) (by omega) (by omega)).mpr ?_
   obtain ⟨a, e⟩ : ∃ a, left 0 hs = [a] := by
     match hx : left 0 hs with
     | [a] => exact ⟨a, rfl⟩
     | [] => rw [hx] at hk; simp at hk
     | a :: b :: c => rw [hx] at hk; simp at hk
   have hm := left_mem hs 0 a (by rw [e]; exact List.mem_singleton.2 rfl)
   rw [List.drop_zero, e, show lastW [a] (-1) = (a : Int) from rfl]
   rw [e] at h
   unfold knf at h
   rw [show [a].getD 0 0 = a from rfl] at h
   have hs1 : ([.agg [.int .i64 an, .int .i64 ad, .int .i64 q.num, .int .i64 (q.den : Int)]] : List PV) = spans [⟨an, ad, (l.getD 0 default).len, 1⟩] := by rw [hqn, hqd]; rfl
   have hl2 : ∀ (P : Prop), asr (decide True && decide True) P = P := fun _ => rfl
   have hl3 : ∀ (P : Prop), asr (decide True) P = P := fun _ => rfl
   have no1 : ([.int .i64 (a : Int)] : List PV) = nts [a] := rfl
   simp only [bls_len, pieces_len, Int.toNat_natCast, Nat.zero_add, nts_len, no1, nts_app, hl2, hl3]
   rw [asP (by omega), asB (by omega)]
   unfold room
   simp (discharger := omega) only [asT, asNF]
   rw [hs1, pieces_set, bls_set]
   rw [L_r11_Spans_0_1, nts_len, cks_len, cbF (by rw [List.length_append, List.length_singleton]; omega)]
   exact h2 _ _ _ _ _ _ (by rw [List.length_set]; exact hp) (by rw [List.length_append, List.length_singleton]; omega) h
 | r + 1, n + 1, hs, an, ad, pcs, ord, lg, hn, hk, hhs, ha, ha', hp, ho, h => by
   have n6 := hd.n6
   rw [L_r11_Spans_0_1, nts_len, cks_len, cbT (by omega), asTT (by simp)]
   refine ⟨l.length + 1, ?_⟩
   refine (H11_loop hd (ord := ord) (by omega) ha ha' hs hhs q (pieces pcs) l.length l.length l.length l.length _ _ _ _ l.length 0 (l.length + 1) 0 lg none (by omega) (by omega) trivial).mpr ?_
   rw [List.drop_zero]
   unfold knf at h
   cases hr : rnd l an ad 0 (left 0 hs) lg none with
   | error e => rw [hr] at h; exact h1 _ _ _ _ (rnd_err _ _ _ _ _ hr) h
   | ok x =>
     obtain ⟨lg', b⟩ := x
     have hbo := rnd_ok (left 0 hs) (r + 2) 0 lg none (lg', b) (by omega) rfl (by rw [List.drop_zero]; exact hr)
     rw [hr] at h
     cases b with
     | none => have : (left 0 hs).length = 0 := hbo; omega
     | some y =>
       obtain ⟨j, a, p⟩ := y
       obtain ⟨hj, haj, hps⟩ := hbo
       dsimp only at h ⊢
       have hm := left_mem hs 0 a (by rw [← haj]; exact getD_mem hj)
       have hls := left_set hs 0 j a hj haj
       rw [Nat.sub_zero] at hls
       have hs1 : ([.agg [.int .i64 an, .int .i64 ad, .int .i64 p.num, .int .i64 (p.den : Int)]] : List PV) = spans [⟨an, ad, p.num, p.den⟩] := rfl
       have hl2 : ∀ (P : Prop), asr (decide True && decide True) P = P := fun _ => rfl
       have hl3 : ∀ (P : Prop), asr (decide True) P = P := fun _ => rfl
       have no1 : ([.int .i64 (a : Int)] : List PV) = nts [a] := rfl
       rw [show bA (some (j, a, p)) = (a : Int) from rfl, show tN q (some (j, a, p)) = p.num from rfl, show tD q (some (j, a, p)) = p.den from rfl]
       simp only [bls_len, pieces_len, Int.toNat_natCast, Nat.zero_add, nts_len, no1, nts_app, hl2, hl3]
       rw [asP (by omega), asB (by omega)]
       unfold room
       simp (discharger := omega) only [asT, asNF]
       rw [hs1, pieces_set, bls_set]
       rw [← hls] at h
       exact H01_loop (y0 := y0) (y3 := y3) hd R hq hqn hqd h1 h2 r n (hs.set a true) p.num p.den (pcs.set a [⟨an, ad, p.num, p.den⟩]) (ord ++ [a]) lg' (by omega) (by rw [hls, List.length_eraseIdx, if_pos hj]; omega) (by rw [List.length_set]; exact hhs) hps.i1 hps.i2 (by rw [List.length_set]; exact hp) (by rw [List.length_append, List.length_singleton]; omega) h
end
end Go.Pf.Vc
namespace Go.Pf.Vc
open Go Go.Pf
section
variable {l : List Ck}
theorem rSpans_eq (hf : finC l) (hl : l.length < 4611686018427387904) (K : List PV → List PV → List PV → Int → Prop) : w_r11_Spans (cks l) K = ansK (kE l) K := by
 refine det_ansK (fun r0 r1 r2 r3 h K => det_r11_Spans _ r0 r1 r2 r3 h K) (fun K k => ?_) K
 unfold w_r11_Spans wv_r11_Spans
 unfold kE at k
 rw [fOpen_eq hf hl]
 by_cases h : deskE l 0 = 0
 case neg => rw [if_neg h] at k ⊢; rw [cnT h]; exact k
 have hd := (deskE_zero h).1
 have n6 := hd.n6; have n0 := hd.n0
 rw [if_pos h] at k ⊢
 rw [cnF rfl, cks_len]
 unfold room
 rw [asT (by omega), asT (by omega), asT (by omega), asT (by omega), asT (by omega), asT (by omega), sOf_eq, asT (by omega), cks_at (l := l) (i := 0) (by omega), asCk, ck0, sOf_eq]
 have hq : small (((l.getD 0 default).len : Int) : Rat) := by
   have h0 := hd.ok 0 (by omega)
   exact small_int (by have := VC.len0 h0; omega)
 generalize hqe : (((l.getD 0 default).len : Int) : Rat) = q
 rw [hqe] at hq
 have hqn : q.num = (l.getD 0 default).len := by rw [← hqe]; rfl
 have hqd : q.den = 1 := by rw [← hqe]; rfl
 rw [pieces_rep]
 have hbl : List.replicate l.length (.bool false : PV) = bls (List.replicate l.length false) := by unfold bls; rw [List.map_replicate]
 rw [hbl]
 have hlf : left 0 (List.replicate l.length false) = List.range l.length := by
   rw [left_none]
   simp
 have hhs : (List.replicate l.length false).length = l.length := List.length_replicate ..
 have hpl : (List.replicate l.length ([] : List Sp)).length = l.length := List.length_replicate ..
 rw [← hlf] at k
 have i0 : I64 0 := ⟨by decide, by decide⟩
 have i1 : I64 1 := ⟨by decide, by decide⟩
 have hl2 : ∀ (P : Prop), asr (decide True && decide True) P = P := fun _ => rfl
 have hl3 : ∀ (P : Prop), asr (decide True) P = P := fun _ => rfl
 obtain ⟨m, hm⟩ : ∃ m, l.length = m + 1 := ⟨l.length - 1, by omega⟩
 rw [show l.length - 1 = m by omega] at k
 have hk2 : (left 0 (List.replicate l.length false)).length = m + 1 := by rw [hlf, List.length_range]; exact hm
 generalize hgs : List.replicate l.length false = hs at k hk2 hhs
 generalize hgp : List.replicate l.length ([] : List Sp) = pcs at k hpl
 refine ⟨m + 3, ?_⟩
 rw [L_r11_Spans_0_0, cks_len, cbT (by omega)]
 refine ⟨l.length + 1, ?_⟩
 cases m with
 | zero =>
   refine (G10_loop hd (by omega) 0 1 hs hhs q hq (pieces pcs) [] l.length l.length l.length l.length _ _ _ _ l.length 0 (l.length + 1) (-1) (by omega) (by omega)).mpr ?_
   obtain ⟨a, e⟩ : ∃ a, left 0 hs = [a] := by
     match hx : left 0 hs with
     | [a] => exact ⟨a, rfl⟩
     | [] => rw [hx] at hk2; simp at hk2
     | a :: b :: c => rw [hx] at hk2; simp at hk2
   have hmm := left_mem hs 0 a (by rw [e]; exact List.mem_singleton.2 rfl)
   rw [List.drop_zero, e, show lastW [a] (-1) = (a : Int) from rfl]
   rw [e] at k
   unfold knf at k
   rw [show [a].getD 0 0 = a from rfl, List.nil_append] at k
   have hs1 : ([.agg [.int .i64 0, .int .i64 1, .int .i64 q.num, .int .i64 (q.den : Int)]] : List PV) = spans [⟨0, 1, (l.getD 0 default).len, 1⟩] := by rw [hqn, hqd]; rfl
   have no1 : ([.int .i64 (a : Int)] : List PV) = nts [a] := rfl
   simp only [bls_len, pieces_len, Int.toNat_natCast, Nat.zero_add, nts_len, no1, hl2, hl3]
   rw [asP (by omega), asB (by omega)]
   simp (discharger := omega) only [asT]
   rw [hs1, pieces_set, bls_set]
   rw [L_r11_Spans_0_1, nts_len, cks_len, cbF (by rw [List.length_singleton]; omega)]
   rw [pieces_len, List.length_set, asT hpl, asT (by omega), List.take_of_length_le (by rw [pieces_len, List.length_set]; omega), List.take_of_length_le (by rw [nts_len]; omega)]
   exact k
 | succ r =>
   refine (H10_loop hd (by omega) i0 i1 hs hhs q (pieces pcs) l.length l.length l.length l.length _ _ _ _ l.length 0 (l.length + 1) 0 [] none (by omega) (by omega) trivial).mpr ?_
   rw [List.drop_zero]
   unfold knf at k
   cases hr : rnd l 0 1 0 (left 0 hs) [] none with
   | error e => rw [hr] at k; exact k
   | ok x =>
     obtain ⟨lg', b⟩ := x
     have hbo := rnd_ok (left 0 hs) (r + 2) 0 [] none (lg', b) (by omega) rfl (by rw [List.drop_zero]; exact hr)
     rw [hr] at k
     cases b with
     | none => have : (left 0 hs).length = 0 := hbo; omega
     | some y =>
       obtain ⟨j, a, p⟩ := y
       obtain ⟨hj, haj, hps⟩ := hbo
       dsimp only at k ⊢
       have hmm := left_mem hs 0 a (by rw [← haj]; exact getD_mem hj)
       have hls := left_set hs 0 j a hj haj
       rw [Nat.sub_zero] at hls
       have hs1 : ([.agg [.int .i64 0, .int .i64 1, .int .i64 p.num, .int .i64 (p.den : Int)]] : List PV) = spans [⟨0, 1, p.num, p.den⟩] := rfl
       have no1 : ([.int .i64 (a : Int)] : List PV) = nts [a] := rfl
       rw [show bA (some (j, a, p)) = (a : Int) from rfl, show tN q (some (j, a, p)) = p.num from rfl, show tD q (some (j, a, p)) = p.den from rfl]
       simp only [bls_len, pieces_len, Int.toNat_natCast, Nat.zero_add, nts_len, no1, hl2, hl3]
       rw [asP (by omega), asB (by omega)]
       simp (discharger := omega) only [asT]
       rw [hs1, pieces_set, bls_set]
       rw [← hls, List.nil_append] at k
       exact H01_loop hd (fun e => ansK e K) hq hqn hqd (fun _ _ _ e _ h => h) (fun hs an ad pcs ord lg hp ho hk => by
         rw [pieces_len, asT hp, asT (by omega), List.take_of_length_le (by rw [pieces_len]; omega), List.take_of_length_le (by rw [nts_len]; omega)]
         exact hk) r (r + 3) (hs.set a true) p.num p.den (pcs.set a [⟨0, 1, p.num, p.den⟩]) [a] lg' (by omega) (by rw [hls, List.length_eraseIdx, if_pos hj]; omega) (by rw [List.length_set]; exact hhs) hps.i1 hps.i2 (by rw [List.length_set]; exact hpl) (by rw [List.length_singleton]; omega) k
theorem markE_low {an ad : Int} {m a : Nat} {p : Rat} (h : markE l an ad m a = .ok p) : m < 2000 := by
 unfold markE qryR at h
 split at h
 · split at h
   · split at h
     · split at h
       · cases h
       · omega
     · cases h
   · cases h
 · cases h
theorem rnd_len {an ad : Int} : ∀ (rest : List Nat) (i : Nat) (lg : List Qy) (b : Option (Nat × Nat × Rat)) (x : List Qy × Option (Nat × Nat × Rat)), lg.length ≤ 2000 → rnd l an ad i rest lg b = .ok x → x.1.length ≤ 2000
 | [], _, lg, b, x, hl, h => by unfold rnd at h; cases h; exact hl
 | a :: r, i, lg, b, x, hl, h => by
   unfold rnd at h
   split at h
   · cases h
   · rename_i p hm
     have := markE_low hm
     exact rnd_len r _ _ _ x (by rw [List.length_append, List.length_singleton]; omega) h
theorem set_one {pcs : List (List Sp)} (h : ∀ i, (pcs.getD i []).length ≤ 1) (a : Nat) (s : Sp) (i : Nat) : ((pcs.set a [s]).getD i []).length ≤ 1 := by
 have := h i
 rw [List.getD_eq_getElem?_getD] at this ⊢
 rw [List.getElem?_set]
 split
 · split
   · simp
   · simp
 · exact this
theorem knf_ok : ∀ (r : Nat) (rest : List Nat) (an ad : Int) (pcs : List (List Sp)) (ord : List Nat) (lg : List Qy) (x : List (List Sp) × List Nat × List Qy), (∀ i, (pcs.getD i []).length ≤ 1) → lg.length ≤ 2000 → knf l r rest an ad pcs ord lg = .ok x →
   x.1.length = pcs.length ∧ (∀ i, (x.1.getD i []).length ≤ 1) ∧ x.2.1.length = ord.length + r + 1 ∧ x.2.2.length ≤ 2000
 | 0, rest, an, ad, pcs, ord, lg, x, hp, hl, h => by
   unfold knf at h
   cases h
   exact ⟨by rw [List.length_set], set_one hp _ _, by rw [List.length_append, List.length_singleton], hl⟩
 | r + 1, rest, an, ad, pcs, ord, lg, x, hp, hl, h => by
   unfold knf at h
   split at h
   · cases h
   · rename_i lg' j a p hr
     obtain ⟨h1, h2, h3, h4⟩ := knf_ok r _ _ _ _ _ _ x (set_one hp _ _) (rnd_len _ _ _ _ _ hl hr) h
     refine ⟨by rw [h1, List.length_set], h2, ?_, h4⟩
     rw [h3, List.length_append, List.length_singleton]
     omega
   · cases h
theorem KnifeSpans_ok (hl : l.length ≤ 9223372036854775807) : w_l11_KnifeSpans (cks l) (fun b => b = true) := by
 unfold w_l11_KnifeSpans wv_l11_KnifeSpans
 rw [GreatCakes_eq hl]
 cases hg : greatC l with
 | true => rw [cbr_true]
 | false =>
   obtain ⟨g1, g2, g3⟩ := greatC_low hg
   rw [cbr_false, kSpans_eq g3 (by omega)]
   cases hk : kE l with
   | error e =>
     change w_r11_Spans (cks l) _
     rw [rSpans_eq g3 (by omega), hk]
     change w_r06_Same (pieces []) (pieces []) _
     rw [gSame_self (l := []) (fun i hi => absurd hi (Nat.not_lt_zero i)) (by decide), cbr_true]
     change w_r09_Same (ints []) (ints []) _
     rw [iSame_self (by decide), cbr_true]
     change w_r04_SameLogs (logs []) (logs []) _
     rw [SameLogs_self (by decide), cbr_true]
     exact beq_self_eq_true e
   | ok x =>
     obtain ⟨p, o, lg⟩ := x
     have hb : p.length = l.length ∧ (∀ i, (p.getD i []).length ≤ 1) ∧ o.length = 0 + (l.length - 1) + 1 ∧ lg.length ≤ 2000 := by
       unfold kE at hk
       split at hk
       · have := knf_ok _ _ _ _ _ _ _ _ (fun i => by rw [List.getD_eq_getElem?_getD, List.getElem?_replicate]; split <;> simp) (by decide) hk
         rw [List.length_replicate] at this
         exact this
       · cases hk
     obtain ⟨b1, b2, b3, b4⟩ := hb
     change w_r11_Spans (cks l) _
     rw [rSpans_eq g3 (by omega), hk]
     change w_r06_Same (pieces p) (pieces p) _
     rw [gSame_self (fun i _ => by have := b2 i; omega) (by omega), cbr_true]
     change w_r09_Same (ints (o.map fun n : Nat => (n : Int))) (ints (o.map fun n : Nat => (n : Int))) _
     rw [iSame_self (by rw [List.length_map]; omega), cbr_true]
     change w_r04_SameLogs (logs lg) (logs lg) _
     rw [SameLogs_self (by omega), cbr_true]
     rfl
end
end Go.Pf.Vc
