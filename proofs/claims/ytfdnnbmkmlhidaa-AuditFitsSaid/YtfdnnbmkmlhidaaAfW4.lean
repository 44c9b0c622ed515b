/- Part 4 of what the statement rests on: a verified evaluator over pure values, the conditions of the program's functions, and their plain laws. -/
import Derived.Test.YtfdnnbmkmlhidaaAfW3
namespace Go.Pf.Vc
open Go Go.Pf Go.Sort
theorem dedR_is : ∀ (p : Rat) (r : List Rat), (p :: r).Pairwise (· ≤ ·) → (∀ z ∈ dedR p r, p < z) ∧ incrR (dedR p r) ∧ ∀ z, z ∈ p :: dedR p r ↔ z ∈ p :: r
 | p, [], _ => ⟨fun z hz => by simp [dedR] at hz, trivial, fun z => Iff.rfl⟩
 | p, x :: r, h => by
   rw [List.pairwise_cons] at h
   obtain ⟨h1, h2⟩ := h
   have hpx := h1 x List.mem_cons_self
   unfold dedR
   by_cases e : x = p
   · rw [if_pos e]
     subst e
     obtain ⟨i1, i2, i3⟩ := dedR_is x r h2
     refine ⟨i1, i2, fun z => ?_⟩
     rw [i3 z]
     simp
   · rw [if_neg e]
     obtain ⟨i1, i2, i3⟩ := dedR_is x r h2
     have hlt : p < x := by grind
     refine ⟨fun z hz => ?_, ⟨i1, i2⟩, fun z => ?_⟩
     · rcases List.mem_cons.1 hz with rfl | hz
       · exact hlt
       · have := i1 z hz; grind
     · rw [List.mem_cons, i3 z, List.mem_cons (a := z) (b := p)]
theorem compR_is {l : List Rat} (h : l.Pairwise (· ≤ ·)) : incrR (compR l) ∧ ∀ z, z ∈ compR l ↔ z ∈ l := by
 cases l with
 | nil => exact ⟨trivial, fun z => Iff.rfl⟩
 | cons x r =>
   obtain ⟨h1, h2, h3⟩ := dedR_is x r h
   exact ⟨⟨h1, h2⟩, h3⟩
theorem incr_unique : ∀ {a b : List Rat}, incrR a → incrR b → (∀ z, z ∈ a ↔ z ∈ b) → a = b
 | [], [], _, _, _ => rfl
 | [], y :: b, _, _, h => by have := (h y).2 List.mem_cons_self; cases this
 | x :: a, [], _, _, h => by have := (h x).1 List.mem_cons_self; cases this
 | x :: a, y :: b, h1, h2, h => by
   have e : x = y := by
     rcases List.mem_cons.1 ((h x).1 List.mem_cons_self) with e | hx
     · exact e
     · rcases List.mem_cons.1 ((h y).2 List.mem_cons_self) with e | hy
       · exact e.symm
       · have := h2.1 x hx
         have := h1.1 y hy
         grind
   subst e
   rw [incr_unique h1.2 h2.2 fun z => ?_]
   constructor
   · intro hz
     rcases List.mem_cons.1 ((h z).1 (List.mem_cons_of_mem _ hz)) with e | hz2
     · have := h1.1 z hz; subst e; exact absurd this Rat.lt_irrefl
     · exact hz2
   · intro hz
     rcases List.mem_cons.1 ((h z).2 (List.mem_cons_of_mem _ hz)) with e | hz2
     · have := h2.1 z hz; subst e; exact absurd this Rat.lt_irrefl
     · exact hz2
theorem take_set_snoc {l : List Rat} {k : Nat} {a : Rat} (h : k < l.length) : (l.set k a).take (k + 1) = l.take k ++ [a] := by
 apply List.ext_getElem?
 intro i
 rw [List.getElem?_take, List.getElem?_set]
 by_cases h1 : i < k
 · rw [if_pos (by omega), if_neg (by omega), List.getElem?_append_left (by simp; omega), List.getElem?_take, if_pos h1]
 · by_cases h2 : i = k
   · subst h2
     rw [if_pos (by omega), if_pos rfl, if_pos h, List.getElem?_append_right (by rw [List.length_take]; omega), List.length_take, Nat.min_eq_left (by omega), Nat.sub_self]
     rfl
   · rw [if_neg (by omega), List.getElem?_append_right (by rw [List.length_take]; omega)]
     rw [List.getElem?_eq_none]
     rw [List.length_take, List.length_singleton]; omega
theorem wibN {n : Nat} (h : n ≤ 9223372036854775807) : IntKind.i64.wrap (n : Int) = (n : Int) := wib (by omega) (by omega)
theorem copy_loop {orig : List Rat} (hl : orig.length < 1000000) {k0 : Nat} {a0 : T_audit_whole} {x : List PV → Nat → Nat → Int → Nat → Nat → Nat → Int → Bool → Prop} :
   ∀ (r j n : Nat) (cur : List Rat) (k : Nat), k0 + j + r = orig.length → 1 ≤ j → r < n → cur.length = orig.length → k0 ≤ k → k + 1 ≤ k0 + j → (∀ i, k0 + j ≤ i + 1 → cur.getD i 0 = orig.getD i 0) →
     ∃ cur' : List Rat, cur'.length = orig.length ∧ cur'.take (k + (dedR (orig.getD (k0 + j - 1) 0) (orig.drop (k0 + j))).length) = cur.take k ++ dedR (orig.getD (k0 + j - 1) 0) (orig.drop (k0 + j)) ∧
       L_audit_pointsOf_2_0 a0 x n (rts cur) orig.length orig.length (k : Int) k0 (orig.length - k0) orig.length (j : Int) = x (rts cur') orig.length orig.length ((k + (dedR (orig.getD (k0 + j - 1) 0) (orig.drop (k0 + j))).length : Nat) : Int) k0 (orig.length - k0) orig.length ((orig.length - k0 : Nat) : Int) false := by
 intro r
 induction r with
 | zero =>
   intro j n cur k hj h1 hn hc hk0 hk hr
   obtain ⟨n, rfl⟩ : ∃ m, n = m + 1 := ⟨n - 1, by omega⟩
   have e : orig.drop (k0 + j) = [] := List.drop_eq_nil_of_le (by omega)
   rw [e]
   refine ⟨cur, hc, by simp [dedR], ?_⟩
   rw [L_audit_pointsOf_2_0, cbF (by omega)]
   simp only [dedR, List.length_nil, Nat.add_zero]
   rw [show orig.length - k0 = j by omega]
 | succ r ih =>
   intro j n cur k hj h1 hn hc hk0 hk hr
   obtain ⟨n, rfl⟩ : ∃ m, n = m + 1 := ⟨n - 1, by omega⟩
   have hil : k0 + j < orig.length := by omega
   have hd : orig.drop (k0 + j) = orig.getD (k0 + j) 0 :: orig.drop (k0 + j + 1) := drop_cons 0 hil
   have e1 := wib (n := (j : Int) - 1) (by omega) (by omega)
   have e2 := wib (n := (j : Int) + 1) (by omega) (by omega)
   have e3 := wib (n := (k : Int) + 1) (by omega) (by omega)
   have e4 : (j : Int) - 1 = ((j - 1 : Nat) : Int) := by omega
   rw [e4] at e1
   have g1 := hr (k0 + j) (by omega)
   have g2 := hr (k0 + (j - 1)) (by omega)
   rw [L_audit_pointsOf_2_0]
   dsimp only [lt, Go.Pf.jn]
   simp (discharger := omega) only [rts_len, hc, cbT, asT, Int.toNat_natCast, Nat.zero_add, rts_at, asW, encW0, encW1, ratEq, e4, encW_is, rts_set, cast1, wibN, asTr]
   rw [g1, g2, show k0 + (j - 1) = k0 + j - 1 by omega, hd]
   by_cases h : orig.getD (k0 + j) 0 = orig.getD (k0 + j - 1) 0
   · have hD : dedR (orig.getD (k0 + j - 1) 0) (orig.getD (k0 + j) 0 :: orig.drop (k0 + j + 1)) = dedR (orig.getD (k0 + (j + 1) - 1) 0) (orig.drop (k0 + (j + 1))) := by
       rw [dedR, if_pos h, ← h]
       rfl
     obtain ⟨cur', c1, c2, c3⟩ := ih (j + 1) n cur k (by omega) (by omega) (by omega) hc hk0 (by omega) (fun i hi => hr i (by omega))
     rw [hD]
     refine ⟨cur', c1, c2, ?_⟩
     rw [decide_eq_true h, Bool.not_true, cbr_false, c3]
   · have hD : dedR (orig.getD (k0 + j - 1) 0) (orig.getD (k0 + j) 0 :: orig.drop (k0 + j + 1)) = orig.getD (k0 + j) 0 :: dedR (orig.getD (k0 + (j + 1) - 1) 0) (orig.drop (k0 + (j + 1))) := by
       rw [dedR, if_neg h]
       rfl
     obtain ⟨cur', c1, c2, c3⟩ := ih (j + 1) n (cur.set k (orig.getD (k0 + j) 0)) (k + 1) (by omega) (by omega) (by omega) (by simp [hc]) (by omega) (by omega) (fun i hi => by
       rw [List.getD_eq_getElem?_getD, List.getElem?_set, if_neg (by omega), ← List.getD_eq_getElem?_getD]
       exact hr i (by omega))
     rw [hD]
     refine ⟨cur', c1, ?_, ?_⟩
     · rw [List.length_cons, show k + ((dedR (orig.getD (k0 + (j + 1) - 1) 0) (orig.drop (k0 + (j + 1)))).length + 1) = k + 1 + (dedR (orig.getD (k0 + (j + 1) - 1) 0) (orig.drop (k0 + (j + 1)))).length by omega, c2, take_set_snoc (by omega), List.append_assoc]
       rfl
     · rw [decide_eq_false h, Bool.not_false, cbr_true, c3, List.length_cons, show k + ((dedR (orig.getD (k0 + (j + 1) - 1) 0) (orig.drop (k0 + (j + 1)))).length + 1) = k + 1 + (dedR (orig.getD (k0 + (j + 1) - 1) 0) (orig.drop (k0 + (j + 1)))).length by omega]
theorem comp_loop {l : List Rat} (hl : l.length < 1000000) {a0 : T_audit_whole} {x0 : List PV → Nat → Nat → Int → Bool → Prop} {x1 : List PV → Nat → Nat → Prop} {J : List PV → Nat → Nat → Prop} (h0 : ∀ a b c i d, x0 a b c i d = J a b c) (h1 : ∀ a b c, x1 a b c = J a b c) :
   ∀ (r k n : Nat), k + r = l.length → 1 ≤ k → r < n → (∀ L : List PV, L.length = l.length → List.take (k + (dedR (l.getD (k - 1) 0) (l.drop k)).length) L = rts (l.take k ++ dedR (l.getD (k - 1) 0) (l.drop k)) → J L (k + (dedR (l.getD (k - 1) 0) (l.drop k)).length) l.length) →
     L_audit_pointsOf_1_0 a0 x0 x1 n (rts l) l.length l.length (k : Int) := by
 intro r
 induction r with
 | zero =>
   intro k n hk hk1 hn q
   obtain ⟨n, rfl⟩ : ∃ m, n = m + 1 := ⟨n - 1, by omega⟩
   rw [L_audit_pointsOf_1_0, cbF (by omega), h0]
   have e : l.drop k = [] := List.drop_eq_nil_of_le (by omega)
   rw [e] at q
   simp only [dedR, List.length_nil, Nat.add_zero, List.append_nil] at q
   have := q (rts l) (rts_len l) (rts_take l k)
   rw [show k = l.length by omega] at this
   exact this
 | succ r ih =>
   intro k n hk hk1 hn q
   obtain ⟨n, rfl⟩ : ∃ m, n = m + 1 := ⟨n - 1, by omega⟩
   have hil : k < l.length := by omega
   have hd : l.drop k = l.getD k 0 :: l.drop (k + 1) := drop_cons 0 hil
   have e1 := wib (n := (k : Int) - 1) (by omega) (by omega)
   have e2 := wib (n := (k : Int) + 1) (by omega) (by omega)
   have e4 : (k : Int) - 1 = ((k - 1 : Nat) : Int) := by omega
   rw [e4] at e1
   rw [L_audit_pointsOf_1_0]
   dsimp only [lt]
   simp (discharger := omega) only [rts_len, cbT, asT, Int.toNat_natCast, Nat.zero_add, rts_at, asW, encW0, encW1, ratEq, e4, cast1, wibN, asTr]
   by_cases h : l.getD k 0 = l.getD (k - 1) 0
   · rw [cbT h]
     refine asr_iff.2 ⟨by simp, l.length + 1, ?_⟩
     obtain ⟨cur', c1, c2, c3⟩ := copy_loop (a0 := a0) hl (k0 := k) (x := fun yl91 yn92 yn93 yi94 _ _ _ _ _ => (Go.Pf.jn (fun (yj101 : List PV → Prop) =>
       (asr (decide ((0 : Int) ≤ yi94))
       (asr (decide (yi94 ≤ ((yn92 : Nat) : Int)))
       (asr ((decide (((yn92 : Nat) : Int) ≤ ((yn92 : Nat) : Int))) || (decide (((yn92 : Nat) : Int) ≤ ((yn92 : Nat) : Int))))
       (cbr (decide (((((yn92 : Nat) : Int) - yi94).toNat) = 0))
       (yj101 yl91)
       (asr (decide ((List.length yl91) = yn93))
       (asr (decide (((yi94.toNat) + ((((yn92 : Nat) : Int) - yi94).toNat)) ≤ yn93))
       (yj101 ((List.take (yi94.toNat) yl91) ++ ((List.replicate ((((yn92 : Nat) : Int) - yi94).toNat) ((.agg [(.int .i64 (0)), (.int .i64 (0))]) : PV)) ++ (List.drop ((yi94.toNat) + ((((yn92 : Nat) : Int) - yi94).toNat)) yl91)))))))))))
       (fun yl100 => (asr (decide ((0 : Int) ≤ yi94))
       (asr ((decide (yi94 ≤ ((yn92 : Nat) : Int))) || (decide (yi94 ≤ ((yn92 : Nat) : Int))))
       (x1 yl100 ((yi94 - (0 : Int)).toNat) yn93)))))) (l.length - k - 1) 1 (l.length + 1) l k (by omega) (by omega) (by omega) rfl (by omega) (by omega) (fun i hi => rfl)
     have ed : dedR (l.getD (k - 1) 0) (l.drop k) = dedR (l.getD (k + 1 - 1) 0) (l.drop (k + 1)) := by
       rw [hd, dedR, if_pos h, ← h]
       rfl
     rw [ed] at q
     have eN : (((l.length : Nat) : Int) - (k : Int)).toNat = l.length - k := by omega
     rw [eN, show ((1 : Nat) : Int) = 1 from rfl] at *
     refine c3.mpr ?_
     have hD := dedR_len (l.getD (k + 1 - 1) 0) (l.drop (k + 1))
     rw [List.length_drop] at hD
     generalize dedR (l.getD (k + 1 - 1) 0) (l.drop (k + 1)) = D at *
     dsimp only [Go.Pf.jn]
     rw [asT (by omega), asT (by omega), decide_eq_true (Int.le_refl _), Bool.true_or, asr_true, cbF (by omega), rts_len, c1, asE]
     rw [asT (by omega), asT (by omega), decide_eq_true (show (((k + D.length : Nat) : Nat) : Int) ≤ (l.length : Int) by omega), Bool.true_or, asr_true, h1]
     have e5 : (((k + D.length : Nat) : Nat) : Int) - 0 = ((k + D.length : Nat) : Int) := by omega
     rw [e5, Int.toNat_natCast]
     refine q _ ?_ ?_
     · simp only [List.length_append, List.length_take, List.length_replicate, List.length_drop, rts_len, c1]
       omega
     · rw [List.take_append_of_le_length (by rw [List.length_take, rts_len]; omega), List.take_take, Nat.min_self, rts_take, c2]
   · rw [cbF h]
     have ed : dedR (l.getD (k - 1) 0) (l.drop k) = l.getD k 0 :: dedR (l.getD (k + 1 - 1) 0) (l.drop (k + 1)) := by
       rw [hd, dedR, if_neg h]
       rfl
     refine ih (k + 1) n (by omega) (by omega) (by omega) fun L hL hT => ?_
     rw [ed] at q
     have e6 : k + (l.getD k 0 :: dedR (l.getD (k + 1 - 1) 0) (l.drop (k + 1))).length = k + 1 + (dedR (l.getD (k + 1 - 1) 0) (l.drop (k + 1))).length := by simp only [List.length_cons]; omega
     have e7 : l.take k ++ l.getD k 0 :: dedR (l.getD (k + 1 - 1) 0) (l.drop (k + 1)) = l.take (k + 1) ++ dedR (l.getD (k + 1 - 1) 0) (l.drop (k + 1)) := by
       rw [show l.take (k + 1) = l.take k ++ [l.getD k 0] by
         rw [List.take_add_one, List.getD_eq_getElem?_getD, List.getElem?_eq_getElem hil]
         rfl]
       simp
     rw [e6, e7] at q
     exact q L hL hT
end Go.Pf.Vc
namespace Go.Pf.Vc
open Go Go.Pf Go.Sort
theorem rtCmp_lt {x y : PV} (hx : rtGood x = true) (hy : rtGood y = true) : rtCmp x y < 0 ↔ ratOf x < ratOf y := by
 unfold rtGood at hx hy
 split at hx
 · split at hy
   · simp only [rtCmp, ratOf]
     exact cmpI_lt (rvB_iff.1 hx) (rvB_iff.1 hy)
   · cases hy
 · cases hx
theorem El_goodW {n g : Nat} (x : (rtSrt n g).s.El) : rtGood x.1 = true := by
 have := x.2
 simp only [Srt.gd, Bool.and_eq_true] at this
 exact this.2
theorem rt_swo (n g : Nat) : SWO (fun x y : (rtSrt n g).s.El => decide ((rtSrt n g).cf x y < 0)) where
 irrefl x := by
   have := rtCmp_lt (El_goodW x) (El_goodW x)
   show decide (rtCmp x.1 x.1 < 0) = false
   rw [decide_eq_false_iff_not, this]
   exact Rat.lt_irrefl
 trans x y z h1 h2 := by
   have h1 : decide (rtCmp x.1 y.1 < 0) = true := h1
   have h2 : decide (rtCmp y.1 z.1 < 0) = true := h2
   show decide (rtCmp x.1 z.1 < 0) = true
   rw [decide_eq_true_eq, rtCmp_lt (El_goodW _) (El_goodW _)] at *
   grind
 ntrans x y z h1 h2 := by
   have h1 : decide (rtCmp x.1 y.1 < 0) = false := h1
   have h2 : decide (rtCmp y.1 z.1 < 0) = false := h2
   show decide (rtCmp x.1 z.1 < 0) = false
   rw [decide_eq_false_iff_not, rtCmp_lt (El_goodW _) (El_goodW _)] at *
   grind
theorem gd_encW (n g : Nat) {q : Rat} (h : small q) : (rtSrt n g).s.gd (encW q) = true := by
 have h1 := h.i1
 have h2 := h.i2
 have e1 : IntKind.i64.min = -9223372036854775808 := by decide
 have e2 : IntKind.i64.max = 9223372036854775807 := by decide
 simp only [Srt.gd, rtSrt, okI, encW, okL, rtGood, Bool.and_eq_true, decide_eq_true_eq, e1, e2]
 unfold I64 at h1 h2
 exact ⟨⟨trivial, h1.1, h1.2, trivial, h2.1, h2.2, trivial⟩, rvB_iff.2 h.rv⟩
def decW : PV → Rat
 | .agg [.int _ a, .int _ b] => rt a b
 | _ => 0
theorem decW_enc (q : Rat) : decW (encW q) = q := rt_self q
theorem ratOf_enc (q : Rat) : ratOf (encW q) = q := rt_self q
theorem sorted_rt (n g : Nat) {l : List Rat} (h : ∀ s ∈ l, small s) : ∃ l' : List Rat, l'.Perm l ∧ l'.Pairwise (· ≤ ·) ∧ Srt.sorted (rtSrt n g).s (rtSrt n g).srt (rts l) = rts l' := by
 obtain ⟨d, hd⟩ := rows_some (s := (rtSrt n g).s) (l := rts l) fun x hx => by
   obtain ⟨s, hs, rfl⟩ := List.mem_map.1 hx
   exact gd_encW n g (h s hs)
 obtain ⟨d', h1, h2, h3⟩ := (rtSrt n g).sorted_is (rt_swo n g) hd
 have hv := Srt.rows?_val hd
 have hp : (d'.map (·.1)).Perm (rts l) := by rw [← hv]; exact h1.map _
 have hm : ∀ x ∈ d'.map (·.1), ∃ s ∈ l, encW s = x := fun x hx => List.mem_map.1 (hp.mem_iff.1 hx)
 refine ⟨(d'.map (·.1)).map decW, ?_, ?_, ?_⟩
 · have this : (List.map decW (d'.map (·.1))).Perm (List.map decW (l.map encW)) := hp.map decW
   have e : List.map decW (l.map encW) = l := by rw [List.map_map, show decW ∘ encW = id from funext decW_enc, List.map_id]
   rw [e] at this
   exact this
 · rw [List.map_map, List.pairwise_map]
   refine h2.imp_of_mem fun {x y} hx hy hxy => ?_
   have hxy : ¬ rtCmp y.1 x.1 < 0 := hxy
   rw [rtCmp_lt (El_goodW _) (El_goodW _)] at hxy
   obtain ⟨s, _, es⟩ := hm x.1 (List.mem_map_of_mem hx)
   obtain ⟨t, _, et⟩ := hm y.1 (List.mem_map_of_mem hy)
   show decW x.1 ≤ decW y.1
   rw [← es, ← et] at hxy ⊢
   rw [ratOf_enc, ratOf_enc] at hxy
   rw [decW_enc, decW_enc]
   grind
 · rw [h3]
   have key : ∀ (xs : List PV), (∀ x ∈ xs, ∃ s ∈ l, encW s = x) → (xs.map decW).map encW = xs := by
     intro xs
     induction xs with
     | nil => intro _; rfl
     | cons x r ih =>
       intro h
       obtain ⟨s, _, es⟩ := h x List.mem_cons_self
       rw [List.map_cons, List.map_cons, ih fun y hy => h y (List.mem_cons_of_mem _ hy), ← es, decW_enc]
   exact (key _ hm).symm
def Cm.rs (c : Cm) : RS := (c.f, c.t)
def ptsC (N : Int) (L : List Cm) : List Rat := endsR (L.map Cm.rs) [0, (N : Rat)]
def flatC (L : List Cm) : List Rat := L.flatMap fun c => [c.f, c.t]
theorem endsR_mem : ∀ (a : List RS) (out : List Rat) (z : Rat), z ∈ endsR a out ↔ z ∈ out ∨ ∃ s ∈ a, z = s.1 ∨ z = s.2
 | [], out, z => by simp [endsR]
 | s :: a, out, z => by
   show z ∈ endsR a (insR s.2 (insR s.1 out)) ↔ _
   rw [endsR_mem a, insR_mem, insR_mem]
   constructor
   · rintro ((h | h | h) | ⟨t, h1, h2⟩)
     · exact .inr ⟨s, List.mem_cons_self, .inr h⟩
     · exact .inr ⟨s, List.mem_cons_self, .inl h⟩
     · exact .inl h
     · exact .inr ⟨t, List.mem_cons_of_mem _ h1, h2⟩
   · rintro (h | ⟨t, h1, h2⟩)
     · exact .inl (.inr (.inr h))
     · rcases List.mem_cons.1 h1 with rfl | h1
       · rcases h2 with h2 | h2
         · exact .inl (.inr (.inl h2))
         · exact .inl (.inl h2)
       · exact .inr ⟨t, h1, h2⟩
theorem ptsC_mem {N : Int} {L : List Cm} {z : Rat} : z ∈ ptsC N L ↔ z = 0 ∨ z = (N : Rat) ∨ ∃ c ∈ L, z = c.f ∨ z = c.t := by
 unfold ptsC
 rw [endsR_mem]
 constructor
 · rintro (h | ⟨s, h1, h2⟩)
   · simp only [List.mem_cons, List.not_mem_nil, or_false] at h
     rcases h with h | h
     · exact .inl h
     · exact .inr (.inl h)
   · obtain ⟨c, hc, rfl⟩ := List.mem_map.1 h1
     exact .inr (.inr ⟨c, hc, h2⟩)
 · rintro (h | h | ⟨c, h1, h2⟩)
   · exact .inl (by simp [h])
   · exact .inl (by simp [h])
   · exact .inr ⟨c.rs, List.mem_map_of_mem h1, h2⟩
theorem ptsC_incr {N : Int} (hN : 1 ≤ N) (L : List Cm) : incrR (ptsC N L) := by
 refine endsR_incr _ _ ⟨fun y hy => ?_, ⟨(fun y hy => by cases hy), trivial⟩⟩
 simp only [List.mem_cons, List.not_mem_nil, or_false] at hy
 subst hy
 have : (0 : Rat) < ((1 : Int) : Rat) := by decide
 have h2 : ((1 : Int) : Rat) ≤ (N : Rat) := Rat.intCast_le_intCast.2 hN
 grind
theorem points_loop {L : List Cm} (hl : L.length < 10000) {x : List PV → List PV → Int → Int → Bool → Prop} :
   ∀ (r i n : Nat) (out : List Rat), i + r = L.length → r < n → out.length ≤ 2 + 2 * i →
     L_audit_pointsOf_0_0 w_audit_whole x n (rts out) (cms L) (L.length : Int) (i : Int) = x (rts (out ++ flatC (L.drop i))) (cms L) (L.length : Int) (L.length : Int) false := by
 intro r
 induction r with
 | zero =>
   intro i n out hi hn ho
   obtain ⟨n, rfl⟩ : ∃ m, n = m + 1 := ⟨n - 1, by omega⟩
   obtain rfl : i = L.length := by omega
   rw [L_audit_pointsOf_0_0, cbF (by omega), List.drop_length]
   simp [flatC]
 | succ r ih =>
   intro i n out hi hn ho
   obtain ⟨n, rfl⟩ : ∃ m, n = m + 1 := ⟨n - 1, by omega⟩
   have hil : i < L.length := by omega
   have e1 := wib (n := (i : Int) + 1) (by omega) (by omega)
   have hd : L.drop i = L.getD i default :: L.drop (i + 1) := drop_cons default hil
   have e2 : (rts out ++ [.agg [.int .i64 (L.getD i default).f.num, .int .i64 ((L.getD i default).f.den : Int)], .agg [.int .i64 (L.getD i default).t.num, .int .i64 ((L.getD i default).t.den : Int)]]) = rts (out ++ [(L.getD i default).f, (L.getD i default).t]) := by
     rw [← rts_app]; rfl
   rw [L_audit_pointsOf_0_0, cbT (by omega)]
   dsimp only [lt]
   rw [cms_len, asT (by omega), asT (by omega), Int.toNat_natCast, cms_at hil, asCm, encCm0, encCm1, encCm2, encCm3, e2, rts_len, asE, asT (by omega), asNo (by omega), asE, asT (by show _ ≤ 35184372088832; omega), e1, asEE, asE, cast1, ih (i + 1) n _ (by omega) (by omega) (by simp; omega), hd]
   simp [flatC, List.append_assoc]
theorem flatC_mem {L : List Cm} {z : Rat} : z ∈ flatC L ↔ ∃ c ∈ L, z = c.f ∨ z = c.t := by
 unfold flatC
 rw [List.mem_flatMap]
 constructor
 · rintro ⟨c, h1, h2⟩; exact ⟨c, h1, by simpa using h2⟩
 · rintro ⟨c, h1, h2⟩; exact ⟨c, h1, by simpa using h2⟩
theorem flatC_len (L : List Cm) : (flatC L).length = 2 * L.length := by
 induction L with
 | nil => rfl
 | cons c r ih => show (c.f :: c.t :: flatC r).length = _; simp only [List.length_cons]; omega
theorem pointsOf_eq {N : Int} (h1 : 1 ≤ N) (h2 : N ≤ 1000) {L : List Cm} (hc : ∀ c ∈ L, c.ok N) (hl : L.length < 10000) (K : List PV → Prop) : w_audit_pointsOf N (cms L) K = K (rts (ptsC N L)) := by
 refine det_audit_pointsOf _ _ _ (fun K k => ?_) K
 unfold w_audit_pointsOf wv_audit_pointsOf
 rw [awhole_eq, awhole_eq]
 refine asr_iff.2 ⟨by simp, L.length + 1, ?_⟩
 rw [cms_len]
 have e0 : ([.agg [.int .i64 ((0 : Int) : Rat).num, .int .i64 ((((0 : Int) : Rat).den : Nat) : Int)], .agg [.int .i64 (N : Rat).num, .int .i64 (((N : Rat).den : Nat) : Int)]] : List PV) = rts [0, (N : Rat)] := rfl
 rw [e0]
 refine (points_loop hl L.length 0 (L.length + 1) _ (by omega) (by omega) (by simp)).mpr ?_
 rw [List.drop_zero]
 have hs : ∀ q ∈ [0, (N : Rat)] ++ flatC L, small q := by
   intro q hq
   rcases List.mem_append.1 hq with h | h
   · simp only [List.mem_cons, List.not_mem_nil, or_false] at h
     rcases h with rfl | rfl
     · decide
     · exact small_int3 (by omega) (by omega)
   · obtain ⟨c, hc1, rfl | rfl⟩ := flatC_mem.1 h
     · exact (hc c hc1).f
     · exact (hc c hc1).t
 have hn : ([0, (N : Rat)] ++ flatC L).length = 2 + 2 * L.length := by rw [List.length_append, flatC_len]; simp
 have hmem : ∀ z, z ∈ [0, (N : Rat)] ++ flatC L ↔ z ∈ ptsC N L := by
   intro z
   rw [ptsC_mem, List.mem_append, flatC_mem]
   simp [or_assoc]
 generalize ([0, (N : Rat)] ++ flatC L) = A at *
 obtain ⟨l', p1, p2, p3⟩ := sorted_rt n_s_SortFunc_api_Ratio_api_Ratio n_audit_order hs
 have hcond : Srt.cond srt_audit_order.s (rts A) 0 (rts A).length (rts A).length 2 false = true := by
   obtain ⟨d, hd⟩ : ∃ d, (srt_audit_order).s.rows? (rts A) = some d := rows_some fun y hy => by
     obtain ⟨q, hq, rfl⟩ := List.mem_map.1 hy
     exact gd_encW _ _ (hs q hq)
   unfold Srt.cond
   rw [List.drop_zero, List.take_length, hd, rts_len]
   simp only [decide_true, Bool.true_and, Bool.not_false, Option.isSome_some, Bool.and_true, Bool.and_eq_true, decide_eq_true_eq, Nat.zero_add, Nat.le_refl]
   exact ⟨by omega, rfl, by omega⟩
 have hsrt : Srt.sorted srt_audit_order.s srt_audit_order.srt (rts A) = rts l' := p3
 have hll : l'.length = A.length := p1.length_eq
 rw [hcond, asr_true, List.take_zero, List.drop_zero, List.take_length, hsrt, List.nil_append, Nat.zero_add, List.drop_length, List.append_nil, rts_len]
 dsimp only [Go.Pf.jn]
 rw [cbF (by omega)]
 have hfin : compR l' = ptsC N L := by
   obtain ⟨c1, c2⟩ := compR_is p2
   exact incr_unique c1 (ptsC_incr h1 L) fun z => by rw [c2 z, p1.mem_iff, hmem z]
 refine ⟨l'.length + 1, ?_⟩
 rw [← hll]
 refine comp_loop (l := l') (J := fun yl164 yn165 yn166 => (asr (decide ((List.length yl164) = yn166)) (asr (decide ((0 + yn165) ≤ yn166)) (K (List.take yn165 yl164))))) (by omega) (fun _ _ _ _ _ => rfl) (fun _ _ _ => rfl) (l'.length - 1) 1 (l'.length + 1) (by omega) (by omega) (by omega) fun R hR hT => ?_
 have hD := dedR_len (l'.getD (1 - 1) 0) (l'.drop 1)
 rw [List.length_drop] at hD
 rw [hR, asE, asT (by omega), hT]
 have e9 : l'.take 1 ++ dedR (l'.getD (1 - 1) 0) (l'.drop 1) = compR l' := by
   cases l' with
   | nil => simp at hll; omega
   | cons x t => rfl
 rw [e9, hfin]
 exact k
end Go.Pf.Vc
namespace Go.Pf.Vc
open Go Go.Pf Go.Sort
theorem put_swap5 {a0 : T_r01_Of} {a1 : T_r05_At} {a3 : T_r05_To} {x0 : List PV → Int → Bool → Prop} {K : List PV → Prop} (hx : ∀ L i b, x0 L i b = K L) {q : Rat} (hq : small q) :
   ∀ (j n : Nat) (pre suf : List Rat), pre.length = j → j < n → pre.length + suf.length < 1000000 → (∀ z ∈ pre, small z) → incrR pre → q ∉ pre →
     L_r05_points_1_0 a0 a1 w_r01_Less a3 x0 n (rts (pre ++ q :: suf)) (j : Int) = K (rts (insR q pre ++ suf)) := by
 intro j
 induction j with
 | zero =>
   intro n pre suf hj hn hl hs hi hm
   obtain ⟨n, rfl⟩ : ∃ m, n = m + 1 := ⟨n - 1, by omega⟩
   have : pre = [] := List.eq_nil_of_length_eq_zero hj
   subst this
   rw [L_r05_points_1_0]
   dsimp only [lt, Go.Pf.jn]
   rw [cbF (by omega), cbr_false, hx]
   rfl
 | succ j ih =>
   intro n pre suf hj hn hl hs hi hm
   obtain ⟨n, rfl⟩ : ∃ m, n = m + 1 := ⟨n - 1, by omega⟩
   obtain ⟨pre, x, rfl⟩ : ∃ p x, pre = p ++ [x] := ⟨pre.dropLast, pre.getLast (by intro h; rw [h] at hj; cases hj), (List.dropLast_concat_getLast _).symm⟩
   have hj2 : pre.length = j := by simpa using hj
   have hl2 : (pre ++ [x] ++ q :: suf).length = j + 2 + suf.length := by simp; omega
   have e1 := wib (n := ((j + 1 : Nat) : Int) - 1) (by omega) (by omega)
   have e2 : ((j + 1 : Nat) : Int) - 1 = (j : Int) := by omega
   rw [e2] at e1
   have g1 : (pre ++ [x] ++ q :: suf).getD (j + 1) 0 = q := by
     rw [List.getD_eq_getElem?_getD, List.getElem?_append_right (by simp; omega)]
     simp [hj2]
   have g2 : (pre ++ [x] ++ q :: suf).getD j 0 = x := by
     rw [List.append_assoc, List.getD_eq_getElem?_getD, List.getElem?_append_right (by omega)]
     simp [hj2]
   have s1 : (pre ++ [x] ++ q :: suf).set j q = pre ++ [q] ++ q :: suf := by
     rw [List.append_assoc, List.set_append_right _ _ (by omega), hj2, Nat.sub_self, List.append_assoc]
     rfl
   have s2 : (pre ++ [q] ++ q :: suf).set (j + 1) x = pre ++ q :: (x :: suf) := by
     rw [List.set_append_right _ _ (by simp; omega)]
     simp [hj2]
   have g3 : (pre ++ [q] ++ q :: suf).getD (j + 1) 0 = q := by
     rw [List.getD_eq_getElem?_getD, List.getElem?_append_right (by simp; omega)]
     simp [hj2]
   have hl3 : (pre ++ [q] ++ q :: suf).length = j + 2 + suf.length := by simp; omega
   have hxs : small x := hs x (by simp)
   rw [L_r05_points_1_0]
   dsimp only [lt, Go.Pf.jn]
   rw [cbT (by omega)]
   simp (discharger := omega) only [e2, e1, rts_len, hl2, asT, Int.toNat_natCast, Nat.zero_add, rts_at, g1, g2, asW, encW0, encW1, encW_is, rts_set, s1, g3, hl3, s2, sLess_eq hq hxs]
   rw [insR_last hi hm]
   by_cases h : q < x
   · rw [cbT h, if_pos h]
     rw [show (pre ++ q :: x :: suf).length = j + 2 + suf.length by simp; omega, asTd rfl, asT rfl]
     have := ih n pre (x :: suf) hj2 (by omega) (by simp at hl ⊢; omega) (fun z hz => hs z (by simp [hz])) (incrR_left hi) (fun hm2 => hm (by simp [hm2]))
     rw [this, List.append_assoc]
     rfl
   · rw [cbF h, if_neg h, hx, List.append_assoc, List.append_assoc]
     rfl
def atR (l : List Rat) (q : Rat) : Int := if q ∈ l then (l.idxOf q : Int) else -1
theorem At_loop {l : List Rat} (hl : l.length < 1000000) {q : Rat} {x0 : List PV → Int → Int → Int → Bool → Prop} {x1 : Int → Prop} {K : Int → Prop} (h0 : ∀ a b c d e, x0 a b c d e = K (-1)) (h1 : ∀ i, x1 i = K i) :
   ∀ (r i n : Nat), i + r = l.length → r < n → L_r05_At_0_0 x0 x1 n (rts l) q.num q.den (i : Int) = if q ∈ l.drop i then K ((i + (l.drop i).idxOf q : Nat) : Int) else K (-1) := by
 intro r
 induction r with
 | zero =>
   intro i n hi hn
   obtain ⟨n, rfl⟩ : ∃ m, n = m + 1 := ⟨n - 1, by omega⟩
   rw [L_r05_At_0_0, rts_len, cbF (by omega), List.drop_eq_nil_of_le (by omega), if_neg (by simp), h0]
 | succ r ih =>
   intro i n hi hn
   obtain ⟨n, rfl⟩ : ∃ m, n = m + 1 := ⟨n - 1, by omega⟩
   have hil : i < l.length := by omega
   have e1 := wib (n := (i : Int) + 1) (by omega) (by omega)
   have hd : l.drop i = l.getD i 0 :: l.drop (i + 1) := drop_cons 0 hil
   rw [L_r05_At_0_0, rts_len, cbT (by omega)]
   dsimp only [lt]
   rw [asT (by omega), asT (by omega), Int.toNat_natCast, rts_at hil, asW, encW0, encW1, ratEq, hd, e1, cast1]
   by_cases h : l.getD i 0 = q
   · rw [cbT h, if_pos (by rw [h]; exact List.mem_cons_self), h1, h]
     simp
   · rw [cbF h, ih (i + 1) n (by omega) (by omega)]
     by_cases h2 : q ∈ l.drop (i + 1)
     · rw [if_pos h2, if_pos (List.mem_cons_of_mem _ h2), List.idxOf_cons, show (l.getD i 0 == q) = false from beq_eq_false_iff_ne.2 h, cond_false]
       congr 1
       omega
     · rw [if_neg h2, if_neg]
       intro h3
       rcases List.mem_cons.1 h3 with h3 | h3
       · exact h h3.symm
       · exact h2 h3
theorem At_eq {l : List Rat} (hl : l.length < 1000000) {q : Rat} (K : Int → Prop) : w_r05_At (rts l) q.num q.den K = K (atR l q) := by
 refine det_r05_At _ _ _ _ (fun K k => ?_) K
 unfold w_r05_At wv_r05_At
 refine ⟨l.length + 1, ?_⟩
 refine (At_loop hl (K := K) (fun _ _ _ _ _ => rfl) (fun _ => rfl) l.length 0 (l.length + 1) (by omega) (by omega)).mpr ?_
 unfold atR at k
 rw [List.drop_zero]
 split
 · rename_i h; rw [if_pos h] at k; simpa using k
 · rename_i h; rw [if_neg h] at k; exact k
theorem Index_loop {l : List Rat} (hl : l.length < 1000000) {q : Rat} {x0 : List PV → Int → Int → Int → Int → Bool → Prop} {x1 : Int → Prop} {K : Int → Prop} (h0 : ∀ a b c d e f, x0 a b c d e f = K (-1)) (h1 : ∀ i, x1 i = K i) :
   ∀ (r i n : Nat), i + r = l.length → r < n → L_s_Index_api_Ratio_api_Ratio_0_0 x0 x1 n (rts l) q.num q.den (l.length : Int) (i : Int) = if q ∈ l.drop i then K ((i + (l.drop i).idxOf q : Nat) : Int) else K (-1) := by
 intro r
 induction r with
 | zero =>
   intro i n hi hn
   obtain ⟨n, rfl⟩ : ∃ m, n = m + 1 := ⟨n - 1, by omega⟩
   rw [L_s_Index_api_Ratio_api_Ratio_0_0, cbF (by omega), List.drop_eq_nil_of_le (by omega), if_neg (by simp), h0]
 | succ r ih =>
   intro i n hi hn
   obtain ⟨n, rfl⟩ : ∃ m, n = m + 1 := ⟨n - 1, by omega⟩
   have hil : i < l.length := by omega
   have e1 := wib (n := (i : Int) + 1) (by omega) (by omega)
   have hd : l.drop i = l.getD i 0 :: l.drop (i + 1) := drop_cons 0 hil
   rw [L_s_Index_api_Ratio_api_Ratio_0_0, cbT (by omega)]
   dsimp only [lt]
   rw [rts_len, asT (by omega), asT (by omega), Int.toNat_natCast, rts_at hil, asW, encW0, encW1, ratEq, hd, e1, cast1]
   by_cases h : l.getD i 0 = q
   · rw [cbT h.symm, if_pos (by rw [h]; exact List.mem_cons_self), h1, h]
     simp
   · rw [cbF (fun e => h e.symm), ih (i + 1) n (by omega) (by omega)]
     by_cases h2 : q ∈ l.drop (i + 1)
     · rw [if_pos h2, if_pos (List.mem_cons_of_mem _ h2), List.idxOf_cons, show (l.getD i 0 == q) = false from beq_eq_false_iff_ne.2 h, cond_false]
       congr 1
       omega
     · rw [if_neg h2, if_neg]
       intro h3
       rcases List.mem_cons.1 h3 with h3 | h3
       · exact h h3.symm
       · exact h2 h3
theorem Index_eq {l : List Rat} (hl : l.length < 1000000) {q : Rat} (K : Int → Prop) : w_s_Index_api_Ratio_api_Ratio (rts l) q.num q.den K = K (atR l q) := by
 refine det_s_Index_api_Ratio_api_Ratio _ _ _ _ (fun K k => ?_) K
 unfold w_s_Index_api_Ratio_api_Ratio wv_s_Index_api_Ratio_api_Ratio
 refine ⟨l.length + 1, ?_⟩
 rw [rts_len]
 refine (Index_loop hl (K := K) (fun _ _ _ _ _ _ => rfl) (fun _ => rfl) l.length 0 (l.length + 1) (by omega) (by omega)).mpr ?_
 unfold atR at k
 rw [List.drop_zero]
 split
 · rename_i h; rw [if_pos h] at k; simpa using k
 · rename_i h; rw [if_neg h] at k; exact k
theorem atR_ge {l : List Rat} {q : Rat} : atR l q ≥ 0 ↔ q ∈ l := by
 unfold atR
 split
 · rename_i h; exact ⟨fun _ => h, fun _ => by omega⟩
 · rename_i h; exact ⟨fun k => by omega, fun k => absurd k h⟩
theorem Contains_eq {l : List Rat} (hl : l.length < 1000000) {q : Rat} (K : Bool → Prop) : w_s_Contains_api_Ratio_api_Ratio (rts l) q.num q.den K = K (decide (q ∈ l)) := by
 unfold w_s_Contains_api_Ratio_api_Ratio wv_s_Contains_api_Ratio_api_Ratio
 rw [Index_eq hl, show decide (atR l q ≥ 0) = decide (q ∈ l) from decide_eq_decide.2 atR_ge]
theorem put5 {out : List Rat} {q : Rat} (hs : ∀ z ∈ out, small z) (hi : incrR out) (hq : small q) (hl : out.length < 100000) {a b : Int} (ea : q.num = a) (eb : (q.den : Int) = b) {a0 : T_r01_Of} {a1 : T_r05_At} {a3 : T_r05_To} {F : List PV → Prop} (k : F (rts (insR q out))) :
   Go.Pf.jn (fun J : List PV → Prop =>
   (asr (decide ((List.length (rts out)) = (List.length (rts out))))
   (asr (decide ((0 + (List.length (rts out))) ≤ (List.length (rts out))))
   (w_r05_At (List.take (List.length (rts out)) (rts out)) a b (fun y => 
   (cbr (decide (y ≥ (0 : Int)))
   (J (rts out))
   (asr (decide ((List.length (rts out)) = (List.length (rts out))))
   (asr (decide ((0 + (List.length (rts out))) ≤ (List.length (rts out))))
   (asr (!(decide (((0 + (List.length (rts out))) + 1) ≤ (List.length (rts out)))))
   (asr (decide ((List.length (rts out)) = (List.length (rts out))))
   (asr (decide ((((List.length (rts out)) + 1) + 64) * (16 + 1) ≤ room))
   (lt (IntKind.i64.wrap ((((List.length (rts out ++ ([(.agg [(.int .i64 a), (.int .i64 b)])] : List PV))) : Nat) : Int) - (1 : Int))) (fun z =>
   (asr (decide ((List.length (rts out ++ ([(.agg [(.int .i64 a), (.int .i64 b)])] : List PV))) = List.length (rts out ++ ([(.agg [(.int .i64 a), (.int .i64 b)])] : List PV))) && decide ((List.length (rts out ++ ([(.agg [(.int .i64 a), (.int .i64 b)])] : List PV))) = List.length (rts out ++ ([(.agg [(.int .i64 a), (.int .i64 b)])] : List PV))))
   (∃ n : Nat, L_r05_points_1_0 a0 a1 w_r01_Less a3 (fun yl _ _ => J yl) n (rts out ++ ([(.agg [(.int .i64 a), (.int .i64 b)])] : List PV)) z))))))))))))))) F := by
 subst ea eb
 show asr _ _
 rw [asE, asT (by omega), List.take_length, At_eq (by omega), show decide (atR out q ≥ 0) = decide (q ∈ out) from decide_eq_decide.2 atR_ge]
 by_cases h : q ∈ out
 · rw [cbT h]
   rw [insR_in hi h] at k
   exact k
 · rw [cbF h]
   have e1 := wib (n := ((out.length + 1 : Nat) : Int) - 1) (by omega) (by omega)
   have e2 : ((out.length + 1 : Nat) : Int) - 1 = (out.length : Int) := by omega
   rw [e2] at e1
   have e3 : (rts out ++ ([(.agg [(.int .i64 q.num), (.int .i64 q.den)])] : List PV)) = rts (out ++ [q]) := by rw [rts_one, rts_app]
   have e4 : (rts (out ++ [q])).length = out.length + 1 := by rw [rts_len]; simp
   dsimp only [lt]
   rw [e3, e4, e2, e1, rts_len, asE, asT (by omega), asNo (by omega), asE, asT (by show _ ≤ 35184372088832; omega), asEE, asE]
   refine ⟨out.length + 1, ?_⟩
   refine (put_swap5 (x0 := fun yl _ _ => F yl) (K := F) (fun _ _ _ => rfl) hq out.length (out.length + 1) out [] rfl (by omega) (by simp; omega) hs hi h).mpr ?_
   rw [List.append_nil]
   exact k
theorem qOk_rv {N : Int} {q : Qy} (h : qOk N q = true) : RV q.an q.ad ∧ RV q.bn q.bd ∧ RV q.cn q.cd ∧ (q.kind = 1 ∨ q.kind = 2) := by
 unfold qOk at h
 simp only [Bool.and_eq_true] at h
 obtain ⟨h1, h2, h3, h4⟩ := h
 refine ⟨(posR_rv h1).1, (posR_rv h2).1, (posR_rv h3).1, ?_⟩
 by_cases hk : q.kind = 1
 · exact .inl hk
 · rw [if_neg hk] at h4
   by_cases hk2 : q.kind = 2
   · exact .inr hk2
   · rw [if_neg hk2] at h4; cases h4
theorem To_eq {N : Int} {q : Qy} (h : qOk N q = true) (K : Int → Int → Prop) : w_r05_To q.agent q.kind q.an q.ad q.bn q.bd q.cn q.cd K = K (cmOf q).t.num (cmOf q).t.den := by
 obtain ⟨r1, r2, r3, hk⟩ := qOk_rv h
 obtain ⟨_, e3, e4⟩ := rt_of r2
 obtain ⟨_, e5, e6⟩ := rt_of r3
 unfold w_r05_To wv_r05_To cmOf
 by_cases h1 : q.kind = 1
 · rw [ceT h1, if_pos h1]
   dsimp only
   rw [e3, e4]
 · rw [ceF h1, if_neg h1]
   dsimp only
   rw [e5, e6]
theorem Told_eq {N : Int} {q : Qy} (h : qOk N q = true) (K : Int → Int → Prop) : w_r05_Told q.agent q.kind q.an q.ad q.bn q.bd q.cn q.cd K = K (cmOf q).v.num (cmOf q).v.den := by
 obtain ⟨r1, r2, r3, hk⟩ := qOk_rv h
 obtain ⟨_, e3, e4⟩ := rt_of r2
 obtain ⟨_, e5, e6⟩ := rt_of r3
 unfold w_r05_Told wv_r05_Told cmOf
 by_cases h1 : q.kind = 1
 · rw [ceT h1, if_pos h1]
   dsimp only
   rw [e5, e6]
 · rw [ceF h1, if_neg h1]
   dsimp only
   rw [e3, e4]
theorem cmOf_f {N : Int} {q : Qy} (h : qOk N q = true) : (cmOf q).f.num = q.an ∧ ((cmOf q).f.den : Int) = q.ad := by
 obtain ⟨r1, _, _, _⟩ := qOk_rv h
 obtain ⟨_, e1, e2⟩ := rt_of r1
 unfold cmOf
 split <;> exact ⟨e1, e2⟩
theorem rpoints_loop {N : Int} {log : List Qy} (hok : ∀ q ∈ log, qOk N q = true) (hl : log.length < 10000) {x : List PV → List PV → Int → Bool → Prop} :
   ∀ (r i n : Nat) (out : List Rat), i + r = log.length → r < n → (∀ z ∈ out, small z) → incrR out → out.length ≤ 2 + 2 * i →
     x (rts (endsR (((log.map cmOf).map Cm.rs).drop i) out)) (logs log) (log.length : Int) false → L_r05_points_0_0 w_r01_Of w_r05_At w_r01_Less w_r05_To x n (rts out) (logs log) (i : Int) := by
 intro r
 induction r with
 | zero =>
   intro i n out hi hn ho hc hb k
   obtain ⟨n, rfl⟩ : ∃ m, n = m + 1 := ⟨n - 1, by omega⟩
   obtain rfl : i = log.length := by omega
   rw [L_r05_points_0_0, logs_len, cbF (by omega)]
   rw [List.drop_eq_nil_of_le (by simp)] at k
   exact k
 | succ r ih =>
   intro i n out hi hn ho hc hb k
   obtain ⟨n, rfl⟩ : ∃ m, n = m + 1 := ⟨n - 1, by omega⟩
   have hil : i < log.length := by omega
   have e1 := wib (n := (i : Int) + 1) (by omega) (by omega)
   have hm : log.getD i default ∈ log := by
     rw [List.getD_eq_getElem?_getD, List.getElem?_eq_getElem hil]
     exact List.getElem_mem hil
   have hq := hok _ hm
   have hd : ((log.map cmOf).map Cm.rs).drop i = (cmOf (log.getD i default)).rs :: ((log.map cmOf).map Cm.rs).drop (i + 1) := by
     rw [← List.map_drop, ← List.map_drop, drop_cons default hil, List.map_cons, List.map_cons, List.map_drop, List.map_drop]
   rw [hd] at k
   have hat := logs_at hil
   generalize log.getD i default = q at *
   have hcm := qOk_cm hq
   obtain ⟨f1, f2⟩ := cmOf_f hq
   have h1 := insR_len (q := (cmOf q).f) out
   have h2 := insR_len (q := (cmOf q).t) (insR (cmOf q).f out)
   rw [L_r05_points_0_0, logs_len, cbT (by omega), asT (by omega), asT (by omega), Int.toNat_natCast]
   dsimp only [lt]
   rw [hat]
   dsimp only [asQ, encQ0, encQ1, encQ2, encQ3, encQ4, encQ5, encQ6, encQ7]
   refine put5 ho hc hcm.f (by omega) f1 f2 ?_
   rw [asT (by omega), asT (by omega), To_eq hq]
   refine put5 (insR_small hcm.f ho) (insR_incr _ hc) hcm.t (by omega) rfl rfl ?_
   rw [e1, cast1, asEE, asE]
   exact ih (i + 1) n _ (by omega) (by omega) (insR_small hcm.t (insR_small hcm.f ho)) (insR_incr _ (insR_incr _ hc)) (by omega) k
theorem rpoints_eq {N : Int} (h1 : 1 ≤ N) (h2 : N ≤ 1000) {log : List Qy} (hok : ∀ q ∈ log, qOk N q = true) (hl : log.length < 10000) (K : List PV → Prop) : w_r05_points N (logs log) K = K (rts (ptsC N (log.map cmOf))) := by
 refine det_r05_points _ _ _ (fun K k => ?_) K
 unfold w_r05_points wv_r05_points
 rw [sOf_eq, sOf_eq]
 refine asr_iff.2 ⟨by simp, log.length + 1, ?_⟩
 have e0 : ([.agg [.int .i64 ((0 : Int) : Rat).num, .int .i64 ((((0 : Int) : Rat).den : Nat) : Int)], .agg [.int .i64 (N : Rat).num, .int .i64 (((N : Rat).den : Nat) : Int)]] : List PV) = rts [0, (N : Rat)] := rfl
 rw [e0]
 refine rpoints_loop hok hl log.length 0 (log.length + 1) _ (by omega) (by omega) (fun z hz => ?_) ?_ (by simp) ?_
 · simp only [List.mem_cons, List.not_mem_nil, or_false] at hz
   rcases hz with rfl | rfl
   · decide
   · exact small_int3 (by omega) (by omega)
 · refine ⟨fun y hy => ?_, ⟨(fun y hy => by cases hy), trivial⟩⟩
   simp only [List.mem_cons, List.not_mem_nil, or_false] at hy
   subst hy
   have : (0 : Rat) < ((1 : Int) : Rat) := by decide
   have h2 : ((1 : Int) : Rat) ≤ (N : Rat) := Rat.intCast_le_intCast.2 h1
   grind
 · rw [rts_len, asE, asT (by omega), ← rts_len, List.take_length, List.drop_zero]
   exact k
end Go.Pf.Vc
namespace Go.Pf.Vc
open Go Go.Pf Go.Sort
theorem PT_iff {N n d : Int} (h : RV n d) : PT N n d ↔ 0 ≤ n ∧ rt n d ≤ (N : Rat) := by
 constructor
 · intro hp
   obtain ⟨_, _, _, _, h5⟩ := hp.pt
   exact ⟨hp.2.1, h5⟩
 · rintro ⟨h1, h2⟩
   obtain ⟨s, e1, e2⟩ := rt_of h
   have := PT_of s ((rt_pos h).2 h1) h2
   rw [e1, e2] at this
   exact this
theorem posR_of {a b : Int} (h : RV a b) : posR a b = decide (0 ≤ a) := by
 unfold posR
 rw [decide_eq_true h, Bool.true_and]
theorem posR_no {a b : Int} (h : ¬ RV a b) : posR a b = false := by
 unfold posR
 rw [decide_eq_false h, Bool.false_and]
theorem right_eq {N : Int} (hN : -1000000000000000000 ≤ N ∧ N ≤ 1000000000000000000) {q : Qy} (h64 : q.q64) (K : Bool → Prop) :
   w_r05_right N q.agent q.kind q.an q.ad q.bn q.bd q.cn q.cd K = K (qOk N q) := by
 obtain ⟨a1, a2, a3, a4, a5, a6⟩ := h64
 unfold w_r05_right wv_r05_right
 dsimp only [Go.Pf.jn]
 rw [sBoth_eq a1 a2 a3 a4]
 by_cases hA : RV q.an q.ad
 case neg =>
   have e : chk2 q.an q.ad q.bn q.bd ≠ 0 := fun e => hA (chk2_zero.1 e).1
   rw [cnT e, cbr_true]
   unfold qOk
   rw [posR_no hA]; rfl
 by_cases hB : RV q.bn q.bd
 case neg =>
   have e : chk2 q.an q.ad q.bn q.bd ≠ 0 := fun e => hB (chk2_zero.1 e).2
   rw [cnT e, cbr_true]
   unfold qOk
   rw [posR_no hB, Bool.false_and, Bool.and_false]
 rw [cnF (chk2_zero.2 ⟨hA, hB⟩), sCheck_eq a5 a6]
 by_cases hC : RV q.cn q.cd
 case neg =>
   have e : chk q.cn q.cd ≠ 0 := by unfold chk; rw [if_neg hC]; decide
   rw [cnT e, cbr_true]
   unfold qOk
   rw [posR_no hC, Bool.false_and, Bool.and_false, Bool.and_false]
 have e : chk q.cn q.cd = 0 := if_pos hC
 rw [cnF e, dPoint_eq hN a1 a2, dPoint_eq hN a3 a4, dPoint_eq hN a5 a6, sLess_rv hB hA, sLess_rv hC hA]
 unfold qOk
 rw [posR_of hA, posR_of hB, posR_of hC]
 by_cases pA : PT N q.an q.ad
 case neg =>
   rw [decide_eq_false pA, Bool.not_false, cbr_true]
   congr 1
   symm
   rw [PT_iff hA] at pA
   by_cases h0 : 0 ≤ q.an
   · have hA2 : ¬ rt q.an q.ad ≤ (N : Rat) := fun k => pA ⟨h0, k⟩
     rw [decide_eq_true h0]
     have t1 : twoP N q.an q.ad q.bn q.bd = false := by
       unfold twoP
       rw [Bool.eq_false_iff]
       intro k
       simp only [Bool.and_eq_true, decide_eq_true_eq] at k
       grind
     have t2 : twoP N q.an q.ad q.cn q.cd = false := by
       unfold twoP
       rw [Bool.eq_false_iff]
       intro k
       simp only [Bool.and_eq_true, decide_eq_true_eq] at k
       grind
     rw [t1, t2]
     split
     · simp
     · split <;> simp
   · rw [decide_eq_false h0, Bool.false_and]
 rw [decide_eq_true pA, Bool.not_true, cbr_false]
 rw [PT_iff hA] at pA
 have pB := PT_iff (N := N) hB
 have pC := PT_iff (N := N) hC
 rw [decide_eq_true pA.1, Bool.true_and]
 unfold twoP
 by_cases k1 : q.kind = 1
 · rw [ceT k1, if_pos k1]
   by_cases p1 : PT N q.bn q.bd
   · rw [cbT p1]
     rw [pB] at p1
     rw [decide_eq_true p1.1, decide_eq_true p1.2, Bool.true_and, Bool.and_true]
     by_cases hl : rt q.bn q.bd < rt q.an q.ad
     · rw [decide_eq_true hl, Bool.not_true, cbr_false, decide_eq_false (show ¬ rt q.an q.ad ≤ rt q.bn q.bd by grind), Bool.and_false]
     · rw [decide_eq_false hl, Bool.not_false, cbr_true, decide_eq_true (show rt q.an q.ad ≤ rt q.bn q.bd by grind), Bool.and_true]
   · rw [cbF p1]
     rw [pB] at p1
     congr 1
     symm
     rw [Bool.eq_false_iff]
     intro k
     simp only [Bool.and_eq_true, decide_eq_true_eq] at k
     exact p1 ⟨k.1, k.2.2.2⟩
 · rw [ceF k1, if_neg k1]
   by_cases k2 : q.kind = 2
   · rw [ceT k2, if_pos k2]
     by_cases p1 : PT N q.cn q.cd
     · rw [cbT p1]
       rw [pC] at p1
       rw [decide_eq_true p1.1, decide_eq_true p1.2, Bool.and_true, Bool.true_and]
       by_cases hl : rt q.cn q.cd < rt q.an q.ad
       · rw [decide_eq_true hl, Bool.not_true, cbr_false, decide_eq_false (show ¬ rt q.an q.ad ≤ rt q.cn q.cd by grind), Bool.and_false]
       · rw [decide_eq_false hl, Bool.not_false, cbr_true, decide_eq_true (show rt q.an q.ad ≤ rt q.cn q.cd by grind), Bool.and_true]
     · rw [cbF p1]
       rw [pC] at p1
       congr 1
       symm
       rw [Bool.eq_false_iff]
       intro k
       simp only [Bool.and_eq_true, decide_eq_true_eq] at k
       exact p1 ⟨k.2.1, k.2.2.2⟩
   · rw [ceF k2, if_neg k2, Bool.and_false, Bool.and_false]
theorem rCheck_loop {N : Int} (hN : -1000000000000000000 ≤ N ∧ N ≤ 1000000000000000000) {log : List Qy} (h64 : ∀ q ∈ log, q.q64) (hl : log.length < 1000) {x0 : Int → List PV → Int → Bool → Prop} {x1 : Int → Prop} :
   ∀ (r i n : Nat), i + r = log.length → r < n → L_r05_Check_0_0 w_r05_right x0 x1 n N (logs log) (i : Int) = if (log.drop i).all (qOk N) then x0 N (logs log) (log.length : Int) false else x1 8 := by
 intro r
 induction r with
 | zero =>
   intro i n hi hn
   obtain ⟨n, rfl⟩ : ∃ m, n = m + 1 := ⟨n - 1, by omega⟩
   obtain rfl : i = log.length := by omega
   rw [L_r05_Check_0_0, logs_len, cbF (by omega), List.drop_length]
   rfl
 | succ r ih =>
   intro i n hi hn
   obtain ⟨n, rfl⟩ : ∃ m, n = m + 1 := ⟨n - 1, by omega⟩
   have hil : i < log.length := by omega
   have e1 := wib (n := (i : Int) + 1) (by omega) (by omega)
   have hd : log.drop i = log.getD i default :: log.drop (i + 1) := drop_cons default hil
   rw [L_r05_Check_0_0, logs_len, cbT (by omega)]
   dsimp only [lt]
   rw [asT (by omega), asT (by omega), Int.toNat_natCast, logs_at hil, asQ, encQ0, encQ1, encQ2, encQ3, encQ4, encQ5, encQ6, encQ7, right_eq hN (q64_at h64 hil), hd, List.all_cons]
   cases qOk N (log.getD i default) with
   | false => rfl
   | true => rw [Bool.not_true, cbr_false, e1, cast1, ih (i + 1) n (by omega) (by omega), Bool.true_and]
theorem rCheck5_eq {N : Int} {log : List Qy} (h64 : ∀ q ∈ log, q.q64) (hl : log.length < 1000) (K : Int → Prop) : w_r05_Check N (logs log) K = K (claimsE N log) := by
 refine det_r05_Check _ _ _ (fun K k => ?_) K
 unfold w_r05_Check wv_r05_Check
 dsimp only [Go.Pf.jn]
 rw [logs_len]
 by_cases h1 : N < 1
 · have e : claimsE N log = 2 := by unfold claimsE; rw [if_pos (.inl h1)]
   rw [e] at k
   rw [cbT h1, cbr_true]; exact k
 · rw [cbF h1]
   by_cases h2 : N > 1000
   · have e : claimsE N log = 2 := by unfold claimsE; rw [if_pos (.inr h2)]
     rw [e] at k
     rw [decide_eq_true h2, cbr_true]; exact k
   · have e : claimsE N log = if log.length > 40 then 4 else if log.all (qOk N) then 0 else 8 := by unfold claimsE; rw [if_neg (by omega)]
     rw [e] at k
     rw [decide_eq_false h2, cbr_false]
     by_cases h3 : log.length > 40
     · rw [if_pos h3] at k
       rw [cbT (by omega)]; exact k
     · rw [if_neg h3] at k
       rw [cbF (by omega)]
       refine ⟨log.length + 1, ?_⟩
       refine (rCheck_loop (by omega) h64 hl log.length 0 (log.length + 1) (by omega) (by omega)).mpr ?_
       rw [List.drop_zero]
       split
       · rename_i h; rw [if_pos h] at k; exact k
       · rename_i h; rw [if_neg h] at k; exact k
abbrev Rw : Type := Int × Int
def encRw (r : Rw) : PV := .agg [.int .i64 r.1, .int .i64 r.2]
def rws (l : List Rw) : List PV := l.map encRw
theorem rws_len (l : List Rw) : (rws l).length = l.length := List.length_map ..
theorem rws_at {l : List Rw} {i : Nat} (h : i < l.length) : List.getD (rws l) i .nils = encRw (l.getD i default) := by
 unfold rws
 rw [List.getD_eq_getElem?_getD, List.getD_eq_getElem?_getD, List.getElem?_map, List.getElem?_eq_getElem h]
 rfl
theorem encRw0 (r : Rw) : intOfV (cellAt (encRw r) 0) = r.1 := rfl
theorem encRw1 (r : Rw) : intOfV (cellAt (encRw r) 1) = r.2 := rfl
theorem asRw (r : Rw) (P : Prop) : asr (conf (.agg [.i .i64, .i .i64]) (encRw r)) P = P := rfl
def Rw.ok (r : Rw) : Prop := RV r.1 r.2
instance (r : Rw) : Decidable r.ok := by unfold Rw.ok; infer_instance
def Rw.q (r : Rw) : Rat := rt r.1 r.2
def Rw.i64 (r : Rw) : Prop := I64 r.1 ∧ I64 r.2
theorem rw_at {l : List Rw} (h : ∀ r ∈ l, Rw.i64 r) {i : Nat} (hi : i < l.length) : Rw.i64 (l.getD i default) := by
 rw [List.getD_eq_getElem?_getD, List.getElem?_eq_getElem hi]
 exact h _ (List.getElem_mem hi)
def gStep (P F : List Rw) (i : Nat) : Prop := (P.getD i default).ok ∧ (F.getD i default).ok ∧ (0 < i → (P.getD (i - 1) default).q < (P.getD i default).q ∧ (F.getD (i - 1) default).q ≤ (F.getD i default).q)
instance (P F : List Rw) (i : Nat) : Decidable (gStep P F i) := by unfold gStep; infer_instance
def gEnds (N : Int) (P F : List Rw) : Prop := (P.getD 0 default).1 = 0 ∧ (F.getD 0 default).1 = 0 ∧ P.getD (P.length - 1) default = (N, 1)
instance (N : Int) (P F : List Rw) : Decidable (gEnds N P F) := by unfold gEnds; infer_instance
def gSteps (P F : List Rw) (i : Nat) : Prop := ∀ j, i ≤ j → j < P.length → gStep P F j
def gOk (N : Int) (P F : List Rw) : Prop := 2 ≤ P.length ∧ P.length ≤ 100 ∧ F.length = P.length ∧ gSteps P F 0 ∧ gEnds N P F
open Classical in
theorem valid_loop {N : Int} {P F : List Rw} (hP : ∀ r ∈ P, Rw.i64 r) (hF : ∀ r ∈ F, Rw.i64 r) (hl : P.length ≤ 100) (hfl : F.length = P.length) {x0 : Int → List PV → List PV → Int → Int → Int → Bool → Prop} {x1 : Bool → Prop} :
   ∀ (r i n : Nat), i + r = P.length → r < n → (∀ j, j < i → gStep P F j) →
     L_audit_valid_0_0 w_ratio_Check w_audit_order w_audit_whole x0 x1 n N (rws P) (rws F) (P.length : Int) (P.length : Int) (i : Int) = if gSteps P F i then x0 N (rws P) (rws F) (P.length : Int) (P.length : Int) (P.length : Int) false else x1 false := by
 intro r
 induction r with
 | zero =>
   intro i n hi hn hb
   obtain ⟨n, rfl⟩ : ∃ m, n = m + 1 := ⟨n - 1, by omega⟩
   obtain rfl : i = P.length := by omega
   rw [L_audit_valid_0_0, cbF (by omega), if_pos (show gSteps P F P.length from fun j h1 h2 => by omega)]
 | succ r ih =>
   intro i n hi hn hb
   obtain ⟨n, rfl⟩ : ∃ m, n = m + 1 := ⟨n - 1, by omega⟩
   have hil : i < P.length := by omega
   have e1 := wib (n := (i : Int) + 1) (by omega) (by omega)
   have pi := rw_at hP hil
   have fi := rw_at hF (i := i) (by omega)
   have hstep : gSteps P F i ↔ gStep P F i ∧ gSteps P F (i + 1) := by
     constructor
     · intro h; exact ⟨h i (Nat.le_refl _) hil, fun j h1 h2 => h j (by omega) h2⟩
     · rintro ⟨h1, h2⟩ j h3 h4
       by_cases e : j = i
       · subst e; exact h1
       · exact h2 j (by omega) h4
   rw [L_audit_valid_0_0, cbT (by omega)]
   dsimp only [lt, Go.Pf.jn]
   rw [rws_len, rws_len, asT (by omega), asT (by omega), Int.toNat_natCast, rws_at hil, asRw, encRw0, encRw1, rCheck_eq pi.1 pi.2]
   by_cases hA : RV (P.getD i default).1 (P.getD i default).2
   case neg =>
     rw [show chk (P.getD i default).1 (P.getD i default).2 = 8 from if_neg hA, cnT (by omega), cbr_true, if_neg]
     intro h
     exact hA (h i (Nat.le_refl _) hil).1
   rw [show chk (P.getD i default).1 (P.getD i default).2 = 0 from if_pos hA, nz, asT (by omega), asT (by omega), rws_at (by omega), asRw, encRw0, encRw1, rCheck_eq fi.1 fi.2]
   by_cases hB : RV (F.getD i default).1 (F.getD i default).2
   case neg =>
     rw [show chk (F.getD i default).1 (F.getD i default).2 = 8 from if_neg hB, show ((8 : Int) != 0) = true from rfl, cbr_true, if_neg]
     intro h
     exact hB (h i (Nat.le_refl _) hil).2.1
   rw [show chk (F.getD i default).1 (F.getD i default).2 = 0 from if_pos hB, show ((0 : Int) != 0) = false from rfl, cbr_false]
   by_cases h0 : 0 < i
   · have e2 := wib (n := (i : Int) - 1) (by omega) (by omega)
     have e3 : (i : Int) - 1 = ((i - 1 : Nat) : Int) := by omega
     rw [e3] at e2
     obtain ⟨b1, b2, _⟩ := hb (i - 1) (by omega)
     have b1 : RV (P.getD (i - 1) default).1 (P.getD (i - 1) default).2 := b1
     have b2 : RV (F.getD (i - 1) default).1 (F.getD (i - 1) default).2 := b2
     rw [cbT (by omega), e3, e2, asT (by omega), asT (by omega), Int.toNat_natCast, rws_at (by omega), asRw, encRw0, encRw1, asT (by omega), asT (by omega), asRw, aorder_rv b1 hA, cmpQ_ge]
     by_cases hlt : rt (P.getD (i - 1) default).1 (P.getD (i - 1) default).2 < rt (P.getD i default).1 (P.getD i default).2
     · rw [decide_eq_true hlt, Bool.not_true, cbr_false, asT (by omega), asT (by omega), rws_at (by omega), asRw, encRw0, encRw1, asT (by omega), asT (by omega), asRw, aorder_rv b2 hB]
       have e4 : decide (cmpQ (rt (F.getD (i - 1) default).1 (F.getD (i - 1) default).2) (rt (F.getD i default).1 (F.getD i default).2) > 0) = !decide (rt (F.getD (i - 1) default).1 (F.getD (i - 1) default).2 ≤ rt (F.getD i default).1 (F.getD i default).2) := by
         have := cmpQ_le (rt (F.getD (i - 1) default).1 (F.getD (i - 1) default).2) (rt (F.getD i default).1 (F.getD i default).2)
         rw [show decide (cmpQ (rt (F.getD (i - 1) default).1 (F.getD (i - 1) default).2) (rt (F.getD i default).1 (F.getD i default).2) > 0) = !decide (cmpQ (rt (F.getD (i - 1) default).1 (F.getD (i - 1) default).2) (rt (F.getD i default).1 (F.getD i default).2) ≤ 0) by rw [← decide_not]; simp, this, Bool.not_not]
         rw [← decide_not, decide_eq_decide, Rat.not_le]
       rw [e4]
       by_cases hle : rt (F.getD (i - 1) default).1 (F.getD (i - 1) default).2 ≤ rt (F.getD i default).1 (F.getD i default).2
       · rw [decide_eq_true hle, Bool.not_true, cbr_false, e1, cast1]
         have hg : gStep P F i := ⟨hA, hB, fun _ => ⟨hlt, hle⟩⟩
         rw [ih (i + 1) n (by omega) (by omega) (fun j hj => by
           by_cases e : j = i
           · subst e; exact hg
           · exact hb j (by omega))]
         by_cases hs : gSteps P F (i + 1)
         · rw [if_pos hs, if_pos (hstep.2 ⟨hg, hs⟩)]
         · rw [if_neg hs, if_neg (fun k => hs (hstep.1 k).2)]
       · rw [decide_eq_false hle, Bool.not_false, cbr_true, if_neg]
         intro h
         exact hle ((h i (Nat.le_refl _) hil).2.2 h0).2
     · rw [decide_eq_false hlt, Bool.not_false, cbr_true, cbr_true, if_neg]
       intro h
       exact hlt ((h i (Nat.le_refl _) hil).2.2 h0).1
   · rw [cbF (by omega), cbr_false, e1, cast1]
     have hg : gStep P F i := ⟨hA, hB, fun k => absurd k h0⟩
     rw [ih (i + 1) n (by omega) (by omega) (fun j hj => by
       by_cases e : j = i
       · subst e; exact hg
       · exact hb j (by omega))]
     by_cases hs : gSteps P F (i + 1)
     · rw [if_pos hs, if_pos (hstep.2 ⟨hg, hs⟩)]
     · rw [if_neg hs, if_neg (fun k => hs (hstep.1 k).2)]
theorem rw_pair (r : Rw) (N : Int) : ((r.1 == N) && ((r.2 == 1) && true)) = decide (r = (N, 1)) := by
 obtain ⟨a, b⟩ := r
 rw [Bool.and_true, Bool.eq_iff_iff]
 simp [Prod.ext_iff]
theorem rv_zero {d : Int} (h : RV 0 d) : d = 1 := by
 obtain ⟨h1, _, _, _, h5⟩ := h
 simp at h5
 omega
open Classical in
theorem valid_eq5 {N : Int} {P F : List Rw} (hP : ∀ r ∈ P, Rw.i64 r) (hF : ∀ r ∈ F, Rw.i64 r) (hl : P.length < 1000000) (_ : F.length < 1000000) (K : Bool → Prop) : w_audit_valid N (rws P) (rws F) K = K (decide (gOk N P F)) := by
 refine det_audit_valid _ _ _ _ (fun K k => ?_) K
 unfold w_audit_valid wv_audit_valid
 dsimp only [Go.Pf.jn]
 rw [rws_len, rws_len]
 by_cases h1 : P.length < 2
 · have e : decide (gOk N P F) = false := decide_eq_false fun h => by have := h.1; omega
   rw [e] at k
   rw [cbT (by omega), cbr_true]; exact k
 rw [cbF (by omega)]
 by_cases h2 : P.length > 100
 · have e : decide (gOk N P F) = false := decide_eq_false fun h => by have := h.2.1; omega
   rw [e] at k
   rw [cbT (by omega), cbr_true]; exact k
 rw [cbF (by omega)]
 by_cases h3 : F.length = P.length
 case neg =>
   have e : decide (gOk N P F) = false := decide_eq_false fun h => h3 h.2.2.1
   rw [e] at k
   rw [show (((F.length : Nat) : Int) != ((P.length : Nat) : Int)) = true by rw [bne_iff_ne]; omega, cbr_true]; exact k
 rw [show (((F.length : Nat) : Int) != ((P.length : Nat) : Int)) = false by rw [bne_eq_false_iff_eq]; omega, cbr_false]
 refine ⟨P.length + 1, ?_⟩
 refine (valid_loop hP hF (by omega) h3 P.length 0 (P.length + 1) (by omega) (by omega) (fun j hj => by omega)).mpr ?_
 by_cases hs : gSteps P F 0
 case neg =>
   have e : decide (gOk N P F) = false := decide_eq_false fun h => hs h.2.2.2.1
   rw [e] at k
   rw [if_neg hs]; exact k
 rw [if_pos hs]
 have e4 : decide (gOk N P F) = decide (gEnds N P F) := decide_eq_decide.2 ⟨fun h => h.2.2.2.2, fun h => ⟨by omega, by omega, h3, hs, h⟩⟩
 rw [e4] at k
 have e2 := wib (n := ((P.length : Nat) : Int) - 1) (by omega) (by omega)
 have e3 : ((P.length : Nat) : Int) - 1 = ((P.length - 1 : Nat) : Int) := by omega
 rw [e3] at e2
 dsimp only [lt]
 rw [rws_len, rws_len, asT (by omega), rws_at (by omega), asRw, encRw0]
 unfold gEnds at k
 by_cases c1 : (P.getD 0 default).1 = 0
 case neg =>
   have e : decide ((P.getD 0 default).1 = 0 ∧ (F.getD 0 default).1 = 0 ∧ P.getD (P.length - 1) default = (N, 1)) = false := decide_eq_false fun h => c1 h.1
   rw [e] at k
   rw [ceF c1]; exact k
 rw [ceT c1, asT (by omega), rws_at (by omega), asRw, encRw0]
 by_cases c2 : (F.getD 0 default).1 = 0
 case neg =>
   have e : decide ((P.getD 0 default).1 = 0 ∧ (F.getD 0 default).1 = 0 ∧ P.getD (P.length - 1) default = (N, 1)) = false := decide_eq_false fun h => c2 h.2.1
   rw [e] at k
   rw [ceF c2]; exact k
 rw [ceT c2, e3, e2, asT (by omega), asT (by omega), Int.toNat_natCast, rws_at (by omega), asRw, encRw0, encRw1, awhole_eq]
 have e : decide ((P.getD 0 default).1 = 0 ∧ (F.getD 0 default).1 = 0 ∧ P.getD (P.length - 1) default = (N, 1)) = decide (P.getD (P.length - 1) default = (N, 1)) := decide_eq_decide.2 ⟨fun h => h.2.2, fun h => ⟨c1, c2, h⟩⟩
 rw [e] at k
 show K (((P.getD (P.length - 1) default).1 == N) && (((P.getD (P.length - 1) default).2 == 1) && true))
 rw [rw_pair]
 exact k
open Classical in
theorem rValid_loop {N : Int} {P F : List Rw} (hP : ∀ r ∈ P, Rw.i64 r) (hF : ∀ r ∈ F, Rw.i64 r) (hl : P.length ≤ 100) (hfl : F.length = P.length) {x0 : Int → List PV → List PV → Int → Bool → Prop} {x1 : Bool → Prop} :
   ∀ (r i n : Nat), i + r = P.length → r < n → (∀ j, j < i → gStep P F j) →
     L_r05_Valid_0_0 w_r01_Both w_r01_Less w_r01_Of x0 x1 n N (rws P) (rws F) (i : Int) = if gSteps P F i then x0 N (rws P) (rws F) (P.length : Int) false else x1 false := by
 intro r
 induction r with
 | zero =>
   intro i n hi hn hb
   obtain ⟨n, rfl⟩ : ∃ m, n = m + 1 := ⟨n - 1, by omega⟩
   obtain rfl : i = P.length := by omega
   rw [L_r05_Valid_0_0, rws_len, cbF (by omega), if_pos (show gSteps P F P.length from fun j h1 h2 => by omega)]
 | succ r ih =>
   intro i n hi hn hb
   obtain ⟨n, rfl⟩ : ∃ m, n = m + 1 := ⟨n - 1, by omega⟩
   have hil : i < P.length := by omega
   have e1 := wib (n := (i : Int) + 1) (by omega) (by omega)
   have pi := rw_at hP hil
   have fi := rw_at hF (i := i) (by omega)
   have hstep : gSteps P F i ↔ gStep P F i ∧ gSteps P F (i + 1) := by
     constructor
     · intro h; exact ⟨h i (Nat.le_refl _) hil, fun j h1 h2 => h j (by omega) h2⟩
     · rintro ⟨h1, h2⟩ j h3 h4
       by_cases e : j = i
       · subst e; exact h1
       · exact h2 j (by omega) h4
   rw [L_r05_Valid_0_0, rws_len, cbT (by omega)]
   dsimp only [lt, Go.Pf.jn]
   rw [rws_len, asT (by omega), asT (by omega), Int.toNat_natCast, rws_at hil, asRw, asT (by omega), asT (by omega), rws_at (by omega), asRw, encRw0, encRw1, encRw0, encRw1, sBoth_eq pi.1 pi.2 fi.1 fi.2]
   by_cases hAB : RV (P.getD i default).1 (P.getD i default).2 ∧ RV (F.getD i default).1 (F.getD i default).2
   case neg =>
     have e : chk2 (P.getD i default).1 (P.getD i default).2 (F.getD i default).1 (F.getD i default).2 ≠ 0 := fun e => hAB (chk2_zero.1 e)
     rw [cnT e, cbr_true, if_neg]
     intro h
     exact hAB ⟨(h i (Nat.le_refl _) hil).1, (h i (Nat.le_refl _) hil).2.1⟩
   obtain ⟨hA, hB⟩ := hAB
   rw [cnF (chk2_zero.2 ⟨hA, hB⟩)]
   by_cases h0 : 0 < i
   · have e2 := wib (n := (i : Int) - 1) (by omega) (by omega)
     have e3 : (i : Int) - 1 = ((i - 1 : Nat) : Int) := by omega
     rw [e3] at e2
     obtain ⟨b1, b2, _⟩ := hb (i - 1) (by omega)
     have b1 : RV (P.getD (i - 1) default).1 (P.getD (i - 1) default).2 := b1
     have b2 : RV (F.getD (i - 1) default).1 (F.getD (i - 1) default).2 := b2
     rw [cbT (by omega), e3, e2, asT (by omega), asT (by omega), Int.toNat_natCast, rws_at (by omega), asRw, encRw0, encRw1, asT (by omega), asT (by omega), asRw, sLess_rv b1 hA]
     by_cases hlt : rt (P.getD (i - 1) default).1 (P.getD (i - 1) default).2 < rt (P.getD i default).1 (P.getD i default).2
     · rw [decide_eq_true hlt, Bool.not_true, cbr_false, asT (by omega), asT (by omega), asRw, asT (by omega), asT (by omega), rws_at (by omega), asRw, encRw0, encRw1, sLess_rv hB b2]
       by_cases hle : rt (F.getD (i - 1) default).1 (F.getD (i - 1) default).2 ≤ rt (F.getD i default).1 (F.getD i default).2
       · rw [decide_eq_false (show ¬ rt (F.getD i default).1 (F.getD i default).2 < rt (F.getD (i - 1) default).1 (F.getD (i - 1) default).2 by grind), cbr_false, e1, cast1]
         have hg : gStep P F i := ⟨hA, hB, fun _ => ⟨hlt, hle⟩⟩
         rw [ih (i + 1) n (by omega) (by omega) (fun j hj => by
           by_cases e : j = i
           · subst e; exact hg
           · exact hb j (by omega))]
         by_cases hs : gSteps P F (i + 1)
         · rw [if_pos hs, if_pos (hstep.2 ⟨hg, hs⟩)]
         · rw [if_neg hs, if_neg (fun k => hs (hstep.1 k).2)]
       · rw [decide_eq_true (show rt (F.getD i default).1 (F.getD i default).2 < rt (F.getD (i - 1) default).1 (F.getD (i - 1) default).2 by grind), cbr_true, if_neg]
         intro h
         exact hle ((h i (Nat.le_refl _) hil).2.2 h0).2
     · rw [decide_eq_false hlt, Bool.not_false, cbr_true, cbr_true, if_neg]
       intro h
       exact hlt ((h i (Nat.le_refl _) hil).2.2 h0).1
   · rw [cbF (by omega), cbr_false, e1, cast1]
     have hg : gStep P F i := ⟨hA, hB, fun k => absurd k h0⟩
     rw [ih (i + 1) n (by omega) (by omega) (fun j hj => by
       by_cases e : j = i
       · subst e; exact hg
       · exact hb j (by omega))]
     by_cases hs : gSteps P F (i + 1)
     · rw [if_pos hs, if_pos (hstep.2 ⟨hg, hs⟩)]
     · rw [if_neg hs, if_neg (fun k => hs (hstep.1 k).2)]
open Classical in
theorem rValid5_eq {N : Int} {P F : List Rw} (hP : ∀ r ∈ P, Rw.i64 r) (hF : ∀ r ∈ F, Rw.i64 r) (hl : P.length < 1000000) (_ : F.length < 1000000) (K : Bool → Prop) : w_r05_Valid N (rws P) (rws F) K = K (decide (gOk N P F)) := by
 refine det_r05_Valid _ _ _ _ (fun K k => ?_) K
 unfold w_r05_Valid wv_r05_Valid
 dsimp only [Go.Pf.jn]
 rw [rws_len, rws_len]
 by_cases h1 : P.length < 2
 · have e : decide (gOk N P F) = false := decide_eq_false fun h => by have := h.1; omega
   rw [e] at k
   rw [cbT (by omega), cbr_true]; exact k
 rw [cbF (by omega)]
 by_cases h2 : P.length > 100
 · have e : decide (gOk N P F) = false := decide_eq_false fun h => by have := h.2.1; omega
   rw [e] at k
   rw [cbT (by omega), cbr_true]; exact k
 rw [cbF (by omega)]
 by_cases h3 : F.length = P.length
 case neg =>
   have e : decide (gOk N P F) = false := decide_eq_false fun h => h3 h.2.2.1
   rw [e] at k
   rw [show (((F.length : Nat) : Int) != ((P.length : Nat) : Int)) = true by rw [bne_iff_ne]; omega, cbr_true]; exact k
 rw [show (((F.length : Nat) : Int) != ((P.length : Nat) : Int)) = false by rw [bne_eq_false_iff_eq]; omega, cbr_false]
 refine ⟨P.length + 1, ?_⟩
 refine (rValid_loop hP hF (by omega) h3 P.length 0 (P.length + 1) (by omega) (by omega) (fun j hj => by omega)).mpr ?_
 by_cases hs : gSteps P F 0
 case neg =>
   have e : decide (gOk N P F) = false := decide_eq_false fun h => hs h.2.2.2.1
   rw [e] at k
   rw [if_neg hs]; exact k
 rw [if_pos hs]
 have e4 : decide (gOk N P F) = decide (gEnds N P F) := decide_eq_decide.2 ⟨fun h => h.2.2.2.2, fun h => ⟨by omega, by omega, h3, hs, h⟩⟩
 rw [e4] at k
 have e2 := wib (n := ((P.length : Nat) : Int) - 1) (by omega) (by omega)
 have e3 : ((P.length : Nat) : Int) - 1 = ((P.length - 1 : Nat) : Int) := by omega
 rw [e3] at e2
 dsimp only [lt]
 have z1 : ∀ r : Rw, r.ok → r.1 = 0 → r = (0, 1) := by
   rintro ⟨a, b⟩ hr h0
   simp only at h0
   subst h0
   have hr : RV 0 b := hr
   rw [rv_zero hr]
 rw [rws_len, rws_len, asT (by omega), rws_at (by omega), asRw, encRw0, encRw1, sOf_eq]
 show cbr (((P.getD 0 default).1 == 0) && (((P.getD 0 default).2 == 1) && true)) _ _
 rw [rw_pair]
 unfold gEnds at k
 by_cases c1 : (P.getD 0 default).1 = 0
 case neg =>
   have e : decide ((P.getD 0 default).1 = 0 ∧ (F.getD 0 default).1 = 0 ∧ P.getD (P.length - 1) default = (N, 1)) = false := decide_eq_false fun h => c1 h.1
   rw [e] at k
   rw [cbF (fun h => c1 (by rw [h]))]; exact k
 rw [cbT (z1 _ (hs 0 (Nat.le_refl _) (by omega)).1 c1), asT (by omega), rws_at (by omega), asRw, encRw0, encRw1, sOf_eq]
 show cbr (((F.getD 0 default).1 == 0) && (((F.getD 0 default).2 == 1) && true)) _ _
 rw [rw_pair]
 by_cases c2 : (F.getD 0 default).1 = 0
 case neg =>
   have e : decide ((P.getD 0 default).1 = 0 ∧ (F.getD 0 default).1 = 0 ∧ P.getD (P.length - 1) default = (N, 1)) = false := decide_eq_false fun h => c2 h.2.1
   rw [e] at k
   rw [cbF (fun h => c2 (by rw [h]))]; exact k
 rw [cbT (z1 _ (hs 0 (Nat.le_refl _) (by omega)).2.1 c2), e3, e2, asT (by omega), asT (by omega), Int.toNat_natCast, rws_at (by omega), asRw, encRw0, encRw1, sOf_eq]
 have e : decide ((P.getD 0 default).1 = 0 ∧ (F.getD 0 default).1 = 0 ∧ P.getD (P.length - 1) default = (N, 1)) = decide (P.getD (P.length - 1) default = (N, 1)) := decide_eq_decide.2 ⟨fun h => h.2.2, fun h => ⟨c1, c2, h⟩⟩
 rw [e] at k
 show K (((P.getD (P.length - 1) default).1 == N) && (((P.getD (P.length - 1) default).2 == 1) && true))
 rw [rw_pair]
 exact k
def rwQ (l : List Rw) : List Rat := l.map Rw.q
theorem rws_rts {l : List Rw} (h : ∀ r ∈ l, Rw.ok r) : rws l = rts (rwQ l) := by
 unfold rws rts rwQ
 rw [List.map_map]
 refine List.map_congr_left fun r hr => ?_
 obtain ⟨_, e1, e2⟩ := rt_of (h r hr)
 show encRw r = encW (rt r.1 r.2)
 unfold encRw encW
 rw [e1, e2]
theorem rwQ_at {l : List Rw} {i : Nat} (h : i < l.length) : (rwQ l).getD i 0 = (l.getD i default).q := by
 unfold rwQ
 rw [List.getD_eq_getElem?_getD, List.getD_eq_getElem?_getD, List.getElem?_map, List.getElem?_eq_getElem h]
 rfl
theorem mem_at {α : Type} {l : List α} {x d : α} (h : x ∈ l) : ∃ i, i < l.length ∧ l.getD i d = x := by
 obtain ⟨i, hi, e⟩ := List.mem_iff_getElem.1 h
 exact ⟨i, hi, by rw [List.getD_eq_getElem?_getD, List.getElem?_eq_getElem hi]; exact e⟩
theorem incrR_of {l : List Rat} (h : ∀ i, 0 < i → i < l.length → l.getD (i - 1) 0 < l.getD i 0) : incrR l := by
 induction l with
 | nil => trivial
 | cons x r ih =>
   have hr := ih fun i h0 hi => by
     have := h (i + 1) (by omega) (by simp only [List.length_cons]; omega)
     cases i with
     | zero => omega
     | succ i => exact this
   refine ⟨?_, hr⟩
   cases r with
   | nil => intro y hy; cases hy
   | cons y t =>
     have hxy : x < y := h 1 (by omega) (by simp)
     intro z hz
     rcases List.mem_cons.1 hz with rfl | hz
     · exact hxy
     · have := hr.1 z hz; grind
structure Gs (N : Int) (ps fs : List Rat) : Prop where
 len : fs.length = ps.length
 two : 2 ≤ ps.length
 top : ps.length ≤ 100
 sp : ∀ z ∈ ps, small z
 sf : ∀ z ∈ fs, small z
 inc : incrR ps
 mono : ∀ i, 0 < i → i < ps.length → fs.getD (i - 1) 0 ≤ fs.getD i 0
 p0 : ps.getD 0 0 = 0
 f0 : fs.getD 0 0 = 0
 pn : ps.getD (ps.length - 1) 0 = (N : Rat)
theorem gOk_rat {N : Int} {P F : List Rw} (h : gOk N P F) : rws P = rts (rwQ P) ∧ rws F = rts (rwQ F) ∧ Gs N (rwQ P) (rwQ F) := by
 obtain ⟨h1, h2, h3, h4, h5, h6, h7⟩ := h
 have hP : ∀ r ∈ P, Rw.ok r := fun r hr => by
   obtain ⟨i, hi, e⟩ := mem_at (d := default) hr
   rw [← e]; exact (h4 i (Nat.zero_le _) hi).1
 have hF : ∀ r ∈ F, Rw.ok r := fun r hr => by
   obtain ⟨i, hi, e⟩ := mem_at (d := default) hr
   rw [← e]; exact (h4 i (Nat.zero_le _) (by omega)).2.1
 have lP : (rwQ P).length = P.length := List.length_map ..
 have lF : (rwQ F).length = F.length := List.length_map ..
 have zq : ∀ r : Rw, r.1 = 0 → r.q = 0 := by
   rintro ⟨a, b⟩ h0
   simp only at h0
   subst h0
   show mkRat 0 b.toNat = 0
   exact Rat.zero_mkRat _
 refine ⟨rws_rts hP, rws_rts hF, by omega, by omega, by omega, fun z hz => ?_, fun z hz => ?_, incrR_of fun i h0 hi => ?_, fun i h0 hi => ?_, ?_, ?_, ?_⟩
 · obtain ⟨r, hr, rfl⟩ := List.mem_map.1 hz; exact (rt_of (hP r hr)).1
 · obtain ⟨r, hr, rfl⟩ := List.mem_map.1 hz; exact (rt_of (hF r hr)).1
 · rw [rwQ_at (by omega), rwQ_at (by omega)]; exact ((h4 i (Nat.zero_le _) (by omega)).2.2 h0).1
 · rw [rwQ_at (by omega), rwQ_at (by omega)]; exact ((h4 i (Nat.zero_le _) (by omega)).2.2 h0).2
 · rw [rwQ_at (by omega)]; exact zq _ h5
 · rw [rwQ_at (by omega)]; exact zq _ h6
 · rw [lP, rwQ_at (by omega), h7]
   exact rt_self (N : Rat)
end Go.Pf.Vc
namespace Go.Pf.Vc
open Go Go.Pf Go.Sort
def fitS (ps fs : List Rat) (c : Cm) : Rat := fs.getD (ps.idxOf c.f) 0 + c.v
def fitB (ps fs : List Rat) (c : Cm) : Bool := decide (fitS ps fs c = fs.getD (ps.idxOf c.t) 0) && (!c.m || (if c.v = 0 then decide (ps.idxOf c.f = ps.idxOf c.t) else decide (fs.getD (ps.idxOf c.t - 1) 0 < fs.getD (ps.idxOf c.t) 0)))
def fitsE (ps fs : List Rat) : Nat → List Cm → Int × Int
 | i, [] => ((i : Int), 0)
 | i, c :: r => if small (fitS ps fs c) then (if fitB ps fs c then fitsE ps fs (i + 1) r else ((i : Int), 0)) else (0, 16)
theorem atR_in {l : List Rat} {q : Rat} (h : q ∈ l) : atR l q = (l.idxOf q : Int) := if_pos h
theorem small_at {l : List Rat} (h : ∀ z ∈ l, small z) {i : Nat} (hi : i < l.length) : small (l.getD i 0) := h _ (getD_ratMem hi)
theorem idx_lt {l : List Rat} {q : Rat} (h : q ∈ l) : l.idxOf q < l.length := List.idxOf_lt_length_iff.2 h
theorem fit_pos {N : Int} {ps fs : List Rat} (hG : Gs N ps fs) {c : Cm} (hc : c.ok N) (h1 : c.f ∈ ps) (he : fitS ps fs c = fs.getD (ps.idxOf c.t) 0) (hv : c.v ≠ 0) : 0 < ps.idxOf c.t := by
 refine Nat.pos_of_ne_zero fun e => ?_
 unfold fitS at he
 rw [e, hG.f0] at he
 have h0 : ∀ i, i < ps.length → 0 ≤ fs.getD i 0 := by
   intro i
   induction i with
   | zero => intro _; rw [hG.f0]; exact Rat.le_refl
   | succ i ih =>
     intro hi
     have := hG.mono (i + 1) (by omega) hi
     have h2 := ih (by omega)
     rw [Nat.add_sub_cancel] at this
     grind
 have h2 := h0 _ (idx_lt h1)
 have h3 := hc.v0
 grind
theorem audit_fit {N : Int} {ps fs : List Rat} (hG : Gs N ps fs) {c : Cm} (hc : c.ok N) (h1 : c.f ∈ ps) (h2 : c.t ∈ ps) {x1 : Int → Int → Prop} {J : Bool → Prop} {P0 P1 : List PV} (hP1 : P1 = rts fs) (hP0 : P0 = rts ps) (_ : x1 0 16 = x1 0 16) :
   w_s_Index_api_Ratio_api_Ratio P0 c.f.num c.f.den (fun yi77 => 
   (w_s_Index_api_Ratio_api_Ratio P0 c.t.num c.t.den (fun yi78 => 
   (asr (decide ((0 : Int) ≤ yi77))
   (asr (decide (yi77 < (((List.length P1) : Nat) : Int)))
   (asr (conf (.agg [.i .i64, .i .i64]) (List.getD P1 (yi77.toNat) .nils))
   (w_ratio_Add (intOfV (cellAt (List.getD P1 (yi77.toNat) .nils) 0)) (intOfV (cellAt (List.getD P1 (yi77.toNat) .nils) 1)) c.v.num c.v.den (fun yi84 yi85 yi86 => 
   (cbr (yi86 != (0 : Int))
   (x1 (0 : Int) yi86)
   (asr (decide ((0 : Int) ≤ yi78))
   (asr (decide (yi78 < (((List.length P1) : Nat) : Int)))
   (asr (conf (.agg [.i .i64, .i .i64]) (List.getD P1 (yi78.toNat) .nils))
   (Go.Pf.jn (fun (yj101 : Bool → Prop) =>
   (cbr ((yi84 == (intOfV (cellAt (List.getD P1 (yi78.toNat) .nils) 0))) && ((yi85 == (intOfV (cellAt (List.getD P1 (yi78.toNat) .nils) 1))) && true))
   (yj101 c.m)
   (yj101 false)))
   (fun yb100 => (cbr yb100
   (cbr (c.v.num == (0 : Int))
   (cbr (yi77 == yi78)
   (J true)
   (cbr (decide (c.v.num > (0 : Int)))
   (lt (IntKind.i64.wrap (yi78 - (1 : Int))) (fun yi102 =>
   (asr (decide ((0 : Int) ≤ yi102))
   (asr (decide (yi102 < (((List.length P1) : Nat) : Int)))
   (asr (conf (.agg [.i .i64, .i .i64]) (List.getD P1 (yi102.toNat) .nils))
   (asr (decide ((0 : Int) ≤ yi78))
   (asr (decide (yi78 < (((List.length P1) : Nat) : Int)))
   (asr (conf (.agg [.i .i64, .i .i64]) (List.getD P1 (yi78.toNat) .nils))
   (J (!(((intOfV (cellAt (List.getD P1 (yi102.toNat) .nils) 0)) == (intOfV (cellAt (List.getD P1 (yi78.toNat) .nils) 0))) && (((intOfV (cellAt (List.getD P1 (yi102.toNat) .nils) 1)) == (intOfV (cellAt (List.getD P1 (yi78.toNat) .nils) 1))) && true))))))))))))
   (J false)))
   (cbr (decide (c.v.num > (0 : Int)))
   (lt (IntKind.i64.wrap (yi78 - (1 : Int))) (fun yi105 =>
   (asr (decide ((0 : Int) ≤ yi105))
   (asr (decide (yi105 < (((List.length P1) : Nat) : Int)))
   (asr (conf (.agg [.i .i64, .i .i64]) (List.getD P1 (yi105.toNat) .nils))
   (asr (decide ((0 : Int) ≤ yi78))
   (asr (decide (yi78 < (((List.length P1) : Nat) : Int)))
   (asr (conf (.agg [.i .i64, .i .i64]) (List.getD P1 (yi78.toNat) .nils))
   (J (!(((intOfV (cellAt (List.getD P1 (yi105.toNat) .nils) 0)) == (intOfV (cellAt (List.getD P1 (yi78.toNat) .nils) 0))) && (((intOfV (cellAt (List.getD P1 (yi105.toNat) .nils) 1)) == (intOfV (cellAt (List.getD P1 (yi78.toNat) .nils) 1))) && true))))))))))))
   (J false)))
   (J ((yi84 == (intOfV (cellAt (List.getD P1 (yi78.toNat) .nils) 0))) && ((yi85 == (intOfV (cellAt (List.getD P1 (yi78.toNat) .nils) 1))) && true))))))))))))))))))
   = if small (fitS ps fs c) then J (fitB ps fs c) else x1 0 16 := by
 subst hP0 hP1
 have i1 := idx_lt h1
 have i2 := idx_lt h2
 have hl := hG.len
 have ht := hG.top
 rw [Index_eq (by omega), Index_eq (by omega), atR_in h1, atR_in h2, rts_len, asT (by omega), asT (by omega), Int.toNat_natCast, rts_at (by omega), asW, encW0, encW1, rAdd_eq (small_at hG.sf (by omega)) hc.v]
 unfold fitK
 have hS : fs.getD (ps.idxOf c.f) 0 + c.v = fitS ps fs c := rfl
 rw [hS]
 by_cases hs : small (fitS ps fs c)
 case neg =>
   rw [if_neg hs, if_neg hs]
   rfl
 rw [if_pos hs, if_pos hs]
 dsimp only
 rw [nz, asT (by omega), asT (by omega), Int.toNat_natCast, rts_at (by omega), asW, encW0, encW1, ratEq]
 dsimp only [Go.Pf.jn, lt]
 have e2 := wib (n := ((ps.idxOf c.t : Nat) : Int) - 1) (by omega) (by omega)
 unfold fitB
 by_cases he : fitS ps fs c = fs.getD (ps.idxOf c.t) 0
 case neg =>
   rw [decide_eq_false he, cbr_false, cbr_false, Bool.false_and]
 rw [decide_eq_true he, cbr_true, Bool.true_and]
 cases hm : c.m with
 | false => rw [cbr_false]; rfl
 | true =>
   rw [cbr_true, Bool.not_true, Bool.false_or]
   by_cases hv : c.v = 0
   · have hn : c.v.num = 0 := Rat.num_eq_zero.2 hv
     rw [ceT hn, if_pos hv]
     by_cases hi : ps.idxOf c.f = ps.idxOf c.t
     · rw [ceT (by omega), decide_eq_true hi]
     · rw [ceF (by omega), cbF (by omega), decide_eq_false hi]
   · have hn : c.v.num ≠ 0 := fun e => hv (Rat.num_eq_zero.1 e)
     have hp : c.v.num > 0 := by
       have := Rat.num_nonneg.2 hc.v0
       omega
     have h0 := fit_pos hG hc h1 he hv
     have e3 : ((ps.idxOf c.t : Nat) : Int) - 1 = ((ps.idxOf c.t - 1 : Nat) : Int) := by omega
     rw [e3] at e2
     rw [ceF hn, if_neg hv, cbT hp, e3, e2, asT (by omega), asT (by omega), Int.toNat_natCast, rts_at (by omega), asW, encW0, encW1, asT (by omega), asT (by omega), asW, ratEq]
     congr 1
     have := hG.mono _ h0 i2
     rw [← decide_not, decide_eq_decide]
     constructor
     · intro h; grind
     · intro h; grind
theorem fits_loop {N : Int} {ps fs : List Rat} (hG : Gs N ps fs) {L : List Cm} (hc : ∀ c ∈ L, c.ok N ∧ c.f ∈ ps ∧ c.t ∈ ps) (hl : L.length < 1000000) {a0 : T_audit_claims} {a1 : T_audit_valid} {a2 : T_audit_pointsOf} {a3 : T_s_Contains_api_Ratio_api_Ratio} {l0 : List PV} {x0 : List PV → List PV → List PV → List PV → Int → Int → Bool → Prop} {x1 K : Int → Int → Prop}
   (h0 : ∀ e f g, x0 l0 (rts ps) (rts fs) (cms L) e f g = K (L.length : Int) 0) (h1 : ∀ a b, x1 a b = K a b) :
   ∀ (r i n : Nat), i + r = L.length → r < n → L_audit_Fits_1_0 a0 a1 a2 a3 w_s_Index_api_Ratio_api_Ratio w_ratio_Add x0 x1 n l0 (rts ps) (rts fs) (cms L) (L.length : Int) (i : Int) = K (fitsE ps fs i (L.drop i)).1 (fitsE ps fs i (L.drop i)).2 := by
 intro r
 induction r with
 | zero =>
   intro i n hi hn
   obtain ⟨n, rfl⟩ : ∃ m, n = m + 1 := ⟨n - 1, by omega⟩
   obtain rfl : i = L.length := by omega
   rw [L_audit_Fits_1_0, cbF (by omega), h0, List.drop_length]
   rfl
 | succ r ih =>
   intro i n hi hn
   obtain ⟨n, rfl⟩ : ∃ m, n = m + 1 := ⟨n - 1, by omega⟩
   have hil : i < L.length := by omega
   have e1 := wib (n := (i : Int) + 1) (by omega) (by omega)
   have hd : L.drop i = L.getD i default :: L.drop (i + 1) := drop_cons default hil
   have hm : L.getD i default ∈ L := by
     rw [List.getD_eq_getElem?_getD, List.getElem?_eq_getElem hil]
     exact List.getElem_mem hil
   obtain ⟨c1, c2, c3⟩ := hc _ hm
   have hat := cms_at hil
   generalize L.getD i default = c at *
   rw [L_audit_Fits_1_0, cbT (by omega)]
   dsimp only [lt]
   rw [cms_len, asT (by omega), asT (by omega), Int.toNat_natCast, hat, asCm, encCm0, encCm1, encCm2, encCm3, encCm4, encCm5, encCm6]
   have key := audit_fit hG c1 c2 c3 (x1 := x1) (J := fun yb97 => (cbr (!yb97) (x1 (i : Int) (0 : Int)) (L_audit_Fits_1_0 a0 a1 a2 a3 w_s_Index_api_Ratio_api_Ratio w_ratio_Add x0 x1 n l0 (rts ps) (rts fs) (cms L) (L.length : Int) (IntKind.i64.wrap ((i : Int) + (1 : Int)))))) rfl rfl rfl
   refine key.trans ?_
   rw [hd]
   unfold fitsE
   by_cases hs : small (fitS ps fs c)
   · rw [if_pos hs, if_pos hs]
     cases fitB ps fs c with
     | true =>
       rw [if_pos rfl, Bool.not_true, cbr_false, e1, cast1]
       exact ih (i + 1) n (by omega) (by omega)
     | false => rw [if_neg (by simp), Bool.not_false, cbr_true, h1]
   · rw [if_neg hs, if_neg hs, h1]
theorem ptsIn_loop {ps qs : List Rat} (hp : ps.length < 100000) (hl : qs.length < 1000000) {a0 : T_audit_claims} {a1 : T_audit_valid} {a2 : T_audit_pointsOf} {a4 : T_s_Index_api_Ratio_api_Ratio} {a5 : T_ratio_Add} {l0 l2 l3 : List PV} {x0 : List PV → List PV → List PV → List PV → List PV → Int → Int → Bool → Prop} {x1 : Int → Int → Prop} :
   ∀ (r i n : Nat), i + r = qs.length → r < n → L_audit_Fits_0_0 a0 a1 a2 w_s_Contains_api_Ratio_api_Ratio a4 a5 x0 x1 n l0 (rts ps) l2 l3 (rts qs) (qs.length : Int) (i : Int) = if ∀ q ∈ qs.drop i, q ∈ ps then x0 l0 (rts ps) l2 l3 (rts qs) (qs.length : Int) (qs.length : Int) false else x1 0 2 := by
 intro r
 induction r with
 | zero =>
   intro i n hi hn
   obtain ⟨n, rfl⟩ : ∃ m, n = m + 1 := ⟨n - 1, by omega⟩
   obtain rfl : i = qs.length := by omega
   rw [L_audit_Fits_0_0, cbF (by omega), List.drop_length, if_pos (by simp)]
 | succ r ih =>
   intro i n hi hn
   obtain ⟨n, rfl⟩ : ∃ m, n = m + 1 := ⟨n - 1, by omega⟩
   have hil : i < qs.length := by omega
   have e1 := wib (n := (i : Int) + 1) (by omega) (by omega)
   have hd : qs.drop i = qs.getD i 0 :: qs.drop (i + 1) := drop_cons 0 hil
   rw [L_audit_Fits_0_0, cbT (by omega)]
   dsimp only [lt]
   rw [rts_len, asT (by omega), asT (by omega), Int.toNat_natCast, rts_at hil, asW, encW0, encW1, Contains_eq (by omega), hd]
   by_cases h : qs.getD i 0 ∈ ps
   · rw [decide_eq_true h, Bool.not_true, cbr_false, e1, cast1, ih (i + 1) n (by omega) (by omega)]
     by_cases h2 : ∀ q ∈ qs.drop (i + 1), q ∈ ps
     · rw [if_pos h2, if_pos (fun q hq => by
         rcases List.mem_cons.1 hq with rfl | hq
         · exact h
         · exact h2 q hq)]
     · rw [if_neg h2, if_neg (fun k => h2 fun q hq => k q (List.mem_cons_of_mem _ hq))]
   · rw [decide_eq_false h, Bool.not_false, cbr_true, if_neg (fun k => h (k _ List.mem_cons_self))]
open Classical in
noncomputable def fitsR (N : Int) (P F : List Rw) (log : List Qy) : Int × Int :=
 if claimsE N log = 0 then (if gOk N P F then (if ∀ q ∈ ptsC N (log.map cmOf), q ∈ rwQ P then fitsE (rwQ P) (rwQ F) 0 (log.map cmOf) else (0, 2)) else (0, 8)) else (0, claimsE N log)
theorem ptsC_len (N : Int) (L : List Cm) : (ptsC N L).length ≤ 2 + 2 * L.length := by
 have := endsR_len (L.map Cm.rs) [0, (N : Rat)]
 rw [List.length_map] at this
 simpa [ptsC, Nat.add_comm] using this
open Classical in
theorem audit_Fits_eq {N : Int} {P F : List Rw} {log : List Qy} (hP : ∀ r ∈ P, Rw.i64 r) (hF : ∀ r ∈ F, Rw.i64 r) (hl : P.length < 1000000) (hfl : F.length < 1000000) (h64 : ∀ q ∈ log, q.q64) (hll : log.length < 1000) (K : Int → Int → Prop) :
   w_audit_Fits N (rws P) (rws F) (logs log) K = K (fitsR N P F log).1 (fitsR N P F log).2 := by
 refine det_audit_Fits _ _ _ _ _ _ (fun K k => ?_) K
 unfold w_audit_Fits wv_audit_Fits
 unfold fitsR at k
 rw [claims_eq h64 hll]
 by_cases h1 : claimsE N log = 0
 case neg =>
   rw [if_neg h1] at k
   rw [cnT h1]; exact k
 rw [if_pos h1] at k
 rw [cnF h1, if_pos h1, valid_eq5 hP hF hl hfl]
 by_cases h2 : gOk N P F
 case neg =>
   rw [if_neg h2] at k
   rw [decide_eq_false h2, Bool.not_false, cbr_true]; exact k
 rw [if_pos h2] at k
 obtain ⟨n1, n2, n3, n4⟩ := claimsE_zero h1
 have hok := claimsE_ok h1
 rw [decide_eq_true h2, Bool.not_true, cbr_false, pointsOf_eq n1 n2 hok (by rw [List.length_map]; omega)]
 obtain ⟨g1, g2, g3⟩ := gOk_rat h2
 have hpl : (rwQ P).length = P.length := List.length_map ..
 have htop := g3.top
 have hq := ptsC_len N (log.map cmOf)
 rw [List.length_map] at hq
 refine ⟨(ptsC N (log.map cmOf)).length + 1, ?_⟩
 rw [g1, g2, rts_len]
 refine (ptsIn_loop (by omega) (by omega) _ 0 _ (Nat.zero_add _) (Nat.lt_succ_self _)).mpr ?_
 rw [List.drop_zero]
 by_cases h3 : ∀ q ∈ ptsC N (log.map cmOf), q ∈ rwQ P
 case neg =>
   rw [if_neg h3] at k
   rw [if_neg h3]; exact k
 rw [if_pos h3] at k
 rw [if_pos h3]
 refine ⟨log.length + 1, ?_⟩
 rw [cms_len]
 refine (fits_loop (L := log.map cmOf) g3 (fun c hc => ⟨hok c hc, h3 _ (ptsC_mem.2 (.inr (.inr ⟨c, hc, .inl rfl⟩))), h3 _ (ptsC_mem.2 (.inr (.inr ⟨c, hc, .inr rfl⟩)))⟩) (by rw [List.length_map]; omega) (K := K) (fun _ _ _ => by rw [logs_len, List.length_map]) (fun _ _ => rfl) _ 0 _ (Nat.zero_add _) (by rw [List.length_map]; omega)).mpr ?_
 rw [List.drop_zero]; exact k
theorem rfit_eq {N : Int} {ps fs : List Rat} (hG : Gs N ps fs) {q : Qy} (hq : qOk N q = true) (h1 : (cmOf q).f ∈ ps) (h2 : (cmOf q).t ∈ ps) (K : Bool → Int → Prop) :
   w_r05_fits (rts ps) (rts fs) q.agent q.kind q.an q.ad q.bn q.bd q.cn q.cd K = if small (fitS ps fs (cmOf q)) then K (fitB ps fs (cmOf q)) 0 else K false 16 := by
 have hc := qOk_cm hq
 have i1 := idx_lt h1
 have i2 := idx_lt h2
 have hl := hG.len
 have ht := hG.top
 obtain ⟨f1, f2⟩ := cmOf_f hq
 obtain ⟨_, _, _, hk⟩ := qOk_rv hq
 have hm : (cmOf q).m = decide (q.kind ≠ 1) := by
   unfold cmOf
   by_cases k1 : q.kind = 1
   · rw [if_pos k1]; simp [k1]
   · rw [if_neg k1]; simp [k1]
 unfold w_r05_fits wv_r05_fits
 rw [← f1, ← f2, At_eq (by omega), f1, f2, To_eq hq, At_eq (by omega), Told_eq hq, atR_in h1, atR_in h2, rts_len, asT (by omega), asT (by omega), Int.toNat_natCast]
 dsimp only [lt, Go.Pf.jn]
 rw [rts_at (by omega), asW, encW0, encW1, sAdd_eq (small_at hG.sf (by omega)) hc.v]
 unfold fitK
 have hS : fs.getD (ps.idxOf (cmOf q).f) 0 + (cmOf q).v = fitS ps fs (cmOf q) := rfl
 rw [hS]
 generalize cmOf q = c at *
 by_cases hs : small (fitS ps fs c)
 case neg =>
   rw [if_neg hs, if_neg hs]
   rfl
 rw [if_pos hs, if_pos hs]
 dsimp only
 rw [nz, asT (by omega), asT (by omega), Int.toNat_natCast, rts_at (by omega), asW, encW0, encW1, ratEq]
 have e2 := wib (n := ((ps.idxOf c.t : Nat) : Int) - 1) (by omega) (by omega)
 unfold fitB
 by_cases he : fitS ps fs c = fs.getD (ps.idxOf c.t) 0
 case neg =>
   rw [decide_eq_false he, Bool.not_false, cbr_true, Bool.false_and]
 rw [decide_eq_true he, Bool.not_true, cbr_false, Bool.true_and, hm]
 by_cases k1 : q.kind = 1
 · rw [ceT k1, decide_eq_false (by simp [k1])]; rfl
 · rw [ceF k1, decide_eq_true k1, Bool.not_true, Bool.false_or]
   by_cases hv : c.v = 0
   · have hn : c.v.num = 0 := Rat.num_eq_zero.2 hv
     rw [ceT hn, if_pos hv]
     congr 1
     rw [Bool.eq_iff_iff, beq_iff_eq, decide_eq_true_eq]
     omega
   · have hn : c.v.num ≠ 0 := fun e => hv (Rat.num_eq_zero.1 e)
     have h0 := fit_pos hG hc h1 he hv
     have e3 : ((ps.idxOf c.t : Nat) : Int) - 1 = ((ps.idxOf c.t - 1 : Nat) : Int) := by omega
     rw [e3] at e2
     rw [ceF hn, if_neg hv, cbT (by omega), e3, e2, asT (by omega), asT (by omega), Int.toNat_natCast, rts_at (by omega), asW, encW0, encW1, asT (by omega), asT (by omega), asW, sLess_eq (small_at hG.sf (by omega)) (small_at hG.sf (by omega))]
theorem rfits_loop {N : Int} {ps fs : List Rat} (hG : Gs N ps fs) {log : List Qy} (hok : ∀ q ∈ log, qOk N q = true ∧ (cmOf q).f ∈ ps ∧ (cmOf q).t ∈ ps) (hl : log.length < 1000000) {a0 : T_r05_Check} {a1 : T_r05_Valid} {a2 : T_r05_points} {a3 : T_r05_At} {x0 : List PV → List PV → List PV → Int → Bool → Prop} {x1 K : Int → Int → Prop}
   (h0 : ∀ e g, x0 (logs log) (rts ps) (rts fs) e g = K (log.length : Int) 0) (h1 : ∀ a b, x1 a b = K a b) :
   ∀ (r i n : Nat), i + r = log.length → r < n → L_r05_Fits_1_0 a0 a1 a2 a3 w_r05_fits x0 x1 n (logs log) (rts ps) (rts fs) (i : Int) = K (fitsE ps fs i ((log.map cmOf).drop i)).1 (fitsE ps fs i ((log.map cmOf).drop i)).2 := by
 intro r
 induction r with
 | zero =>
   intro i n hi hn
   obtain ⟨n, rfl⟩ : ∃ m, n = m + 1 := ⟨n - 1, by omega⟩
   obtain rfl : i = log.length := by omega
   rw [L_r05_Fits_1_0, logs_len, cbF (by omega), h0, List.drop_eq_nil_of_le (by simp)]
   rfl
 | succ r ih =>
   intro i n hi hn
   obtain ⟨n, rfl⟩ : ∃ m, n = m + 1 := ⟨n - 1, by omega⟩
   have hil : i < log.length := by omega
   have e1 := wib (n := (i : Int) + 1) (by omega) (by omega)
   have hd : (log.map cmOf).drop i = cmOf (log.getD i default) :: (log.map cmOf).drop (i + 1) := by
     rw [← List.map_drop, drop_cons default hil, List.map_cons, List.map_drop]
   have hm : log.getD i default ∈ log := by
     rw [List.getD_eq_getElem?_getD, List.getElem?_eq_getElem hil]
     exact List.getElem_mem hil
   obtain ⟨c1, c2, c3⟩ := hok _ hm
   rw [L_r05_Fits_1_0, logs_len, cbT (by omega)]
   dsimp only [lt]
   rw [asT (by omega), asT (by omega), Int.toNat_natCast, logs_at hil, asQ, encQ0, encQ1, encQ2, encQ3, encQ4, encQ5, encQ6, encQ7, rfit_eq hG c1 c2 c3, hd]
   generalize log.getD i default = q at *
   unfold fitsE
   by_cases hs : small (fitS ps fs (cmOf q))
   · rw [if_pos hs, if_pos hs, nz]
     cases fitB ps fs (cmOf q) with
     | true =>
       rw [if_pos rfl, Bool.not_true, cbr_false, e1, cast1]
       exact ih (i + 1) n (by omega) (by omega)
     | false => rw [if_neg (by simp), Bool.not_false, cbr_true, h1]
   · rw [if_neg hs, if_neg hs, h1]
     rfl
theorem rptsIn_loop {ps qs : List Rat} (hp : ps.length < 100000) (hl : qs.length < 1000000) {a0 : T_r05_Check} {a1 : T_r05_Valid} {a2 : T_r05_points} {a4 : T_r05_fits} {l0 l2 : List PV} {x0 : List PV → List PV → List PV → List PV → Int → Bool → Prop} {x1 : Int → Int → Prop} :
   ∀ (r i n : Nat), i + r = qs.length → r < n → L_r05_Fits_0_0 a0 a1 a2 w_r05_At a4 x0 x1 n l0 (rts ps) l2 (rts qs) (i : Int) = if ∀ q ∈ qs.drop i, q ∈ ps then x0 l0 (rts ps) l2 (rts qs) (qs.length : Int) false else x1 0 2 := by
 intro r
 induction r with
 | zero =>
   intro i n hi hn
   obtain ⟨n, rfl⟩ : ∃ m, n = m + 1 := ⟨n - 1, by omega⟩
   obtain rfl : i = qs.length := by omega
   rw [L_r05_Fits_0_0, rts_len, cbF (by omega), List.drop_length, if_pos (by simp)]
 | succ r ih =>
   intro i n hi hn
   obtain ⟨n, rfl⟩ : ∃ m, n = m + 1 := ⟨n - 1, by omega⟩
   have hil : i < qs.length := by omega
   have e1 := wib (n := (i : Int) + 1) (by omega) (by omega)
   have hd : qs.drop i = qs.getD i 0 :: qs.drop (i + 1) := drop_cons 0 hil
   rw [L_r05_Fits_0_0, rts_len, cbT (by omega)]
   dsimp only [lt]
   rw [asT (by omega), asT (by omega), Int.toNat_natCast, rts_at hil, asW, encW0, encW1, At_eq (by omega), hd]
   have hge := atR_ge (l := ps) (q := qs.getD i 0)
   by_cases h : qs.getD i 0 ∈ ps
   · have h5 := hge.2 h
     rw [cbF (by omega), e1, cast1, ih (i + 1) n (by omega) (by omega)]
     by_cases h2 : ∀ q ∈ qs.drop (i + 1), q ∈ ps
     · rw [if_pos h2, if_pos (fun q hq => by
         rcases List.mem_cons.1 hq with rfl | hq
         · exact h
         · exact h2 q hq)]
     · rw [if_neg h2, if_neg (fun k => h2 fun q hq => k q (List.mem_cons_of_mem _ hq))]
   · have h5 : atR ps (qs.getD i 0) < 0 := Int.not_le.1 fun k => h (hge.1 k)
     rw [cbT h5, if_neg (fun k => h (k _ List.mem_cons_self))]
open Classical in
theorem rFits_eq {N : Int} {P F : List Rw} {log : List Qy} (hP : ∀ r ∈ P, Rw.i64 r) (hF : ∀ r ∈ F, Rw.i64 r) (hl : P.length < 1000000) (hfl : F.length < 1000000) (h64 : ∀ q ∈ log, q.q64) (hll : log.length < 1000) (K : Int → Int → Prop) :
   w_r05_Fits N (rws P) (rws F) (logs log) K = K (fitsR N P F log).1 (fitsR N P F log).2 := by
 refine det_r05_Fits _ _ _ _ _ _ (fun K k => ?_) K
 unfold w_r05_Fits wv_r05_Fits
 unfold fitsR at k
 rw [rCheck5_eq h64 hll, rCheck5_eq h64 hll]
 by_cases h1 : claimsE N log = 0
 case neg =>
   rw [if_neg h1] at k
   rw [cnT h1]; exact k
 rw [if_pos h1] at k
 rw [cnF h1, rValid5_eq hP hF hl hfl]
 by_cases h2 : gOk N P F
 case neg =>
   rw [if_neg h2] at k
   rw [decide_eq_false h2, Bool.not_false, cbr_true]; exact k
 rw [if_pos h2] at k
 obtain ⟨n1, n2, n3, n4⟩ := claimsE_zero h1
 have hok : ∀ q ∈ log, qOk N q = true := fun q hq => List.all_eq_true.1 n4 q hq
 rw [decide_eq_true h2, Bool.not_true, cbr_false, rpoints_eq n1 n2 hok (by omega)]
 obtain ⟨g1, g2, g3⟩ := gOk_rat h2
 have hpl : (rwQ P).length = P.length := List.length_map ..
 have htop := g3.top
 have hq := ptsC_len N (log.map cmOf)
 rw [List.length_map] at hq
 refine ⟨(ptsC N (log.map cmOf)).length + 1, ?_⟩
 rw [g1, g2]
 refine (rptsIn_loop (by omega) (by omega) _ 0 _ (Nat.zero_add _) (Nat.lt_succ_self _)).mpr ?_
 rw [List.drop_zero]
 by_cases h3 : ∀ q ∈ ptsC N (log.map cmOf), q ∈ rwQ P
 case neg =>
   rw [if_neg h3] at k
   rw [if_neg h3]; exact k
 rw [if_pos h3] at k
 rw [if_pos h3]
 refine ⟨log.length + 1, ?_⟩
 refine (rfits_loop (log := log) g3 (fun q hq => ⟨hok q hq, h3 _ (ptsC_mem.2 (.inr (.inr ⟨cmOf q, List.mem_map_of_mem hq, .inl rfl⟩))), h3 _ (ptsC_mem.2 (.inr (.inr ⟨cmOf q, List.mem_map_of_mem hq, .inr rfl⟩)))⟩) (by omega) (K := K) (fun _ _ => by rw [logs_len]) (fun _ _ => rfl) _ 0 _ (Nat.zero_add _) (Nat.lt_succ_self _)).mpr ?_
 rw [List.drop_zero]; exact k
def greatL (log : List Qy) : Bool := (decide (log.length > 14) && decide (log.length ≤ 40)) || decide (log.length > 60)
theorem Great5_eq (log : List Qy) (K : Bool → Prop) : w_r05_Great (logs log) K = K (greatL log) := by
 unfold w_r05_Great wv_r05_Great greatL
 dsimp only [Go.Pf.jn]
 rw [logs_len]
 by_cases h1 : log.length > 14
 · rw [cbT (by omega), decide_eq_true h1, Bool.true_and]
   by_cases h2 : log.length ≤ 40
   · rw [cbT (by omega), decide_eq_true h2, Bool.true_or]
   · rw [cbF (by omega), decide_eq_false h2, Bool.false_or]
     congr 1
     rw [decide_eq_decide]; omega
 · rw [cbF (by omega), decide_eq_false h1, Bool.false_and, Bool.false_or]
   congr 1
   rw [decide_eq_decide]; omega
def greatG (P F : List Rw) : Bool := decide (P.length > 110) || decide (F.length > 110)
theorem GreatG_eq (P F : List Rw) (K : Bool → Prop) : w_r05_GreatGuess (rws P) (rws F) K = K (greatG P F) := by
 unfold w_r05_GreatGuess wv_r05_GreatGuess greatG
 dsimp only [Go.Pf.jn]
 rw [rws_len, rws_len]
 by_cases h1 : P.length > 110
 · rw [cbT (by omega), decide_eq_true h1, Bool.true_or]
 · rw [cbF (by omega), decide_eq_false h1, Bool.false_or]
   congr 1
   rw [decide_eq_decide]; omega
theorem AuditFits_ok {N : Int} {P F : List Rw} {log : List Qy} (hP : ∀ r ∈ P, Rw.i64 r) (hF : ∀ r ∈ F, Rw.i64 r) (h64 : ∀ q ∈ log, q.q64) : w_l05_AuditFits N (rws P) (rws F) (logs log) (fun b => b = true) := by
 unfold w_l05_AuditFits wv_l05_AuditFits
 dsimp only [Go.Pf.jn]
 rw [Great5_eq, GreatG_eq]
 cases h1 : greatL log with
 | true => rw [cbr_true, cbr_true]
 | false =>
   rw [cbr_false]
   cases h2 : greatG P F with
   | true => rw [cbr_true]
   | false =>
     rw [cbr_false]
     unfold greatL at h1
     unfold greatG at h2
     simp only [Bool.or_eq_false_iff, Bool.and_eq_false_iff, decide_eq_false_iff_not] at h1 h2
     rw [audit_Fits_eq hP hF (by omega) (by omega) h64 (by omega), rFits_eq hP hF (by omega) (by omega) h64 (by omega), ceT rfl]
     simp
end Go.Pf.Vc
namespace Go.Pf.Vc
open Go Go.Pf
theorem rt_cells : ∀ {cs : List PV}, okL [.i64, .i64] cs = true → ∃ a b, cs = [.int .i64 a, .int .i64 b]
 | [], h => by cases h
 | [x], h => by cases x <;> simp [okL] at h
 | x :: y :: w, h => by
   cases x <;> first | (simp [okL] at h; done) | skip
   cases y <;> first | (simp [okL] at h; done) | skip
   simp only [okL, Bool.and_eq_true, decide_eq_true_eq] at h
   obtain ⟨rfl, _, _, rfl, _, _, h⟩ := h
   cases w with
   | nil => exact ⟨_, _, rfl⟩
   | cons p q => simp [okL] at h
theorem gd_rt {n g : Nat} {x : PV} (h : (rtSrt n g).s.gd x = true) : ∃ a b, x = .agg [.int .i64 a, .int .i64 b] ∧ RV a b := by
 simp only [Srt.gd, Bool.and_eq_true] at h
 have h1 : okI [.i64, .i64] x = true := h.1
 have h2 : rtGood x = true := h.2
 clear h
 cases x <;> first | (simp [okI] at h1; done) | skip
 obtain ⟨a, b, rfl⟩ := rt_cells (h1 : okL _ _ = true)
 exact ⟨a, b, rfl, rvB_iff.1 h2⟩
theorem aorder_ans {n g : Nat} (e : List (Nat × EffF)) (he : EG e) {x y : PV} (hx : (rtSrt n g).s.gd x = true) (hy : (rtSrt n g).s.gd y = true) : Ans (E e) n_audit_order [x, y] (.int .i64 (rtCmp x y)) := by
 obtain ⟨a, b, rfl, h1⟩ := gd_rt hx
 obtain ⟨a', b', rfl, h2⟩ := gd_rt hy
 obtain ⟨r, hr, ha⟩ := ok_audit_order e he [.agg [.int .i64 a, .int .i64 b], .agg [.int .i64 a', .int .i64 b']] (fun r => r = .int .i64 (cmpI a b a' b')) (by
   show w_audit_order a b a' b' (fun r => PV.int .i64 r = .int .i64 (cmpI a b a' b'))
   rw [aorder_rv h1 h2, cmpI_Q h1 h2])
 rw [hr] at ha
 exact ha
def dsG : DS := .a [.s dsR, .s dsR]
theorem rws_of : ∀ (rows : List PV), (∀ x ∈ rows, x.isAgg = dsR.isA ∧ HasF dsR x.cells) → ∃ l : List Rw, rows = rws l ∧ ∀ r ∈ l, Rw.i64 r
 | [], _ => ⟨[], rfl, by simp⟩
 | x :: r, h => by
   obtain ⟨l, e, hl⟩ := rws_of r (fun y hy => h y (List.mem_cons_of_mem _ hy))
   obtain ⟨h1, h2⟩ := h x List.mem_cons_self
   obtain ⟨n, d, e2, hn, hd⟩ := F_r h2
   have ex : x = encRw (n, d) := by rw [agg_of h1, e2]; rfl
   refine ⟨(n, d) :: l, by rw [ex, e]; rfl, fun q hq => ?_⟩
   rcases List.mem_cons.1 hq with rfl | hq
   · exact ⟨hn, hd⟩
   · exact hl q hq
theorem F_rws {c : List PV} (h : HasF (.s dsR) c) : ∃ l : List Rw, c = [.data (rws l)] ∧ ∀ r ∈ l, Rw.i64 r := by
 simp only [HasF] at h
 obtain ⟨rows, rfl, hl, hr⟩ := h
 obtain ⟨l, rfl, h⟩ := rws_of rows hr
 exact ⟨l, rfl, h⟩
theorem F_q64 {c : List PV} (h : HasF dsQ c) : ∃ q : Qy, c = [.int .i64 q.agent, .int .u8 q.kind, .int .i64 q.an, .int .i64 q.ad, .int .i64 q.bn, .int .i64 q.bd, .int .i64 q.cn, .int .i64 q.cd] ∧ q.q64 := by
 simp only [dsQ, dsR, HasF, HasL] at h
 obtain ⟨_, _, rfl, ⟨a, rfl, _⟩, _, _, rfl, ⟨b, rfl, _⟩, _, _, rfl, ⟨_, _, rfl, ⟨c, rfl, h1⟩, _, _, rfl, ⟨d, rfl, h2⟩, rfl⟩, _, _, rfl, ⟨_, _, rfl, ⟨e, rfl, h3⟩, _, _, rfl, ⟨f, rfl, h4⟩, rfl⟩, _, _, rfl, ⟨_, _, rfl, ⟨g, rfl, h5⟩, _, _, rfl, ⟨i, rfl, h6⟩, rfl⟩, rfl⟩ := h
 exact ⟨⟨a, b, c, d, e, f, g, i⟩, rfl, inK_i64 h1, inK_i64 h2, inK_i64 h3, inK_i64 h4, inK_i64 h5, inK_i64 h6⟩
theorem logs_of64 : ∀ (rows : List PV), (∀ x ∈ rows, x.isAgg = dsQ.isA ∧ HasF dsQ x.cells) → ∃ l : List Qy, rows = logs l ∧ ∀ q ∈ l, q.q64
 | [], _ => ⟨[], rfl, by simp⟩
 | x :: r, h => by
   obtain ⟨l, e, hl⟩ := logs_of64 r (fun y hy => h y (List.mem_cons_of_mem _ hy))
   obtain ⟨h1, h2⟩ := h x List.mem_cons_self
   obtain ⟨k, e2, hk⟩ := F_q64 h2
   have ex : x = encQ k := by rw [agg_of h1, e2]; rfl
   refine ⟨k :: l, by rw [ex, e]; rfl, fun q hq => ?_⟩
   rcases List.mem_cons.1 hq with rfl | hq
   · exact hk
   · exact hl q hq
theorem F_logs64 {c : List PV} (h : HasF (.s dsQ) c) : ∃ l : List Qy, c = [.data (logs l)] ∧ ∀ q ∈ l, q.q64 := by
 simp only [HasF] at h
 obtain ⟨rows, rfl, hl, hr⟩ := h
 obtain ⟨l, rfl, h⟩ := logs_of64 rows hr
 exact ⟨l, rfl, h⟩
theorem A_fits {as : List PV} (h : HasAs [.i .i64, dsG, .s dsQ] as) : ∃ (N : Int) (P F : List Rw) (log : List Qy), as = [.int .i64 N, .agg [.data (rws P), .data (rws F)], .data (logs log)] ∧ I64 N ∧ (∀ r ∈ P, Rw.i64 r) ∧ (∀ r ∈ F, Rw.i64 r) ∧ ∀ q ∈ log, q.q64 := by
 simp only [HasAs] at h
 obtain ⟨x, r, rfl, x1, x2, y, r2, rfl, y1, y2, z, r3, rfl, z1, z2, rfl⟩ := h
 obtain ⟨n, e1, hn⟩ := F_i x2
 obtain ⟨l, e3, hl⟩ := F_logs64 z2
 rw [single_of x1 e1, single_of z1 e3, agg_of y1]
 generalize y.cells = cs at y2
 simp only [dsG, HasF, HasL] at y2
 obtain ⟨k1, _, rfl, g1, k2, _, rfl, g2, rfl⟩ := y2
 obtain ⟨P, rfl, hP⟩ := F_rws (by simp only [HasF]; exact g1)
 obtain ⟨F, rfl, hF⟩ := F_rws (by simp only [HasF]; exact g2)
 exact ⟨n, P, F, l, rfl, hn, hP, hF, hl⟩
end Go.Pf.Vc
