/- Part 4 of what the statement rests on: a verified evaluator over pure values, the conditions of the program's functions, and their plain laws. -/
import Derived.Test.YtfdnnbmkmlhidaaAlW3
namespace Go.Pf.Vc
open Go Go.Pf Go.Sort
theorem ptsC_mem {N : Int} {L : List Cm} {z : Rat} : z ∈ ptsC N L ↔ z = 0 ∨ z = (N : Rat) ∨ ∃ c ∈ L, z = c.f ∨ z = c.t := by
 unfold ptsC
 rw [endsR_mem]
 constructor
 · rintro (h | ⟨s, h1, h2⟩)
   · simp only [List.mem_cons, List.not_mem_nil, or_false] at h
     rcases h with h | h
     · exact .inl h
     · exact .inr (.inl h)
   · obtain ⟨c, hc, rfl⟩ := List.mem_map.1 h1
     exact .inr (.inr ⟨c, hc, h2⟩)
 · rintro (h | h | ⟨c, h1, h2⟩)
   · exact .inl (by simp [h])
   · exact .inl (by simp [h])
   · exact .inr ⟨c.rs, List.mem_map_of_mem h1, h2⟩
theorem ptsC_incr {N : Int} (hN : 1 ≤ N) (L : List Cm) : incrR (ptsC N L) := by
 refine endsR_incr _ _ ⟨fun y hy => ?_, ⟨(fun y hy => by cases hy), trivial⟩⟩
 simp only [List.mem_cons, List.not_mem_nil, or_false] at hy
 subst hy
 have : (0 : Rat) < ((1 : Int) : Rat) := by decide
 have h2 : ((1 : Int) : Rat) ≤ (N : Rat) := Rat.intCast_le_intCast.2 hN
 grind
theorem points_loop {L : List Cm} (hl : L.length < 10000) {x : List PV → List PV → Int → Int → Bool → Prop} :
   ∀ (r i n : Nat) (out : List Rat), i + r = L.length → r < n → out.length ≤ 2 + 2 * i →
     L_audit_pointsOf_0_0 w_audit_whole x n (rts out) (cms L) (L.length : Int) (i : Int) = x (rts (out ++ flatC (L.drop i))) (cms L) (L.length : Int) (L.length : Int) false := by
 intro r
 induction r with
 | zero =>
   intro i n out hi hn ho
   obtain ⟨n, rfl⟩ : ∃ m, n = m + 1 := ⟨n - 1, by omega⟩
   obtain rfl : i = L.length := by omega
   rw [L_audit_pointsOf_0_0, cbF (by omega), List.drop_length]
   simp [flatC]
 | succ r ih =>
   intro i n out hi hn ho
   obtain ⟨n, rfl⟩ : ∃ m, n = m + 1 := ⟨n - 1, by omega⟩
   have hil : i < L.length := by omega
   have e1 := wib (n := (i : Int) + 1) (by omega) (by omega)
   have hd : L.drop i = L.getD i default :: L.drop (i + 1) := drop_cons default hil
   have e2 : (rts out ++ [.agg [.int .i64 (L.getD i default).f.num, .int .i64 ((L.getD i default).f.den : Int)], .agg [.int .i64 (L.getD i default).t.num, .int .i64 ((L.getD i default).t.den : Int)]]) = rts (out ++ [(L.getD i default).f, (L.getD i default).t]) := by
     rw [← rts_app]; rfl
   rw [L_audit_pointsOf_0_0, cbT (by omega)]
   dsimp only [lt]
   rw [cms_len, asT (by omega), asT (by omega), Int.toNat_natCast, cms_at hil, asCm, encCm0, encCm1, encCm2, encCm3, e2, rts_len, asE, asT (by omega), asNo (by omega), asE, asT (by show _ ≤ 35184372088832; omega), e1, asEE, asE, cast1, ih (i + 1) n _ (by omega) (by omega) (by simp; omega), hd]
   simp [flatC, List.append_assoc]
theorem flatC_mem {L : List Cm} {z : Rat} : z ∈ flatC L ↔ ∃ c ∈ L, z = c.f ∨ z = c.t := by
 unfold flatC
 rw [List.mem_flatMap]
 constructor
 · rintro ⟨c, h1, h2⟩; exact ⟨c, h1, by simpa using h2⟩
 · rintro ⟨c, h1, h2⟩; exact ⟨c, h1, by simpa using h2⟩
theorem flatC_len (L : List Cm) : (flatC L).length = 2 * L.length := by
 induction L with
 | nil => rfl
 | cons c r ih => show (c.f :: c.t :: flatC r).length = _; simp only [List.length_cons]; omega
theorem pointsOf_eq {N : Int} (h1 : 1 ≤ N) (h2 : N ≤ 1000) {L : List Cm} (hc : ∀ c ∈ L, c.ok N) (hl : L.length < 10000) (K : List PV → Prop) : w_audit_pointsOf N (cms L) K = K (rts (ptsC N L)) := by
 refine det_audit_pointsOf _ _ _ (fun K k => ?_) K
 unfold w_audit_pointsOf wv_audit_pointsOf
 rw [awhole_eq, awhole_eq]
 refine asr_iff.2 ⟨by simp, L.length + 1, ?_⟩
 rw [cms_len]
 have e0 : ([.agg [.int .i64 ((0 : Int) : Rat).num, .int .i64 ((((0 : Int) : Rat).den : Nat) : Int)], .agg [.int .i64 (N : Rat).num, .int .i64 (((N : Rat).den : Nat) : Int)]] : List PV) = rts [0, (N : Rat)] := rfl
 rw [e0]
 refine (points_loop hl L.length 0 (L.length + 1) _ (by omega) (by omega) (by simp)).mpr ?_
 rw [List.drop_zero]
 have hs : ∀ q ∈ [0, (N : Rat)] ++ flatC L, small q := by
   intro q hq
   rcases List.mem_append.1 hq with h | h
   · simp only [List.mem_cons, List.not_mem_nil, or_false] at h
     rcases h with rfl | rfl
     · decide
     · exact small_int3 (by omega) (by omega)
   · obtain ⟨c, hc1, rfl | rfl⟩ := flatC_mem.1 h
     · exact (hc c hc1).f
     · exact (hc c hc1).t
 have hn : ([0, (N : Rat)] ++ flatC L).length = 2 + 2 * L.length := by rw [List.length_append, flatC_len]; simp
 have hmem : ∀ z, z ∈ [0, (N : Rat)] ++ flatC L ↔ z ∈ ptsC N L := by
   intro z
   rw [ptsC_mem, List.mem_append, flatC_mem]
   simp [or_assoc]
 generalize ([0, (N : Rat)] ++ flatC L) = A at *
 obtain ⟨l', p1, p2, p3⟩ := sorted_rt n_s_SortFunc_api_Ratio_api_Ratio n_audit_order hs
 have hcond : Srt.cond srt_audit_order.s (rts A) 0 (rts A).length (rts A).length 2 false = true := by
   obtain ⟨d, hd⟩ : ∃ d, (srt_audit_order).s.rows? (rts A) = some d := rows_some fun y hy => by
     obtain ⟨q, hq, rfl⟩ := List.mem_map.1 hy
     exact gd_encW _ _ (hs q hq)
   unfold Srt.cond
   rw [List.drop_zero, List.take_length, hd, rts_len]
   simp only [decide_true, Bool.true_and, Bool.not_false, Option.isSome_some, Bool.and_true, Bool.and_eq_true, decide_eq_true_eq, Nat.zero_add, Nat.le_refl]
   exact ⟨by omega, rfl, by omega⟩
 have hsrt : Srt.sorted srt_audit_order.s srt_audit_order.srt (rts A) = rts l' := p3
 have hll : l'.length = A.length := p1.length_eq
 rw [hcond, asr_true, List.take_zero, List.drop_zero, List.take_length, hsrt, List.nil_append, Nat.zero_add, List.drop_length, List.append_nil, rts_len]
 dsimp only [Go.Pf.jn]
 rw [cbF (by omega)]
 have hfin : compR l' = ptsC N L := by
   obtain ⟨c1, c2⟩ := compR_is p2
   exact incr_unique c1 (ptsC_incr h1 L) fun z => by rw [c2 z, p1.mem_iff, hmem z]
 refine ⟨l'.length + 1, ?_⟩
 rw [← hll]
 refine comp_loop (l := l') (J := fun yl164 yn165 yn166 => (asr (decide ((List.length yl164) = yn166)) (asr (decide ((0 + yn165) ≤ yn166)) (K (List.take yn165 yl164))))) (by omega) (fun _ _ _ _ _ => rfl) (fun _ _ _ => rfl) (l'.length - 1) 1 (l'.length + 1) (by omega) (by omega) (by omega) fun R hR hT => ?_
 have hD := dedR_len (l'.getD (1 - 1) 0) (l'.drop 1)
 rw [List.length_drop] at hD
 rw [hR, asE, asT (by omega), hT]
 have e9 : l'.take 1 ++ dedR (l'.getD (1 - 1) 0) (l'.drop 1) = compR l' := by
   cases l' with
   | nil => simp at hll; omega
   | cons x t => rfl
 rw [e9, hfin]
 exact k
end Go.Pf.Vc
namespace Go.Pf.Vc
open Go Go.Pf Go.Sort
def atR (l : List Rat) (q : Rat) : Int := if q ∈ l then (l.idxOf q : Int) else -1
theorem At_loop {l : List Rat} (hl : l.length < 1000000) {q : Rat} {x0 : List PV → Int → Int → Int → Bool → Prop} {x1 : Int → Prop} {K : Int → Prop} (h0 : ∀ a b c d e, x0 a b c d e = K (-1)) (h1 : ∀ i, x1 i = K i) :
   ∀ (r i n : Nat), i + r = l.length → r < n → L_r05_At_0_0 x0 x1 n (rts l) q.num q.den (i : Int) = if q ∈ l.drop i then K ((i + (l.drop i).idxOf q : Nat) : Int) else K (-1) := by
 intro r
 induction r with
 | zero =>
   intro i n hi hn
   obtain ⟨n, rfl⟩ : ∃ m, n = m + 1 := ⟨n - 1, by omega⟩
   rw [L_r05_At_0_0, rts_len, cbF (by omega), List.drop_eq_nil_of_le (by omega), if_neg (by simp), h0]
 | succ r ih =>
   intro i n hi hn
   obtain ⟨n, rfl⟩ : ∃ m, n = m + 1 := ⟨n - 1, by omega⟩
   have hil : i < l.length := by omega
   have e1 := wib (n := (i : Int) + 1) (by omega) (by omega)
   have hd : l.drop i = l.getD i 0 :: l.drop (i + 1) := drop_cons 0 hil
   rw [L_r05_At_0_0, rts_len, cbT (by omega)]
   dsimp only [lt]
   rw [asT (by omega), asT (by omega), Int.toNat_natCast, rts_at hil, asW, encW0, encW1, ratEq, hd, e1, cast1]
   by_cases h : l.getD i 0 = q
   · rw [cbT h, if_pos (by rw [h]; exact List.mem_cons_self), h1, h]
     simp
   · rw [cbF h, ih (i + 1) n (by omega) (by omega)]
     by_cases h2 : q ∈ l.drop (i + 1)
     · rw [if_pos h2, if_pos (List.mem_cons_of_mem _ h2), List.idxOf_cons, show (l.getD i 0 == q) = false from beq_eq_false_iff_ne.2 h, cond_false]
       congr 1
       omega
     · rw [if_neg h2, if_neg]
       intro h3
       rcases List.mem_cons.1 h3 with h3 | h3
       · exact h h3.symm
       · exact h2 h3
theorem At_eq {l : List Rat} (hl : l.length < 1000000) {q : Rat} (K : Int → Prop) : w_r05_At (rts l) q.num q.den K = K (atR l q) := by
 refine det_r05_At _ _ _ _ (fun K k => ?_) K
 unfold w_r05_At wv_r05_At
 refine ⟨l.length + 1, ?_⟩
 refine (At_loop hl (K := K) (fun _ _ _ _ _ => rfl) (fun _ => rfl) l.length 0 (l.length + 1) (by omega) (by omega)).mpr ?_
 unfold atR at k
 rw [List.drop_zero]
 split
 · rename_i h; rw [if_pos h] at k; simpa using k
 · rename_i h; rw [if_neg h] at k; exact k
theorem qOk_rv {N : Int} {q : Qy} (h : qOk N q = true) : RV q.an q.ad ∧ RV q.bn q.bd ∧ RV q.cn q.cd ∧ (q.kind = 1 ∨ q.kind = 2) := by
 unfold qOk at h
 simp only [Bool.and_eq_true] at h
 obtain ⟨h1, h2, h3, h4⟩ := h
 refine ⟨(posR_rv h1).1, (posR_rv h2).1, (posR_rv h3).1, ?_⟩
 by_cases hk : q.kind = 1
 · exact .inl hk
 · rw [if_neg hk] at h4
   by_cases hk2 : q.kind = 2
   · exact .inr hk2
   · rw [if_neg hk2] at h4; cases h4
theorem To_eq {N : Int} {q : Qy} (h : qOk N q = true) (K : Int → Int → Prop) : w_r05_To q.agent q.kind q.an q.ad q.bn q.bd q.cn q.cd K = K (cmOf q).t.num (cmOf q).t.den := by
 obtain ⟨r1, r2, r3, hk⟩ := qOk_rv h
 obtain ⟨_, e3, e4⟩ := rt_of r2
 obtain ⟨_, e5, e6⟩ := rt_of r3
 unfold w_r05_To wv_r05_To cmOf
 by_cases h1 : q.kind = 1
 · rw [ceT h1, if_pos h1]
   dsimp only
   rw [e3, e4]
 · rw [ceF h1, if_neg h1]
   dsimp only
   rw [e5, e6]
theorem Told_eq {N : Int} {q : Qy} (h : qOk N q = true) (K : Int → Int → Prop) : w_r05_Told q.agent q.kind q.an q.ad q.bn q.bd q.cn q.cd K = K (cmOf q).v.num (cmOf q).v.den := by
 obtain ⟨r1, r2, r3, hk⟩ := qOk_rv h
 obtain ⟨_, e3, e4⟩ := rt_of r2
 obtain ⟨_, e5, e6⟩ := rt_of r3
 unfold w_r05_Told wv_r05_Told cmOf
 by_cases h1 : q.kind = 1
 · rw [ceT h1, if_pos h1]
   dsimp only
   rw [e5, e6]
 · rw [ceF h1, if_neg h1]
   dsimp only
   rw [e3, e4]
theorem cmOf_f {N : Int} {q : Qy} (h : qOk N q = true) : (cmOf q).f.num = q.an ∧ ((cmOf q).f.den : Int) = q.ad := by
 obtain ⟨r1, _, _, _⟩ := qOk_rv h
 obtain ⟨_, e1, e2⟩ := rt_of r1
 unfold cmOf
 split <;> exact ⟨e1, e2⟩
end Go.Pf.Vc
namespace Go.Pf.Vc
open Go Go.Pf Go.Sort
theorem PT_iff {N n d : Int} (h : RV n d) : PT N n d ↔ 0 ≤ n ∧ rt n d ≤ (N : Rat) := by
 constructor
 · intro hp
   obtain ⟨_, _, _, _, h5⟩ := hp.pt
   exact ⟨hp.2.1, h5⟩
 · rintro ⟨h1, h2⟩
   obtain ⟨s, e1, e2⟩ := rt_of h
   have := PT_of s ((rt_pos h).2 h1) h2
   rw [e1, e2] at this
   exact this
theorem posR_of {a b : Int} (h : RV a b) : posR a b = decide (0 ≤ a) := by
 unfold posR
 rw [decide_eq_true h, Bool.true_and]
theorem posR_no {a b : Int} (h : ¬ RV a b) : posR a b = false := by
 unfold posR
 rw [decide_eq_false h, Bool.false_and]
theorem right_eq {N : Int} (hN : -1000000000000000000 ≤ N ∧ N ≤ 1000000000000000000) {q : Qy} (h64 : q.q64) (K : Bool → Prop) :
   w_r05_right N q.agent q.kind q.an q.ad q.bn q.bd q.cn q.cd K = K (qOk N q) := by
 obtain ⟨a1, a2, a3, a4, a5, a6⟩ := h64
 unfold w_r05_right wv_r05_right
 dsimp only [Go.Pf.jn]
 rw [sBoth_eq a1 a2 a3 a4]
 by_cases hA : RV q.an q.ad
 case neg =>
   have e : chk2 q.an q.ad q.bn q.bd ≠ 0 := fun e => hA (chk2_zero.1 e).1
   rw [cnT e, cbr_true]
   unfold qOk
   rw [posR_no hA]; rfl
 by_cases hB : RV q.bn q.bd
 case neg =>
   have e : chk2 q.an q.ad q.bn q.bd ≠ 0 := fun e => hB (chk2_zero.1 e).2
   rw [cnT e, cbr_true]
   unfold qOk
   rw [posR_no hB, Bool.false_and, Bool.and_false]
 rw [cnF (chk2_zero.2 ⟨hA, hB⟩), sCheck_eq a5 a6]
 by_cases hC : RV q.cn q.cd
 case neg =>
   have e : chk q.cn q.cd ≠ 0 := by unfold chk; rw [if_neg hC]; decide
   rw [cnT e, cbr_true]
   unfold qOk
   rw [posR_no hC, Bool.false_and, Bool.and_false, Bool.and_false]
 have e : chk q.cn q.cd = 0 := if_pos hC
 rw [cnF e, dPoint_eq hN a1 a2, dPoint_eq hN a3 a4, dPoint_eq hN a5 a6, sLess_rv hB hA, sLess_rv hC hA]
 unfold qOk
 rw [posR_of hA, posR_of hB, posR_of hC]
 by_cases pA : PT N q.an q.ad
 case neg =>
   rw [decide_eq_false pA, Bool.not_false, cbr_true]
   congr 1
   symm
   rw [PT_iff hA] at pA
   by_cases h0 : 0 ≤ q.an
   · have hA2 : ¬ rt q.an q.ad ≤ (N : Rat) := fun k => pA ⟨h0, k⟩
     rw [decide_eq_true h0]
     have t1 : twoP N q.an q.ad q.bn q.bd = false := by
       unfold twoP
       rw [Bool.eq_false_iff]
       intro k
       simp only [Bool.and_eq_true, decide_eq_true_eq] at k
       grind
     have t2 : twoP N q.an q.ad q.cn q.cd = false := by
       unfold twoP
       rw [Bool.eq_false_iff]
       intro k
       simp only [Bool.and_eq_true, decide_eq_true_eq] at k
       grind
     rw [t1, t2]
     split
     · simp
     · split <;> simp
   · rw [decide_eq_false h0, Bool.false_and]
 rw [decide_eq_true pA, Bool.not_true, cbr_false]
 rw [PT_iff hA] at pA
 have pB := PT_iff (N := N) hB
 have pC := PT_iff (N := N) hC
 rw [decide_eq_true pA.1, Bool.true_and]
 unfold twoP
 by_cases k1 : q.kind = 1
 · rw [ceT k1, if_pos k1]
   by_cases p1 : PT N q.bn q.bd
   · rw [cbT p1]
     rw [pB] at p1
     rw [decide_eq_true p1.1, decide_eq_true p1.2, Bool.true_and, Bool.and_true]
     by_cases hl : rt q.bn q.bd < rt q.an q.ad
     · rw [decide_eq_true hl, Bool.not_true, cbr_false, decide_eq_false (show ¬ rt q.an q.ad ≤ rt q.bn q.bd by grind), Bool.and_false]
     · rw [decide_eq_false hl, Bool.not_false, cbr_true, decide_eq_true (show rt q.an q.ad ≤ rt q.bn q.bd by grind), Bool.and_true]
   · rw [cbF p1]
     rw [pB] at p1
     congr 1
     symm
     rw [Bool.eq_false_iff]
     intro k
     simp only [Bool.and_eq_true, decide_eq_true_eq] at k
     exact p1 ⟨k.1, k.2.2.2⟩
 · rw [ceF k1, if_neg k1]
   by_cases k2 : q.kind = 2
   · rw [ceT k2, if_pos k2]
     by_cases p1 : PT N q.cn q.cd
     · rw [cbT p1]
       rw [pC] at p1
       rw [decide_eq_true p1.1, decide_eq_true p1.2, Bool.and_true, Bool.true_and]
       by_cases hl : rt q.cn q.cd < rt q.an q.ad
       · rw [decide_eq_true hl, Bool.not_true, cbr_false, decide_eq_false (show ¬ rt q.an q.ad ≤ rt q.cn q.cd by grind), Bool.and_false]
       · rw [decide_eq_false hl, Bool.not_false, cbr_true, decide_eq_true (show rt q.an q.ad ≤ rt q.cn q.cd by grind), Bool.and_true]
     · rw [cbF p1]
       rw [pC] at p1
       congr 1
       symm
       rw [Bool.eq_false_iff]
       intro k
       simp only [Bool.and_eq_true, decide_eq_true_eq] at k
       exact p1 ⟨k.2.1, k.2.2.2⟩
   · rw [ceF k2, if_neg k2, Bool.and_false, Bool.and_false]
theorem rCheck_loop {N : Int} (hN : -1000000000000000000 ≤ N ∧ N ≤ 1000000000000000000) {log : List Qy} (h64 : ∀ q ∈ log, q.q64) (hl : log.length < 1000) {x0 : Int → List PV → Int → Bool → Prop} {x1 : Int → Prop} :
   ∀ (r i n : Nat), i + r = log.length → r < n → L_r05_Check_0_0 w_r05_right x0 x1 n N (logs log) (i : Int) = if (log.drop i).all (qOk N) then x0 N (logs log) (log.length : Int) false else x1 8 := by
 intro r
 induction r with
 | zero =>
   intro i n hi hn
   obtain ⟨n, rfl⟩ : ∃ m, n = m + 1 := ⟨n - 1, by omega⟩
   obtain rfl : i = log.length := by omega
   rw [L_r05_Check_0_0, logs_len, cbF (by omega), List.drop_length]
   rfl
 | succ r ih =>
   intro i n hi hn
   obtain ⟨n, rfl⟩ : ∃ m, n = m + 1 := ⟨n - 1, by omega⟩
   have hil : i < log.length := by omega
   have e1 := wib (n := (i : Int) + 1) (by omega) (by omega)
   have hd : log.drop i = log.getD i default :: log.drop (i + 1) := drop_cons default hil
   rw [L_r05_Check_0_0, logs_len, cbT (by omega)]
   dsimp only [lt]
   rw [asT (by omega), asT (by omega), Int.toNat_natCast, logs_at hil, asQ, encQ0, encQ1, encQ2, encQ3, encQ4, encQ5, encQ6, encQ7, right_eq hN (q64_at h64 hil), hd, List.all_cons]
   cases qOk N (log.getD i default) with
   | false => rfl
   | true => rw [Bool.not_true, cbr_false, e1, cast1, ih (i + 1) n (by omega) (by omega), Bool.true_and]
theorem rCheck5_eq {N : Int} {log : List Qy} (h64 : ∀ q ∈ log, q.q64) (hl : log.length < 1000) (K : Int → Prop) : w_r05_Check N (logs log) K = K (claimsE N log) := by
 refine det_r05_Check _ _ _ (fun K k => ?_) K
 unfold w_r05_Check wv_r05_Check
 dsimp only [Go.Pf.jn]
 rw [logs_len]
 by_cases h1 : N < 1
 · have e : claimsE N log = 2 := by unfold claimsE; rw [if_pos (.inl h1)]
   rw [e] at k
   rw [cbT h1, cbr_true]; exact k
 · rw [cbF h1]
   by_cases h2 : N > 1000
   · have e : claimsE N log = 2 := by unfold claimsE; rw [if_pos (.inr h2)]
     rw [e] at k
     rw [decide_eq_true h2, cbr_true]; exact k
   · have e : claimsE N log = if log.length > 40 then 4 else if log.all (qOk N) then 0 else 8 := by unfold claimsE; rw [if_neg (by omega)]
     rw [e] at k
     rw [decide_eq_false h2, cbr_false]
     by_cases h3 : log.length > 40
     · rw [if_pos h3] at k
       rw [cbT (by omega)]; exact k
     · rw [if_neg h3] at k
       rw [cbF (by omega)]
       refine ⟨log.length + 1, ?_⟩
       refine (rCheck_loop (by omega) h64 hl log.length 0 (log.length + 1) (by omega) (by omega)).mpr ?_
       rw [List.drop_zero]
       split
       · rename_i h; rw [if_pos h] at k; exact k
       · rename_i h; rw [if_neg h] at k; exact k
abbrev Rw : Type := Int × Int
def encRw (r : Rw) : PV := .agg [.int .i64 r.1, .int .i64 r.2]
def rws (l : List Rw) : List PV := l.map encRw
theorem rws_len (l : List Rw) : (rws l).length = l.length := List.length_map ..
theorem rws_at {l : List Rw} {i : Nat} (h : i < l.length) : List.getD (rws l) i .nils = encRw (l.getD i default) := by
 unfold rws
 rw [List.getD_eq_getElem?_getD, List.getD_eq_getElem?_getD, List.getElem?_map, List.getElem?_eq_getElem h]
 rfl
theorem asRw (r : Rw) (P : Prop) : asr (conf (.agg [.i .i64, .i .i64]) (encRw r)) P = P := rfl
def Rw.ok (r : Rw) : Prop := RV r.1 r.2
instance (r : Rw) : Decidable r.ok := by unfold Rw.ok; infer_instance
def Rw.q (r : Rw) : Rat := rt r.1 r.2
def Rw.i64 (r : Rw) : Prop := I64 r.1 ∧ I64 r.2
def gStep (P F : List Rw) (i : Nat) : Prop := (P.getD i default).ok ∧ (F.getD i default).ok ∧ (0 < i → (P.getD (i - 1) default).q < (P.getD i default).q ∧ (F.getD (i - 1) default).q ≤ (F.getD i default).q)
instance (P F : List Rw) (i : Nat) : Decidable (gStep P F i) := by unfold gStep; infer_instance
def gEnds (N : Int) (P F : List Rw) : Prop := (P.getD 0 default).1 = 0 ∧ (F.getD 0 default).1 = 0 ∧ P.getD (P.length - 1) default = (N, 1)
instance (N : Int) (P F : List Rw) : Decidable (gEnds N P F) := by unfold gEnds; infer_instance
theorem mem_at {α : Type} {l : List α} {x d : α} (h : x ∈ l) : ∃ i, i < l.length ∧ l.getD i d = x := by
 obtain ⟨i, hi, e⟩ := List.mem_iff_getElem.1 h
 exact ⟨i, hi, by rw [List.getD_eq_getElem?_getD, List.getElem?_eq_getElem hi]; exact e⟩
structure Gs (N : Int) (ps fs : List Rat) : Prop where
 len : fs.length = ps.length
 two : 2 ≤ ps.length
 top : ps.length ≤ 100
 sp : ∀ z ∈ ps, small z
 sf : ∀ z ∈ fs, small z
 inc : incrR ps
 mono : ∀ i, 0 < i → i < ps.length → fs.getD (i - 1) 0 ≤ fs.getD i 0
 p0 : ps.getD 0 0 = 0
 f0 : fs.getD 0 0 = 0
 pn : ps.getD (ps.length - 1) 0 = (N : Rat)
end Go.Pf.Vc
namespace Go.Pf.Vc
open Go Go.Pf Go.Sort
def fitS (ps fs : List Rat) (c : Cm) : Rat := fs.getD (ps.idxOf c.f) 0 + c.v
def fitB (ps fs : List Rat) (c : Cm) : Bool := decide (fitS ps fs c = fs.getD (ps.idxOf c.t) 0) && (!c.m || (if c.v = 0 then decide (ps.idxOf c.f = ps.idxOf c.t) else decide (fs.getD (ps.idxOf c.t - 1) 0 < fs.getD (ps.idxOf c.t) 0)))
def fitsE (ps fs : List Rat) : Nat → List Cm → Int × Int
 | i, [] => ((i : Int), 0)
 | i, c :: r => if small (fitS ps fs c) then (if fitB ps fs c then fitsE ps fs (i + 1) r else ((i : Int), 0)) else (0, 16)
theorem atR_in {l : List Rat} {q : Rat} (h : q ∈ l) : atR l q = (l.idxOf q : Int) := if_pos h
theorem small_at {l : List Rat} (h : ∀ z ∈ l, small z) {i : Nat} (hi : i < l.length) : small (l.getD i 0) := h _ (getD_ratMem hi)
theorem idx_lt {l : List Rat} {q : Rat} (h : q ∈ l) : l.idxOf q < l.length := List.idxOf_lt_length_iff.2 h
theorem ptsC_len (N : Int) (L : List Cm) : (ptsC N L).length ≤ 2 + 2 * L.length := by
 have := endsR_len (L.map Cm.rs) [0, (N : Rat)]
 rw [List.length_map] at this
 simpa [ptsC, Nat.add_comm] using this
def greatL (log : List Qy) : Bool := (decide (log.length > 14) && decide (log.length ≤ 40)) || decide (log.length > 60)
theorem Great5_eq (log : List Qy) (K : Bool → Prop) : w_r05_Great (logs log) K = K (greatL log) := by
 unfold w_r05_Great wv_r05_Great greatL
 dsimp only [Go.Pf.jn]
 rw [logs_len]
 by_cases h1 : log.length > 14
 · rw [cbT (by omega), decide_eq_true h1, Bool.true_and]
   by_cases h2 : log.length ≤ 40
   · rw [cbT (by omega), decide_eq_true h2, Bool.true_or]
   · rw [cbF (by omega), decide_eq_false h2, Bool.false_or]
     congr 1
     rw [decide_eq_decide]; omega
 · rw [cbF (by omega), decide_eq_false h1, Bool.false_and, Bool.false_or]
   congr 1
   rw [decide_eq_decide]; omega
end Go.Pf.Vc
namespace Go.Pf.Vc
open Go Go.Pf
theorem rt_cells : ∀ {cs : List PV}, okL [.i64, .i64] cs = true → ∃ a b, cs = [.int .i64 a, .int .i64 b]
 | [], h => by cases h
 | [x], h => by cases x <;> simp [okL] at h
 | x :: y :: w, h => by
   cases x <;> first | (simp [okL] at h; done) | skip
   cases y <;> first | (simp [okL] at h; done) | skip
   simp only [okL, Bool.and_eq_true, decide_eq_true_eq] at h
   obtain ⟨rfl, _, _, rfl, _, _, h⟩ := h
   cases w with
   | nil => exact ⟨_, _, rfl⟩
   | cons p q => simp [okL] at h
theorem gd_rt {n g : Nat} {x : PV} (h : (rtSrt n g).s.gd x = true) : ∃ a b, x = .agg [.int .i64 a, .int .i64 b] ∧ RV a b := by
 simp only [Srt.gd, Bool.and_eq_true] at h
 have h1 : okI [.i64, .i64] x = true := h.1
 have h2 : rtGood x = true := h.2
 clear h
 cases x <;> first | (simp [okI] at h1; done) | skip
 obtain ⟨a, b, rfl⟩ := rt_cells (h1 : okL _ _ = true)
 exact ⟨a, b, rfl, rvB_iff.1 h2⟩
theorem aorder_ans {n g : Nat} (e : List (Nat × EffF)) (he : EG e) {x y : PV} (hx : (rtSrt n g).s.gd x = true) (hy : (rtSrt n g).s.gd y = true) : Ans (E e) n_audit_order [x, y] (.int .i64 (rtCmp x y)) := by
 obtain ⟨a, b, rfl, h1⟩ := gd_rt hx
 obtain ⟨a', b', rfl, h2⟩ := gd_rt hy
 obtain ⟨r, hr, ha⟩ := ok_audit_order e he [.agg [.int .i64 a, .int .i64 b], .agg [.int .i64 a', .int .i64 b']] (fun r => r = .int .i64 (cmpI a b a' b')) (by
   show w_audit_order a b a' b' (fun r => PV.int .i64 r = .int .i64 (cmpI a b a' b'))
   rw [aorder_rv h1 h2, cmpI_Q h1 h2])
 rw [hr] at ha
 exact ha
theorem F_q64 {c : List PV} (h : HasF dsQ c) : ∃ q : Qy, c = [.int .i64 q.agent, .int .u8 q.kind, .int .i64 q.an, .int .i64 q.ad, .int .i64 q.bn, .int .i64 q.bd, .int .i64 q.cn, .int .i64 q.cd] ∧ q.q64 := by
 simp only [dsQ, dsR, HasF, HasL] at h
 obtain ⟨_, _, rfl, ⟨a, rfl, _⟩, _, _, rfl, ⟨b, rfl, _⟩, _, _, rfl, ⟨_, _, rfl, ⟨c, rfl, h1⟩, _, _, rfl, ⟨d, rfl, h2⟩, rfl⟩, _, _, rfl, ⟨_, _, rfl, ⟨e, rfl, h3⟩, _, _, rfl, ⟨f, rfl, h4⟩, rfl⟩, _, _, rfl, ⟨_, _, rfl, ⟨g, rfl, h5⟩, _, _, rfl, ⟨i, rfl, h6⟩, rfl⟩, rfl⟩ := h
 exact ⟨⟨a, b, c, d, e, f, g, i⟩, rfl, inK_i64 h1, inK_i64 h2, inK_i64 h3, inK_i64 h4, inK_i64 h5, inK_i64 h6⟩
theorem logs_of64 : ∀ (rows : List PV), (∀ x ∈ rows, x.isAgg = dsQ.isA ∧ HasF dsQ x.cells) → ∃ l : List Qy, rows = logs l ∧ ∀ q ∈ l, q.q64
 | [], _ => ⟨[], rfl, by simp⟩
 | x :: r, h => by
   obtain ⟨l, e, hl⟩ := logs_of64 r (fun y hy => h y (List.mem_cons_of_mem _ hy))
   obtain ⟨h1, h2⟩ := h x List.mem_cons_self
   obtain ⟨k, e2, hk⟩ := F_q64 h2
   have ex : x = encQ k := by rw [agg_of h1, e2]; rfl
   refine ⟨k :: l, by rw [ex, e]; rfl, fun q hq => ?_⟩
   rcases List.mem_cons.1 hq with rfl | hq
   · exact hk
   · exact hl q hq
theorem F_logs64 {c : List PV} (h : HasF (.s dsQ) c) : ∃ l : List Qy, c = [.data (logs l)] ∧ ∀ q ∈ l, q.q64 := by
 simp only [HasF] at h
 obtain ⟨rows, rfl, hl, hr⟩ := h
 obtain ⟨l, rfl, h⟩ := logs_of64 rows hr
 exact ⟨l, rfl, h⟩
end Go.Pf.Vc
namespace Go.Pf.Vc
open Go Go.Pf Go.Sort
def scM : List Cm → Nat → Option Nat
 | [], m => some m
 | c :: r, m => if c.v.den / Nat.gcd m c.v.den ≤ 1000000000 / m then scM r (m * (c.v.den / Nat.gcd m c.v.den)) else none
def scT (L : List Cm) (m : Nat) : Bool := L.all fun c => decide (c.v.num ≤ ((1000000000000 / (m / c.v.den) : Nat) : Int))
def scaleL (L : List Cm) : Option Nat := match scM L 1 with
 | some m => if scT L m then some m else none
 | none => none
def outSc (o : Option Nat) (K : Int → Int → Prop) : Prop := match o with
 | some m => K (m : Int) 0
 | none => K 0 16
theorem tdN5 (a b : Nat) : Int.tdiv (a : Int) (b : Int) = ((a / b : Nat) : Int) := rfl
theorem lcm_is (m d : Nat) : m * (d / Nat.gcd m d) = Nat.lcm m d := by
 rw [Nat.lcm, Nat.mul_div_assoc _ (Nat.gcd_dvd_right m d)]
theorem scM_step {m d : Nat} (h1 : 1 ≤ m) (hd : 1 ≤ d) (h : d / Nat.gcd m d ≤ 1000000000 / m) : 1 ≤ m * (d / Nat.gcd m d) ∧ m * (d / Nat.gcd m d) ≤ 1000000000 := by
 constructor
 · rw [lcm_is]; exact Nat.lcm_pos (by omega) (by omega)
 · exact Nat.le_trans (Nat.mul_le_mul_left m h) (Nat.mul_div_le _ _)
theorem scM_some : ∀ (L : List Cm) (m : Nat) {m' : Nat}, 1 ≤ m → m ≤ 1000000000 → scM L m = some m' → 1 ≤ m' ∧ m' ≤ 1000000000 ∧ m ∣ m' ∧ ∀ c ∈ L, c.v.den ∣ m'
 | [], m, m', h1, h2, e => by
   cases e
   exact ⟨h1, h2, Nat.dvd_refl _, by simp⟩
 | c :: r, m, m', h1, h2, e => by
   unfold scM at e
   split at e
   · rename_i h
     obtain ⟨s1, s2⟩ := scM_step h1 c.v.den_pos h
     obtain ⟨i1, i2, i3, i4⟩ := scM_some r _ s1 s2 e
     rw [lcm_is] at i3
     refine ⟨i1, i2, Nat.dvd_trans (Nat.dvd_lcm_left _ _) i3, fun q hq => ?_⟩
     rcases List.mem_cons.1 hq with rfl | hq
     · exact Nat.dvd_trans (Nat.dvd_lcm_right _ _) i3
     · exact i4 q hq
   · cases e
structure Sc (L : List Cm) (m : Nat) : Prop where
 one : 1 ≤ m
 top : m ≤ 1000000000
 dvd : ∀ c ∈ L, c.v.den ∣ m
 val : ∀ c ∈ L, c.v.num * ((m / c.v.den : Nat) : Int) ≤ 1000000000000
theorem scaleL_some {L : List Cm} {m : Nat} (h : scaleL L = some m) : Sc L m := by
 unfold scaleL at h
 split at h
 · rename_i m' e
   split at h
   · rename_i ht
     cases h
     obtain ⟨h1, h2, _, h4⟩ := scM_some L 1 (by omega) (by omega) e
     refine ⟨h1, h2, h4, fun c hc => ?_⟩
     have h5 := List.all_eq_true.1 ht c hc
     simp only [decide_eq_true_eq] at h5
     have h6 : ((1000000000000 / (m / c.v.den) : Nat) : Int) * ((m / c.v.den : Nat) : Int) ≤ 1000000000000 := by
       rw [← Int.natCast_mul]
       have := Nat.div_mul_le_self 1000000000000 (m / c.v.den)
       omega
     exact Int.le_trans (Int.mul_le_mul_of_nonneg_right h5 (Int.natCast_nonneg _)) h6
   · cases h
 · cases h
theorem pgcd5_loop {x : List PV → Int → Int → Int → Int → Int → Int → Int → Bool → Int → Int → List PV → Int → Int → Bool → Prop} {l0 l11 : List PV} {i1 i2 i3 i4 i5 i6 i7 i12 i13 : Int} {b8 : Bool} : ∀ (n a b : Nat), b < n → L_audit_scale_1_0 x n l0 i1 i2 i3 i4 i5 i6 i7 b8 (a : Int) (b : Int) l11 i12 i13 = x l0 i1 i2 i3 i4 i5 i6 i7 b8 ((Nat.gcd a b : Nat) : Int) 0 l11 i12 i13 false
 | 0, a, b, h => by omega
 | n + 1, a, b, h => by
   unfold L_audit_scale_1_0
   by_cases hb : b = 0
   · subst hb
     simp [cbr]
   · have h1 : (b : Int) > 0 := by omega
     have e : Int.tmod (a : Int) (b : Int) = ((a % b : Nat) : Int) := by rw [Int.tmod_eq_emod_of_nonneg (by omega)]; omega
     dsimp only [lt]
     rw [cbT h1, asNo (by omega), e, pgcd5_loop n b (a % b) (by have := Nat.mod_lt a (show b > 0 by omega); omega)]
     rw [Nat.gcd_comm a b, Nat.gcd_rec b a, Nat.gcd_comm]
theorem rgcd_loop {x : Int → Int → Bool → Prop} : ∀ (n a b : Nat), b < n → L_r05_gcd_0_0 x n (a : Int) (b : Int) = x ((Nat.gcd a b : Nat) : Int) 0 false
 | 0, a, b, h => by omega
 | n + 1, a, b, h => by
   unfold L_r05_gcd_0_0
   by_cases hb : b = 0
   · subst hb
     simp [cbr]
   · have e : Int.tmod (a : Int) (b : Int) = ((a % b : Nat) : Int) := by rw [Int.tmod_eq_emod_of_nonneg (by omega)]; omega
     dsimp only [lt]
     rw [cnT (by omega), asNo (by omega), e, rgcd_loop n b (a % b) (by have := Nat.mod_lt a (show b > 0 by omega); omega)]
     rw [Nat.gcd_comm a b, Nat.gcd_rec b a, Nat.gcd_comm]
theorem rgcd_eq (a b : Nat) (K : Int → Prop) : w_r05_gcd (a : Int) (b : Int) K = K ((Nat.gcd a b : Nat) : Int) := by
 refine det_r05_gcd _ _ _ (fun K k => ?_) K
 unfold w_r05_gcd wv_r05_gcd
 exact ⟨b + 1, by rw [rgcd_loop (b + 1) a b (by omega)]; exact k⟩
theorem cm_ok_at {N : Int} {L : List Cm} (h : ∀ c ∈ L, c.ok N) {i : Nat} (hi : i < L.length) : (L.getD i default).ok N := by
 rw [List.getD_eq_getElem?_getD, List.getElem?_eq_getElem hi]
 exact h _ (List.getElem_mem hi)
theorem gcd_pos' {m d : Nat} (h : 1 ≤ m) : 0 < Nat.gcd m d := Nat.gcd_pos_of_pos_left _ (by omega)
theorem dgcd_small {m : Nat} {c : Cm} {N : Int} (hc : c.ok N) (_ : 1 ≤ m) : c.v.den / Nat.gcd m c.v.den ≤ 1000000000000000000 := by
 have h2 := hc.v.2.2
 exact Nat.le_trans (Nat.div_le_self _ _) (by omega)
theorem scale_loop {N : Int} {L : List Cm} (hc : ∀ c ∈ L, c.ok N) (hl : L.length < 1000000) {x0 : List PV → Int → List PV → Int → Int → Bool → Prop} {x1 : Int → Int → Prop} :
   ∀ (r i n m : Nat), i + r = L.length → r < n → 1 ≤ m → m ≤ 1000000000 →
     (match scM (L.drop i) m with | some m' => x0 (cms L) (m' : Int) (cms L) (L.length : Int) (L.length : Int) false | none => x1 0 16) →
     L_audit_scale_0_0 x0 x1 n (cms L) (m : Int) (cms L) (L.length : Int) (i : Int) := by
 intro r
 induction r with
 | zero =>
   intro i n m hi hn h1 h2 k
   obtain ⟨n, rfl⟩ : ∃ m, n = m + 1 := ⟨n - 1, by omega⟩
   obtain rfl : i = L.length := by omega
   rw [List.drop_length] at k
   rw [L_audit_scale_0_0, cbF (by omega)]
   exact k
 | succ r ih =>
   intro i n m hi hn h1 h2 k
   obtain ⟨n, rfl⟩ : ∃ m, n = m + 1 := ⟨n - 1, by omega⟩
   have hil : i < L.length := by omega
   have hd : L.drop i = L.getD i default :: L.drop (i + 1) := drop_cons default hil
   have hok := cm_ok_at hc hil
   rw [hd] at k
   rw [L_audit_scale_0_0, cbT (by omega)]
   dsimp only [lt]
   rw [cms_len, asT (by omega), asT (by omega), Int.toNat_natCast, cms_at hil, asCm]
   generalize L.getD i default = c at *
   refine ⟨c.v.den + 1, ?_⟩
   rw [encCm5]
   refine (pgcd5_loop _ m c.v.den (by omega)).mpr ?_
   have hg := gcd_pos' (d := c.v.den) h1
   have hs := dgcd_small hok h1
   have e1 : IntKind.i64.wrap (Int.tdiv ((c.v.den : Nat) : Int) ((Nat.gcd m c.v.den : Nat) : Int)) = ((c.v.den / Nat.gcd m c.v.den : Nat) : Int) := by rw [tdN5, wibN (by omega)]
   have e2 : IntKind.i64.wrap (Int.tdiv (1000000000 : Int) (m : Int)) = ((1000000000 / m : Nat) : Int) := by
     rw [show Int.tdiv (1000000000 : Int) (m : Int) = ((1000000000 / m : Nat) : Int) from rfl, wibN (by have := Nat.div_le_self 1000000000 m; omega)]
   rw [asNo (by omega), e1, asNo (by omega), e2]
   unfold scM at k
   by_cases h : c.v.den / Nat.gcd m c.v.den ≤ 1000000000 / m
   · rw [if_pos h] at k
     rw [cbF (by omega)]
     obtain ⟨s1, s2⟩ := scM_step h1 c.v.den_pos h
     rw [← Int.natCast_mul, wibN (by omega), cast1, wibN (by omega)]
     exact ih (i + 1) n _ (by omega) (by omega) s1 s2 k
   · rw [if_neg h] at k
     rw [cbT (by omega)]
     exact k
theorem scale2_loop {N : Int} {L : List Cm} (hc : ∀ c ∈ L, c.ok N) (hl : L.length < 1000000) {m : Nat} (h1 : 1 ≤ m) (h2 : m ≤ 1000000000) (hdv : ∀ c ∈ L, c.v.den ∣ m) {x0 : Int → List PV → Int → Int → Bool → Prop} {x1 : Int → Int → Prop} :
   ∀ (r i n : Nat), i + r = L.length → r < n →
     L_audit_scale_2_0 x0 x1 n (m : Int) (cms L) (L.length : Int) (i : Int) = if scT (L.drop i) m then x0 (m : Int) (cms L) (L.length : Int) (L.length : Int) false else x1 0 16 := by
 intro r
 induction r with
 | zero =>
   intro i n hi hn
   obtain ⟨n, rfl⟩ : ∃ m, n = m + 1 := ⟨n - 1, by omega⟩
   obtain rfl : i = L.length := by omega
   rw [L_audit_scale_2_0, cbF (by omega), List.drop_length]
   rfl
 | succ r ih =>
   intro i n hi hn
   obtain ⟨n, rfl⟩ : ∃ m, n = m + 1 := ⟨n - 1, by omega⟩
   have hil : i < L.length := by omega
   have hd : L.drop i = L.getD i default :: L.drop (i + 1) := drop_cons default hil
   have hm : L.getD i default ∈ L := by
     rw [List.getD_eq_getElem?_getD, List.getElem?_eq_getElem hil]
     exact List.getElem_mem hil
   have hok := hc _ hm
   have hv := hdv _ hm
   rw [L_audit_scale_2_0, cbT (by omega)]
   dsimp only [lt]
   rw [cms_len, asT (by omega), asT (by omega), Int.toNat_natCast, cms_at hil, asCm, encCm4, encCm5, hd]
   generalize L.getD i default = c at *
   have hdp := c.v.den_pos
   have hq : 0 < m / c.v.den := Nat.div_pos (Nat.le_of_dvd (by omega) hv) hdp
   have hq2 : m / c.v.den ≤ m := Nat.div_le_self _ _
   have hq3 := Nat.div_le_self 1000000000000 (m / c.v.den)
   have e1 : IntKind.i64.wrap (Int.tdiv (m : Int) ((c.v.den : Nat) : Int)) = ((m / c.v.den : Nat) : Int) := by rw [tdN5, wibN (by omega)]
   have e2 : IntKind.i64.wrap (Int.tdiv (1000000000000 : Int) ((m / c.v.den : Nat) : Int)) = ((1000000000000 / (m / c.v.den) : Nat) : Int) := by
     rw [show Int.tdiv (1000000000000 : Int) ((m / c.v.den : Nat) : Int) = ((1000000000000 / (m / c.v.den) : Nat) : Int) from rfl, wibN (by omega)]
   rw [asNo (by omega), e1, asNo (by omega), e2]
   unfold scT
   rw [List.all_cons]
   by_cases h : c.v.num ≤ ((1000000000000 / (m / c.v.den) : Nat) : Int)
   · rw [decide_eq_true h, Bool.true_and, cbF (by omega), cast1, wibN (by omega), ih (i + 1) n (by omega) (by omega)]
     rfl
   · rw [decide_eq_false h, Bool.false_and, cbT (by omega)]
     rfl
theorem scale_eq {N : Int} {L : List Cm} (hc : ∀ c ∈ L, c.ok N) (hl : L.length < 1000000) (K : Int → Int → Prop) : w_audit_scale (cms L) K = outSc (scaleL L) K := by
 have key : ∀ K, outSc (scaleL L) K → w_audit_scale (cms L) K := by
   intro K k
   unfold w_audit_scale wv_audit_scale
   refine ⟨L.length + 1, ?_⟩
   rw [cms_len]
   refine scale_loop hc hl L.length 0 (L.length + 1) 1 (by omega) (by omega) (by omega) (by omega) ?_
   rw [List.drop_zero]
   unfold scaleL at k
   cases e : scM L 1 with
   | none => rw [e] at k; exact k
   | some m =>
     rw [e] at k
     dsimp only at k ⊢
     obtain ⟨h1, h2, _, h4⟩ := scM_some L 1 (by omega) (by omega) e
     refine ⟨L.length + 1, ?_⟩
     rw [cms_len]
     refine (scale2_loop hc hl h1 h2 h4 L.length 0 (L.length + 1) (by omega) (by omega)).mpr ?_
     rw [List.drop_zero]
     split
     · rename_i h; rw [if_pos h] at k; exact k
     · rename_i h; rw [if_neg h] at k; exact k
 cases e : scaleL L with
 | none => exact det_audit_scale _ _ _ (fun K k => key K (by rw [e]; exact k)) K
 | some m => exact det_audit_scale _ _ _ (fun K k => key K (by rw [e]; exact k)) K
theorem rscale_loop {N : Int} {log : List Qy} (hok : ∀ q ∈ log, qOk N q = true) (hl : log.length < 1000000) {x0 : List PV → Int → Int → Bool → Prop} {x1 : Int → Int → Prop} :
   ∀ (r i n m : Nat), i + r = log.length → r < n → 1 ≤ m → m ≤ 1000000000 →
     (match scM ((log.map cmOf).drop i) m with | some m' => x0 (logs log) (m' : Int) (log.length : Int) false | none => x1 0 16) →
     L_r05_Scale_0_0 w_r05_Told w_r05_gcd x0 x1 n (logs log) (m : Int) (i : Int) := by
 intro r
 induction r with
 | zero =>
   intro i n m hi hn h1 h2 k
   obtain ⟨n, rfl⟩ : ∃ m, n = m + 1 := ⟨n - 1, by omega⟩
   obtain rfl : i = log.length := by omega
   rw [List.drop_eq_nil_of_le (by simp)] at k
   rw [L_r05_Scale_0_0, logs_len, cbF (by omega)]
   exact k
 | succ r ih =>
   intro i n m hi hn h1 h2 k
   obtain ⟨n, rfl⟩ : ∃ m, n = m + 1 := ⟨n - 1, by omega⟩
   have hil : i < log.length := by omega
   have hd : (log.map cmOf).drop i = cmOf (log.getD i default) :: (log.map cmOf).drop (i + 1) := by
     rw [← List.map_drop, drop_cons default hil, List.map_cons, List.map_drop]
   have hm : log.getD i default ∈ log := by
     rw [List.getD_eq_getElem?_getD, List.getElem?_eq_getElem hil]
     exact List.getElem_mem hil
   have hq := hok _ hm
   have hcm := qOk_cm hq
   rw [hd] at k
   rw [L_r05_Scale_0_0, logs_len, cbT (by omega)]
   dsimp only [lt]
   rw [asT (by omega), asT (by omega), Int.toNat_natCast, logs_at hil, asQ, encQ0, encQ1, encQ2, encQ3, encQ4, encQ5, encQ6, encQ7, Told_eq hq, rgcd_eq]
   generalize cmOf (log.getD i default) = c at *
   have hg := gcd_pos' (d := c.v.den) h1
   have hs := dgcd_small hcm h1
   have e1 : IntKind.i64.wrap (Int.tdiv ((c.v.den : Nat) : Int) ((Nat.gcd m c.v.den : Nat) : Int)) = ((c.v.den / Nat.gcd m c.v.den : Nat) : Int) := by rw [tdN5, wibN (by omega)]
   have e2 : IntKind.i64.wrap (Int.tdiv (1000000000 : Int) (m : Int)) = ((1000000000 / m : Nat) : Int) := by
     rw [show Int.tdiv (1000000000 : Int) (m : Int) = ((1000000000 / m : Nat) : Int) from rfl, wibN (by have := Nat.div_le_self 1000000000 m; omega)]
   rw [asNo (by omega), e1, asNo (by omega), e2]
   unfold scM at k
   by_cases h : c.v.den / Nat.gcd m c.v.den ≤ 1000000000 / m
   · rw [if_pos h] at k
     rw [cbF (by omega), asNo (by omega)]
     obtain ⟨s1, s2⟩ := scM_step h1 c.v.den_pos h
     rw [← Int.natCast_mul, wibN (by omega), cast1, wibN (by omega)]
     exact ih (i + 1) n _ (by omega) (by omega) s1 s2 k
   · rw [if_neg h] at k
     rw [cbT (by omega)]
     exact k
theorem rscale2_loop {N : Int} {log : List Qy} (hok : ∀ q ∈ log, qOk N q = true) (hl : log.length < 1000000) {m : Nat} (h1 : 1 ≤ m) (h2 : m ≤ 1000000000) (hdv : ∀ c ∈ log.map cmOf, c.v.den ∣ m) {x0 : List PV → Int → Int → Bool → Prop} {x1 : Int → Int → Prop} :
   ∀ (r i n : Nat), i + r = log.length → r < n →
     L_r05_Scale_1_0 w_r05_Told w_r05_gcd x0 x1 n (logs log) (m : Int) (i : Int) = if scT ((log.map cmOf).drop i) m then x0 (logs log) (m : Int) (log.length : Int) false else x1 0 16 := by
 intro r
 induction r with
 | zero =>
   intro i n hi hn
   obtain ⟨n, rfl⟩ : ∃ m, n = m + 1 := ⟨n - 1, by omega⟩
   obtain rfl : i = log.length := by omega
   rw [L_r05_Scale_1_0, logs_len, cbF (by omega), List.drop_eq_nil_of_le (by simp)]
   rfl
 | succ r ih =>
   intro i n hi hn
   obtain ⟨n, rfl⟩ : ∃ m, n = m + 1 := ⟨n - 1, by omega⟩
   have hil : i < log.length := by omega
   have hd : (log.map cmOf).drop i = cmOf (log.getD i default) :: (log.map cmOf).drop (i + 1) := by
     rw [← List.map_drop, drop_cons default hil, List.map_cons, List.map_drop]
   have hm : log.getD i default ∈ log := by
     rw [List.getD_eq_getElem?_getD, List.getElem?_eq_getElem hil]
     exact List.getElem_mem hil
   have hq := hok _ hm
   have hv := hdv _ (List.mem_map_of_mem hm)
   rw [L_r05_Scale_1_0, logs_len, cbT (by omega)]
   dsimp only [lt]
   rw [asT (by omega), asT (by omega), Int.toNat_natCast, logs_at hil, asQ, encQ0, encQ1, encQ2, encQ3, encQ4, encQ5, encQ6, encQ7, Told_eq hq, hd]
   generalize cmOf (log.getD i default) = c at *
   have hdp := c.v.den_pos
   have hq : 0 < m / c.v.den := Nat.div_pos (Nat.le_of_dvd (by omega) hv) hdp
   have hq2 : m / c.v.den ≤ m := Nat.div_le_self _ _
   have hq3 := Nat.div_le_self 1000000000000 (m / c.v.den)
   have e1 : IntKind.i64.wrap (Int.tdiv (m : Int) ((c.v.den : Nat) : Int)) = ((m / c.v.den : Nat) : Int) := by rw [tdN5, wibN (by omega)]
   have e2 : IntKind.i64.wrap (Int.tdiv (1000000000000 : Int) ((m / c.v.den : Nat) : Int)) = ((1000000000000 / (m / c.v.den) : Nat) : Int) := by
     rw [show Int.tdiv (1000000000000 : Int) ((m / c.v.den : Nat) : Int) = ((1000000000000 / (m / c.v.den) : Nat) : Int) from rfl, wibN (by omega)]
   rw [asNo (by omega), e1, asNo (by omega), e2]
   unfold scT
   rw [List.all_cons]
   by_cases h : c.v.num ≤ ((1000000000000 / (m / c.v.den) : Nat) : Int)
   · rw [decide_eq_true h, Bool.true_and, cbF (by omega), cast1, wibN (by omega), ih (i + 1) n (by omega) (by omega)]
     rfl
   · rw [decide_eq_false h, Bool.false_and, cbT (by omega)]
     rfl
theorem rscale_eq {N : Int} {log : List Qy} (hok : ∀ q ∈ log, qOk N q = true) (hl : log.length < 1000000) (K : Int → Int → Prop) : w_r05_Scale (logs log) K = outSc (scaleL (log.map cmOf)) K := by
 have key : ∀ K, outSc (scaleL (log.map cmOf)) K → w_r05_Scale (logs log) K := by
   intro K k
   unfold w_r05_Scale wv_r05_Scale
   refine ⟨log.length + 1, ?_⟩
   refine rscale_loop hok hl log.length 0 (log.length + 1) 1 (by omega) (by omega) (by omega) (by omega) ?_
   rw [List.drop_zero]
   unfold scaleL at k
   cases e : scM (log.map cmOf) 1 with
   | none => rw [e] at k; exact k
   | some m =>
     rw [e] at k
     dsimp only at k ⊢
     obtain ⟨h1, h2, _, h4⟩ := scM_some (log.map cmOf) 1 (by omega) (by omega) e
     refine ⟨log.length + 1, ?_⟩
     refine (rscale2_loop hok hl h1 h2 h4 log.length 0 (log.length + 1) (by omega) (by omega)).mpr ?_
     rw [List.drop_zero]
     split
     · rename_i h; rw [if_pos h] at k; exact k
     · rename_i h; rw [if_neg h] at k; exact k
 cases e : scaleL (log.map cmOf) with
 | none => exact det_r05_Scale _ _ _ (fun K k => key K (by rw [e]; exact k)) K
 | some m => exact det_r05_Scale _ _ _ (fun K k => key K (by rw [e]; exact k)) K
end Go.Pf.Vc
namespace Go.Pf.Vc
open Go Go.Pf Go.Sort
theorem asI (n : Int) (P : Prop) : asr (conf (.one (.i .i64)) (.int .i64 n)) P = P := rfl
theorem ivI (n : Int) : intOfV (.int .i64 n) = n := rfl
theorem ints_hAt {l : List Int} {i : Nat} (h : i < l.length) : List.getD (ints l) i .nils = .int .i64 (hAt l i) := ints_at h
theorem ints_set (l : List Int) (i : Nat) (v : Int) : List.set (ints l) i (.int .i64 v) = ints (l.set i v) := by unfold ints; rw [List.map_set]
theorem incr_at : ∀ {l : List Rat}, incrR l → ∀ {i j : Nat}, j < l.length → (l.getD i 0 < l.getD j 0 ↔ i < j) ∨ l.length ≤ i
 | [], _, i, j, h => by simp at h
 | x :: r, hi, i, j, h => by
   by_cases hl : (x :: r).length ≤ i
   · exact .inr hl
   · left
     have key : ∀ (a b : Nat), a < b → b < (x :: r).length → (x :: r).getD a 0 < (x :: r).getD b 0 := by
       intro a b hab hb
       cases b with
       | zero => omega
       | succ b =>
         have hb2 : b < r.length := by simpa using hb
         cases a with
         | zero =>
           show x < r.getD b 0
           exact hi.1 _ (by rw [List.getD_eq_getElem?_getD, List.getElem?_eq_getElem hb2]; exact List.getElem_mem hb2)
         | succ a =>
           show r.getD a 0 < r.getD b 0
           rcases incr_at hi.2 (i := a) (j := b) hb2 with h1 | h1
           · exact h1.2 (by omega)
           · omega
     constructor
     · intro hlt
       refine Nat.not_le.1 fun hle => ?_
       by_cases e : j = i
       · subst e; exact absurd hlt Rat.lt_irrefl
       · have := key j i (by omega) (by omega)
         grind
     · intro hij
       exact key i j hij h
theorem incr_lt {l : List Rat} (h : incrR l) {i j : Nat} (hi : i < l.length) (hj : j < l.length) : l.getD i 0 < l.getD j 0 ↔ i < j := by
 rcases incr_at h (i := i) (j := j) hj with h1 | h1
 · exact h1
 · omega
theorem getD_idx {l : List Rat} {q : Rat} (h : q ∈ l) : l.getD (l.idxOf q) 0 = q := by
 have hi := idx_lt h
 rw [List.getD_eq_getElem?_getD, List.getElem?_eq_getElem hi]
 exact List.getElem_idxOf hi
theorem mid_wrap {i j : Nat} (h : i + j < 1000000) : IntKind.i64.wrap (Int.fdiv (IntKind.u64.wrap (IntKind.i64.wrap ((i : Int) + (j : Int)))) 2) = (((i + j) / 2 : Nat) : Int) := by
 rw [← Int.natCast_add, wibN (by omega), wu64 ⟨by omega, by omega⟩, Int.fdiv_eq_ediv_of_nonneg _ (by omega)]
 rw [show (((i + j : Nat) : Int) / 2) = (((i + j) / 2 : Nat) : Int) by omega, wibN (by omega)]
section
variable {a1 : T_s_Equal_int64_int64} {ps : List Rat} {q : Rat}
theorem bs0_loop (hi : incrR ps) (hs : ∀ z ∈ ps, small z) (hl : ps.length < 10000) (hq : q ∈ ps) {l0 l1 : List PV} {x : List PV → List PV → List PV → Int → Int → Int → Int → Int → Bool → Prop} :
   ∀ (d i j n : Nat), j - i ≤ d → d < n → i ≤ ps.idxOf q → ps.idxOf q ≤ j → j ≤ ps.length →
     L_audit_heights_1_0 w_audit_order a1 x n l0 l1 (rts ps) q.num q.den (ps.length : Int) (i : Int) (j : Int) = x l0 l1 (rts ps) q.num q.den (ps.length : Int) (ps.idxOf q : Int) (ps.idxOf q : Int) false := by
 intro d
 induction d with
 | zero =>
   intro i j n hd hn h1 h2 h3
   obtain ⟨n, rfl⟩ : ∃ m, n = m + 1 := ⟨n - 1, by omega⟩
   rw [L_audit_heights_1_0, cbF (by omega), show i = ps.idxOf q by omega, show j = ps.idxOf q by omega]
 | succ d ih =>
   intro i j n hd hn h1 h2 h3
   obtain ⟨n, rfl⟩ : ∃ m, n = m + 1 := ⟨n - 1, by omega⟩
   have hix := idx_lt hq
   by_cases hij : i < j
   · rw [L_audit_heights_1_0, cbT (by omega)]
     dsimp only [lt]
     have hm : (i + j) / 2 < ps.length := by omega
     rw [mid_wrap (by omega), rts_len, asT (by omega), asT (by omega), Int.toNat_natCast, rts_at hm, asW, encW0, encW1, aorder_rv (small_at hs hm).rv (hs q hq).rv, rt_self, rt_self, cmpQ_neg]
     have hlt : ps.getD ((i + j) / 2) 0 < q ↔ (i + j) / 2 < ps.idxOf q := by
       have := incr_lt hi hm hix
       rw [getD_idx hq] at this
       exact this
     by_cases hc : (i + j) / 2 < ps.idxOf q
     · rw [decide_eq_true (hlt.2 hc), cbr_true, cast1, wibN (by omega)]
       exact ih _ _ n (by omega) (by omega) (by omega) h2 h3
     · rw [decide_eq_false (fun k => hc (hlt.1 k)), cbr_false]
       exact ih _ _ n (by omega) (by omega) h1 (by omega) (by omega)
   · rw [L_audit_heights_1_0, cbF (by omega), show i = ps.idxOf q by omega, show j = ps.idxOf q by omega]
theorem bs1_loop (hi : incrR ps) (hs : ∀ z ∈ ps, small z) (hl : ps.length < 10000) (hq : q ∈ ps) {l0 l1 l2 : List PV} {x : List PV → List PV → List PV → List PV → Int → Int → Int → Int → Int → Bool → Prop} :
   ∀ (d i j n : Nat), j - i ≤ d → d < n → i ≤ ps.idxOf q → ps.idxOf q ≤ j → j ≤ ps.length →
     L_audit_heights_1_1 w_audit_order a1 x n l0 l1 l2 (rts ps) q.num q.den (ps.length : Int) (i : Int) (j : Int) = x l0 l1 l2 (rts ps) q.num q.den (ps.length : Int) (ps.idxOf q : Int) (ps.idxOf q : Int) false := by
 intro d
 induction d with
 | zero =>
   intro i j n hd hn h1 h2 h3
   obtain ⟨n, rfl⟩ : ∃ m, n = m + 1 := ⟨n - 1, by omega⟩
   rw [L_audit_heights_1_1, cbF (by omega), show i = ps.idxOf q by omega, show j = ps.idxOf q by omega]
 | succ d ih =>
   intro i j n hd hn h1 h2 h3
   obtain ⟨n, rfl⟩ : ∃ m, n = m + 1 := ⟨n - 1, by omega⟩
   have hix := idx_lt hq
   by_cases hij : i < j
   · rw [L_audit_heights_1_1, cbT (by omega)]
     dsimp only [lt]
     have hm : (i + j) / 2 < ps.length := by omega
     rw [mid_wrap (by omega), rts_len, asT (by omega), asT (by omega), Int.toNat_natCast, rts_at hm, asW, encW0, encW1, aorder_rv (small_at hs hm).rv (hs q hq).rv, rt_self, rt_self, cmpQ_neg]
     have hlt : ps.getD ((i + j) / 2) 0 < q ↔ (i + j) / 2 < ps.idxOf q := by
       have := incr_lt hi hm hix
       rw [getD_idx hq] at this
       exact this
     by_cases hc : (i + j) / 2 < ps.idxOf q
     · rw [decide_eq_true (hlt.2 hc), cbr_true, cast1, wibN (by omega)]
       exact ih _ _ n (by omega) (by omega) (by omega) h2 h3
     · rw [decide_eq_false (fun k => hc (hlt.1 k)), cbr_false]
       exact ih _ _ n (by omega) (by omega) h1 (by omega) (by omega)
   · rw [L_audit_heights_1_1, cbF (by omega), show i = ps.idxOf q by omega, show j = ps.idxOf q by omega]
theorem bsAt0 (hi : incrR ps) (hs : ∀ z ∈ ps, small z) (hl : ps.length < 10000) (hq : q ∈ ps) {l0 l1 : List PV} {G : List PV → List PV → Int → Prop} (k : G l0 l1 (ps.idxOf q : Int)) {a b N N' : Int} (ea : q.num = a) (eb : (q.den : Int) = b) (eN : (ps.length : Int) = N) (eN' : (ps.length : Int) = N') :
   ∃ n : Nat, L_audit_heights_1_0 w_audit_order a1
     (fun yl390 yl391 yl392 yi393 yi394 yi395 yi396 _ _ => (Go.Pf.jn (fun (yj402 : Bool → Prop) =>
     (cbr (decide (yi396 < yi395))
     (asr (decide ((0 : Int) ≤ yi396))
     (asr (decide (yi396 < (((List.length yl392) : Nat) : Int)))
     (lt (List.getD yl392 (yi396.toNat) .nils) (fun yr404 =>
     (asr (conf (.agg [.i .i64, .i .i64]) yr404)
     (w_audit_order (intOfV (cellAt yr404 0)) (intOfV (cellAt yr404 1)) yi393 yi394 (fun yi405 => 
     (yj402 (yi405 == (0 : Int))))))))))
     (yj402 false)))
     (fun _ => G yl390 yl391 yi396))) n l0 l1 (rts ps) a b N (0 : Int) N' := by
 subst ea eb eN eN'
 refine ⟨ps.length + 1, ?_⟩
 have hix := idx_lt hq
 refine (bs0_loop hi hs hl hq ps.length 0 ps.length (ps.length + 1) (by omega) (by omega) (by omega) (by omega) (Nat.le_refl _)).mpr ?_
 dsimp only [Go.Pf.jn, lt]
 rw [cbT (by omega), rts_len, asT (by omega), asT (by omega), Int.toNat_natCast, rts_at hix, asW, encW0, encW1, getD_idx hq, aorder_rv (hs q hq).rv (hs q hq).rv]
 exact k
theorem bsAt1 (hi : incrR ps) (hs : ∀ z ∈ ps, small z) (hl : ps.length < 10000) (hq : q ∈ ps) {l0 l1 l2 : List PV} {G : List PV → List PV → List PV → Int → Prop} (k : G l0 l1 l2 (ps.idxOf q : Int)) {a b N N' : Int} (ea : q.num = a) (eb : (q.den : Int) = b) (eN : (ps.length : Int) = N) (eN' : (ps.length : Int) = N') :
   ∃ n : Nat, L_audit_heights_1_1 w_audit_order a1
     (fun yl390 yl391 yl1954 yl392 yi393 yi394 yi395 yi396 _ _ => (Go.Pf.jn (fun (yj402 : Bool → Prop) =>
     (cbr (decide (yi396 < yi395))
     (asr (decide ((0 : Int) ≤ yi396))
     (asr (decide (yi396 < (((List.length yl392) : Nat) : Int)))
     (lt (List.getD yl392 (yi396.toNat) .nils) (fun yr404 =>
     (asr (conf (.agg [.i .i64, .i .i64]) yr404)
     (w_audit_order (intOfV (cellAt yr404 0)) (intOfV (cellAt yr404 1)) yi393 yi394 (fun yi405 => 
     (yj402 (yi405 == (0 : Int))))))))))
     (yj402 false)))
     (fun _ => G yl390 yl391 yl1954 yi396))) n l0 l1 l2 (rts ps) a b N (0 : Int) N' := by
 subst ea eb eN eN'
 refine ⟨ps.length + 1, ?_⟩
 have hix := idx_lt hq
 refine (bs1_loop hi hs hl hq ps.length 0 ps.length (ps.length + 1) (by omega) (by omega) (by omega) (by omega) (Nat.le_refl _)).mpr ?_
 dsimp only [Go.Pf.jn, lt]
 rw [cbT (by omega), rts_len, asT (by omega), asT (by omega), Int.toNat_natCast, rts_at hix, asW, encW0, encW1, getD_idx hq, aorder_rv (hs q hq).rv (hs q hq).rv]
 exact k
end
def bndT (h : List Int) (T : Int) (r : Nat) : Prop := ∀ i, 0 ≤ hAt h i ∧ hAt h i + 100000000000000 * (r : Int) ≤ T
theorem relax_bndT {h : List Int} {T : Int} {r : Nat} {q : Rl} (hb : bndT h T (r + 1)) (hq : q.2.1 < h.length) (ha : q.2.2 ≤ 100000000000000) : bndT (relax q h) T r := by
 intro i
 have h1 := hb i
 have h2 := hb q.1
 rw [relax_at hq]
 split <;> omega
theorem max_relax {h : List Int} {a b : Nat} {v : Int} (hb : b < h.length) : h.set b (if hAt h a + v > hAt h b then hAt h a + v else hAt h b) = relax (a, b, v) h := by
 unfold relax
 dsimp only
 split
 · rfl
 · apply List.ext_getElem?
   intro i
   rw [List.getElem?_set]
   by_cases e : b = i
   · subst e
     rw [if_pos rfl, if_pos hb]
     unfold hAt
     rw [List.getD_eq_getElem?_getD, List.getElem?_eq_getElem hb]
     rfl
   · rw [if_neg e]
theorem set_relax {h : List Int} {a b : Nat} {v w : Int} (hb : b < h.length) (hw : w = hAt h a + v) : List.set (ints h) b (.int .i64 (if w > hAt h b then w else hAt h b)) = ints (relax (a, b, v) h) := by
 subst hw
 rw [ints_set, max_relax hb]
def conF (st : List Int) (i r : Nat) : List Rl := (List.range' i r).map fun j => (j - 1, j, hAt st j)
theorem conF_succ (st : List Int) (i r : Nat) : conF st i (r + 1) = (i - 1, i, hAt st i) :: conF st (i + 1) r := by
 unfold conF
 rw [List.range'_succ]
 rfl
theorem con_loop {a1 : T_s_Equal_int64_int64} {st : List Int} {k : Nat} (hst : st.length = k) (h01 : ∀ i, 0 ≤ hAt st i ∧ hAt st i ≤ 1) (hk : k < 10000) {T : Int} (hT : T ≤ 9000000000000000000) {l2 l3 l12 : List PV} {i4 i5 i14 i15 : Int} {x : List PV → List PV → List PV → List PV → Int → Int → Nat → Nat → Nat → Nat → Nat → Nat → List PV → Int → Int → Int → Bool → Prop} :
   ∀ (r i n : Nat) (h : List Int), i + r = k → 1 ≤ i → r < n → h.length = k → bndT h T r →
     L_audit_heights_3_0 w_audit_order a1 x n (ints st) (ints h) l2 l3 i4 i5 k k k k k k l12 (i : Int) i14 i15 = x (ints st) (ints (pass (conF st i r) h)) l2 l3 i4 i5 k k k k k k l12 (k : Int) i14 i15 false := by
 intro r
 induction r with
 | zero =>
   intro i n h hi h1 hn hl hb
   obtain ⟨n, rfl⟩ : ∃ m, n = m + 1 := ⟨n - 1, by omega⟩
   obtain rfl : i = k := by omega
   rw [L_audit_heights_3_0, cbF (by omega)]
   rfl
 | succ r ih =>
   intro i n h hi h1 hn hl hb
   obtain ⟨n, rfl⟩ : ∃ m, n = m + 1 := ⟨n - 1, by omega⟩
   have e2 := wib (n := (i : Int) - 1) (by omega) (by omega)
   have e3 : (i : Int) - 1 = ((i - 1 : Nat) : Int) := by omega
   rw [e3] at e2
   have hb1 := hb (i - 1)
   have hs1 := h01 i
   have ew : IntKind.i64.wrap (hAt h (i - 1) + hAt st i) = hAt h (i - 1) + hAt st i := wib (by omega) (by omega)
   rw [L_audit_heights_3_0, cbT (by omega)]
   dsimp only [lt]
   rw [ints_len, ints_len, hl, hst, e3, e2, Nat.zero_add, Nat.zero_add, Int.toNat_natCast, Int.toNat_natCast, ints_hAt (by omega), ints_hAt (by omega), ints_hAt (by omega)]
   simp (discharger := omega) only [asT, asI, ivI, asTr]
   have key := ih (i + 1) n (relax (i - 1, i, hAt st i) h) (by omega) (by omega) (by omega) (by rw [relax_len]; exact hl) (relax_bndT hb (by show i < h.length; omega) (by show hAt st i ≤ _; omega))
   rw [cast1, wibN (by omega), conF_succ, pass_cons]
   exact Eq.trans (congrArg (fun z => L_audit_heights_3_0 w_audit_order a1 x n (ints st) z l2 l3 i4 i5 k k k k k k l12 ((i + 1 : Nat) : Int) i14 i15) (set_relax (by omega) ew)) key
end Go.Pf.Vc
namespace Go.Pf.Vc
open Go Go.Pf Go.Sort
theorem jn_def {α : Type} (f : α → Prop) (k : α) : Go.Pf.jn f k = f k := rfl
def vC (m s : Nat) (c : Cm) : Int := c.v.num * ((m / c.v.den : Nat) : Int) * (s : Int)
def clR (ps : List Rat) (m s : Nat) (L : List Cm) : List Rl := L.flatMap fun c => [(ps.idxOf c.f, ps.idxOf c.t, vC m s c), (ps.idxOf c.t, ps.idxOf c.f, -vC m s c)]
def stF (ps : List Rat) : List Cm → List Int → Option (List Int)
 | [], st => some st
 | c :: r, st => if c.m then (if c.v = 0 then (if c.f = c.t then stF ps r st else none) else stF ps r (st.set (ps.idxOf c.t) 1)) else stF ps r st
def hR (ps : List Rat) (m : Nat) (L : List Cm) (st : List Int) : List Rl := conF st 1 (ps.length - 1) ++ clR ps m (ps.length + 1) L
def hts (ps : List Rat) (m : Nat) (L : List Cm) : Option (List Int) := match stF ps L (zeros ps.length) with
 | some st => bf0 (hR ps m L st) ps.length
 | none => none
structure Hy (N : Int) (ps : List Rat) (L : List Cm) (m : Nat) : Prop where
 inc : incrR ps
 sm : ∀ z ∈ ps, small z
 two : 2 ≤ ps.length
 top : ps.length ≤ 99
 ok : ∀ c ∈ L, c.ok N ∧ c.f ∈ ps ∧ c.t ∈ ps
 len : L.length ≤ 50
 sc : Sc L m
 p0 : ps.getD 0 0 = 0
theorem vC_bnd {N : Int} {ps : List Rat} {L : List Cm} {m : Nat} (H : Hy N ps L m) {c : Cm} (hc : c ∈ L) : 0 ≤ c.v.num ∧ 0 ≤ c.v.num * ((m / c.v.den : Nat) : Int) ∧ c.v.num * ((m / c.v.den : Nat) : Int) ≤ 1000000000000 ∧ 0 ≤ vC m (ps.length + 1) c ∧ vC m (ps.length + 1) c ≤ 100000000000000 := by
 have h1 := H.sc.val c hc
 have h2 : 0 ≤ c.v.num := Rat.num_nonneg.2 (H.ok c hc).1.v0
 have h3 := Int.mul_nonneg h2 (show 0 ≤ ((m / c.v.den : Nat) : Int) from Int.natCast_nonneg _)
 have ht := H.top
 refine ⟨h2, h3, h1, Int.mul_nonneg h3 (Int.natCast_nonneg _), ?_⟩
 unfold vC
 have h4 : c.v.num * ((m / c.v.den : Nat) : Int) * ((ps.length + 1 : Nat) : Int) ≤ 1000000000000 * ((ps.length + 1 : Nat) : Int) := Int.mul_le_mul_of_nonneg_right h1 (Int.natCast_nonneg _)
 omega
theorem vC_wrap {N : Int} {ps : List Rat} {L : List Cm} {m : Nat} (H : Hy N ps L m) {c : Cm} (hc : c ∈ L) :
   IntKind.i64.wrap (IntKind.i64.wrap (c.v.num * IntKind.i64.wrap (Int.tdiv (m : Int) ((c.v.den : Nat) : Int))) * ((ps.length + 1 : Nat) : Int)) = vC m (ps.length + 1) c := by
 obtain ⟨h1, h2, h3, h4, h5⟩ := vC_bnd H hc
 have h6 := Nat.div_le_self m c.v.den
 have h7 := H.sc.top
 rw [tdN5, wibN (by omega), wib (n := c.v.num * ((m / c.v.den : Nat) : Int)) (by omega) (by omega)]
 unfold vC at h4 h5 ⊢
 exact wib (by omega) (by omega)
theorem setR1 {h : List Int} {a b : Nat} {v : Int} (ha : a < h.length) (hb : b < h.length) (h1 : -9223372036854775808 ≤ hAt h a + v) (h2 : hAt h a + v ≤ 9223372036854775807) :
   List.set (ints h) (0 + ((b : Nat) : Int).toNat) (.int .i64 (if IntKind.i64.wrap ((intOfV (List.getD (ints h) (0 + ((a : Nat) : Int).toNat) .nils)) + v) > (intOfV (List.getD (ints h) (0 + ((b : Nat) : Int).toNat) .nils)) then IntKind.i64.wrap ((intOfV (List.getD (ints h) (0 + ((a : Nat) : Int).toNat) .nils)) + v) else (intOfV (List.getD (ints h) (0 + ((b : Nat) : Int).toNat) .nils)))) = ints (relax (a, b, v) h) := by
 have e1 : intOfV (List.getD (ints h) (0 + ((a : Nat) : Int).toNat) .nils) = hAt h a := by rw [Int.toNat_natCast, Nat.zero_add, ints_hAt ha, ivI]
 have e2 : intOfV (List.getD (ints h) (0 + ((b : Nat) : Int).toNat) .nils) = hAt h b := by rw [Int.toNat_natCast, Nat.zero_add, ints_hAt hb, ivI]
 rw [e1, e2, wib h1 h2, Int.toNat_natCast, Nat.zero_add]
 exact set_relax hb rfl
theorem setR2 {h : List Int} {a b : Nat} {v : Int} (ha : a < h.length) (hb : b < h.length) (h1 : -9223372036854775808 ≤ hAt h b - v) (h2 : hAt h b - v ≤ 9223372036854775807) :
   List.set (ints h) (0 + ((a : Nat) : Int).toNat) (.int .i64 (if IntKind.i64.wrap ((intOfV (List.getD (ints h) (0 + ((b : Nat) : Int).toNat) .nils)) - v) > (intOfV (List.getD (ints h) (0 + ((a : Nat) : Int).toNat) .nils)) then IntKind.i64.wrap ((intOfV (List.getD (ints h) (0 + ((b : Nat) : Int).toNat) .nils)) - v) else (intOfV (List.getD (ints h) (0 + ((a : Nat) : Int).toNat) .nils)))) = ints (relax (b, a, -v) h) := by
 have e1 : intOfV (List.getD (ints h) (0 + ((a : Nat) : Int).toNat) .nils) = hAt h a := by rw [Int.toNat_natCast, Nat.zero_add, ints_hAt ha, ivI]
 have e2 : intOfV (List.getD (ints h) (0 + ((b : Nat) : Int).toNat) .nils) = hAt h b := by rw [Int.toNat_natCast, Nat.zero_add, ints_hAt hb, ivI]
 rw [e1, e2, wib h1 h2, Int.toNat_natCast, Nat.zero_add]
 exact set_relax ha (by omega)
theorem cl_loop {N : Int} {ps : List Rat} {L : List Cm} {m : Nat} (H : Hy N ps L m) {a1 : T_s_Equal_int64_int64} {T : Int} (hT : T ≤ 9000000000000000000) {l0 l3 l12 : List PV} {i13 i14 : Int} {x : List PV → List PV → List PV → List PV → Int → Int → Nat → Nat → Nat → Nat → Nat → Nat → List PV → Int → Int → List PV → Int → Int → Bool → Prop} :
   ∀ (r i n : Nat) (h : List Int), i + r = L.length → r < n → h.length = ps.length → bndT h T (2 * r) →
     x l0 (ints (pass (clR ps m (ps.length + 1) (L.drop i)) h)) (rts ps) l3 (m : Int) ((ps.length + 1 : Nat) : Int) ps.length ps.length ps.length ps.length ps.length ps.length l12 i13 i14 (cms L) (L.length : Int) (L.length : Int) false →
     L_audit_heights_4_0 w_audit_order a1 x n l0 (ints h) (rts ps) l3 (m : Int) ((ps.length + 1 : Nat) : Int) ps.length ps.length ps.length ps.length ps.length ps.length l12 i13 i14 (cms L) (L.length : Int) (i : Int) := by
 intro r
 induction r with
 | zero =>
   intro i n h hi hn hl hb k
   obtain ⟨n, rfl⟩ : ∃ m, n = m + 1 := ⟨n - 1, by omega⟩
   obtain rfl : i = L.length := by omega
   rw [List.drop_length] at k
   rw [L_audit_heights_4_0, cbF (by omega)]
   exact k
 | succ r ih =>
   intro i n h hi hn hl hb k
   obtain ⟨n, rfl⟩ : ∃ m, n = m + 1 := ⟨n - 1, by omega⟩
   have hil : i < L.length := by omega
   have hLl := H.len
   have hd : L.drop i = L.getD i default :: L.drop (i + 1) := drop_cons default hil
   have hm : L.getD i default ∈ L := by
     rw [List.getD_eq_getElem?_getD, List.getElem?_eq_getElem hil]
     exact List.getElem_mem hil
   obtain ⟨c1, c2, c3⟩ := H.ok _ hm
   have hat := cms_at hil
   rw [hd] at k
   generalize L.getD i default = c at *
   obtain ⟨v1, v2, v3, v4, v5⟩ := vC_bnd H hm
   have hw := vC_wrap H hm
   have ht := H.top
   have hdv := c.v.den_pos
   have hia := idx_lt c2
   have hib := idx_lt c3
   have hba := hb (ps.idxOf c.f)
   rw [L_audit_heights_4_0, cbT (by omega), cms_len, asT (by omega), asT (by omega), Int.toNat_natCast, hat]
   show asr (conf (.agg [.i .i64, .i .i64, .i .i64, .i .i64, .i .i64, .i .i64, .b]) (encCm c)) _
   rw [asCm]
   refine bsAt1 H.inc H.sm (by omega) c2 ?_ (encCm0 c).symm (encCm1 c).symm (by rw [rts_len]) (by rw [rts_len])
   refine bsAt1 H.inc H.sm (by omega) c3 ?_ (encCm2 c).symm (encCm3 c).symm (by rw [rts_len]) (by rw [rts_len])
   dsimp only [lt]
   rw [encCm5, encCm4, asNo (by omega), hw]
   have hb1 := relax_bndT (q := (ps.idxOf c.f, ps.idxOf c.t, vC m (ps.length + 1) c)) (r := 2 * r + 1) (by rw [show 2 * r + 1 + 1 = 2 * (r + 1) by omega]; exact hb) (by show ps.idxOf c.t < h.length; omega) v5
   have hl1 : (relax (ps.idxOf c.f, ps.idxOf c.t, vC m (ps.length + 1) c) h).length = ps.length := by rw [relax_len]; exact hl
   have hbb := hb1 (ps.idxOf c.t)
   rw [setR1 (by omega) (by omega) (by omega) (by omega)]
   rw [setR2 (by omega) (by omega) (by omega) (by omega)]
   simp (discharger := omega) only [ints_len, hl, hl1, asT, asTr, Int.toNat_natCast, Nat.zero_add, ints_hAt, asI]
   rw [cast1, wibN (by omega)]
   refine ih (i + 1) n _ (by omega) (by omega) (by rw [relax_len]; exact hl1) (relax_bndT hb1 (by show ps.idxOf c.f < _; omega) (by show -vC m (ps.length + 1) c ≤ _; omega)) ?_
   exact k
theorem Equal_loop {a b : List Int} (hl : a.length = b.length) (hl2 : a.length < 1000000) {x0 : List PV → List PV → Int → Int → Bool → Prop} {x1 : Bool → Prop} :
   ∀ (r i n : Nat), i + r = a.length → r < n → L_s_Equal_int64_int64_0_0 x0 x1 n (ints a) (ints b) (a.length : Int) (i : Int) = if a.drop i = b.drop i then x0 (ints a) (ints b) (a.length : Int) (a.length : Int) false else x1 false := by
 intro r
 induction r with
 | zero =>
   intro i n hi hn
   obtain ⟨n, rfl⟩ : ∃ m, n = m + 1 := ⟨n - 1, by omega⟩
   obtain rfl : i = a.length := by omega
   rw [L_s_Equal_int64_int64_0_0, cbF (by omega), if_pos (by rw [List.drop_length, List.drop_eq_nil_of_le (by omega)])]
 | succ r ih =>
   intro i n hi hn
   obtain ⟨n, rfl⟩ : ∃ m, n = m + 1 := ⟨n - 1, by omega⟩
   have hil : i < a.length := by omega
   have h1 : a.drop i = a.getD i 0 :: a.drop (i + 1) := drop_cons 0 hil
   have h2 : b.drop i = b.getD i 0 :: b.drop (i + 1) := drop_cons 0 (by omega)
   rw [L_s_Equal_int64_int64_0_0, cbT (by omega)]
   dsimp only [lt]
   rw [ints_len, ints_len, asT (by omega), asT (by omega), Int.toNat_natCast, ints_at hil, asI, asT (by omega), asT (by omega), ints_at (by omega), asI, ivI, ivI, cast1, wibN (by omega), h1, h2]
   by_cases h : a.getD i 0 = b.getD i 0
   · rw [cnF h, ih (i + 1) n (by omega) (by omega), h]
     by_cases h3 : a.drop (i + 1) = b.drop (i + 1)
     · rw [if_pos h3, if_pos (by rw [h3])]
     · rw [if_neg h3, if_neg (fun k => h3 (List.cons.inj k).2)]
   · rw [cnT h, if_neg (fun k => h (List.cons.inj k).1)]
theorem Equal_eq {a b : List Int} (hl2 : a.length < 1000000) (K : Bool → Prop) : w_s_Equal_int64_int64 (ints a) (ints b) K = K (decide (a = b)) := by
 refine det_s_Equal_int64_int64 _ _ _ (fun K k => ?_) K
 unfold w_s_Equal_int64_int64 wv_s_Equal_int64_int64
 rw [ints_len, ints_len]
 by_cases hl : a.length = b.length
 · rw [cnF (by omega)]
   refine ⟨a.length + 1, ?_⟩
   refine (Equal_loop hl hl2 a.length 0 (a.length + 1) (by omega) (by omega)).mpr ?_
   rw [List.drop_zero, List.drop_zero]
   split
   · rename_i h; rw [decide_eq_true h] at k; exact k
   · rename_i h; rw [decide_eq_false h] at k; exact k
 · rw [cnT (by omega)]
   rw [decide_eq_false (fun e => hl (by rw [e]))] at k
   exact k
theorem clnD_ints {h : List Int} (hl : h.length < 1000000) : clnDOk 1 8 (ints h) 0 h.length h.length true = true := by
 unfold clnDOk
 have e1 : (ints h).all PV.scal = true := by
   rw [List.all_eq_true]
   intro x hx
   obtain ⟨n, _, rfl⟩ := List.mem_map.1 hx
   rfl
 have e2 : cloneOk 1 8 (ints h) = true := by
   unfold cloneOk
   rw [Bool.and_eq_true]
   constructor
   · cases h <;> rfl
   · rw [decide_eq_true_eq, ints_len]
     show _ ≤ 35184372088832
     omega
 rw [List.drop_zero, show List.take h.length (ints h) = ints h by rw [← ints_len h, List.take_length], e1, e2, ints_len]
 simp
theorem pass_bndT {T : Int} : ∀ (R : List Rl) (h : List Int) (r : Nat), rOk R h.length → (∀ q ∈ R, q.2.2 ≤ 100000000000000) → bndT h T (R.length + r) → bndT (pass R h) T r
 | [], h, r, _, _, hb => by rw [pass_nil]; simpa using hb
 | q :: R, h, r, ho, ha, hb => by
   rw [pass_cons]
   refine pass_bndT R _ r (by rw [relax_len]; exact ho.tail) (fun p hp => ha p (List.mem_cons_of_mem _ hp)) (relax_bndT ?_ (ho q List.mem_cons_self).2 (ha q List.mem_cons_self))
   rw [show R.length + r + 1 = (q :: R).length + r by simp only [List.length_cons]; omega]
   exact hb
theorem bndT.less {h : List Int} {T : Int} {r r' : Nat} (hb : bndT h T r) (hr : r' ≤ r) : bndT h T r' := fun i => by
 have := hb i
 omega
theorem conF_len (st : List Int) (i r : Nat) : (conF st i r).length = r := by simp [conF]
theorem conF_mem {st : List Int} {i r : Nat} {q : Rl} (h : q ∈ conF st i r) : ∃ j, i ≤ j ∧ j < i + r ∧ q = (j - 1, j, hAt st j) := by
 unfold conF at h
 obtain ⟨j, h1, rfl⟩ := List.mem_map.1 h
 rw [List.mem_range'_1] at h1
 exact ⟨j, h1.1, h1.2, rfl⟩
theorem clR_mem {ps : List Rat} {m s : Nat} {L : List Cm} {q : Rl} : q ∈ clR ps m s L ↔ ∃ c ∈ L, q = (ps.idxOf c.f, ps.idxOf c.t, vC m s c) ∨ q = (ps.idxOf c.t, ps.idxOf c.f, -vC m s c) := by
 unfold clR
 rw [List.mem_flatMap]
 constructor
 · rintro ⟨c, h1, h2⟩; exact ⟨c, h1, by simpa using h2⟩
 · rintro ⟨c, h1, h2⟩; exact ⟨c, h1, by simpa using h2⟩
theorem clR_len (ps : List Rat) (m s : Nat) (L : List Cm) : (clR ps m s L).length = 2 * L.length := by
 induction L with
 | nil => rfl
 | cons c r ih =>
   show (_ :: _ :: clR ps m s r).length = _
   simp only [List.length_cons]; omega
theorem hR_ok {N : Int} {ps : List Rat} {L : List Cm} {m : Nat} (H : Hy N ps L m) (st : List Int) : rOk (hR ps m L st) ps.length := by
 intro q hq
 rcases List.mem_append.1 hq with h | h
 · obtain ⟨j, h1, h2, rfl⟩ := conF_mem h
   have := H.two
   exact ⟨by show j - 1 < _; omega, by show j < _; omega⟩
 · obtain ⟨c, hc, rfl | rfl⟩ := clR_mem.1 h
   · exact ⟨idx_lt (H.ok c hc).2.1, idx_lt (H.ok c hc).2.2⟩
   · exact ⟨idx_lt (H.ok c hc).2.2, idx_lt (H.ok c hc).2.1⟩
theorem hR_add {N : Int} {ps : List Rat} {L : List Cm} {m : Nat} (H : Hy N ps L m) {st : List Int} (h01 : ∀ i, 0 ≤ hAt st i ∧ hAt st i ≤ 1) : ∀ q ∈ hR ps m L st, q.2.2 ≤ 100000000000000 := by
 intro q hq
 rcases List.mem_append.1 hq with h | h
 · obtain ⟨j, _, _, rfl⟩ := conF_mem h
   have := h01 j
   show hAt st j ≤ _
   omega
 · obtain ⟨c, hc, rfl | rfl⟩ := clR_mem.1 h
   · exact (vC_bnd H hc).2.2.2.2
   · have := (vC_bnd H hc).2.2.2.1
     show -vC m (ps.length + 1) c ≤ _
     omega
theorem rounds_loop {N : Int} {ps : List Rat} {L : List Cm} {m : Nat} (H : Hy N ps L m) {st : List Int} (hst : st.length = ps.length) (h01 : ∀ i, 0 ≤ hAt st i ∧ hAt st i ≤ 1) {T : Int} (hT : T ≤ 9000000000000000000) {x0 : List PV → List PV → List PV → List PV → Int → Int → Nat → Nat → Nat → Nat → Nat → Nat → Int → Int → Bool → Prop} {x1 : List PV → List PV → List PV → Prop} {x2 : List PV → List PV → List PV → Nat → Nat → Nat → Prop} {K0 : Prop} {Kf : List Int → Prop}
   (h0 : ∀ a b c d e f g h i j k l m n o, x0 a b c d e f g h i j k l m n o = K0) (h1 : ∀ a b c, x1 a b c = K0) (h2 : ∀ g : List Int, g.length = ps.length → x2 (ints st) (ints g) (rts ps) ps.length ps.length ps.length = Kf g) :
   ∀ (r i n : Nat) (h : List Int), i + r = ps.length + 1 → r < n → h.length = ps.length → bndT h T (200 * r) →
     (match iterP (hR ps m L st) r h with | none => K0 | some g => if hAt st 0 > 0 then K0 else Kf g) →
     L_audit_heights_2_0 w_audit_order w_s_Equal_int64_int64 x0 x1 x2 n (ints st) (ints h) (rts ps) (cms L) (m : Int) ((ps.length + 1 : Nat) : Int) ps.length ps.length ps.length ps.length ps.length ps.length ((ps.length + 1 : Nat) : Int) (i : Int) := by
 intro r
 induction r with
 | zero =>
   intro i n h hi hn hl hb k
   obtain ⟨n, rfl⟩ : ∃ m, n = m + 1 := ⟨n - 1, by omega⟩
   rw [L_audit_heights_2_0, cbF (by omega), h0]
   exact k
 | succ r ih =>
   intro i n h hi hn hl hb k
   obtain ⟨n, rfl⟩ : ∃ m, n = m + 1 := ⟨n - 1, by omega⟩
   have htwo := H.two
   have htop := H.top
   have hLl := H.len
   have hho : rOk (hR ps m L st) h.length := by rw [hl]; exact hR_ok H st
   have hlen : (hR ps m L st).length = ps.length - 1 + 2 * L.length := by unfold hR; rw [List.length_append, conF_len, clR_len]
   have hadd := hR_add H h01
   have e1 : pass (hR ps m L st) h = pass (clR ps m (ps.length + 1) L) (pass (conF st 1 (ps.length - 1)) h) := pass_append ..
   have hp1 : (pass (conF st 1 (ps.length - 1)) h).length = ps.length := by rw [pass_len]; exact hl
   have hp2 : (pass (hR ps m L st) h).length = ps.length := by rw [pass_len]; exact hl
   have hb1 : bndT (pass (conF st 1 (ps.length - 1)) h) T (2 * L.length) := by
     refine pass_bndT _ _ _ (fun q hq => hho q (List.mem_append_left _ hq)) (fun q hq => hadd q (List.mem_append_left _ hq)) (hb.less ?_)
     rw [conF_len]; omega
   have hb2 : bndT (pass (hR ps m L st) h) T (200 * r) := pass_bndT _ _ _ hho hadd (hb.less (by rw [hlen]; omega))
   rw [L_audit_heights_2_0, cbT (by omega)]
   have hcl := clnD_ints (h := h) (by omega)
   rw [hl] at hcl
   rw [hcl, asr_true]
   refine ⟨ps.length + 1, ?_⟩
   refine (con_loop hst h01 (by omega) hT (ps.length - 1) 1 (ps.length + 1) h (by omega) (by omega) (by omega) hl (hb.less (by omega))).mpr ?_
   refine ⟨L.length + 1, ?_⟩
   rw [cms_len]
   refine cl_loop H hT L.length 0 (L.length + 1) _ (by omega) (by omega) hp1 hb1 ?_
   rw [List.drop_zero, ← e1]
   dsimp only [lt]
   rw [ints_len, hp2, asT (by omega), asE, asT (by omega), ints_hAt (by omega), asI, ivI]
   unfold iterP at k
   by_cases hz : hAt (pass (hR ps m L st) h) 0 > 0
   · rw [if_pos hz] at k
     rw [cbT hz, h1]; exact k
   · rw [if_neg hz] at k
     have ew : List.take ps.length (List.drop 0 (ints h)) = ints h := by rw [List.drop_zero, ← hl, ← ints_len h, List.take_length]
     have ew2 : List.take ps.length (ints (pass (hR ps m L st) h)) = ints (pass (hR ps m L st) h) := by rw [← hp2, ← ints_len (pass (hR ps m L st) h), List.take_length]
     rw [cbF hz, asE, asT (by omega), ew, ew2, Equal_eq (by omega)]
     by_cases hf : pass (hR ps m L st) h = h
     · rw [if_pos hf] at k
       dsimp only at k
       rw [decide_eq_true hf, cbr_true, ints_len, hst, asT (by omega), asE, asT (by omega), ints_hAt (by omega), asI, ivI]
       by_cases h5 : hAt st 0 > 0
       · rw [if_pos h5] at k
         rw [cbT h5, h1]; exact k
       · rw [if_neg h5] at k
         rw [cbF h5, h2 _ hp2]; exact k
     · rw [if_neg hf] at k
       rw [decide_eq_false hf, cbr_false, cast1, wibN (by omega)]
       exact ih (i + 1) n _ (by omega) (by omega) hp2 hb2 k
end Go.Pf.Vc
namespace Go.Pf.Vc
open Go Go.Pf Go.Sort
theorem stF_len {ps : List Rat} : ∀ {L : List Cm} {st st' : List Int}, stF ps L st = some st' → st'.length = st.length
 | [], st, st', e => by cases e; rfl
 | c :: r, st, st', e => by
   unfold stF at e
   split at e
   · split at e
     · split at e
       · exact stF_len e
       · cases e
     · rw [stF_len e]; simp
   · exact stF_len e
theorem set1_01 {st : List Int} {j : Nat} (h : ∀ i, 0 ≤ hAt st i ∧ hAt st i ≤ 1) (hj : j < st.length) : ∀ i, 0 ≤ hAt (st.set j 1) i ∧ hAt (st.set j 1) i ≤ 1 := by
 intro i
 rw [hAt_set hj]
 split
 · omega
 · exact h i
theorem stF_01 {ps : List Rat} : ∀ {L : List Cm} {st st' : List Int}, (∀ c ∈ L, c.t ∈ ps) → st.length = ps.length → (∀ i, 0 ≤ hAt st i ∧ hAt st i ≤ 1) → stF ps L st = some st' → ∀ i, 0 ≤ hAt st' i ∧ hAt st' i ≤ 1
 | [], st, st', _, _, h, e => by cases e; exact h
 | c :: r, st, st', hc, hl, h, e => by
   have hc' : ∀ d ∈ r, d.t ∈ ps := fun d hd => hc d (List.mem_cons_of_mem _ hd)
   unfold stF at e
   split at e
   · split at e
     · split at e
       · exact stF_01 hc' hl h e
       · cases e
     · refine stF_01 hc' (by simpa using hl) (set1_01 h ?_) e
       rw [hl]; exact idx_lt (hc c List.mem_cons_self)
   · exact stF_01 hc' hl h e
theorem stF_is {ps : List Rat} : ∀ {L : List Cm} {st st' : List Int}, (∀ c ∈ L, c.t ∈ ps) → st.length = ps.length → stF ps L st = some st' →
   (∀ i, hAt st' i = 1 ↔ hAt st i = 1 ∨ ∃ c ∈ L, c.m = true ∧ c.v ≠ 0 ∧ ps.idxOf c.t = i) ∧ ∀ c ∈ L, c.m = true → c.v = 0 → c.f = c.t
 | [], st, st', _, _, e => by cases e; simp
 | c :: r, st, st', hc, hl, e => by
   have hc' : ∀ d ∈ r, d.t ∈ ps := fun d hd => hc d (List.mem_cons_of_mem _ hd)
   unfold stF at e
   by_cases hm : c.m = true
   · rw [if_pos hm] at e
     by_cases hv : c.v = 0
     · rw [if_pos hv] at e
       by_cases hf : c.f = c.t
       · rw [if_pos hf] at e
         obtain ⟨i1, i2⟩ := stF_is hc' hl e
         refine ⟨fun i => ?_, fun d hd hdm hdv => ?_⟩
         · rw [i1 i]
           constructor
           · rintro (h | ⟨d, h1, h2⟩)
             · exact .inl h
             · exact .inr ⟨d, List.mem_cons_of_mem _ h1, h2⟩
           · rintro (h | ⟨d, h1, h2, h3, h4⟩)
             · exact .inl h
             · rcases List.mem_cons.1 h1 with rfl | h1
               · exact absurd hv h3
               · exact .inr ⟨d, h1, h2, h3, h4⟩
         · rcases List.mem_cons.1 hd with rfl | hd
           · exact hf
           · exact i2 d hd hdm hdv
       · rw [if_neg hf] at e; cases e
     · rw [if_neg hv] at e
       have hj : ps.idxOf c.t < st.length := by rw [hl]; exact idx_lt (hc c List.mem_cons_self)
       obtain ⟨i1, i2⟩ := stF_is hc' (by simpa using hl) e
       refine ⟨fun i => ?_, fun d hd hdm hdv => ?_⟩
       · rw [i1 i, hAt_set hj]
         constructor
         · rintro (h | ⟨d, h1, h2⟩)
           · by_cases ei : i = ps.idxOf c.t
             · exact .inr ⟨c, List.mem_cons_self, hm, hv, ei.symm⟩
             · rw [if_neg ei] at h; exact .inl h
           · exact .inr ⟨d, List.mem_cons_of_mem _ h1, h2⟩
         · rintro (h | ⟨d, h1, h2, h3, h4⟩)
           · left; split
             · rfl
             · exact h
           · rcases List.mem_cons.1 h1 with rfl | h1
             · left; rw [if_pos h4.symm]
             · exact .inr ⟨d, h1, h2, h3, h4⟩
       · rcases List.mem_cons.1 hd with rfl | hd
         · exact absurd hdv hv
         · exact i2 d hd hdm hdv
   · rw [if_neg hm] at e
     obtain ⟨i1, i2⟩ := stF_is hc' hl e
     refine ⟨fun i => ?_, fun d hd hdm hdv => ?_⟩
     · rw [i1 i]
       constructor
       · rintro (h | ⟨d, h1, h2⟩)
         · exact .inl h
         · exact .inr ⟨d, List.mem_cons_of_mem _ h1, h2⟩
       · rintro (h | ⟨d, h1, h2, h3, h4⟩)
         · exact .inl h
         · rcases List.mem_cons.1 h1 with rfl | h1
           · exact absurd h2 hm
           · exact .inr ⟨d, h1, h2, h3, h4⟩
     · rcases List.mem_cons.1 hd with rfl | hd
       · exact absurd hdm hm
       · exact i2 d hd hdm hdv
theorem no_first {N : Int} {ps : List Rat} {L : List Cm} {m : Nat} (H : Hy N ps L m) {st : List Int} (hs : stF ps L (zeros ps.length) = some st) (h0 : hAt st 0 > 0) : bf0 (hR ps m L st) ps.length = none := by
 have h01 := stF_01 (fun c hc => (H.ok c hc).2.2) (zeros_len _) (fun i => by rw [zeros_at]; omega) hs 0
 obtain ⟨h1, _⟩ := stF_is (fun c hc => (H.ok c hc).2.2) (zeros_len _) hs
 rcases (h1 0).1 (by omega) with h | ⟨c, hc, hm, hv, hi⟩
 · rw [zeros_at] at h; omega
 · obtain ⟨c1, c2, c3⟩ := H.ok c hc
   have hf0 : ps.idxOf c.f = 0 := by
     have ht0 : c.t = 0 := by rw [← getD_idx c3, hi, H.p0]
     have hft := c1.ft
     have hff := c1.f0
     have : c.f = c.t := by grind
     rw [this, hi]
   cases e : bf0 (hR ps m L st) ps.length with
   | none => rfl
   | some g =>
     obtain ⟨hsol, _, _⟩ := bf0_some (hR_ok H st) e
     have h2 := hsol.ob (ps.idxOf c.f, ps.idxOf c.t, vC m (ps.length + 1) c) (List.mem_append_right _ (clR_mem.2 ⟨c, hc, .inl rfl⟩))
     have h3 : hAt g (ps.idxOf c.f) + vC m (ps.length + 1) c ≤ hAt g (ps.idxOf c.t) := h2
     rw [hf0, hi] at h3
     have hvp : 0 < vC m (ps.length + 1) c := by
       have h5 : 0 < c.v.num := by
         have h6 := Rat.num_nonneg.2 c1.v0
         have h7 : c.v.num ≠ 0 := fun e => hv (Rat.num_eq_zero.1 e)
         omega
       have h8 : 0 < m / c.v.den := Nat.div_pos (Nat.le_of_dvd (by have := H.sc.one; omega) (H.sc.dvd c hc)) c.v.den_pos
       exact Int.mul_pos (Int.mul_pos h5 (by omega)) (by omega)
     omega
theorem first_loop {N : Int} {ps : List Rat} {L : List Cm} {m : Nat} (H : Hy N ps L m) {a1 : T_s_Equal_int64_int64} {l2 : List PV} {i3 i4 : Int} {x0 : List PV → List PV → List PV → Int → Int → Nat → Nat → Nat → List PV → Int → Int → Bool → Prop} {x1 : List PV → List PV → Prop} {X : Prop} (hx1 : ∀ a b, x1 a b = X) :
   ∀ (r i n : Nat) (st : List Int), i + r = L.length → r < n → st.length = ps.length →
     (match stF ps (L.drop i) st with | some st' => x0 (ints st') (rts ps) l2 i3 i4 ps.length ps.length ps.length (cms L) (L.length : Int) (L.length : Int) false | none => X) →
     L_audit_heights_0_0 w_audit_order a1 x0 x1 n (ints st) (rts ps) l2 i3 i4 ps.length ps.length ps.length (cms L) (L.length : Int) (i : Int) := by
 intro r
 induction r with
 | zero =>
   intro i n st hi hn hl k
   obtain ⟨n, rfl⟩ : ∃ m, n = m + 1 := ⟨n - 1, by omega⟩
   obtain rfl : i = L.length := by omega
   rw [List.drop_length] at k
   rw [L_audit_heights_0_0, cbF (by omega)]
   exact k
 | succ r ih =>
   intro i n st hi hn hl k
   obtain ⟨n, rfl⟩ : ∃ m, n = m + 1 := ⟨n - 1, by omega⟩
   have hil : i < L.length := by omega
   have hLl := H.len
   have hd : L.drop i = L.getD i default :: L.drop (i + 1) := drop_cons default hil
   have hm : L.getD i default ∈ L := by
     rw [List.getD_eq_getElem?_getD, List.getElem?_eq_getElem hil]
     exact List.getElem_mem hil
   obtain ⟨c1, c2, c3⟩ := H.ok _ hm
   have hat := cms_at hil
   rw [hd] at k
   generalize L.getD i default = c at *
   have ht := H.top
   have hib := idx_lt c3
   unfold stF at k
   rw [L_audit_heights_0_0, cbT (by omega), jn_def, cms_len, asT (by omega), asT (by omega), Int.toNat_natCast, hat]
   show asr (conf (.agg [.i .i64, .i .i64, .i .i64, .i .i64, .i .i64, .i .i64, .b]) (encCm c)) _
   rw [asCm, encCm6]
   by_cases hcm : c.m = true
   · rw [if_pos hcm] at k
     rw [hcm, Bool.not_true, cbr_false, encCm4]
     have hvn := Rat.num_nonneg.2 c1.v0
     by_cases hv : c.v = 0
     · have hn0 : c.v.num = 0 := Rat.num_eq_zero.2 hv
       rw [if_pos hv] at k
       rw [cbF (by omega), encCm0, encCm1, encCm2, encCm3, ratEq]
       by_cases hf : c.f = c.t
       · rw [if_pos hf] at k
         rw [decide_eq_true hf, Bool.not_true, cbr_false]
         show L_audit_heights_0_0 _ _ _ _ _ _ _ _ _ _ _ _ _ _ _ (IntKind.i64.wrap ((i : Int) + 1))
         rw [cast1, wibN (by omega)]
         exact ih (i + 1) n st (by omega) (by omega) hl k
       · rw [if_neg hf] at k
         rw [decide_eq_false hf, Bool.not_false, cbr_true, hx1]
         exact k
     · have hn0 : c.v.num ≠ 0 := fun e => hv (Rat.num_eq_zero.1 e)
       rw [if_neg hv] at k
       rw [cbT (by omega)]
       refine bsAt0 H.inc H.sm (by omega) c3 ?_ (encCm2 c).symm (encCm3 c).symm (by rw [rts_len]) (by rw [rts_len])
       dsimp only [lt]
       rw [ints_len, hl, asT (by omega), asT (by omega), asE, Int.toNat_natCast, Nat.zero_add, asT (by omega), ints_hAt (by omega), asI, ints_set, cast1, wibN (by omega)]
       exact ih (i + 1) n _ (by omega) (by omega) (by simpa using hl) k
   · rw [if_neg hcm] at k
     have hcm' : c.m = false := by simpa using hcm
     rw [hcm', Bool.not_false, cbr_true]
     show L_audit_heights_0_0 _ _ _ _ _ _ _ _ _ _ _ _ _ _ _ (IntKind.i64.wrap ((i : Int) + 1))
     rw [cast1, wibN (by omega)]
     exact ih (i + 1) n st (by omega) (by omega) hl k
theorem zeros_ints (k : Nat) : List.replicate k (PV.int .i64 0) = ints (zeros k) := by
 unfold ints zeros
 rw [List.map_replicate]
theorem hts_P {N : Int} {ps : List Rat} {L : List Cm} {m : Nat} (H : Hy N ps L m) {st : List Int} (hs : stF ps L (zeros ps.length) = some st) : iterP (hR ps m L st) (ps.length + 1) (zeros ps.length) = hts ps m L := by
 unfold hts
 rw [hs]
 exact iterP_bf0 (hR_ok H st)
theorem heights_of {N : Int} {ps : List Rat} {L : List Cm} {m : Nat} (H : Hy N ps L m) {K0 : Prop} {K : List PV → Prop} (k : match hts ps m L with | some g => K (ints g) | none => K0) : w_audit_heights (rts ps) (cms L) (m : Int) K0 K := by
 have ht := H.top
 have htwo := H.two
 have hLl := H.len
 unfold w_audit_heights wv_audit_heights
 dsimp only [lt]
 rw [rts_len, cast1, wibN (by omega), asT (by omega), asT (by omega), asT (by show _ ≤ 35184372088832; omega), zeros_ints, cms_len]
 refine ⟨L.length + 1, ?_⟩
 refine first_loop H (X := K0) (fun _ _ => rfl) L.length 0 (L.length + 1) _ (by omega) (by omega) (zeros_len _) ?_
 rw [List.drop_zero]
 cases hs : stF ps L (zeros ps.length) with
 | none =>
   unfold hts at k
   rw [hs] at k
   exact k
 | some st =>
   dsimp only
   have hst : st.length = ps.length := by rw [stF_len hs, zeros_len]
   have h01 := stF_01 (fun c hc => (H.ok c hc).2.2) (zeros_len _) (fun i => by rw [zeros_at]; omega) hs
   rw [rts_len, asT (by omega), asT (by omega), asT (by show _ ≤ 35184372088832; omega), zeros_ints, cast1, wibN (by omega)]
   refine ⟨ps.length + 2, ?_⟩
   refine rounds_loop H hst h01 (T := 2100000000000000000) (by omega) (K0 := K0) (Kf := fun g => K (ints g)) (fun _ _ _ _ _ _ _ _ _ _ _ _ _ _ _ => rfl) (fun _ _ _ => rfl) (fun g hg => ?_) (ps.length + 1) 0 (ps.length + 2) _ (by omega) (by omega) (zeros_len _) (fun i => by rw [zeros_at]; omega) ?_
   · rw [ints_len, hg, asE, asT (by omega), show List.take ps.length (ints g) = ints g by rw [← hg, ← ints_len g, List.take_length]]
   · rw [hts_P H hs]
     cases he : hts ps m L with
     | none => rw [he] at k; exact k
     | some g =>
       rw [he] at k
       dsimp only
       by_cases h5 : hAt st 0 > 0
       · have := no_first H hs h5
         unfold hts at he
         rw [hs] at he
         dsimp only at he
         rw [this] at he
         cases he
       · rw [if_neg h5]; exact k
def outHt (o : Option (List Int)) (K0 : Prop) (K : List PV → Prop) : Prop := match o with
 | some g => K (ints g)
 | none => K0
theorem heights_eq {N : Int} {ps : List Rat} {L : List Cm} {m : Nat} (H : Hy N ps L m) (K0 : Prop) (K : List PV → Prop) : w_audit_heights (rts ps) (cms L) (m : Int) K0 K = outHt (hts ps m L) K0 K := by
 refine propext ⟨fun h => ?_, fun k => heights_of H k⟩
 have h2 : ∃ r, (match r with | PV.nils => K0 | .data d => K d | _ => False) ∧ Ans (E ef0) n_audit_heights [.data (rts ps), .data (cms L), .int .i64 (m : Int)] r :=
   ok_audit_heights [.data (rts ps), .data (cms L), .int .i64 (m : Int)] (fun r => match r with | PV.nils => K0 | .data d => K d | _ => False) h
 obtain ⟨r, h3, h4⟩ := h2
 cases he : hts ps m L with
 | none =>
   have h5 : w_audit_heights (rts ps) (cms L) (m : Int) (PV.nils = PV.nils) (fun d => PV.data d = PV.nils) := heights_of H (by rw [he])
   obtain ⟨q, h6, h7⟩ := ok_audit_heights [.data (rts ps), .data (cms L), .int .i64 (m : Int)] (fun r => r = PV.nils) h5
   subst h6
   have := h4.unique h7
   subst this
   exact h3
 | some g =>
   have h5 : w_audit_heights (rts ps) (cms L) (m : Int) (PV.nils = PV.data (ints g)) (fun d => PV.data d = PV.data (ints g)) := heights_of H (by rw [he])
   obtain ⟨q, h6, h7⟩ := ok_audit_heights [.data (rts ps), .data (cms L), .int .i64 (m : Int)] (fun r => r = PV.data (ints g)) h5
   subst h6
   have := h4.unique h7
   subst this
   exact h3
end Go.Pf.Vc
namespace Go.Pf.Vc
open Go Go.Pf Go.Sort
theorem ptsC_zero {N : Int} (h1 : 1 ≤ N) {L : List Cm} (hc : ∀ c ∈ L, c.ok N) : (ptsC N L).getD 0 0 = 0 := by
 have hi := ptsC_incr h1 L
 have hm : (0 : Rat) ∈ ptsC N L := ptsC_mem.2 (.inl rfl)
 cases hp : ptsC N L with
 | nil => rfl
 | cons x r =>
   rw [hp] at hi hm
   show x = 0
   rcases List.mem_cons.1 hm with e | hr
   · exact e.symm
   · have hx := hi.1 0 hr
     have hxm : x ∈ ptsC N L := by rw [hp]; exact List.mem_cons_self
     have hN : (0 : Rat) < (N : Rat) := by
       have : ((1 : Int) : Rat) ≤ (N : Rat) := Rat.intCast_le_intCast.2 h1
       have h0 : (0 : Rat) < ((1 : Int) : Rat) := by decide
       grind
     rcases ptsC_mem.1 hxm with e | e | ⟨c, h1, e | e⟩
     · exact e
     · grind
     · have := (hc c h1).f0; grind
     · have := (hc c h1).f0; have := (hc c h1).ft; grind
theorem ptsC_two {N : Int} (h1 : 1 ≤ N) (L : List Cm) : 2 ≤ (ptsC N L).length := by
 have hm : (0 : Rat) ∈ ptsC N L := ptsC_mem.2 (.inl rfl)
 have hm2 : (N : Rat) ∈ ptsC N L := ptsC_mem.2 (.inr (.inl rfl))
 have hN : (0 : Rat) ≠ (N : Rat) := by
   have : ((1 : Int) : Rat) ≤ (N : Rat) := Rat.intCast_le_intCast.2 h1
   have h0 : (0 : Rat) < ((1 : Int) : Rat) := by decide
   grind
 cases hp : ptsC N L with
 | nil => rw [hp] at hm; cases hm
 | cons x r =>
   cases r with
   | nil =>
     rw [hp] at hm hm2
     rw [List.mem_singleton] at hm hm2
     exact absurd (hm.trans hm2.symm) hN
   | cons y t => simp
theorem ptsC_small {N : Int} (h1 : 1 ≤ N) (h2 : N ≤ 1000) {L : List Cm} (hc : ∀ c ∈ L, c.ok N) : ∀ z ∈ ptsC N L, small z := by
 intro z hz
 rcases ptsC_mem.1 hz with rfl | rfl | ⟨c, h1, rfl | rfl⟩
 · decide
 · exact small_int3 (by omega) (by omega)
 · exact (hc c h1).f
 · exact (hc c h1).t
theorem Hy_of {N : Int} (h1 : 1 ≤ N) (h2 : N ≤ 1000) {L : List Cm} (hc : ∀ c ∈ L, c.ok N) (hl : L.length ≤ 40) {m : Nat} (hs : Sc L m) : Hy N (ptsC N L) L m where
 inc := ptsC_incr h1 L
 sm := ptsC_small h1 h2 hc
 two := ptsC_two h1 L
 top := by have := ptsC_len N L; omega
 ok := fun c hc' => ⟨hc c hc', ptsC_mem.2 (.inr (.inr ⟨c, hc', .inl rfl⟩)), ptsC_mem.2 (.inr (.inr ⟨c, hc', .inr rfl⟩))⟩
 len := by omega
 sc := hs
 p0 := ptsC_zero h1 hc
end Go.Pf.Vc
namespace Go.Pf.Vc
open Go Go.Pf Go.Sort
def Feas (N : Int) (L : List Cm) : Prop := ∃ V : Rat → Rat, V 0 = 0 ∧ (∀ p q, p ∈ ptsC N L → q ∈ ptsC N L → p ≤ q → V p ≤ V q) ∧
 ∀ c ∈ L, V c.t = V c.f + c.v ∧ (c.m = true → (c.v = 0 → c.f = c.t) ∧ (c.v ≠ 0 → ∀ p ∈ ptsC N L, p < c.t → V p < V c.t))
theorem idx_le {l : List Rat} (h : incrR l) {p q : Rat} (hp : p ∈ l) (hq : q ∈ l) : l.idxOf p < l.idxOf q ↔ p < q := by
 have := incr_lt h (idx_lt hp) (idx_lt hq)
 rw [getD_idx hp, getD_idx hq] at this
 exact this.symm
theorem stF_none {ps : List Rat} : ∀ {L : List Cm} {st : List Int}, stF ps L st = none → ∃ c ∈ L, c.m = true ∧ c.v = 0 ∧ c.f ≠ c.t
 | [], _, e => by cases e
 | c :: r, st, e => by
   have up : (∃ c' ∈ r, c'.m = true ∧ c'.v = 0 ∧ c'.f ≠ c'.t) → ∃ c' ∈ c :: r, c'.m = true ∧ c'.v = 0 ∧ c'.f ≠ c'.t := fun ⟨c', h1, h2⟩ => ⟨c', List.mem_cons_of_mem _ h1, h2⟩
   unfold stF at e
   split at e
   · rename_i hm
     split at e
     · rename_i hv
       split at e
       · exact up (stF_none e)
       · rename_i hf; exact ⟨c, List.mem_cons_self, hm, hv, hf⟩
     · exact up (stF_none e)
   · exact up (stF_none e)
theorem sol_mono {R : List Rl} {k : Nat} {g st : List Int} (hs : Sol R k g) (h01 : ∀ i, 0 ≤ hAt st i ∧ hAt st i ≤ 1) (hc : ∀ q ∈ conF st 1 (k - 1), q ∈ R) : ∀ i j, i ≤ j → j < k → hAt g i ≤ hAt g j := by
 intro i j hij
 induction j with
 | zero => intro _; rw [show i = 0 by omega]; exact Int.le_refl _
 | succ j ih =>
   intro hj
   by_cases e : i = j + 1
   · rw [e]; exact Int.le_refl _
   · have h1 := ih (by omega) (by omega)
     have hm : ((j, j + 1, hAt st (j + 1)) : Rl) ∈ conF st 1 (k - 1) := by
       unfold conF
       exact List.mem_map.2 ⟨j + 1, List.mem_range'_1.2 ⟨by omega, by omega⟩, rfl⟩
     have h2 : hAt g j + hAt st (j + 1) ≤ hAt g (j + 1) := hs.ob _ (hc _ hm)
     have h3 := h01 (j + 1)
     omega
theorem con_rule {R : List Rl} {k : Nat} {g st : List Int} (hs : Sol R k g) (hc : ∀ q ∈ conF st 1 (k - 1), q ∈ R) {j : Nat} (hj : 0 < j) (hj2 : j < k) : hAt g (j - 1) + hAt st j ≤ hAt g j := by
 refine hs.ob (j - 1, j, hAt st j) (hc _ ?_)
 unfold conF
 exact List.mem_map.2 ⟨j, List.mem_range'_1.2 ⟨by omega, by omega⟩, rfl⟩
theorem cmv_num {c : Cm} {m : Nat} (hd : c.v.den ∣ m) : (m : Rat) * c.v = ((c.v.num * ((m / c.v.den : Nat) : Int) : Int) : Rat) := by
 obtain ⟨t, rfl⟩ := hd
 have hp := c.v.den_pos
 rw [Nat.mul_div_cancel_left _ hp, Rat.intCast_mul, Rat.natCast_mul]
 have h1 : (c.v.den : Rat) * c.v = (c.v.num : Rat) := by
   have h0 : (c.v.den : Rat) ≠ 0 := by
     have : (0 : Rat) < (c.v.den : Rat) := Rat.natCast_pos.2 hp
     grind
   have h2 : c.v = (c.v.num : Rat) / (c.v.den : Rat) := by rw [← Rat.mkRat_eq_div, Rat.mkRat_self]
   have h3 : (c.v.den : Rat) * ((c.v.num : Rat) / (c.v.den : Rat)) = (c.v.num : Rat) := by rw [Rat.mul_comm]; exact Rat.div_mul_cancel h0
   rw [← h2] at h3
   exact h3
 have h2 : (((t : Nat) : Int) : Rat) = ((t : Nat) : Rat) := Rat.intCast_natCast t
 rw [h2]
 calc (c.v.den : Rat) * (t : Rat) * c.v = ((c.v.den : Rat) * c.v) * (t : Rat) := by grind
   _ = (c.v.num : Rat) * (t : Rat) := by rw [h1]
theorem hts_sol {N : Int} {ps : List Rat} {L : List Cm} {m : Nat} (H : Hy N ps L m) {g : List Int} (e : hts ps m L = some g) :
   ∃ st, stF ps L (zeros ps.length) = some st ∧ Sol (hR ps m L st) ps.length g ∧ hAt g 0 = 0 ∧ ∀ x, Sol (hR ps m L st) ps.length x → leH g x := by
 unfold hts at e
 cases hs : stF ps L (zeros ps.length) with
 | none => rw [hs] at e; cases e
 | some st =>
   rw [hs] at e
   obtain ⟨h1, h2, h3⟩ := bf0_some (hR_ok H st) e
   exact ⟨st, rfl, h1, h2, h3⟩
theorem sol_eq {ps : List Rat} {L : List Cm} {m : Nat} {st g : List Int} (hs : Sol (hR ps m L st) ps.length g) {c : Cm} (hc : c ∈ L) : hAt g (ps.idxOf c.t) = hAt g (ps.idxOf c.f) + vC m (ps.length + 1) c := by
 have h1 := hs.ob (ps.idxOf c.f, ps.idxOf c.t, vC m (ps.length + 1) c) (List.mem_append_right _ (clR_mem.2 ⟨c, hc, .inl rfl⟩))
 have h2 := hs.ob (ps.idxOf c.t, ps.idxOf c.f, -vC m (ps.length + 1) c) (List.mem_append_right _ (clR_mem.2 ⟨c, hc, .inr rfl⟩))
 have h1 : hAt g (ps.idxOf c.f) + vC m (ps.length + 1) c ≤ hAt g (ps.idxOf c.t) := h1
 have h2 : hAt g (ps.idxOf c.t) + -vC m (ps.length + 1) c ≤ hAt g (ps.idxOf c.f) := h2
 omega
def dv (m s : Nat) (x : Int) : Rat := (x : Rat) / ((m : Rat) * (s : Rat))
theorem ms_pos {m s : Nat} (hm : 1 ≤ m) (hs : 1 ≤ s) : (0 : Rat) < (m : Rat) * (s : Rat) := by
 have h1 : (0 : Rat) < (m : Rat) := Rat.natCast_pos.2 (by omega)
 have h2 : (0 : Rat) < (s : Rat) := Rat.natCast_pos.2 (by omega)
 exact Rat.mul_pos h1 h2
theorem dv_le {m s : Nat} (hm : 1 ≤ m) (hs : 1 ≤ s) {x y : Int} (h : x ≤ y) : dv m s x ≤ dv m s y := by
 have := ms_pos hm hs
 unfold dv
 have h2 : (x : Rat) ≤ (y : Rat) := Rat.intCast_le_intCast.2 h
 rw [Rat.div_def, Rat.div_def]
 have h3 : (0 : Rat) < ((m : Rat) * (s : Rat))⁻¹ := Rat.inv_pos.2 this
 exact Rat.mul_le_mul_of_nonneg_right h2 (by grind)
theorem dv_lt {m s : Nat} (hm : 1 ≤ m) (hs : 1 ≤ s) {x y : Int} (h : x < y) : dv m s x < dv m s y := by
 have := ms_pos hm hs
 unfold dv
 have h2 : (x : Rat) < (y : Rat) := Rat.intCast_lt_intCast.2 h
 rw [Rat.div_def, Rat.div_def]
 exact Rat.mul_lt_mul_of_pos_right h2 (Rat.inv_pos.2 this)
theorem dv_add {m s : Nat} (hm : 1 ≤ m) (hs : 1 ≤ s) {x : Int} {c : Cm} (hd : c.v.den ∣ m) : dv m s (x + vC m s c) = dv m s x + c.v := by
 have hp := ms_pos hm hs
 unfold dv vC
 have e : ((c.v.num * ((m / c.v.den : Nat) : Int) * (s : Int) : Int) : Rat) = (m : Rat) * (s : Rat) * c.v := by
   rw [Rat.intCast_mul, ← cmv_num hd, Rat.intCast_natCast]
   grind
 rw [Rat.intCast_add, e]
 have hne : (m : Rat) * (s : Rat) ≠ 0 := by grind
 grind
theorem feas_of {N : Int} {L : List Cm} {m : Nat} (H : Hy N (ptsC N L) L m) {g : List Int} (e : hts (ptsC N L) m L = some g) : Feas N L := by
 obtain ⟨st, hs, hsol, h0, _⟩ := hts_sol H e
 have hm := H.sc.one
 have h2 := H.two
 have h01 := stF_01 (fun c hc => (H.ok c hc).2.2) (zeros_len _) (fun i => by rw [zeros_at]; omega) hs
 obtain ⟨hst, hz⟩ := stF_is (fun c hc => (H.ok c hc).2.2) (zeros_len _) hs
 have hcon : ∀ q ∈ conF st 1 ((ptsC N L).length - 1), q ∈ hR (ptsC N L) m L st := fun q hq => List.mem_append_left _ hq
 have hmono := sol_mono hsol h01 hcon
 have hz0 : (0 : Rat) ∈ ptsC N L := ptsC_mem.2 (.inl rfl)
 have hi0 : (ptsC N L).idxOf 0 = 0 := by
   refine Nat.le_antisymm (Nat.not_lt.1 fun hlt => ?_) (Nat.zero_le _)
   have := (incr_lt H.inc (i := 0) (j := (ptsC N L).idxOf 0) (by omega) (idx_lt hz0)).2 hlt
   rw [getD_idx hz0, H.p0] at this
   exact Rat.lt_irrefl this
 refine ⟨fun p => dv m ((ptsC N L).length + 1) (hAt g ((ptsC N L).idxOf p)), ?_, fun p q hp hq hpq => ?_, fun c hc => ⟨?_, fun hcm => ⟨fun hv => hz c hc hcm hv, fun hv p hp hlt => ?_⟩⟩⟩
 · show dv m _ (hAt g ((ptsC N L).idxOf 0)) = 0
   rw [hi0, h0]
   unfold dv
   rw [Rat.div_def, show ((0 : Int) : Rat) = 0 from rfl, Rat.zero_mul]
 · refine dv_le hm (by omega) (hmono _ _ (Nat.not_lt.1 fun hlt => ?_) (idx_lt hq))
   have := (idx_le H.inc hq hp).1 hlt
   grind
 · show dv m _ (hAt g ((ptsC N L).idxOf c.t)) = _
   rw [sol_eq hsol hc, dv_add hm (by omega) (H.sc.dvd c hc)]
 · have hib := (idx_le H.inc hp (H.ok c hc).2.2).2 hlt
   have hb := idx_lt (H.ok c hc).2.2
   have hs1 : hAt st ((ptsC N L).idxOf c.t) = 1 := (hst _).2 (.inr ⟨c, hc, hcm, hv, rfl⟩)
   have h3 := con_rule hsol hcon (j := (ptsC N L).idxOf c.t) (by omega) hb
   have h4 := hmono ((ptsC N L).idxOf p) ((ptsC N L).idxOf c.t - 1) (by omega) (by omega)
   exact dv_lt hm (by omega) (by omega)
theorem hts_of {N : Int} {L : List Cm} {m : Nat} (H : Hy N (ptsC N L) L m) (hF : Feas N L) : ∃ g, hts (ptsC N L) m L = some g := by
 obtain ⟨V, v0, vm, vc⟩ := hF
 unfold hts
 cases hs : stF (ptsC N L) L (zeros (ptsC N L).length) with
 | none =>
   obtain ⟨c, hc, h1, h2, h3⟩ := stF_none hs
   exact absurd (((vc c hc).2 h1).1 h2) h3
 | some st =>
   dsimp only
   have h01 := stF_01 (fun c hc => (H.ok c hc).2.2) (zeros_len _) (fun i => by rw [zeros_at]; omega) hs
   obtain ⟨hst, hz⟩ := stF_is (fun c hc => (H.ok c hc).2.2) (zeros_len _) hs
   have hm := H.sc.one
   have hm0 : (0 : Rat) < (m : Rat) := Rat.natCast_pos.2 (by omega)
   have hlen : ((ptsC N L).map fun p => (m : Rat) * V p).length = (ptsC N L).length := List.length_map ..
   have hat : ∀ i, i < (ptsC N L).length → ((ptsC N L).map fun p => (m : Rat) * V p).getD i 0 = (m : Rat) * V ((ptsC N L).getD i 0) := by
     intro i hi
     rw [List.getD_eq_getElem?_getD, List.getD_eq_getElem?_getD, List.getElem?_map, List.getElem?_eq_getElem hi]
     rfl
   have hmem : ∀ i, i < (ptsC N L).length → (ptsC N L).getD i 0 ∈ ptsC N L := fun i hi => getD_ratMem hi
   have key := bf0_of_rat (ys := (ptsC N L).map fun p => (m : Rat) * V p) (R := hR (ptsC N L) m L st) (by rw [hlen]; exact hR_ok H st) (fun q hq => ?_) (fun y hy => ?_) ?_
   · rw [hlen] at key; exact key
   · unfold ruleOk
     rw [hlen]
     rcases List.mem_append.1 hq with h | h
     · obtain ⟨j, h1, h2, rfl⟩ := conF_mem h
       have h2' := H.two
       have hj : j < (ptsC N L).length := by omega
       have hlt := (incr_lt H.inc (i := j - 1) (j := j) (by omega) hj).2 (by omega)
       right
       show ((((ptsC N L).map fun p => (m : Rat) * V p).getD (j - 1) 0 ≤ ((ptsC N L).map fun p => (m : Rat) * V p).getD j 0) ∧ hAt st j = 0) ∨ (((ptsC N L).map fun p => (m : Rat) * V p).getD (j - 1) 0 < ((ptsC N L).map fun p => (m : Rat) * V p).getD j 0 ∧ hAt st j = 1)
       rw [hat _ (by omega), hat _ hj]
       by_cases h1' : hAt st j = 1
       · right
         refine ⟨?_, h1'⟩
         rcases (hst j).1 h1' with h5 | ⟨c, hc, hcm, hcv, hci⟩
         · rw [zeros_at] at h5; omega
         · have hct : (ptsC N L).getD j 0 = c.t := by rw [← hci, getD_idx (H.ok c hc).2.2]
           have h6 := ((vc c hc).2 hcm).2 hcv _ (hmem (j - 1) (by omega)) (by rw [← hct]; exact hlt)
           rw [hct]
           exact Rat.mul_lt_mul_of_pos_left h6 hm0
       · left
         refine ⟨?_, by have := h01 j; omega⟩
         have h6 := vm _ _ (hmem (j - 1) (by omega)) (hmem j hj) (by grind)
         exact Rat.mul_le_mul_of_nonneg_left h6 (by grind)
     · obtain ⟨c, hc, e⟩ := clR_mem.1 h
       have ha := idx_lt (H.ok c hc).2.1
       have hb := idx_lt (H.ok c hc).2.2
       have hv := (vc c hc).1
       have hd := cmv_num (H.sc.dvd c hc)
       left
       rcases e with rfl | rfl
       · refine ⟨c.v.num * ((m / c.v.den : Nat) : Int), ?_, ?_⟩
         · show ((ptsC N L).map fun p => (m : Rat) * V p).getD ((ptsC N L).idxOf c.t) 0 = ((ptsC N L).map fun p => (m : Rat) * V p).getD ((ptsC N L).idxOf c.f) 0 + _
           rw [hat _ ha, hat _ hb, getD_idx (H.ok c hc).2.1, getD_idx (H.ok c hc).2.2, hv, ← hd]
           grind
         · show vC m _ c = _
           unfold vC
           rw [Int.mul_comm]
           rfl
       · refine ⟨-(c.v.num * ((m / c.v.den : Nat) : Int)), ?_, ?_⟩
         · show ((ptsC N L).map fun p => (m : Rat) * V p).getD ((ptsC N L).idxOf c.f) 0 = ((ptsC N L).map fun p => (m : Rat) * V p).getD ((ptsC N L).idxOf c.t) 0 + _
           rw [hat _ ha, hat _ hb, getD_idx (H.ok c hc).2.1, getD_idx (H.ok c hc).2.2, hv, Rat.intCast_neg, ← hd]
           grind
         · show -vC m _ c = _
           unfold vC
           rw [Int.mul_neg, Int.mul_comm]
           rfl
   · obtain ⟨p, hp, rfl⟩ := List.mem_map.1 hy
     have h0 : (0 : Rat) ≤ p := by
       obtain ⟨i, hi, e⟩ := mem_at (d := (0 : Rat)) hp
       rw [← e]
       by_cases h : i = 0
       · rw [h, H.p0]; exact Rat.le_refl
       · have := (incr_lt H.inc (i := 0) (j := i) (by omega) hi).2 (by omega)
         rw [H.p0] at this
         grind
     have h1 := vm 0 p (ptsC_mem.2 (.inl rfl)) hp h0
     rw [v0] at h1
     exact Rat.mul_nonneg (by grind) h1
   · rw [hat 0 (by have := H.two; omega), H.p0, v0, Rat.mul_zero]
theorem hts_feas {N : Int} {L : List Cm} {m : Nat} (H : Hy N (ptsC N L) L m) : (∃ g, hts (ptsC N L) m L = some g) ↔ Feas N L := ⟨fun ⟨_, e⟩ => feas_of H e, hts_of H⟩
theorem feas_take {N : Int} {L : List Cm} (h : Feas N L) (k : Nat) : Feas N (L.take k) := by
 obtain ⟨V, v0, vm, vc⟩ := h
 have sub : ∀ p, p ∈ ptsC N (L.take k) → p ∈ ptsC N L := by
   intro p hp
   rw [ptsC_mem] at hp ⊢
   rcases hp with h | h | ⟨c, h1, h2⟩
   · exact .inl h
   · exact .inr (.inl h)
   · exact .inr (.inr ⟨c, List.mem_of_mem_take h1, h2⟩)
 refine ⟨V, v0, fun p q hp hq => vm p q (sub p hp) (sub q hq), fun c hc => ?_⟩
 obtain ⟨h1, h2⟩ := vc c (List.mem_of_mem_take hc)
 exact ⟨h1, fun hm => ⟨(h2 hm).1, fun hv p hp => (h2 hm).2 hv p (sub p hp)⟩⟩
theorem scM_append : ∀ (a b : List Cm) (m : Nat), scM (a ++ b) m = (scM a m).bind (scM b)
 | [], b, m => rfl
 | c :: r, b, m => by
   show (if c.v.den / Nat.gcd m c.v.den ≤ 1000000000 / m then scM (r ++ b) (m * (c.v.den / Nat.gcd m c.v.den)) else none) = ((if c.v.den / Nat.gcd m c.v.den ≤ 1000000000 / m then scM r (m * (c.v.den / Nat.gcd m c.v.den)) else none)).bind (scM b)
   split
   · exact scM_append r b _
   · rfl
theorem scale_take {L : List Cm} {m : Nat} (h : scaleL L = some m) (k : Nat) : ∃ m', scaleL (L.take k) = some m' ∧ Sc (L.take k) m := by
 have hS := scaleL_some h
 have hpre : Sc (L.take k) m := ⟨hS.one, hS.top, fun c hc => hS.dvd c (List.mem_of_mem_take hc), fun c hc => hS.val c (List.mem_of_mem_take hc)⟩
 unfold scaleL at h
 split at h
 case h_2 => cases h
 rename_i m0 e
 split at h
 case isFalse => cases h
 rename_i ht
 cases h
 have ha := scM_append (L.take k) (L.drop k) 1
 rw [List.take_append_drop, e] at ha
 cases e2 : scM (L.take k) 1 with
 | none => rw [e2] at ha; cases ha
 | some m1 =>
   rw [e2] at ha
   have ha : some m = scM (L.drop k) m1 := ha
   obtain ⟨o1, o2, _, o4⟩ := scM_some _ 1 (by omega) (by omega) e2
   obtain ⟨p1, p2, p3, _⟩ := scM_some _ m1 o1 o2 ha.symm
   refine ⟨m1, ?_, hpre⟩
   unfold scaleL
   rw [e2]
   dsimp only
   rw [if_pos]
   unfold scT at ht ⊢
   rw [List.all_eq_true] at ht ⊢
   intro c hc
   have h5 := ht c (List.mem_of_mem_take hc)
   simp only [decide_eq_true_eq] at h5 ⊢
   have h6 : m1 / c.v.den ≤ m / c.v.den := Nat.div_le_div_right (Nat.le_of_dvd (by omega) p3)
   have h7 : 0 < m1 / c.v.den := Nat.div_pos (Nat.le_of_dvd (by omega) (o4 c hc)) c.v.den_pos
   have h8 : 1000000000000 / (m / c.v.den) ≤ 1000000000000 / (m1 / c.v.den) := Nat.div_le_div_left h6 h7
   omega
end Go.Pf.Vc
namespace Go.Pf.Vc
open Go Go.Pf Go.Sort
def mkF (d x : Int) : Rw := if small ((x : Rat) / (d : Rat)) then (((x : Rat) / (d : Rat)).num, (((x : Rat) / (d : Rat)).den : Int)) else (0, 0)
theorem make_raw {n d : Int} (hn : I64 n) (hd : I64 d) (h0 : d ≠ 0) (K : Int → Int → Prop) : w_ratio_Make n d (fun a b _ => K a b) = K (mkF d n).1 (mkF d n).2 := by
 rw [rMake_eq hn hd h0]
 unfold fitK mkF
 split <;> rfl
theorem rws_one (r : Rw) : ([.agg [.int .i64 r.1, .int .i64 r.2]] : List PV) = rws [r] := rfl
theorem rws_app (a b : List Rw) : rws a ++ rws b = rws (a ++ b) := by unfold rws; rw [List.map_append]
theorem iterR_bnd {R : List Rl} {T : Int} {c : Nat} (hc : R.length ≤ c) (ha : ∀ q ∈ R, q.2.2 ≤ 100000000000000) : ∀ (n : Nat) (h g : List Int), rOk R h.length → bndT h T (c * n) → iterR R n h = some g → bndT g T 0
 | 0, _, _, _, _, e => by cases e
 | n + 1, h, g, ho, hb, e => by
   unfold iterR at e
   split at e
   · cases e; exact hb.less (Nat.zero_le _)
   · refine iterR_bnd hc ha n (pass R h) g (by rw [pass_len]; exact ho) (pass_bndT _ _ _ ho ha (hb.less ?_)) e
     rw [Nat.mul_add, Nat.mul_one]
     omega
theorem hR_len (ps : List Rat) (m : Nat) (L : List Cm) (st : List Int) : (hR ps m L st).length = ps.length - 1 + 2 * L.length := by unfold hR; rw [List.length_append, conF_len, clR_len]
theorem bf0_bf {R : List Rl} {k : Nat} {g : List Int} (e : bf0 R k = some g) : bf R k = some g := by
 unfold bf0 at e
 split at e
 · rename_i g' e'
   split at e
   · cases e; exact e'
   · cases e
 · cases e
theorem hts_bnd {N : Int} {ps : List Rat} {L : List Cm} {m : Nat} (H : Hy N ps L m) {g : List Int} (e : hts ps m L = some g) {T : Int} {c : Nat} (hc : ps.length - 1 + 2 * L.length ≤ c) (hT : 100000000000000 * ((c * (ps.length + 1) : Nat) : Int) ≤ T) : g.length = ps.length ∧ ∀ i, 0 ≤ hAt g i ∧ hAt g i ≤ T := by
 unfold hts at e
 cases hs : stF ps L (zeros ps.length) with
 | none => rw [hs] at e; cases e
 | some st =>
   rw [hs] at e
   have e2 := bf0_bf e
   have h01 := stF_01 (fun c hc => (H.ok c hc).2.2) (zeros_len _) (fun i => by rw [zeros_at]; omega) hs
   have hb := iterR_bnd (c := c) (T := T) (by rw [hR_len]; exact hc) (hR_add H h01) (ps.length + 1) (zeros ps.length) g (by rw [zeros_len]; exact hR_ok H st) (fun i => by rw [zeros_at]; exact ⟨Int.le_refl _, by omega⟩) e2
   refine ⟨(bf0_some (hR_ok H st) e).1.len, fun i => ?_⟩
   have := hb i
   simp at this
   exact this
theorem hts_i64 {N : Int} {ps : List Rat} {L : List Cm} {m : Nat} (H : Hy N ps L m) {g : List Int} (e : hts ps m L = some g) : g.length = ps.length ∧ ∀ i, I64 (hAt g i) := by
 have ht := H.top
 have hl := H.len
 have hT : 100000000000000 * ((200 * (ps.length + 1) : Nat) : Int) ≤ 2100000000000000000 := by
   rw [Int.natCast_mul]; omega
 obtain ⟨h1, h2⟩ := hts_bnd H e (c := 200) (by omega) hT
 exact ⟨h1, fun i => by have := h2 i; exact ⟨by omega, by omega⟩⟩
def gF (m : Nat) (g : List Int) : List Rw := g.map (mkF (((m * (g.length + 1) : Nat) : Int)))
theorem gF_cons (d : Int) (g : List Int) (i : Nat) (hi : i < g.length) : (g.drop i).map (mkF d) = mkF d (hAt g i) :: (g.drop (i + 1)).map (mkF d) := by
 rw [drop_cons (0 : Int) hi]
 rfl
theorem guess_loop {a0 : T_audit_claims} {a1 : T_audit_scale} {a2 : T_audit_pointsOf} {a3 : T_audit_heights} {g : List Int} (hg : ∀ i, I64 (hAt g i)) (hl : g.length < 1000) {m : Nat} (h1 : 1 ≤ m) (h2 : m ≤ 1000000000) {l2 : List PV} {x1 : List PV → Int → List PV → List PV → List PV → Int → Int → Bool → Prop} :
   ∀ (r i n : Nat) (acc : List Rw), i + r = g.length → r < n → acc.length ≤ i →
     L_audit_Guess_0_1 a0 a1 a2 a3 w_ratio_Make x1 n (rws acc) (m : Int) l2 (ints g) (ints g) (g.length : Int) (i : Int) = x1 (rws (acc ++ (g.drop i).map (mkF ((m * (g.length + 1) : Nat) : Int)))) (m : Int) l2 (ints g) (ints g) (g.length : Int) (g.length : Int) false := by
 intro r
 induction r with
 | zero =>
   intro i n acc hi hn ha
   obtain ⟨n, rfl⟩ : ∃ m, n = m + 1 := ⟨n - 1, by omega⟩
   obtain rfl : i = g.length := by omega
   rw [L_audit_Guess_0_1, cbF (by omega), List.drop_length]
   simp
 | succ r ih =>
   intro i n acc hi hn ha
   obtain ⟨n, rfl⟩ : ∃ m, n = m + 1 := ⟨n - 1, by omega⟩
   have hil : i < g.length := by omega
   have e1 : m * (g.length + 1) ≤ 1000000000 * 1000 := Nat.mul_le_mul h2 (by omega)
   have e2 : 1 ≤ m * (g.length + 1) := Nat.mul_pos (by omega) (by omega)
   rw [L_audit_Guess_0_1, cbT (by omega)]
   dsimp only [lt]
   rw [ints_len, asT (by omega), asT (by omega), Int.toNat_natCast, ints_hAt hil, asI, ivI, cast1, wibN (by omega), ← Int.natCast_mul, wibN (by omega), make_raw (hg i) ⟨by omega, by omega⟩ (by omega)]
   rw [rws_one, rws_app, rws_len, asE, asT (by omega), asNo (by omega), asE, asT (by show _ ≤ 35184372088832; omega), asEE, asE, cast1, wibN (by omega), ih (i + 1) n _ (by omega) (by omega) (by simp; omega), gF_cons _ g i hil, List.append_assoc]
   rfl
def outGs (N : Int) (log : List Qy) (K : List PV → List PV → Int → Prop) : Prop :=
 if claimsE N log = 0 then (match scaleL (log.map cmOf) with
   | none => K [] [] 16
   | some m => match hts (ptsC N (log.map cmOf)) m (log.map cmOf) with
     | none => K [] [] 6
     | some g => K (rts (ptsC N (log.map cmOf))) (rws (gF m g)) 0)
 else K [] [] (claimsE N log)
theorem gF_first {m : Nat} {g : List Int} (hg : 0 < g.length) : gF m g = mkF ((m * (g.length + 1) : Nat) : Int) (hAt g 0) :: (g.drop 1).map (mkF ((m * (g.length + 1) : Nat) : Int)) := by
 have := gF_cons ((m * (g.length + 1) : Nat) : Int) g 0 hg
 rw [List.drop_zero] at this
 exact this
theorem Guess_of {N : Int} {log : List Qy} (h64 : ∀ q ∈ log, q.q64) (hl : log.length < 1000) {K : List PV → List PV → Int → Prop} (k : outGs N log K) : w_audit_Guess N (logs log) K := by
 unfold w_audit_Guess wv_audit_Guess
 unfold outGs at k
 rw [claims_eq h64 hl]
 by_cases h1 : claimsE N log = 0
 case neg =>
   rw [if_neg h1] at k
   rw [cnT h1]; exact k
 rw [if_pos h1] at k
 obtain ⟨n1, n2, n3, n4⟩ := claimsE_zero h1
 have hok := claimsE_ok h1
 rw [cnF h1, if_pos h1, scale_eq hok (by rw [List.length_map]; omega)]
 unfold outSc
 cases e : scaleL (log.map cmOf) with
 | none => rw [e] at k; exact k
 | some m =>
   rw [e] at k
   have H := Hy_of n1 n2 hok (by rw [List.length_map]; exact n3) (scaleL_some e)
   have ht := H.top
   have h2 := H.two
   have hm1 := H.sc.one
   have hm2 := H.sc.top
   dsimp only at k ⊢
   rw [nz, pointsOf_eq n1 n2 hok (by rw [List.length_map]; omega), heights_eq H]
   unfold outHt
   cases e2 : hts (ptsC N (log.map cmOf)) m (log.map cmOf) with
   | none => rw [e2] at k; exact k
   | some g =>
     rw [e2] at k
     dsimp only at k ⊢
     obtain ⟨g1, g2⟩ := hts_i64 H e2
     have gp : 0 < g.length := by omega
     have he : (!(ints g).isEmpty) = true := by
       cases g with
       | nil => simp at gp
       | cons a b => rfl
     have e1 : m * (g.length + 1) ≤ 1000000000 * 1000 := Nat.mul_le_mul hm2 (by omega)
     have e3 : 1 ≤ m * (g.length + 1) := Nat.mul_pos (by omega) (by omega)
     rw [he, asr_true]
     refine ⟨g.length + 1, ?_⟩
     have e0 : IntKind.i64.wrap ((0 : Int) + 1) = ((1 : Nat) : Int) := by decide
     rw [L_audit_Guess_0_0, ints_len, cbT (by omega)]
     dsimp only [lt]
     rw [asT (by omega), asT (by omega), show (0 : Int).toNat = 0 from rfl, ints_hAt gp, asI, ivI, cast1, wibN (by omega), ← Int.natCast_mul, wibN (by omega), make_raw (g2 0) ⟨by omega, by omega⟩ (by omega), e0, rws_one]
     refine asr_iff.2 ⟨by simp [rws], ?_⟩
     refine (guess_loop g2 (by omega) hm1 hm2 (g.length - 1) 1 g.length _ (by omega) (by omega) (by simp)).mpr ?_
     rw [asE, asT (by omega), List.take_length]
     rw [gF_first gp] at k
     exact k
theorem Guess_eq {N : Int} {log : List Qy} (h64 : ∀ q ∈ log, q.q64) (hl : log.length < 1000) (K : List PV → List PV → Int → Prop) : w_audit_Guess N (logs log) K = outGs N log K := by
 by_cases h1 : claimsE N log = 0
 · cases e : scaleL (log.map cmOf) with
   | none =>
     have hh : ∀ K, outGs N log K = K [] [] 16 := fun K => by unfold outGs; rw [if_pos h1, e]
     rw [hh]
     exact det_audit_Guess _ _ _ _ _ (fun K k => Guess_of h64 hl (by rw [hh]; exact k)) K
   | some m =>
     cases e2 : hts (ptsC N (log.map cmOf)) m (log.map cmOf) with
     | none =>
       have hh : ∀ K, outGs N log K = K [] [] 6 := fun K => by unfold outGs; rw [if_pos h1, e]; dsimp only; rw [e2]
       rw [hh]
       exact det_audit_Guess _ _ _ _ _ (fun K k => Guess_of h64 hl (by rw [hh]; exact k)) K
     | some g =>
       have hh : ∀ K, outGs N log K = K (rts (ptsC N (log.map cmOf))) (rws (gF m g)) 0 := fun K => by unfold outGs; rw [if_pos h1, e]; dsimp only; rw [e2]
       rw [hh]
       exact det_audit_Guess _ _ _ _ _ (fun K k => Guess_of h64 hl (by rw [hh]; exact k)) K
 · have hh : ∀ K, outGs N log K = K [] [] (claimsE N log) := fun K => by unfold outGs; rw [if_neg h1]
   rw [hh]
   exact det_audit_Guess _ _ _ _ _ (fun K k => Guess_of h64 hl (by rw [hh]; exact k)) K
end Go.Pf.Vc
namespace Go.Pf.Vc
open Go Go.Pf Go.Sort
open Classical in
noncomputable def firstN (N : Int) (L : List Cm) : Nat → Nat → Nat
 | 0, i => i
 | r + 1, i => if Feas N (L.take (i + 1)) then firstN N L r (i + 1) else i
noncomputable def firstL (N : Int) (L : List Cm) : Nat := firstN N L L.length 0
theorem firstN_is {N : Int} {L : List Cm} : ∀ (r i : Nat), i + r = L.length → (∀ j, 1 ≤ j → j ≤ i → Feas N (L.take j)) →
   i ≤ firstN N L r i ∧ firstN N L r i ≤ L.length ∧ (∀ j, 1 ≤ j → j ≤ firstN N L r i → Feas N (L.take j)) ∧ (firstN N L r i = L.length ∨ ¬ Feas N (L.take (firstN N L r i + 1)))
 | 0, i, hi, h => by
   show i ≤ i ∧ i ≤ L.length ∧ (∀ j, 1 ≤ j → j ≤ i → Feas N (L.take j)) ∧ (i = L.length ∨ ¬ Feas N (L.take (i + 1)))
   exact ⟨Nat.le_refl _, by omega, h, .inl (by omega)⟩
 | r + 1, i, hi, h => by
   unfold firstN
   by_cases hF : Feas N (L.take (i + 1))
   · rw [if_pos hF]
     obtain ⟨h1, h2, h3, h4⟩ := firstN_is (N := N) (L := L) r (i + 1) (by omega) (fun j hj1 hj2 => by
       by_cases e : j = i + 1
       · rw [e]; exact hF
       · exact h j hj1 (by omega))
     exact ⟨by omega, h2, h3, h4⟩
   · rw [if_neg hF]
     exact ⟨Nat.le_refl _, by omega, h, .inr hF⟩
theorem firstL_is (N : Int) (L : List Cm) : firstL N L ≤ L.length ∧ (∀ j, 1 ≤ j → j ≤ firstL N L → Feas N (L.take j)) ∧ (firstL N L = L.length ∨ ¬ Feas N (L.take (firstL N L + 1))) := by
 obtain ⟨_, h2, h3, h4⟩ := firstN_is (N := N) (L := L) L.length 0 (by omega) (fun j h1 h2 => by omega)
 exact ⟨h2, h3, h4⟩
theorem feas_less {N : Int} {L : List Cm} {a b : Nat} (h : Feas N (L.take b)) (hab : a ≤ b) : Feas N (L.take a) := by
 have := feas_take h a
 rwa [List.take_take, Nat.min_eq_left hab] at this
theorem first_unique {N : Int} {L : List Cm} {k : Nat} (hk : k ≤ L.length) (h1 : k = 0 ∨ Feas N (L.take k)) (h2 : k = L.length ∨ ¬ Feas N (L.take (k + 1))) : k = firstL N L := by
 obtain ⟨f1, f2, f3⟩ := firstL_is N L
 rcases Nat.lt_trichotomy k (firstL N L) with h | h | h
 · rcases h2 with h2 | h2
   · omega
   · exact absurd (f2 (k + 1) (by omega) h) h2
 · exact h
 · rcases f3 with f3 | f3
   · omega
   · rcases h1 with h1 | h1
     · omega
     · exact absurd (feas_less h1 h) f3
theorem Hy_take {N : Int} (n1 : 1 ≤ N) (n2 : N ≤ 1000) {L : List Cm} (hc : ∀ c ∈ L, c.ok N) (hl : L.length ≤ 40) {m : Nat} (k : Nat) (hs : Sc (L.take k) m) : Hy N (ptsC N (L.take k)) (L.take k) m :=
 Hy_of n1 n2 (fun c h => hc c (List.mem_of_mem_take h)) (by rw [List.length_take]; omega) hs
theorem bis_loop {N : Int} (n1 : 1 ≤ N) (n2 : N ≤ 1000) {L : List Cm} (hc : ∀ c ∈ L, c.ok N) (hl : L.length ≤ 40) {m : Nat} (hs : scaleL L = some m) {a0 : T_audit_claims} {a1 : T_audit_scale} {x0 : Int → List PV → Int → Int → Int → Bool → Prop} :
   ∀ (d good bad n : Nat), bad - good ≤ d → d < n → good < bad → bad ≤ L.length + 1 → (good = 0 ∨ Feas N (L.take good)) → (bad = L.length + 1 ∨ ¬ Feas N (L.take bad)) →
     L_audit_First_0_0 a0 a1 w_audit_pointsOf w_audit_heights x0 n N (cms L) (m : Int) (good : Int) (bad : Int) = x0 N (cms L) (m : Int) (firstL N L : Int) ((firstL N L + 1 : Nat) : Int) false := by
 intro d
 induction d with
 | zero => intro good bad n h1 h2 h3; omega
 | succ d ih =>
   intro good bad n h1 h2 h3 h4 h5 h6
   obtain ⟨n, rfl⟩ : ∃ m, n = m + 1 := ⟨n - 1, by omega⟩
   rw [L_audit_First_0_0]
   dsimp only [lt]
   have e1 : IntKind.i64.wrap ((bad : Int) - (good : Int)) = ((bad - good : Nat) : Int) := by
     rw [show (bad : Int) - (good : Int) = ((bad - good : Nat) : Int) by omega, wibN (by omega)]
   rw [e1]
   by_cases hg : bad - good > 1
   · have e2 : IntKind.i64.wrap (Int.tdiv (IntKind.i64.wrap ((good : Int) + (bad : Int))) (2 : Int)) = (((good + bad) / 2 : Nat) : Int) := by
       rw [← Int.natCast_add, wibN (by omega), show Int.tdiv ((good + bad : Nat) : Int) (2 : Int) = (((good + bad) / 2 : Nat) : Int) from rfl, wibN (by omega)]
     have hk1 : (good + bad) / 2 < bad := by omega
     have hk2 : good < (good + bad) / 2 := by omega
     obtain ⟨m', hm', hsc⟩ := scale_take hs ((good + bad) / 2)
     have H := Hy_take n1 n2 hc hl ((good + bad) / 2) hsc
     have hF := hts_feas H
     rw [cbT (by omega), jn_def, e2, cms_len, asT (by omega), asT (by omega), Int.toNat_natCast, cms_take, pointsOf_eq n1 n2 (fun c h => hc c (List.mem_of_mem_take h)) (by rw [List.length_take]; omega), asT (by omega), asT (by omega), heights_eq H]
     unfold outHt
     cases e : hts (ptsC N (L.take ((good + bad) / 2))) m (L.take ((good + bad) / 2)) with
     | none =>
       dsimp only
       rw [cbr_true]
       refine ih good ((good + bad) / 2) n (by omega) (by omega) hk2 (by omega) h5 (.inr fun hf => ?_)
       obtain ⟨g, hg2⟩ := hF.2 hf
       rw [e] at hg2; cases hg2
     | some g =>
       dsimp only
       have gl := (hts_i64 H e).1
       have he : (!(ints g).isEmpty) = true := by
         have := H.two
         cases g with
         | nil => simp at gl; omega
         | cons a b => rfl
       rw [he, asr_true, cbr_false]
       exact ih ((good + bad) / 2) bad n (by omega) (by omega) hk1 h4 (.inr (hF.1 ⟨g, e⟩)) h6
   · have hb : bad = good + 1 := by omega
     subst hb
     have hgf : good = firstL N L := first_unique (by omega) h5 (by
       rcases h6 with h6 | h6
       · exact .inl (by omega)
       · exact .inr h6)
     rw [cbF (by omega), ← hgf]
noncomputable def firstR (N : Int) (log : List Qy) : Int × Int :=
 if claimsE N log = 0 then (match scaleL (log.map cmOf) with
   | none => (0, 16)
   | some _ => ((firstL N (log.map cmOf) : Int), 0))
 else (0, claimsE N log)
theorem First_eq {N : Int} {log : List Qy} (h64 : ∀ q ∈ log, q.q64) (hl : log.length < 1000) (K : Int → Int → Prop) : w_audit_First N (logs log) K = K (firstR N log).1 (firstR N log).2 := by
 refine det_audit_First _ _ _ _ (fun K k => ?_) K
 unfold w_audit_First wv_audit_First
 unfold firstR at k
 rw [claims_eq h64 hl]
 by_cases h1 : claimsE N log = 0
 case neg =>
   rw [if_neg h1] at k
   rw [cnT h1]; exact k
 rw [if_pos h1] at k
 obtain ⟨n1, n2, n3, n4⟩ := claimsE_zero h1
 have hok := claimsE_ok h1
 rw [cnF h1, if_pos h1, scale_eq hok (by rw [List.length_map]; omega)]
 unfold outSc
 cases e : scaleL (log.map cmOf) with
 | none => rw [e] at k; exact k
 | some m =>
   rw [e] at k
   dsimp only [lt] at k ⊢
   rw [nz, cms_len, cast1, wibN (by rw [List.length_map]; omega)]
   refine ⟨(log.map cmOf).length + 2, ?_⟩
   refine (bis_loop n1 n2 hok (by rw [List.length_map]; exact n3) e ((log.map cmOf).length + 1) 0 ((log.map cmOf).length + 1) ((log.map cmOf).length + 2) (by omega) (by omega) (by omega) (Nat.le_refl _) (.inl rfl) (.inl rfl)).mpr ?_
   exact k
theorem Same5_loop {a : List Rw} (hl : a.length < 1000000) {x0 : List PV → List PV → Int → Bool → Prop} {x1 : Bool → Prop} :
   ∀ (r i n : Nat), i + r = a.length → r < n → L_r05_SameList_0_0 x0 x1 n (rws a) (rws a) (i : Int) = x0 (rws a) (rws a) (a.length : Int) false := by
 intro r
 induction r with
 | zero =>
   intro i n hi hn
   obtain ⟨n, rfl⟩ : ∃ m, n = m + 1 := ⟨n - 1, by omega⟩
   rw [L_r05_SameList_0_0, rws_len, cbF (by omega), show i = a.length by omega]
 | succ r ih =>
   intro i n hi hn
   obtain ⟨n, rfl⟩ : ∃ m, n = m + 1 := ⟨n - 1, by omega⟩
   have hil : i < a.length := by omega
   rw [L_r05_SameList_0_0, rws_len, cbT (by omega)]
   dsimp only [lt]
   rw [asT (by omega), asT (by omega), Int.toNat_natCast, rws_at hil, asRw, asT (by omega), asT (by omega), asRw]
   have e : ((intOfV (cellAt (encRw (a.getD i default)) 0) == intOfV (cellAt (encRw (a.getD i default)) 0)) && ((intOfV (cellAt (encRw (a.getD i default)) 1) == intOfV (cellAt (encRw (a.getD i default)) 1)) && true)) = true := by simp
   rw [e, Bool.not_true, cbr_false, cast1, wibN (by omega), ih (i + 1) n (by omega) (by omega)]
theorem SameList_self {a : List Rw} (hl : a.length < 1000000) (K : Bool → Prop) : w_r05_SameList (rws a) (rws a) K = K true := by
 refine det_r05_SameList _ _ _ (fun K k => ?_) K
 unfold w_r05_SameList wv_r05_SameList
 rw [cnF rfl]
 refine ⟨a.length + 1, ?_⟩
 exact (Same5_loop hl a.length 0 (a.length + 1) (by omega) (by omega)).mpr k
theorem rts_rws (l : List Rat) : rts l = rws (l.map fun q => (q.num, (q.den : Int))) := by
 unfold rts rws
 rw [List.map_map]
 rfl
theorem SameList_rts {l : List Rat} (hl : l.length < 1000000) (K : Bool → Prop) : w_r05_SameList (rts l) (rts l) K = K true := by
 rw [rts_rws, SameList_self (by rw [List.length_map]; exact hl)]
theorem Same5_self {l : List Rat} {a : List Rw} (hl : l.length < 1000000) (ha : a.length < 1000000) (K : Bool → Prop) : w_r05_Same (rts l) (rws a) (rts l) (rws a) K = K true := by
 unfold w_r05_Same wv_r05_Same
 dsimp only [Go.Pf.jn]
 rw [SameList_rts hl, cbr_true, SameList_self ha]
def outPt (N : Int) (log : List Qy) (K : List PV → Int → Prop) : Prop := if claimsE N log = 0 then K (rts (ptsC N (log.map cmOf))) 0 else K [] (claimsE N log)
theorem Points_eq {N : Int} {log : List Qy} (h64 : ∀ q ∈ log, q.q64) (hl : log.length < 1000) (K : List PV → Int → Prop) : w_audit_Points N (logs log) K = outPt N log K := by
 unfold w_audit_Points wv_audit_Points outPt
 rw [claims_eq h64 hl]
 by_cases h1 : claimsE N log = 0
 · obtain ⟨n1, n2, n3, n4⟩ := claimsE_zero h1
   rw [cnF h1, if_pos h1, if_pos h1, pointsOf_eq n1 n2 (claimsE_ok h1) (by rw [List.length_map]; omega)]
 · rw [cnT h1, if_neg h1]
end Go.Pf.Vc
namespace Go.Pf.Vc
open Go Go.Pf Go.Sort
def exA : List Qy := [⟨0, 1, 0, 1, 1, 1, 1, 1⟩, ⟨0, 2, 0, 1, 3, 1, 2, 1⟩]
def exB : List Qy := [⟨0, 1, 0, 1, 1, 1, 1, 1⟩, ⟨0, 2, 0, 1, 1, 1, 2, 1⟩]
def exC : List Qy := [⟨0, 2, 0, 1, 1, 1, 2, 1⟩]
theorem i64_lit {a : Int} (h1 : 0 ≤ a) (h2 : a ≤ 5) : I64 a := ⟨by omega, by omega⟩
theorem ex64 {l : List Qy} (h : l.all (fun q => decide (0 ≤ q.an ∧ q.an ≤ 5 ∧ 0 ≤ q.ad ∧ q.ad ≤ 5 ∧ 0 ≤ q.bn ∧ q.bn ≤ 5 ∧ 0 ≤ q.bd ∧ q.bd ≤ 5 ∧ 0 ≤ q.cn ∧ q.cn ≤ 5 ∧ 0 ≤ q.cd ∧ q.cd ≤ 5)) = true) : ∀ q ∈ l, q.q64 := by
 intro q hq
 have := List.all_eq_true.1 h q hq
 simp only [decide_eq_true_eq] at this
 obtain ⟨h1, h2, h3, h4, h5, h6, h7, h8, h9, h10, h11, h12⟩ := this
 exact ⟨i64_lit h1 h2, i64_lit h3 h4, i64_lit h5 h6, i64_lit h7 h8, i64_lit h9 h10, i64_lit h11 h12⟩
theorem ex_claims : claimsE 2 exA = 0 ∧ claimsE 2 exB = 0 ∧ claimsE 2 exC = 0 := by decide +kernel
theorem ex_scale : scaleL (exA.map cmOf) = some 1 ∧ scaleL (exB.map cmOf) = some 1 ∧ scaleL (exC.map cmOf) = some 1 ∧ scaleL ((exB.take 1).map cmOf) = some 1 := by decide +kernel
theorem ex_ptsA : ptsC 2 (exA.map cmOf) = [0, 1, 2] := by decide +kernel
theorem ex_ptsC : ptsC 2 (exC.map cmOf) = [0, 2] := by decide +kernel
theorem ex_htA : hts (ptsC 2 (exA.map cmOf)) 1 (exA.map cmOf) = some [0, 4, 12] := by decide +kernel
theorem ex_htB : hts (ptsC 2 (exB.map cmOf)) 1 (exB.map cmOf) = none := by decide +kernel
theorem ex_htB1 : (hts (ptsC 2 ((exB.map cmOf).take 1)) 1 ((exB.map cmOf).take 1)).isSome = true := by decide +kernel
theorem ex_htC : hts (ptsC 2 (exC.map cmOf)) 1 (exC.map cmOf) = some [0, 3] := by decide +kernel
theorem ex_FA : gF 1 [0, 4, 12] = [(0, 1), (1, 1), (3, 1)] := by decide +kernel
theorem ex_FC : gF 1 [0, 3] = [(0, 1), (1, 1)] := by decide +kernel
theorem ex_first : firstL 2 (exB.map cmOf) = 1 := by
 have hc : ∀ c ∈ exB.map cmOf, c.ok 2 := claimsE_ok ex_claims.2.1
 symm
 refine first_unique (by decide) (.inr ?_) (.inr ?_)
 · have hs := scaleL_some ex_scale.2.2.2
   have H := Hy_take (N := 2) (by decide) (by decide) hc (by decide) 1 (m := 1) (by rw [← List.map_take]; exact hs)
   refine (hts_feas H).1 ?_
   exact Option.isSome_iff_exists.1 ex_htB1
 · have hs := scaleL_some ex_scale.2.1
   have H := Hy_of (N := 2) (by decide) (by decide) hc (by decide) hs
   intro hf
   obtain ⟨g, hg⟩ := (hts_feas H).2 (by
     have e : (exB.map cmOf).take (1 + 1) = exB.map cmOf := rfl
     rw [e] at hf
     exact hf)
   rw [ex_htB] at hg
   cases hg
theorem outGs_none {N : Int} {log : List Qy} (h : claimsE N log = 0) {m : Nat} (e : scaleL (log.map cmOf) = some m) (e2 : hts (ptsC N (log.map cmOf)) m (log.map cmOf) = none) (K : List PV → List PV → Int → Prop) : outGs N log K = K [] [] 6 := by
 unfold outGs; rw [if_pos h, e]; dsimp only; rw [e2]
theorem outGs_some {N : Int} {log : List Qy} (h : claimsE N log = 0) {m : Nat} (e : scaleL (log.map cmOf) = some m) {g : List Int} (e2 : hts (ptsC N (log.map cmOf)) m (log.map cmOf) = some g) (K : List PV → List PV → Int → Prop) : outGs N log K = K (rts (ptsC N (log.map cmOf))) (rws (gF m g)) 0 := by
 unfold outGs; rw [if_pos h, e]; dsimp only; rw [e2]
theorem firstR_some {N : Int} {log : List Qy} (h : claimsE N log = 0) {m : Nat} (e : scaleL (log.map cmOf) = some m) : firstR N log = ((firstL N (log.map cmOf) : Int), 0) := by
 unfold firstR; rw [if_pos h, e]
theorem lv_value (a b v : Int) (K : Int → Int → Int → Int → Int → Int → Int → Int → Prop) : w_l05_value a b v K = K 0 1 a 1 b 1 v 1 := rfl
theorem lv_mark (a b v : Int) (K : Int → Int → Int → Int → Int → Int → Int → Int → Prop) : w_l05_mark a b v K = K 0 2 a 1 b 1 v 1 := rfl
theorem lv_of (a : Int) (K : Int → Int → Prop) : w_l05_of a K = K a 1 := rfl
theorem litA : ([(.agg [(.int .i64 0), (.int .u8 1), (.int .i64 0), (.int .i64 1), (.int .i64 1), (.int .i64 1), (.int .i64 1), (.int .i64 1)]), (.agg [(.int .i64 0), (.int .u8 2), (.int .i64 0), (.int .i64 1), (.int .i64 3), (.int .i64 1), (.int .i64 2), (.int .i64 1)])] : List PV) = logs exA := rfl
theorem litB : ([(.agg [(.int .i64 0), (.int .u8 1), (.int .i64 0), (.int .i64 1), (.int .i64 1), (.int .i64 1), (.int .i64 1), (.int .i64 1)]), (.agg [(.int .i64 0), (.int .u8 2), (.int .i64 0), (.int .i64 1), (.int .i64 1), (.int .i64 1), (.int .i64 2), (.int .i64 1)])] : List PV) = logs exB := rfl
theorem litC : ([(.agg [(.int .i64 0), (.int .u8 2), (.int .i64 0), (.int .i64 1), (.int .i64 1), (.int .i64 1), (.int .i64 2), (.int .i64 1)])] : List PV) = logs exC := rfl
theorem lit1 : ([(.agg [(.int .i64 0), (.int .i64 1)]), (.agg [(.int .i64 1), (.int .i64 1)]), (.agg [(.int .i64 2), (.int .i64 1)])] : List PV) = rts [0, 1, 2] := rfl
theorem lit2 : ([(.agg [(.int .i64 0), (.int .i64 1)]), (.agg [(.int .i64 1), (.int .i64 1)]), (.agg [(.int .i64 3), (.int .i64 1)])] : List PV) = rws [(0, 1), (1, 1), (3, 1)] := rfl
theorem lit3 : ([(.agg [(.int .i64 0), (.int .i64 1)]), (.agg [(.int .i64 2), (.int .i64 1)])] : List PV) = rts [0, 2] := rfl
theorem lit4 : ([(.agg [(.int .i64 0), (.int .i64 1)]), (.agg [(.int .i64 1), (.int .i64 1)])] : List PV) = rws [(0, 1), (1, 1)] := rfl
theorem alive5_eq (K : Bool → Prop) : w_l05_alive K = K true := by
 unfold w_l05_alive wv_l05_alive
 simp only [lv_value, lv_mark, lv_of]
 rw [litA, litB, litC, lit1, lit2, lit3, lit4]
 rw [Guess_eq (ex64 (l := exA) (by decide)) (by decide), outGs_some ex_claims.1 ex_scale.1 ex_htA]
 rw [Guess_eq (ex64 (l := exB) (by decide)) (by decide), outGs_none ex_claims.2.1 ex_scale.2.1 ex_htB]
 rw [First_eq (ex64 (l := exB) (by decide)) (by decide), firstR_some ex_claims.2.1 ex_scale.2.1, ex_first]
 rw [Guess_eq (ex64 (l := exC) (by decide)) (by decide), outGs_some ex_claims.2.2 ex_scale.2.2.1 ex_htC]
 rw [ex_ptsA, ex_ptsC, ex_FA, ex_FC, jn_def, ceT rfl, Same5_self (by decide) (by decide), cbr_true, ceT rfl, ceT rfl, show (((((1 : Nat) : Int), (0 : Int)).fst == (1 : Int))) = true from rfl, cbr_true, ceT rfl, Same5_self (by decide) (by decide)]
theorem valid5_eq {N : Int} {log : List Qy} (h64 : ∀ q ∈ log, q.q64) (K : Bool → Prop) : w_l05_valid N (logs log) K = K (!greatL log && decide (claimsE N log = 0)) := by
 unfold w_l05_valid wv_l05_valid
 dsimp only [Go.Pf.jn]
 rw [Great5_eq]
 cases h1 : greatL log with
 | true => rfl
 | false =>
   have hl : log.length < 1000 := by
     unfold greatL at h1
     simp only [Bool.or_eq_false_iff, Bool.and_eq_false_iff, decide_eq_false_iff_not] at h1
     omega
   rw [Bool.not_false, cbr_true, rCheck5_eq h64 hl, Bool.true_and]
   congr 1
theorem valid5 {N : Int} {log : List Qy} (h : (!greatL log && decide (claimsE N log = 0)) = true) : log.length ≤ 14 ∧ claimsE N log = 0 := by
 simp only [Bool.and_eq_true, Bool.not_eq_true', decide_eq_true_eq] at h
 obtain ⟨h1, h2⟩ := h
 obtain ⟨_, _, h3, _⟩ := claimsE_zero h2
 refine ⟨?_, h2⟩
 unfold greatL at h1
 simp only [Bool.or_eq_false_iff, Bool.and_eq_false_iff, decide_eq_false_iff_not] at h1
 omega
end Go.Pf.Vc
namespace Go.Pf.Vc
open Go Go.Pf Go.Sort
theorem smallF {x d : Int} (h0 : 0 ≤ x) (h1 : x ≤ 1000000000000000000) (d0 : 1 ≤ d) (d1 : d ≤ 1000000000000000000) : small ((x : Rat) / (d : Rat)) := by
 have hd : (d : Rat) ≠ 0 := by
   have : (0 : Rat) < (d : Rat) := Rat.intCast_pos.2 (by omega)
   grind
 generalize hq : (x : Rat) / (d : Rat) = q
 have e1 : (q.num : Rat) * (d : Rat) = (x : Rat) * (q.den : Rat) := by
   have h2 : (q.den : Rat) ≠ 0 := by
     have : (0 : Rat) < (q.den : Rat) := Rat.natCast_pos.2 q.den_pos
     grind
   have h3 : q = (q.num : Rat) / (q.den : Rat) := by rw [← Rat.mkRat_eq_div, Rat.mkRat_self]
   have h4 : q * (q.den : Rat) = (q.num : Rat) := by
     have : (q.num : Rat) / (q.den : Rat) * (q.den : Rat) = (q.num : Rat) := Rat.div_mul_cancel h2
     rw [← h3] at this
     exact this
   have h5 : q * (d : Rat) = (x : Rat) := by rw [← hq]; exact Rat.div_mul_cancel hd
   grind
 have e2 : q.num * d = x * (q.den : Int) := by
   rw [show (q.den : Rat) = (((q.den : Nat) : Int) : Rat) from (Rat.intCast_natCast _).symm, ← Rat.intCast_mul, ← Rat.intCast_mul] at e1
   exact Rat.intCast_inj.1 e1
 have hp := q.den_pos
 have n0 : 0 ≤ q.num := by
   refine Int.not_lt.1 fun h => ?_
   have a1 : q.num * d < 0 := Int.mul_neg_of_neg_of_pos h (by omega)
   have a2 : 0 ≤ x * (q.den : Int) := Int.mul_nonneg h0 (by omega)
   omega
 have hdv : q.den ∣ d.natAbs := by
   have hc : Nat.Coprime q.den q.num.natAbs := q.reduced.symm
   refine hc.dvd_of_dvd_mul_left (m := q.num.natAbs) ?_
   have : (q.num * d).natAbs = (x * (q.den : Int)).natAbs := by rw [e2]
   rw [Int.natAbs_mul, Int.natAbs_mul, Int.natAbs_natCast] at this
   rw [this]
   exact Nat.dvd_mul_left ..
 obtain ⟨t, ht⟩ := hdv
 have hd2 : d = (q.den : Int) * (t : Int) := by
   rw [← Int.natCast_mul, ← ht]; omega
 have t1 : 1 ≤ t := by
   rcases Nat.eq_zero_or_pos t with h | h
   · rw [h] at hd2; omega
   · exact h
 have e3 : q.num * (t : Int) = x := by
   have : (q.num * (t : Int)) * (q.den : Int) = x * (q.den : Int) := by rw [← e2, hd2, Int.mul_assoc, Int.mul_comm (t : Int)]
   exact Int.eq_of_mul_eq_mul_right (by omega) this
 have e4 : q.num ≤ q.num * (t : Int) := by
   have := Int.mul_le_mul_of_nonneg_left (show (1 : Int) ≤ (t : Int) by omega) n0
   omega
 have e5 : (q.den : Int) ≤ (q.den : Int) * (t : Int) := by
   have := Int.mul_le_mul_of_nonneg_left (show (1 : Int) ≤ (t : Int) by omega) (show (0 : Int) ≤ (q.den : Int) by omega)
   omega
 exact ⟨by omega, by omega, by omega⟩
def rwOf (l : List Rat) : List Rw := l.map fun q => (q.num, (q.den : Int))
theorem incr_last {l : List Rat} (h : incrR l) (hl : 1 ≤ l.length) {x : Rat} (hx : x ∈ l) (ht : ∀ y ∈ l, y ≤ x) : l.getD (l.length - 1) 0 = x := by
 have hi := idx_lt hx
 have hm : l.getD (l.length - 1) 0 ∈ l := getD_ratMem (by omega)
 have h1 := ht _ hm
 by_cases e : l.idxOf x = l.length - 1
 · rw [← e, getD_idx hx]
 · have h2 := (incr_lt h hi (show l.length - 1 < l.length by omega)).2 (by omega)
   rw [getD_idx hx] at h2
   exact absurd h2 (Rat.not_lt.2 h1)
theorem ptsC_last {N : Int} (h1 : 1 ≤ N) {L : List Cm} (hc : ∀ c ∈ L, c.ok N) : (ptsC N L).getD ((ptsC N L).length - 1) 0 = (N : Rat) := by
 refine incr_last (ptsC_incr h1 L) (by have := ptsC_two h1 L; omega) (ptsC_mem.2 (.inr (.inl rfl))) fun y hy => ?_
 have hN : (0 : Rat) ≤ (N : Rat) := Rat.intCast_nonneg.2 (by omega)
 rcases ptsC_mem.1 hy with rfl | rfl | ⟨c, hc2, rfl | rfl⟩
 · exact hN
 · exact Rat.le_refl
 · have h := hc c hc2; have a := h.ft; have b := h.tn; grind
 · exact (hc c hc2).tn
def gfs (m : Nat) (g : List Int) : List Rat := g.map (dv m (g.length + 1))
theorem gfs_at {m : Nat} {g : List Int} {i : Nat} (h : i < g.length) : (gfs m g).getD i 0 = dv m (g.length + 1) (hAt g i) := by
 unfold gfs hAt
 rw [List.getD_eq_getElem?_getD, List.getD_eq_getElem?_getD, List.getElem?_map, List.getElem?_eq_getElem h]
 rfl
theorem dv_div (m s : Nat) (x : Int) : dv m s x = (x : Rat) / (((m * s : Nat) : Int) : Rat) := by
 unfold dv
 rw [Rat.intCast_natCast, Rat.natCast_mul]
theorem gF_gfs {m : Nat} {g : List Int} (h : ∀ z ∈ gfs m g, small z) : gF m g = rwOf (gfs m g) := by
 unfold gF rwOf gfs
 rw [List.map_map]
 refine List.map_congr_left fun x hx => ?_
 have hs : small (dv m (g.length + 1) x) := h _ (List.mem_map_of_mem hx)
 unfold mkF
 show _ = ((dv m (g.length + 1) x).num, ((dv m (g.length + 1) x).den : Int))
 rw [dv_div] at hs ⊢
 rw [if_pos hs]
theorem guess_is {N : Int} (n1 : 1 ≤ N) (n2 : N ≤ 1000) {L : List Cm} (hc : ∀ c ∈ L, c.ok N) (hl : L.length ≤ 14) {m : Nat} (hs : Sc L m) {g : List Int} (e : hts (ptsC N L) m L = some g) :
   Gs N (ptsC N L) (gfs m g) ∧ ∀ i, fitsE (ptsC N L) (gfs m g) i L = (((i + L.length : Nat) : Int), 0) := by
 have H := Hy_of n1 n2 hc (by omega) hs
 have hp := ptsC_len N L
 have h2 := H.two
 have hm := hs.one
 have hm2 := hs.top
 have hT : 100000000000000 * ((57 * ((ptsC N L).length + 1) : Nat) : Int) ≤ 1000000000000000000 := by
   rw [Int.natCast_mul]; omega
 obtain ⟨gl, gb⟩ := hts_bnd H e (c := 57) (by omega) hT
 have hms : m * (g.length + 1) ≤ 1000000000 * 1000 := Nat.mul_le_mul hm2 (by omega)
 have hms1 : 1 ≤ m * (g.length + 1) := Nat.mul_pos (by omega) (by omega)
 have sm : ∀ x : Int, 0 ≤ x → x ≤ 1000000000000000000 → small (dv m (g.length + 1) x) := fun x h0 h1 => by
   rw [dv_div]
   exact smallF h0 h1 (by omega) (by omega)
 have fl : (gfs m g).length = (ptsC N L).length := by unfold gfs; rw [List.length_map, gl]
 obtain ⟨st, hst, hsol, h0, _⟩ := hts_sol H e
 have h01 := stF_01 (fun c hc => (H.ok c hc).2.2) (zeros_len _) (fun i => by rw [zeros_at]; omega) hst
 obtain ⟨hs1, hz⟩ := stF_is (fun c hc => (H.ok c hc).2.2) (zeros_len _) hst
 have hcon : ∀ q ∈ conF st 1 ((ptsC N L).length - 1), q ∈ hR (ptsC N L) m L st := fun q hq => List.mem_append_left _ hq
 have hmono := sol_mono hsol h01 hcon
 have hsf : ∀ z ∈ gfs m g, small z := fun z hz => by
   obtain ⟨i, hi, e⟩ := mem_at (d := (0 : Rat)) hz
   rw [fl] at hi
   rw [← e, gfs_at (by omega)]
   exact sm _ (gb i).1 (gb i).2
 have G : Gs N (ptsC N L) (gfs m g) := {
   len := fl
   two := h2
   top := by omega
   sp := H.sm
   sf := hsf
   inc := H.inc
   mono := fun i h1 hi => by
     rw [gfs_at (by omega), gfs_at (by omega)]
     exact dv_le hm (by omega) (hmono _ _ (by omega) hi)
   p0 := H.p0
   f0 := by
     rw [gfs_at (by omega), h0]
     unfold dv
     rw [Rat.div_def, show ((0 : Int) : Rat) = 0 from rfl, Rat.zero_mul]
   pn := ptsC_last n1 hc }
 refine ⟨G, ?_⟩
 have key : ∀ c ∈ L, small (fitS (ptsC N L) (gfs m g) c) ∧ fitB (ptsC N L) (gfs m g) c = true := by
   intro c hcL
   obtain ⟨c1, c2, c3⟩ := H.ok c hcL
   have i2 := idx_lt c2
   have i3 := idx_lt c3
   have eS : fitS (ptsC N L) (gfs m g) c = (gfs m g).getD ((ptsC N L).idxOf c.t) 0 := by
     unfold fitS
     rw [gfs_at (by omega), gfs_at (by omega), sol_eq hsol hcL, gl, dv_add hm (by omega) (hs.dvd c hcL)]
   refine ⟨by rw [eS]; exact small_at hsf (by omega), ?_⟩
   unfold fitB
   rw [decide_eq_true eS, Bool.true_and]
   cases hcm : c.m with
   | false => rfl
   | true =>
     rw [Bool.not_true, Bool.false_or]
     by_cases hv : c.v = 0
     · rw [if_pos hv, hz c hcL hcm hv, decide_eq_true rfl]
     · have hs3 : hAt st ((ptsC N L).idxOf c.t) = 1 := (hs1 _).2 (.inr ⟨c, hcL, hcm, hv, rfl⟩)
       have ipos : 0 < (ptsC N L).idxOf c.t := by
         refine Nat.pos_of_ne_zero fun h => ?_
         have hN0 := hsol.pos ((ptsC N L).idxOf c.f)
         have hq := sol_eq hsol hcL
         rw [h, h0] at hq
         have hvp := (vC_bnd H hcL).2.2.2.1
         have hvz : vC m ((ptsC N L).length + 1) c = 0 := by omega
         unfold vC at hvz
         have hn : c.v.num ≠ 0 := fun e => hv (Rat.num_eq_zero.1 e)
         have hd : 0 < m / c.v.den := Nat.div_pos (Nat.le_of_dvd (by omega) (hs.dvd c hcL)) c.v.den_pos
         rcases Int.mul_eq_zero.1 hvz with h5 | h5
         · rcases Int.mul_eq_zero.1 h5 with h6 | h6
           · exact hn h6
           · omega
         · omega
       have h3 := con_rule hsol hcon ipos i3
       rw [if_neg hv, gfs_at (by omega), gfs_at (by omega), decide_eq_true_eq]
       exact dv_lt hm (by omega) (by omega)
 have gen : ∀ (M : List Cm), (∀ c ∈ M, small (fitS (ptsC N L) (gfs m g) c) ∧ fitB (ptsC N L) (gfs m g) c = true) → ∀ i, fitsE (ptsC N L) (gfs m g) i M = (((i + M.length : Nat) : Int), 0) := by
   intro M
   induction M with
   | nil => intro _ i; rfl
   | cons c r ih =>
     intro h i
     obtain ⟨h1, h2⟩ := h c List.mem_cons_self
     unfold fitsE
     rw [if_pos h1, if_pos h2, ih (fun d hd => h d (List.mem_cons_of_mem _ hd)) (i + 1), List.length_cons]
     rw [show i + 1 + r.length = i + (r.length + 1) by omega]
 exact gen L key
end Go.Pf.Vc
namespace Go.Pf.Vc
open Go Go.Pf Go.Sort
theorem outPt_ok {N : Int} {log : List Qy} (h : claimsE N log = 0) (K : List PV → Int → Prop) : outPt N log K = K (rts (ptsC N (log.map cmOf))) 0 := if_pos h
end Go.Pf.Vc
namespace Go.Pf.Vc
open Go Go.Pf Go.Sort
def okc (ps : List Rat) (m : Nat) (h : List Int) (c : Cm) : Prop :=
 hAt h (ps.idxOf c.t) - hAt h (ps.idxOf c.f) = vC m (ps.length + 1) c ∧ (c.m = true → (c.v = 0 → ps.idxOf c.f = ps.idxOf c.t) ∧ (c.v ≠ 0 → ps.idxOf c.t ≠ 0 ∧ hAt h (ps.idxOf c.t) ≠ hAt h (ps.idxOf c.t - 1)))
def okAll (ps : List Rat) (m : Nat) (h : List Int) (L : List Cm) : Prop := ∀ c ∈ L, okc ps m h c
def okh (h : List Int) (j : Nat) : Prop := ¬ (hAt h j < hAt h (j - 1)) ∧ ¬ (hAt h j > 10000000000000000)
open Classical in
theorem ob1_loop {h : List Int} (hl : h.length < 1000000) {a0 : T_r05_At} {a1 : T_r05_To} {a2 : T_r05_Told} {l0 l1 : List PV} {i3 : Int} {x0 : List PV → List PV → List PV → Int → Int → Bool → Prop} {x1 : Bool → Prop} :
   ∀ (r i n : Nat), 1 ≤ i → i + r = h.length → r < n → L_l05_obeyed_0_0 a0 a1 a2 x0 x1 n l0 l1 (ints h) i3 (i : Int) = if ∀ j, i ≤ j → j < h.length → okh h j then x0 l0 l1 (ints h) i3 (h.length : Int) false else x1 false := by
 intro r
 induction r with
 | zero =>
   intro i n h1 hi hn
   obtain ⟨n, rfl⟩ : ∃ m, n = m + 1 := ⟨n - 1, by omega⟩
   rw [L_l05_obeyed_0_0, ints_len, cbF (by omega), if_pos (fun j a b => by omega), show i = h.length by omega]
 | succ r ih =>
   intro i n h1 hi hn
   obtain ⟨n, rfl⟩ : ∃ m, n = m + 1 := ⟨n - 1, by omega⟩
   have hil : i < h.length := by omega
   rw [L_l05_obeyed_0_0, ints_len, cbT (by omega)]
   dsimp only [lt, Go.Pf.jn]
   rw [asT (by omega), asT (by omega), Int.toNat_natCast, ints_hAt hil, asI, show (i : Int) - 1 = ((i - 1 : Nat) : Int) by omega, wibN (by omega), asT (by omega), asT (by omega), Int.toNat_natCast, ints_hAt (by omega), asI, ivI, ivI]
   by_cases c1 : hAt h i < hAt h (i - 1)
   · rw [cbT c1, cbr_true, if_neg (fun k => (k i (Nat.le_refl _) hil).1 c1)]
   · rw [cbF c1, asT (by omega), asT (by omega), asI]
     by_cases c2 : hAt h i > 10000000000000000
     · rw [decide_eq_true c2, cbr_true, if_neg (fun k => (k i (Nat.le_refl _) hil).2 c2)]
     · rw [decide_eq_false c2, cbr_false, cast1, wibN (by omega), ih (i + 1) n (by omega) (by omega) (by omega)]
       by_cases k : ∀ j, i + 1 ≤ j → j < h.length → okh h j
       · rw [if_pos k, if_pos (fun j a b => by
           by_cases e : j = i
           · rw [e]; exact ⟨c1, c2⟩
           · exact k j (by omega) b)]
       · rw [if_neg k, if_neg (fun q => k fun j a b => q j (by omega) b)]
open Classical in
theorem ob2_loop {N : Int} {ps : List Rat} {log : List Qy} {m : Nat} (H : Hy N ps (log.map cmOf) m) (hok : ∀ q ∈ log, qOk N q = true) {h : List Int} (hl : h.length = ps.length) (hb : ∀ i, 0 ≤ hAt h i ∧ hAt h i ≤ 10000000000000000) {x0 : List PV → List PV → List PV → Int → Int → Bool → Prop} {x1 : Bool → Prop} :
   ∀ (r i n : Nat), i + r = log.length → r < n → L_l05_obeyed_1_0 w_r05_At w_r05_To w_r05_Told x0 x1 n (rts ps) (logs log) (ints h) (m : Int) (i : Int) =
     if okAll ps m h ((log.map cmOf).drop i) then x0 (rts ps) (logs log) (ints h) (m : Int) (log.length : Int) false else x1 false := by
 have ht := H.top
 have hlen := H.len
 rw [List.length_map] at hlen
 intro r
 induction r with
 | zero =>
   intro i n hi hn
   obtain ⟨n, rfl⟩ : ∃ m, n = m + 1 := ⟨n - 1, by omega⟩
   rw [L_l05_obeyed_1_0, logs_len, cbF (by omega), List.drop_eq_nil_of_le (by rw [List.length_map]; omega), if_pos (show okAll ps m h [] from fun c hc => by cases hc), show i = log.length by omega]
 | succ r ih =>
   intro i n hi hn
   obtain ⟨n, rfl⟩ : ∃ m, n = m + 1 := ⟨n - 1, by omega⟩
   have hil : i < log.length := by omega
   have hd : (log.map cmOf).drop i = cmOf (log.getD i default) :: (log.map cmOf).drop (i + 1) := by
     rw [← List.map_drop, drop_cons default hil, List.map_cons, List.map_drop]
   have hm : log.getD i default ∈ log := by
     rw [List.getD_eq_getElem?_getD, List.getElem?_eq_getElem hil]
     exact List.getElem_mem hil
   have hcm : cmOf (log.getD i default) ∈ log.map cmOf := List.mem_map_of_mem hm
   have hq := hok _ hm
   obtain ⟨c1, c2, c3⟩ := H.ok _ hcm
   have hw := vC_wrap H hcm
   have hv0 : 0 ≤ (cmOf (log.getD i default)).v.num := Rat.num_nonneg.2 c1.v0
   have hkm : (cmOf (log.getD i default)).m = decide ((log.getD i default).kind = 2) := by
     obtain ⟨_, _, _, hk⟩ := qOk_rv hq
     unfold cmOf
     rcases hk with k | k
     · rw [if_pos k, k]; rfl
     · rw [if_neg (by omega), k]; rfl
   have hrec : ∀ J : Prop, J = (if okAll ps m h ((log.map cmOf).drop (i + 1)) then x0 (rts ps) (logs log) (ints h) (m : Int) (log.length : Int) false else x1 false) → okc ps m h (cmOf (log.getD i default)) → J = if okAll ps m h ((log.map cmOf).drop i) then x0 (rts ps) (logs log) (ints h) (m : Int) (log.length : Int) false else x1 false := by
     intro J hJ ho
     rw [hJ, hd]
     by_cases k : okAll ps m h ((log.map cmOf).drop (i + 1))
     · have k2 : okAll ps m h (cmOf (log.getD i default) :: (log.map cmOf).drop (i + 1)) := fun c hc => by
         rcases List.mem_cons.1 hc with rfl | hc
         · exact ho
         · exact k c hc
       rw [if_pos k, if_pos k2]
     · have k2 : ¬ okAll ps m h (cmOf (log.getD i default) :: (log.map cmOf).drop (i + 1)) := fun q => k fun c hc => q c (List.mem_cons_of_mem _ hc)
       rw [if_neg k, if_neg k2]
   have hbad : ¬ okc ps m h (cmOf (log.getD i default)) → x1 false = if okAll ps m h ((log.map cmOf).drop i) then x0 (rts ps) (logs log) (ints h) (m : Int) (log.length : Int) false else x1 false := by
     intro ho
     rw [hd, if_neg (fun q => ho (q _ List.mem_cons_self))]
   have hih := ih (i + 1) n (by omega) (by omega)
   obtain ⟨f1, f2⟩ := cmOf_f hq
   rw [L_l05_obeyed_1_0, logs_len, cbT (by omega)]
   dsimp only [lt, Go.Pf.jn]
   rw [asT (by omega), asT (by omega), Int.toNat_natCast, logs_at hil, asQ, encQ0, encQ1, encQ2, encQ3, encQ4, encQ5, encQ6, encQ7, ← f1, ← f2, At_eq (by omega), f1, f2, To_eq hq, At_eq (by omega), Told_eq hq, atR_in c2, atR_in c3]
   generalize log.getD i default = q at *
   have i2 := idx_lt c2
   have i3 := idx_lt c3
   generalize hA : ps.idxOf (cmOf q).f = A at *
   generalize hB : ps.idxOf (cmOf q).t = B at *
   have b1 := hb A
   have b2 := hb B
   have b3 := hb (B - 1)
   rw [cbF (by omega), cbF (by omega), asT (by omega), asT (by rw [ints_len]; omega), Int.toNat_natCast, ints_hAt (by omega), asI, asT (by omega), asT (by rw [ints_len]; omega), Int.toNat_natCast, ints_hAt (by omega), asI, ivI, ivI, wib (n := hAt h B - hAt h A) (by omega) (by omega), asNo (by have := (cmOf q).v.den_pos; omega), rts_len, cast1, wibN (by omega), hw]
   by_cases e1 : hAt h B - hAt h A = vC m (ps.length + 1) (cmOf q)
   case neg =>
     rw [bne_t e1, cbr_true]
     exact hbad (fun ho => by unfold okc at ho; rw [hA, hB] at ho; exact e1 ho.1)
   rw [bne_f e1, cbr_false]
   by_cases k2 : q.kind = 2
   case neg =>
     rw [ceF k2, cbr_false, cast1, wibN (by omega)]
     refine hrec _ hih ⟨by rw [hA, hB]; exact e1, fun hm2 => ?_⟩
     rw [hkm, decide_eq_true_eq] at hm2
     exact absurd hm2 k2
   rw [ceT k2]
   have hm1 : (cmOf q).m = true := by rw [hkm, decide_eq_true k2]
   by_cases hv : (cmOf q).v = 0
   · have hn : (cmOf q).v.num = 0 := Rat.num_eq_zero.2 hv
     rw [ceT hn]
     by_cases hab : A = B
     · rw [cnF (by omega), cbF (by omega), cbr_false, cast1, wibN (by omega)]
       exact hrec _ hih ⟨by rw [hA, hB]; exact e1, fun _ => ⟨fun _ => by rw [hA, hB]; exact hab, fun hv2 => absurd hv hv2⟩⟩
     · rw [cnT (by omega), cbr_true]
       exact hbad (fun ho => by
         have := (ho.2 hm1).1 hv
         rw [hA, hB] at this
         exact hab this)
   · have hn : (cmOf q).v.num ≠ 0 := fun e => hv (Rat.num_eq_zero.1 e)
     rw [ceF hn, cbT (by omega)]
     by_cases hB0 : B = 0
     · rw [ceT (by omega), cbr_true]
       exact hbad (fun ho => by
         have := ((ho.2 hm1).2 hv).1
         rw [hB] at this
         exact this hB0)
     · rw [ceF (by omega), asT (by omega), asT (by rw [ints_len]; omega), asI, show (B : Int) - 1 = ((B - 1 : Nat) : Int) by omega, wibN (by omega), asT (by omega), asT (by rw [ints_len]; omega), Int.toNat_natCast, ints_hAt (by omega), asI, ivI]
       by_cases hh : hAt h B = hAt h (B - 1)
       · rw [ceT hh]
         exact hbad (fun ho => by
           have := ((ho.2 hm1).2 hv).2
           rw [hB] at this
           exact this hh)
       · rw [ceF hh, cast1, wibN (by omega)]
         exact hrec _ hih ⟨by rw [hA, hB]; exact e1, fun _ => ⟨fun hv2 => absurd hv2 hv, fun _ => by rw [hB]; exact ⟨hB0, hh⟩⟩⟩
def Obe (ps : List Rat) (L : List Cm) (m : Nat) (h : List Int) : Prop := h.length = ps.length ∧ hAt h 0 = 0 ∧ (∀ j, 1 ≤ j → j < h.length → okh h j) ∧ ∀ c ∈ L, okc ps m h c
theorem hAt_out {h : List Int} {i : Nat} (hi : h.length ≤ i) : hAt h i = 0 := by
 unfold hAt
 rw [List.getD_eq_getElem?_getD, List.getElem?_eq_none hi]
 rfl
theorem obe_mono {h : List Int} (ho : ∀ j, 1 ≤ j → j < h.length → okh h j) : ∀ i j, i ≤ j → j < h.length → hAt h i ≤ hAt h j := by
 intro i j hij
 induction j with
 | zero => intro _; rw [show i = 0 by omega]; exact Int.le_refl _
 | succ j ih =>
   intro hj
   by_cases e : i = j + 1
   · rw [e]; exact Int.le_refl _
   · have h1 := ih (by omega) (by omega)
     have h2 := (ho (j + 1) (by omega) hj).1
     rw [Nat.add_sub_cancel] at h2
     omega
theorem obe_bnd {h : List Int} (h0 : hAt h 0 = 0) (ho : ∀ j, 1 ≤ j → j < h.length → okh h j) : ∀ i, 0 ≤ hAt h i ∧ hAt h i ≤ 10000000000000000 := by
 intro i
 by_cases hi : i < h.length
 · have h1 := obe_mono ho 0 i (Nat.zero_le _) hi
   by_cases e : i = 0
   · rw [e, h0]; exact ⟨by omega, by omega⟩
   · have h2 := (ho i (by omega) hi).2
     exact ⟨by omega, by omega⟩
 · rw [hAt_out (by omega)]; exact ⟨by omega, by omega⟩
open Classical in
theorem obeyed_of {N : Int} {ps : List Rat} {log : List Qy} {m : Nat} (H : Hy N ps (log.map cmOf) m) (hok : ∀ q ∈ log, qOk N q = true) {h : List Int} (hl : h.length < 1000000) {K : Bool → Prop} (k : K (decide (Obe ps (log.map cmOf) m h))) : w_l05_obeyed (rts ps) (logs log) (ints h) (m : Int) K := by
 have ht := H.top
 have h2 := H.two
 have hno : ¬ Obe ps (log.map cmOf) m h → K false := fun hn => by rw [decide_eq_false hn] at k; exact k
 unfold w_l05_obeyed wv_l05_obeyed
 dsimp only [lt, Go.Pf.jn]
 rw [ints_len, rts_len]
 by_cases e1 : h.length = ps.length
 case neg =>
   rw [cnT (by omega), cbr_true]
   exact hno fun ho => e1 ho.1
 rw [cnF (by omega), ceF (by omega), asT (by omega), ints_hAt (by omega), asI, ivI]
 by_cases e2 : hAt h 0 = 0
 case neg =>
   rw [bne_t e2, cbr_true]
   exact hno fun ho => e2 ho.2.1
 rw [bne_f e2, cbr_false]
 refine ⟨h.length + 1, ?_⟩
 refine (ob1_loop hl (h.length - 1) 1 (h.length + 1) (by omega) (by omega) (by omega)).mpr ?_
 by_cases e3 : ∀ j, 1 ≤ j → j < h.length → okh h j
 case neg =>
   rw [if_neg e3]
   exact hno fun ho => e3 ho.2.2.1
 rw [if_pos e3]
 refine ⟨log.length + 1, ?_⟩
 refine (ob2_loop H hok e1 (obe_bnd e2 e3) log.length 0 (log.length + 1) (by omega) (by omega)).mpr ?_
 rw [List.drop_zero]
 by_cases e4 : okAll ps m h (log.map cmOf)
 case neg =>
   rw [if_neg e4]
   exact hno fun ho => e4 ho.2.2.2
 rw [if_pos e4]
 rw [decide_eq_true (show Obe ps (log.map cmOf) m h from ⟨e1, e2, e3, e4⟩)] at k
 exact k
open Classical in
theorem obeyed_eq {N : Int} {ps : List Rat} {log : List Qy} {m : Nat} (H : Hy N ps (log.map cmOf) m) (hok : ∀ q ∈ log, qOk N q = true) {h : List Int} (hl : h.length < 1000000) (K : Bool → Prop) : w_l05_obeyed (rts ps) (logs log) (ints h) (m : Int) K = K (decide (Obe ps (log.map cmOf) m h)) :=
 det_l05_obeyed _ _ _ _ _ (fun _ k => obeyed_of H hok hl k) K
theorem obe_sol {N : Int} {ps : List Rat} {L : List Cm} {m : Nat} (H : Hy N ps L m) {h : List Int} (ho : Obe ps L m h) : ∃ g, hts ps m L = some g ∧ leH g h := by
 obtain ⟨o1, o2, o3, o4⟩ := ho
 unfold hts
 cases hs : stF ps L (zeros ps.length) with
 | none =>
   obtain ⟨c, hc, h1, h2, h3⟩ := stF_none hs
   have h4 := ((o4 c hc).2 h1).1 h2
   refine absurd ?_ h3
   rw [← getD_idx (H.ok c hc).2.1, h4, getD_idx (H.ok c hc).2.2]
 | some st =>
   dsimp only
   have h01 := stF_01 (fun c hc => (H.ok c hc).2.2) (zeros_len _) (fun i => by rw [zeros_at]; omega) hs
   obtain ⟨hst, hz⟩ := stF_is (fun c hc => (H.ok c hc).2.2) (zeros_len _) hs
   have h2 := H.two
   have hsol : Sol (hR ps m L st) ps.length h := {
     len := o1
     pos := fun i => (obe_bnd o2 o3 i).1
     ob := fun q hq => by
       rcases List.mem_append.1 hq with hq | hq
       · obtain ⟨j, j1, j2, rfl⟩ := conF_mem hq
         have j3 : j < h.length := by omega
         have hm := obe_mono o3 (j - 1) j (by omega) j3
         show hAt h (j - 1) + hAt st j ≤ hAt h j
         have hj := h01 j
         by_cases e : hAt st j = 1
         · rcases (hst j).1 e with h5 | ⟨c, hc, hcm, hcv, hci⟩
           · rw [zeros_at] at h5; omega
           · have h6 := (((o4 c hc).2 hcm).2 hcv).2
             rw [hci] at h6
             omega
         · omega
       · obtain ⟨c, hc, e⟩ := clR_mem.1 hq
         have h5 := (o4 c hc).1
         rcases e with rfl | rfl
         · show hAt h (ps.idxOf c.f) + vC m (ps.length + 1) c ≤ hAt h (ps.idxOf c.t)
           omega
         · show hAt h (ps.idxOf c.t) + -vC m (ps.length + 1) c ≤ hAt h (ps.idxOf c.f)
           omega }
   obtain ⟨g, hg⟩ := bf0_of (hR_ok H st) hsol o2
   exact ⟨g, hg, (bf0_some (hR_ok H st) hg).2.2 h hsol⟩
theorem least_loop {N : Int} {ps fs : List Rat} (G : Gs N ps fs) {m : Nat} (m1 : 1 ≤ m) (m2 : m ≤ 1000000000) {h : List Int} (hl : h.length = ps.length) (hb : ∀ i, 0 ≤ hAt h i ∧ hAt h i ≤ 10000000000000000) (hf : ∀ i, i < ps.length → fs.getD i 0 ≤ dv m (ps.length + 1) (hAt h i))
   {a0 : T_l05_valid} {a1 : T_l05_alive} {a2 : T_audit_Points} {a3 : T_r05_Scale} {a4 : T_l05_obeyed} {a5 : T_audit_Guess} {l3 : List PV} {x0 : List PV → List PV → Int → List PV → List PV → Int → Bool → Prop} {x1 : Bool → Prop} :
   ∀ (r i n : Nat), i + r = ps.length → r < n → L_l05_AuditLeast_0_0 a0 a1 a2 a3 a4 a5 w_r01_Make w_r01_Check w_r01_Less x0 x1 n (ints h) (rts ps) (m : Int) l3 (rts fs) (i : Int) = x0 (ints h) (rts ps) (m : Int) l3 (rts fs) (ps.length : Int) false := by
 have hfl := G.len
 have htop := G.top
 intro r
 induction r with
 | zero =>
   intro i n hi hn
   obtain ⟨n, rfl⟩ : ∃ m, n = m + 1 := ⟨n - 1, by omega⟩
   rw [L_l05_AuditLeast_0_0, rts_len, cbF (by omega), show i = ps.length by omega]
 | succ r ih =>
   intro i n hi hn
   obtain ⟨n, rfl⟩ : ∃ m, n = m + 1 := ⟨n - 1, by omega⟩
   have hil : i < ps.length := by omega
   have e1 : m * (ps.length + 1) ≤ 1000000000 * 1000 := Nat.mul_le_mul m2 (by omega)
   have e2 : 1 ≤ m * (ps.length + 1) := Nat.mul_pos (by omega) (by omega)
   have b := hb i
   have hs := small_at G.sf (i := i) (by omega)
   rw [L_l05_AuditLeast_0_0, rts_len, cbT (by omega)]
   dsimp only [lt, Go.Pf.jn]
   rw [asT (by omega), asT (by rw [ints_len]; omega), Int.toNat_natCast, ints_hAt (by omega), asI, ivI, cast1, wibN (by omega), ← Int.natCast_mul, wibN (by omega), sMake_eq ⟨by omega, by omega⟩ ⟨by omega, by omega⟩ (by omega)]
   have hsm : small ((hAt h i : Rat) / (((m * (ps.length + 1) : Nat) : Int) : Rat)) := smallF b.1 (by omega) (by omega) (by omega)
   have hd := hf i hil
   rw [dv_div] at hd
   unfold fitK
   rw [if_pos hsm]
   dsimp only
   rw [ceT rfl, asT (by omega), asT (by rw [rts_len]; omega), rts_at (by omega), asW, encW0, encW1, sCheck_eq hs.i1 hs.i2, show chk (fs.getD i 0).num (((fs.getD i 0).den : Nat) : Int) = 0 from if_pos hs.rv, nz, ceT rfl, asT (by omega), asT (by rw [rts_len]; omega), asW, sLess_eq hsm hs, decide_eq_false (Rat.not_lt.2 hd), cbr_false, cast1, wibN (by omega)]
   exact ih (i + 1) n (by omega) (by omega)
open Classical in
theorem AuditLeast_ok {N : Int} {log : List Qy} {h : List Int} (h64 : ∀ q ∈ log, q.q64) : w_l05_AuditLeast N (logs log) (ints h) (fun b => b = true) := by
 unfold w_l05_AuditLeast wv_l05_AuditLeast
 dsimp only [Go.Pf.jn]
 rw [valid5_eq h64]
 cases hv : (!greatL log && decide (claimsE N log = 0)) with
 | false => rw [Bool.not_false, cbr_true, cbr_true, alive5_eq]
 | true =>
   obtain ⟨hl, hE⟩ := valid5 hv
   obtain ⟨n1, n2, n3, n4⟩ := claimsE_zero hE
   have hc := claimsE_ok hE
   have hok : ∀ q ∈ log, qOk N q = true := fun q hq => List.all_eq_true.1 n4 q hq
   have lm : (log.map cmOf).length = log.length := List.length_map ..
   rw [Bool.not_true, cbr_false, ints_len]
   by_cases h60 : (h.length : Int) > 60
   · rw [decide_eq_true h60, cbr_true, alive5_eq]
   · rw [decide_eq_false h60, cbr_false, Points_eq h64 (by omega), outPt_ok hE, rscale_eq hok (by omega)]
     unfold outSc
     cases es : scaleL (log.map cmOf) with
     | none =>
       dsimp only
       rw [nz, cnT (by decide), cbr_true, alive5_eq]
     | some m =>
       have H := Hy_of n1 n2 hc (by omega) (scaleL_some es)
       dsimp only
       rw [nz, nz, obeyed_eq H hok (by omega)]
       by_cases ho : Obe (ptsC N (log.map cmOf)) (log.map cmOf) m h
       case neg => rw [decide_eq_false ho, Bool.not_false, cbr_true, alive5_eq]
       rw [decide_eq_true ho, Bool.not_true, cbr_false, Guess_eq h64 (by omega)]
       obtain ⟨g, e, hle⟩ := obe_sol H ho
       obtain ⟨G, _⟩ := guess_is n1 n2 hc (by omega) (scaleL_some es) e
       have hfl := G.len
       have gl : g.length = (ptsC N (log.map cmOf)).length := by unfold gfs at hfl; rw [List.length_map] at hfl; exact hfl
       rw [outGs_some hE es e, nz, gF_gfs G.sf, show rws (rwOf (gfs m g)) = rts (gfs m g) from (rts_rws _).symm, rts_len, rts_len, hfl, bne_f rfl, cbr_false]
       refine ⟨(ptsC N (log.map cmOf)).length + 1, ?_⟩
       refine (least_loop G (scaleL_some es).one (scaleL_some es).top ho.1 (obe_bnd ho.2.1 ho.2.2.1) (fun i hi => ?_) (ptsC N (log.map cmOf)).length 0 _ (by omega) (by omega)).mpr ?_
       · rw [gfs_at (by omega), gl]
         exact dv_le (scaleL_some es).one (by omega) (hle i)
       · rw [alive5_eq]
end Go.Pf.Vc
namespace Go.Pf.Vc
open Go Go.Pf
theorem A_least {as : List PV} (h : HasAs [.i .i64, .s dsQ, .s (.i .i64)] as) : ∃ (N : Int) (log : List Qy) (l : List Int), as = [.int .i64 N, .data (logs log), .data (ints l)] ∧ I64 N ∧ ∀ q ∈ log, q.q64 := by
 simp only [HasAs] at h
 obtain ⟨x, r, rfl, x1, x2, z, r3, rfl, z1, z2, y, r4, rfl, y1, y2, rfl⟩ := h
 obtain ⟨n, e1, hn⟩ := F_i x2
 obtain ⟨l, e3, hl⟩ := F_logs64 z2
 simp only [HasF] at y2
 obtain ⟨rows, e4, _, hr⟩ := y2
 obtain ⟨b, rfl, _⟩ := ints_of rows (fun x hx => ⟨(hr x hx).1, by simp only [HasF]; exact (hr x hx).2⟩)
 rw [single_of x1 e1, single_of z1 e3, single_of y1 e4]
 exact ⟨n, l, b, rfl, hn, hl⟩
end Go.Pf.Vc
