/- Part 5 of what the statement rests on: a verified evaluator over pure values, the conditions of the program's functions, and their plain laws. -/
import Derived.Test.YtfclgjlabhkndaaHsW4
noncomputable section
namespace Go.Pf.Vc
open Go Go.Pf
set_option maxRecDepth 100000
section
variable {l : List Ck}
theorem dvM_begin : ∀ (n : Nat) (A : List Nat) (q p : Rat), A.length ≤ 2 ^ n → 1 ≤ A.length → ∀ x ∈ (dvM l (n + 1) A q p).1, x.2.1 = q ∨ ∃ y ∈ (dvM l (n + 1) A q p).1, y.2.2 = x.2.1
 | 0, A, q, p, h, h1, x, hx => by
   have h : A.length ≤ 1 := h
   rw [dvM_one h, List.mem_singleton] at hx
   exact .inl (by rw [hx])
 | n + 1, A, q, p, h, h1, x, hx => by
   by_cases h2 : A.length ≤ 1
   · rw [dvM_one h2, List.mem_singleton] at hx
     exact .inl (by rw [hx])
   · have e2 : 2 ^ (n + 1) = 2 * 2 ^ n := by rw [Nat.pow_succ, Nat.mul_comm]
     rw [dvM_two (by omega)] at hx ⊢
     rcases List.mem_append.1 hx with hx | hx
     · rcases dvM_begin n (lftS A (fA l A q p)) q (cutH A (fA l A q p)) (by rw [lft_len]; omega) (by rw [lft_len]; omega) x hx with k | ⟨y, hy, k⟩
       · exact .inl k
       · exact .inr ⟨y, List.mem_append.2 (.inl hy), k⟩
     · rcases dvM_begin n (rgtS A (fA l A q p)) (cutH A (fA l A q p)) p (by rw [rgt_len]; omega) (by rw [rgt_len]; omega) x hx with k | ⟨y, hy, k⟩
       · obtain ⟨z, hz, e⟩ := dvM_end (l := l) n (lftS A (fA l A q p)) q (cutH A (fA l A q p)) (by rw [lft_len]; omega) (by rw [lft_len]; omega)
         exact .inr ⟨z, List.mem_append.2 (.inl hz), by rw [e, k]⟩
       · exact .inr ⟨y, List.mem_append.2 (.inr hy), k⟩
end
end Go.Pf.Vc
namespace Go.Pf.Vc
open Go Go.Pf
set_option maxRecDepth 100000
set_option maxHeartbeats 1000000
theorem cbYY {c : Bool} {P Q : Prop} (h : c = true) : cbr c P Q = P := by rw [h, cbr_true]
theorem cbNN {c : Bool} {P Q : Prop} (h : c = false) : cbr c P Q = Q := by rw [h, cbr_false]
def encT (t : List Nat × RS) : PV := .agg [.data (t.1.map encV), .int .i64 t.2.1.num, .int .i64 (t.2.1.den : Int), .int .i64 t.2.2.num, .int .i64 (t.2.2.den : Int)]
def setP : List (List RS) → List (Nat × RS) → List (List RS)
 | X, [] => X
 | X, x :: r => setP (X.set x.1 [x.2]) r
theorem setP_app : ∀ (a b : List (Nat × RS)) (X : List (List RS)), setP X (a ++ b) = setP (setP X a) b
 | [], _, _ => rfl
 | x :: a, b, X => setP_app a b (X.set x.1 [x.2])
theorem setP_len : ∀ (a : List (Nat × RS)) (X : List (List RS)), (setP X a).length = X.length
 | [], _ => rfl
 | x :: a, X => by
   show (setP (X.set x.1 [x.2]) a).length = _
   rw [setP_len a, List.length_set]
theorem rspL_set (X : List (List RS)) (a : Nat) (s : RS) : List.set (rspL X) a (.data (rsp [s])) = rspL (X.set a [s]) := by
 unfold rspL
 rw [List.map_set]
theorem topT (S : List (List Nat × RS)) (t : List Nat × RS) (J : List PV) {k : Nat} (h : k = S.length) : List.getD ((S ++ [t]).map encT ++ J) k .nils = encT t := by
 subst h
 rw [List.getD_eq_getElem?_getD, List.map_append, List.append_assoc, List.getElem?_append_right (by rw [List.length_map]; exact Nat.le_refl _), List.length_map, Nat.sub_self]
 rfl
theorem h13o {a0 a1 a2 x6 x7} (l0 l2 C G : List PV) (S : List (List Nat × RS)) (a : Nat) (s : RS) (J : List PV) (X : List (List RS)) {N M : Nat} (hX : X.length = N) (ha : a < N) (hN : N ≤ 100) (hS : S.length ≤ 100) (hM : ((S ++ [([a], s)]).map encT ++ J).length = M) (n : Nat) :
   L_halve_Run_1_3 a0 a1 a2 x6 x7 (n + 1) l0 (rspL X) l2 ((S ++ [([a], s)]).map encT ++ J) N N N C G (S.length + 1) M = L_halve_Run_1_3 a0 a1 a2 x6 x7 n l0 (rspL (X.set a [s])) l2 (S.map encT ++ (encT ([a], s) :: J)) N N N C G S.length M := by
 have gt : List.getD ((S ++ [([a], s)]).map encT ++ J) (0 + (S.length : Int).toNat) .nils = encT ([a], s) := topT S _ J (by omega)
 have w : IntKind.i64.wrap (((S.length + 1 : Nat) : Int) - 1) = (S.length : Int) := by rw [wib (by omega) (by omega)]; omega
 have hl : S.length + (J.length + 1) = M := by rw [← hM, List.length_append, List.length_map, List.length_append, List.length_singleton]; omega
 have lX : (rspL X).length = N := by rw [rspL_len, hX]
 have gx : List.getD (rspL X) (0 + (a : Int).toNat) .nils = .data (rsp (X.getD a [])) := by rw [show 0 + (a : Int).toNat = a by omega]; exact rspL_at (by omega)
 conv => lhs; unfold L_halve_Run_1_3
 dsimp only [lt, Go.Pf.jn]
 rw [cbT (by omega), w, gt]
 refine (asTT (decide_eq_true (by omega))).trans ?_
 refine (asTT (decide_eq_true (by omega))).trans ?_
 refine (asTT (decide_eq_true hM)).trans ?_
 refine (asTT (decide_eq_true (by rw [hM]; omega))).trans ?_
 refine (asTT rfl).trans ?_
 refine (asTT (decide_eq_true (by omega))).trans ?_
 refine (asTT (by rw [decide_eq_true (by omega)]; rfl)).trans ?_
 refine (cbYY rfl).trans ?_
 refine (asTT rfl).trans ?_
 refine (asTT rfl).trans ?_
 refine (asTT (decide_eq_true (show (0 : Int) ≤ (a : Int) by omega))).trans ?_
 refine (asTT (decide_eq_true (show (a : Int) < (N : Int) by omega))).trans ?_
 refine (asTT (decide_eq_true lX)).trans ?_
 refine (asTT (decide_eq_true (show 0 + (a : Int).toNat < _ by rw [lX]; omega))).trans ?_
 refine (asTT (show conf zD (List.getD (rspL X) (0 + (a : Int).toNat) .nils) = true by rw [gx]; rfl)).trans ?_
 show L_halve_Run_1_3 a0 a1 a2 x6 x7 n l0 (List.set (rspL X) (0 + (a : Int).toNat) (.data (rsp [s]))) l2 ((S ++ [([a], s)]).map encT ++ J) N N N C G (((S.length : Int) - 0).toNat) M = _
 rw [show 0 + (a : Int).toNat = a by omega, rspL_set, show ((S.length : Int) - 0).toNat = S.length by omega, List.map_append, List.append_assoc]
 rfl
theorem h13t {a0 a1 x6 x7} (l0 l1 l2 C G C' G' : List PV) (S : List (List Nat × RS)) (A L R : List Nat) (q p c : Rat) (J : List PV) {N M : Nat} (hS : S.length ≤ 100) (hM : ((S ++ [(A, (q, p))]).map encT ++ J).length = M) (h2 : 2 ≤ A.length)
   (hs : ∀ K, w_halve_Split C G (A.map encV) q.num q.den p.num p.den K = K C' G' c.num c.den (L.map encV) (R.map encV) 0) :
   ∃ J' M', ((S ++ [(R, (c, p)), (L, (q, c))]).map encT ++ J').length = M' ∧ ∀ n, L_halve_Run_1_3 a0 a1 w_halve_Split x6 x7 (n + 1) l0 l1 l2 ((S ++ [(A, (q, p))]).map encT ++ J) N N N C G (S.length + 1) M = L_halve_Run_1_3 a0 a1 w_halve_Split x6 x7 n l0 l1 l2 ((S ++ [(R, (c, p)), (L, (q, c))]).map encT ++ J') N N N C' G' (S.length + 2) M' := by
 have gt : List.getD ((S ++ [(A, (q, p))]).map encT ++ J) (0 + (S.length : Int).toNat) .nils = encT (A, (q, p)) := topT S _ J (by omega)
 have w : IntKind.i64.wrap (((S.length + 1 : Nat) : Int) - 1) = (S.length : Int) := by rw [wib (by omega) (by omega)]; omega
 have hl : S.length + (J.length + 1) = M := by rw [← hM, List.length_append, List.length_map, List.length_append, List.length_singleton]; omega
 have z : ((S.length : Int) - 0).toNat = S.length := by omega
 have tk : List.take S.length ((S ++ [(A, (q, p))]).map encT ++ J) = S.map encT := by
   rw [List.map_append, List.append_assoc, List.take_append_of_le_length (by rw [List.length_map]; exact Nat.le_refl _), List.take_of_length_le (by rw [List.length_map]; exact Nat.le_refl _)]
 have e2 : (S ++ [(R, (c, p)), (L, (q, c))]).map encT = S.map encT ++ [encT (R, (c, p)), encT (L, (q, c))] := by rw [List.map_append]; rfl
 have red : ∀ n, L_halve_Run_1_3 a0 a1 w_halve_Split x6 x7 (n + 1) l0 l1 l2 ((S ++ [(A, (q, p))]).map encT ++ J) N N N C G (S.length + 1) M =
     cbr (decide (0 + S.length + 2 ≤ M))
       (L_halve_Run_1_3 a0 a1 w_halve_Split x6 x7 n l0 l1 l2 (List.take (0 + S.length) ((S ++ [(A, (q, p))]).map encT ++ J) ++ ([encT (R, (c, p)), encT (L, (q, c))] ++ List.drop (0 + S.length + 2) ((S ++ [(A, (q, p))]).map encT ++ J))) N N N C' G' (S.length + 2) M)
       (L_halve_Run_1_3 a0 a1 w_halve_Split x6 x7 n l0 l1 l2 (List.take S.length ((S ++ [(A, (q, p))]).map encT ++ J) ++ [encT (R, (c, p)), encT (L, (q, c))]) N N N C' G' (S.length + 2) (S.length + 2)) := fun n => by
   conv => lhs; unfold L_halve_Run_1_3
   dsimp only [lt, Go.Pf.jn]
   rw [cbT (by omega), w, gt, z]
   refine (asTT (decide_eq_true (by omega))).trans ?_
   refine (asTT (decide_eq_true (by omega))).trans ?_
   refine (asTT (decide_eq_true hM)).trans ?_
   refine (asTT (decide_eq_true (by rw [hM]; omega))).trans ?_
   refine (asTT rfl).trans ?_
   refine (asTT (decide_eq_true (by omega))).trans ?_
   refine (asTT (by rw [decide_eq_true (by omega)]; rfl)).trans ?_
   refine (cbNN (show ((((A.map encV).length : Nat) : Int) == 1) = false from beq_eq_false_iff_ne.2 (by rw [List.length_map]; omega))).trans ?_
   refine (hs _).trans ?_
   rw [cnF rfl]
   refine (asTT (decide_eq_true hM)).trans ?_
   refine (asTT (decide_eq_true (by omega))).trans ?_
   refine congrArg (fun z => cbr (decide (0 + S.length + 2 ≤ M)) _ z) ?_
   refine (asTT (decide_eq_true (by omega))).trans ?_
   exact (asTT (decide_eq_true (by unfold room; omega)))
 by_cases hf : 0 + S.length + 2 ≤ M
 · refine ⟨List.drop (0 + S.length + 2) ((S ++ [(A, (q, p))]).map encT ++ J), M, ?_, fun n => ?_⟩
   · rw [e2, List.length_append, List.length_append, List.length_drop, hM, List.length_map]
     simp only [List.length_cons, List.length_nil]
     omega
   · rw [red n, cbT hf, Nat.zero_add, tk, e2, List.append_assoc]
 · refine ⟨[], S.length + 2, ?_, fun n => ?_⟩
   · rw [e2, List.append_nil, List.length_append, List.length_map]
     rfl
   · rw [red n, cbF hf, tk, e2, List.append_nil]
end Go.Pf.Vc
namespace Go.Pf.Vc
open Go Go.Pf
set_option maxRecDepth 100000
set_option maxHeartbeats 1000000
theorem h13 {a0 a1 x6 x7} {l : List Ck} (hd : DK l) (l0 l2 : List PV) : ∀ (n : Nat) (A : List Nat) (q p : Rat) (D : Int), HV l A q p D → A.length ≤ 2 ^ n → (72 : Int) ^ n * D ≤ 100000000 → ∀ (S : List (List Nat × RS)) (J : List PV) (X : List (List RS)) (lg : List Qy) (M : Nat), X.length = l.length → S.length + n ≤ 100 → lg.length + 2 * A.length * n ≤ 2000 → ((S ++ [(A, (q, p))]).map encT ++ J).length = M →
   ∃ J' M', (S.map encT ++ J').length = M' ∧
   (∃ k, L_halve_Run_1_3 a0 a1 w_halve_Split x6 x7 k l0 (rspL X) l2 ((S ++ [(A, (q, p))]).map encT ++ J) l.length l.length l.length (cks l) (logs lg) (S.length + 1) M) =
   (∃ k, L_halve_Run_1_3 a0 a1 w_halve_Split x6 x7 k l0 (rspL (setP X (dvM l (n + 1) A q p).1)) l2 (S.map encT ++ J') l.length l.length l.length (cks l) (logs (lg ++ (dvM l (n + 1) A q p).2)) S.length M')
 | n, A, q, p, D, hv, hA, hD, S, J, X, lg, M, hX, hS, hlg, hM => by
   have n6 := hd.n6
   have h1 := hv.len.1
   by_cases h2 : A.length ≤ 1
   · obtain ⟨a, rfl⟩ : ∃ a, A = [a] := by
       match A, h1, h2 with
       | [a], _, _ => exact ⟨a, rfl⟩
     rw [dvM_one h2]
     refine ⟨encT ([a], (q, p)) :: J, M, ?_, ?_⟩
     · rw [← hM, List.map_append, List.append_assoc]
       rfl
     · rw [exS3 rfl (R := fun k => _) (h13o l0 l2 (cks l) (logs lg) S a (q, p) J X hX (hv.mem a List.mem_cons_self) (by omega) (by omega) hM), List.append_nil]
       rfl
   · match n, hA, hD, hS, hlg with
     | 0, hA, _, _, _ => exact absurd hA (by rw [Nat.pow_zero]; omega)
     | n + 1, hA, hD, hS, hlg =>
     have e2 : 2 ^ (n + 1) = 2 * 2 ^ n := by rw [Nat.pow_succ, Nat.mul_comm]
     have e72 : (72 : Int) ^ (n + 1) * D = 72 ^ n * (72 * D) := by rw [Int.pow_succ, Int.mul_assoc]
     have p72 : (1 : Int) ≤ 72 ^ n := by
       have : (0 : Int) < 72 ^ n := Int.pow_pos (by omega)
       omega
     have D1 := hv.D1.1
     have d72 : 1 * (72 * D) ≤ 72 ^ n * (72 * D) := Int.mul_le_mul_of_nonneg_right p72 (by omega)
     obtain ⟨D', hD', hl, hr⟩ := hv.split hd (by omega) (by omega)
     have d' : (72 : Int) ^ n * D' ≤ 72 ^ n * (72 * D) := Int.mul_le_mul_of_nonneg_left hD' (by omega)
     have eL := lft_len (A := A) (fA l A q p)
     have eR := rgt_len (A := A) (fA l A q p)
     have hg : (A.flatMap (gA l A q p)).length ≤ 2 * A.length := flat_le _ 2 A fun a _ => gA_len a
     have eA : 2 * A.length * (n + 1) = 2 * A.length * n + 2 * A.length := Nat.mul_succ ..
     have eS : 2 * A.length * n = 2 * (lftS A (fA l A q p)).length * n + 2 * (rgtS A (fA l A q p)).length * n := by rw [← Nat.add_mul, eL, eR]; congr 1; omega
     have run := fun K => hv.run hd (by omega) (lg := lg) (by omega) K
     obtain ⟨J1, M1, hM1, st⟩ := h13t (a0 := a0) (a1 := a1) (x6 := x6) (x7 := x7) l0 (rspL X) l2 _ _ _ _ S A _ _ q p _ J (N := l.length) (by omega) hM (by omega) run
     obtain ⟨J2, M2, hM2, i1⟩ := h13 (a0 := a0) (a1 := a1) (x6 := x6) (x7 := x7) hd l0 l2 n (lftS A (fA l A q p)) q (cutH A (fA l A q p)) D' hl (by rw [eL]; omega) (by omega) (S ++ [(rgtS A (fA l A q p), (cutH A (fA l A q p), p))]) J1 X (lg ++ A.flatMap (gA l A q p)) M1 hX (by rw [List.length_append, List.length_singleton]; omega) (by rw [List.length_append]; omega) (by rw [List.append_assoc]; exact hM1)
     have hlL : (dvM l (n + 1) (lftS A (fA l A q p)) q (cutH A (fA l A q p))).2.length ≤ 2 * (lftS A (fA l A q p)).length * n := dvM_log n _ _ _ (by rw [eL]; omega) (by rw [eL]; omega)
     obtain ⟨J3, M3, hM3, i2⟩ := h13 (a0 := a0) (a1 := a1) (x6 := x6) (x7 := x7) hd l0 l2 n (rgtS A (fA l A q p)) (cutH A (fA l A q p)) p D' hr (by rw [eR]; omega) (by omega) S J2 (setP X (dvM l (n + 1) (lftS A (fA l A q p)) q (cutH A (fA l A q p))).1) (lg ++ A.flatMap (gA l A q p) ++ (dvM l (n + 1) (lftS A (fA l A q p)) q (cutH A (fA l A q p))).2) M2 (by rw [setP_len]; exact hX) (by omega) (by rw [List.length_append, List.length_append]; omega) hM2
     refine ⟨J3, M3, hM3, ?_⟩
     rw [exS3 rfl (R := fun k => _) st, dvM_two (by omega), setP_app, ← List.append_assoc, ← List.append_assoc]
     rw [List.length_append, List.length_singleton, List.append_assoc] at i1
     exact i1.trans i2
end Go.Pf.Vc
namespace Go.Pf.Vc
open Go Go.Pf
set_option maxRecDepth 100000
set_option maxHeartbeats 1000000
theorem hr01 {a0 a1 a2 x1} {N : Nat} (hN : N ≤ 100) (l1 l2 l3 : List PV) (i6 i7 i8 i9 : Int) : ∀ (d i : Nat), i + d = N → 1 ≤ i →
   (∃ n, L_halve_Run_0_1 a0 a1 a2 x1 n ((List.range i).map encV) l1 l2 l3 i6 i7 i8 i9 (N : Int) (i : Int)) = x1 ((List.range N).map encV) l1 l2 l3 i6 i7 i8 i9 (N : Int) (N : Int) false
 | 0, i, h, h1 => by
   have h : i = N := h
   subst h
   have e : ∀ n, L_halve_Run_0_1 a0 a1 a2 x1 (n + 1) ((List.range i).map encV) l1 l2 l3 i6 i7 i8 i9 (i : Int) (i : Int) = x1 ((List.range i).map encV) l1 l2 l3 i6 i7 i8 i9 (i : Int) (i : Int) false := fun n => by
     conv => lhs; unfold L_halve_Run_0_1
     rw [cbF (by omega)]
   rw [exS3 rfl (R := fun _ => _) e, exC3]
 | d + 1, i, h, h1 => by
   have ih := hr01 (a0 := a0) (a1 := a1) (a2 := a2) (x1 := x1) hN l1 l2 l3 i6 i7 i8 i9 d (i + 1) (by omega) (by omega)
   have w : IntKind.i64.wrap ((i : Int) + 1) = ((i + 1 : Nat) : Int) := by rw [wib (by omega) (by omega)]; omega
   have lr : ((List.range i).map encV).length = i := by rw [List.length_map, List.length_range]
   have e : ∀ n, L_halve_Run_0_1 a0 a1 a2 x1 (n + 1) ((List.range i).map encV) l1 l2 l3 i6 i7 i8 i9 (N : Int) (i : Int) = L_halve_Run_0_1 a0 a1 a2 x1 n ((List.range (i + 1)).map encV) l1 l2 l3 i6 i7 i8 i9 (N : Int) ((i + 1 : Nat) : Int) := fun n => by
     conv => lhs; unfold L_halve_Run_0_1
     dsimp only [lt, Go.Pf.jn]
     rw [cbT (by omega), w, lr]
     refine (asTT (by simp)).trans ?_
     refine (asTT (by simp)).trans ?_
     refine (asTT (by simp)).trans ?_
     refine (asTT (by simp)).trans ?_
     refine (asTT (decide_eq_true (by unfold room; omega))).trans ?_
     refine (asTT (by simp)).trans ?_
     rw [List.range_succ, List.map_append]
     rfl
   rw [exS3 rfl (R := fun _ => _) e, ih]
theorem hr00 {a0 a1 a2 x0 x1} {N : Nat} (h0 : 1 ≤ N) (hN : N ≤ 100) (l1 l2 l3 : List PV) (i6 i7 i8 i9 : Int) :
   (∃ n, L_halve_Run_0_0 a0 a1 a2 x0 x1 n l1 l2 l3 i6 i7 i8 i9 (N : Int) 0) = x1 ((List.range N).map encV) l1 l2 l3 i6 i7 i8 i9 (N : Int) (N : Int) false := by
 have e : ∀ n, L_halve_Run_0_0 a0 a1 a2 x0 x1 (n + 1) l1 l2 l3 i6 i7 i8 i9 (N : Int) 0 = L_halve_Run_0_1 a0 a1 a2 x1 n ((List.range 1).map encV) l1 l2 l3 i6 i7 i8 i9 (N : Int) ((1 : Nat) : Int) := fun n => by
   conv => lhs; unfold L_halve_Run_0_0
   dsimp only [lt, Go.Pf.jn]
   rw [cbT (by omega)]
   exact (asTT (by simp)).trans rfl
 rw [exS3 rfl (R := fun _ => _) e, hr01 hN l1 l2 l3 i6 i7 i8 i9 (N - 1) 1 (by omega) (by omega)]
theorem HV.top {l : List Ck} (hd : DK l) : HV l (List.range l.length) 0 (lenR l) 1 := by
 have n0 := hd.n0
 have n6 := hd.n6
 have c0 := (hd.ok 0 (by omega)).len0
 refine ⟨by rw [List.length_range]; omega, List.pairwise_lt_range, fun a ha => List.mem_range.1 ha, Rat.le_refl, Rat.le_refl, by decide, In.int (Int.le_refl 1) 0, In.int (Int.le_refl 1) _, ?_, fun a ha => ?_⟩
 · exact Rat.intCast_pos.2 (by omega)
 · rw [tot3 hd (List.mem_range.1 ha)]
   exact tot0 hd (List.mem_range.1 ha)
def dvX (l : List Ck) : List (List RS) := setP (List.replicate l.length []) (dvM l 4 (List.range l.length) 0 (lenR l)).1
def dvL (l : List Ck) : List Qy := (dvM l 4 (List.range l.length) 0 (lenR l)).2
theorem dvX_len (l : List Ck) : (dvX l).length = l.length := by unfold dvX; rw [setP_len, List.length_replicate]
theorem rspL_rep (n : Nat) : List.replicate n (.data [] : PV) = rspL (List.replicate n []) := by unfold rspL; rw [List.map_replicate]; rfl
section
variable {l : List Ck}
abbrev t0T (l : List Ck) : List Nat × RS := (List.range l.length, ((0 : Rat), lenR l))
theorem x12a {a0 a1 x6 x7 x8 x9} (h1 : l.length = 1) (l0 : List PV) :
   (∃ k, L_halve_Run_1_2 a0 a1 w_halve_Split x6 x7 x8 x9 k l0 (rspL (List.replicate l.length [])) [encT (t0T l)] l.length l.length l.length (cks l) [] 1 1) =
   x6 l0 (rspL (dvX l)) [encT (t0T l)] l.length l.length l.length (cks l) (logs (dvL l)) 0 1 false := by
 have er : List.range l.length = [0] := by rw [h1]; rfl
 have eX : dvX l = [[(0, lenR l)]] := by unfold dvX; rw [dvM_one (by rw [List.length_range]; omega), er, h1]; rfl
 have eL : dvL l = [] := by unfold dvL; rw [dvM_one (by rw [List.length_range]; omega)]
 rw [eX, eL, t0T, er, h1]
 have e : ∀ n, L_halve_Run_1_2 a0 a1 w_halve_Split x6 x7 x8 x9 (n + 1) l0 (rspL (List.replicate 1 [])) [encT ([0], ((0 : Rat), lenR l))] 1 1 1 (cks l) [] 1 1 = L_halve_Run_1_2 a0 a1 w_halve_Split x6 x7 x8 x9 n l0 (rspL [[(0, lenR l)]]) [encT ([0], ((0 : Rat), lenR l))] 1 1 1 (cks l) [] 0 1 := fun n => by
   conv => lhs; unfold L_halve_Run_1_2
   rfl
 have e' : ∀ n, L_halve_Run_1_2 a0 a1 w_halve_Split x6 x7 x8 x9 (n + 1) l0 (rspL [[(0, lenR l)]]) [encT ([0], ((0 : Rat), lenR l))] 1 1 1 (cks l) [] 0 1 = x6 l0 (rspL [[(0, lenR l)]]) [encT ([0], ((0 : Rat), lenR l))] 1 1 1 (cks l) [] 0 1 false := fun n => by
   conv => lhs; unfold L_halve_Run_1_2
   rfl
 rw [exS3 rfl (R := fun _ => _) e, exS3 rfl (R := fun _ => _) e', exC3]
 rfl
theorem x12s {a0 a1 x6 x7 x8 x9} (l0 l1 C G C' G' : List PV) (A L R : List Nat) (q p c : Rat) (N : Nat) (h2 : 2 ≤ A.length)
   (hs : ∀ K, w_halve_Split C G (A.map encV) q.num q.den p.num p.den K = K C' G' c.num c.den (L.map encV) (R.map encV) 0) (n : Nat) :
   L_halve_Run_1_2 a0 a1 w_halve_Split x6 x7 x8 x9 (n + 1) l0 l1 [encT (A, (q, p))] N N N C G 1 1 = L_halve_Run_1_3 a0 a1 w_halve_Split x8 x9 n l0 l1 [encT (A, (q, p))] ((([] ++ [(R, (c, p))]) ++ [(L, (q, c))]).map encT ++ []) N N N C' G' ((([] : List (List Nat × RS)) ++ [(R, (c, p))]).length + 1) 2 := by
 conv => lhs; unfold L_halve_Run_1_2
 dsimp only [lt, Go.Pf.jn]
 have w : IntKind.i64.wrap (((1 : Nat) : Int) - 1) = 0 := by decide
 rw [cbT (by omega), w]
 refine (asTT rfl).trans ?_
 refine (asTT rfl).trans ?_
 refine (asTT rfl).trans ?_
 refine (asTT rfl).trans ?_
 refine (asTT rfl).trans ?_
 refine (asTT rfl).trans ?_
 refine (asTT rfl).trans ?_
 refine (cbNN (show ((((A.map encV).length : Nat) : Int) == 1) = false from beq_eq_false_iff_ne.2 (by rw [List.length_map]; omega))).trans ?_
 refine (hs _).trans ?_
 rw [cnF rfl]
 refine (asTT rfl).trans ?_
 refine (asTT rfl).trans ?_
 refine (cbNN rfl).trans ?_
 refine (asTT rfl).trans ?_
 rfl
theorem x12b {a0 a1 x6 x7 x8 x9} (hd : DK l) (h2 : 2 ≤ l.length) (l0 : List PV) : ∃ J M, J.length = M ∧
   (∃ k, L_halve_Run_1_2 a0 a1 w_halve_Split x6 x7 x8 x9 k l0 (rspL (List.replicate l.length [])) [encT (t0T l)] l.length l.length l.length (cks l) [] 1 1) =
   x8 l0 (rspL (dvX l)) [encT (t0T l)] J l.length l.length l.length (cks l) (logs (dvL l)) 0 M false := by
 have n6 := hd.n6
 have hv := HV.top hd
 have hA : (List.range l.length).length = l.length := List.length_range
 obtain ⟨D', hD', hl, hr⟩ := hv.split hd (by omega) (by decide)
 generalize hAe : List.range l.length = A at *
 have eL := lft_len (A := A) (fA l A 0 (lenR l))
 have eR := rgt_len (A := A) (fA l A 0 (lenR l))
 have hg : (A.flatMap (gA l A 0 (lenR l))).length ≤ 2 * A.length := flat_le _ 2 A fun a _ => gA_len a
 have run := fun K => hv.run hd (by omega) (lg := []) (by rw [List.length_nil]; omega) K
 obtain ⟨J2, M2, hM2, i1⟩ := h13 (a0 := a0) (a1 := a1) (x6 := x8) (x7 := x9) hd l0 [encT (A, ((0 : Rat), lenR l))] 2 (lftS A (fA l A 0 (lenR l))) 0 (cutH A (fA l A 0 (lenR l))) D' hl (by rw [eL]; omega) (by omega) ([] ++ [(rgtS A (fA l A 0 (lenR l)), (cutH A (fA l A 0 (lenR l)), lenR l))]) [] (List.replicate l.length []) ([] ++ A.flatMap (gA l A 0 (lenR l))) 2 List.length_replicate (by simp) (by rw [List.nil_append]; omega) rfl
 have hlL : (dvM l 3 (lftS A (fA l A 0 (lenR l))) 0 (cutH A (fA l A 0 (lenR l)))).2.length ≤ 2 * (lftS A (fA l A 0 (lenR l))).length * 2 := dvM_log 2 _ _ _ (by rw [eL]; omega) (by rw [eL]; omega)
 obtain ⟨J3, M3, hM3, i2⟩ := h13 (a0 := a0) (a1 := a1) (x6 := x8) (x7 := x9) hd l0 [encT (A, ((0 : Rat), lenR l))] 2 (rgtS A (fA l A 0 (lenR l))) (cutH A (fA l A 0 (lenR l))) (lenR l) D' hr (by rw [eR]; omega) (by omega) [] J2 (setP (List.replicate l.length []) (dvM l 3 (lftS A (fA l A 0 (lenR l))) 0 (cutH A (fA l A 0 (lenR l)))).1) ([] ++ A.flatMap (gA l A 0 (lenR l)) ++ (dvM l 3 (lftS A (fA l A 0 (lenR l))) 0 (cutH A (fA l A 0 (lenR l)))).2) M2 (by rw [setP_len]; exact List.length_replicate) (by decide) (by rw [List.length_append, List.nil_append]; omega) hM2
 have hM3 : J3.length = M3 := hM3
 refine ⟨J3, M3, hM3, ?_⟩
 have e' : ∀ n, L_halve_Run_1_3 a0 a1 w_halve_Split x8 x9 (n + 1) l0 (rspL (dvX l)) [encT (A, ((0 : Rat), lenR l))] J3 l.length l.length l.length (cks l) (logs (dvL l)) 0 M3 = x8 l0 (rspL (dvX l)) [encT (A, ((0 : Rat), lenR l))] J3 l.length l.length l.length (cks l) (logs (dvL l)) 0 M3 false := fun n => by
   conv => lhs; unfold L_halve_Run_1_3
   rfl
 have eX : dvX l = setP (setP (List.replicate l.length []) (dvM l 3 (lftS A (fA l A 0 (lenR l))) 0 (cutH A (fA l A 0 (lenR l)))).1) (dvM l 3 (rgtS A (fA l A 0 (lenR l))) (cutH A (fA l A 0 (lenR l))) (lenR l)).1 := by
   unfold dvX
   rw [hAe, dvM_two (by omega), setP_app]
 have eG : dvL l = [] ++ A.flatMap (gA l A 0 (lenR l)) ++ (dvM l 3 (lftS A (fA l A 0 (lenR l))) 0 (cutH A (fA l A 0 (lenR l)))).2 ++ (dvM l 3 (rgtS A (fA l A 0 (lenR l))) (cutH A (fA l A 0 (lenR l))) (lenR l)).2 := by
   unfold dvL
   rw [hAe, dvM_two (by omega), List.nil_append, List.append_assoc]
 have z := (exS3 (P := fun k => L_halve_Run_1_3 a0 a1 w_halve_Split x8 x9 k l0 (rspL (dvX l)) [encT (A, ((0 : Rat), lenR l))] J3 l.length l.length l.length (cks l) (logs (dvL l)) 0 M3) rfl (R := fun _ => _) e').trans exC3
 unfold t0T
 rw [hAe]
 refine Eq.trans ?_ z
 rw [← eX, ← eG] at i2
 refine (exS3 (P := fun k => L_halve_Run_1_2 a0 a1 w_halve_Split x6 x7 x8 x9 k l0 (rspL (List.replicate l.length [])) [encT (A, ((0 : Rat), lenR l))] l.length l.length l.length (cks l) [] 1 1) rfl (x12s l0 (rspL (List.replicate l.length [])) (cks l) [] (cks l) _ A _ _ 0 (lenR l) _ l.length (by omega) run)).trans ?_
 exact i1.trans i2
theorem hRun_ok (hd : DK l) (K : List PV → List PV → Int → Prop) : w_halve_Run (cks l) K = K (rspL (dvX l)) (logs (dvL l)) 0 := by
 have n0 := hd.n0
 have n6 := hd.n6
 unfold w_halve_Run wv_halve_Run
 rw [aOpen_eq hd.fin (by omega), if_pos (hd.err (by omega))]
 dsimp only [lt, Go.Pf.jn]
 rw [cnF rfl, cks_len]
 refine (asTT (decide_eq_true (by omega))).trans ?_
 rw [cks_at n0]
 refine (asTT rfl).trans ?_
 rw [hWhole, hWhole]
 refine (hr00 n0 (by omega) (cks l) (cks l) [] 0 1 _ 1).trans ?_
 have lr : ((List.range l.length).map encV).length = l.length := by rw [List.length_map, List.length_range]
 rw [cks_len, lr, List.take_of_length_le (by rw [lr]; exact Nat.le_refl _), rspL_rep]
 refine (asTT (decide_eq_true (by omega))).trans ?_
 refine (asTT (decide_eq_true (by omega))).trans ?_
 refine (asTT (decide_eq_true (by unfold room; omega))).trans ?_
 refine (asTT (by simp)).trans ?_
 refine (asTT (by simp)).trans ?_
 refine (asTT rfl).trans ?_
 have lX : (rspL (dvX l)).length = l.length := by rw [rspL_len, dvX_len]
 by_cases h1 : l.length = 1
 · refine (x12a h1 ((List.range l.length).map encV)).trans ?_
   refine (asTT (decide_eq_true lX)).trans ?_
   refine (asTT (by simp)).trans ?_
   rw [List.take_of_length_le (by omega)]
 · obtain ⟨J, M, hJ, e⟩ := x12b hd (by omega) ((List.range l.length).map encV)
   refine e.trans ?_
   refine (asTT (decide_eq_true lX)).trans ?_
   refine (asTT (by simp)).trans ?_
   rw [List.take_of_length_le (by omega)]
end
end Go.Pf.Vc
namespace Go.Pf.Vc
open Go Go.Pf
set_option maxRecDepth 100000
set_option maxHeartbeats 1000000
section
variable {l : List Ck} {A : List Nat} {q p : Rat} {D : Int}
theorem rOf9 (n : Int) (K : Int → Int → Prop) : w_r01_Of n K = K n 1 := rfl
end
end Go.Pf.Vc
namespace Go.Pf.Vc
open Go Go.Pf
set_option maxRecDepth 100000
set_option maxHeartbeats 1000000
def bnd9 (n : Int) : Int × Int := if n < 1 ∨ n > 6 then (0, 2) else (bif n == 1 then 0 else bif n == 2 then 2 else bif n == 3 then 9 else bif n == 4 then 12 else bif n == 5 then 25 else 30, 0)
theorem in6 {n : Int} (h : ¬ (n < 1 ∨ n > 6)) : n = 1 ∨ n = 2 ∨ n = 3 ∨ n = 4 ∨ n = 5 ∨ n = 6 := by omega
theorem hBound9 (n : Int) (K : Int → Int → Prop) : w_halve_Bound n K = K (bnd9 n).1 (bnd9 n).2 := by
 unfold w_halve_Bound wv_halve_Bound bnd9
 dsimp only [lt, Go.Pf.jn]
 by_cases h : n < 1 ∨ n > 6
 · rw [if_pos h]
   by_cases h1 : n < 1
   · rw [cbT h1, cbr_true]
   · rw [cbF h1, decide_eq_true (by omega), cbr_true]
 · rw [if_neg h, cbF (by omega), decide_eq_false (by omega), cbr_false]
   rcases in6 h with rfl | rfl | rfl | rfl | rfl | rfl
   · rfl
   all_goals
     refine (cbNN rfl).trans ?_
     refine (lenH ⟨by decide, by decide⟩ _).trans ?_
     rfl
section
variable {l : List Ck}
theorem sameD (A : List (List RS)) (h1 : A.length ≤ 1000) (h2 : ∀ a ∈ A, a.length ≤ 1000) (K : Bool → Prop) : w_r06_Same (rspL A) (rspL A) K = K true := by
 have e : rspL A = pieces (A.map fun a => a.map spOf) := by unfold rspL pieces; rw [List.map_map]; rfl
 rw [e]
 refine gSame_self (fun i hi => ?_) (by rw [List.length_map]; omega) K
 rw [List.length_map] at hi
 rw [List.getD_eq_getElem?_getD, List.getElem?_map, List.getElem?_eq_getElem hi]
 show ((A[i]).map spOf).length < _
 have := h2 _ (List.getElem_mem hi)
 rw [List.length_map]
 omega
theorem setP_one : ∀ (ps : List (Nat × RS)) (X : List (List RS)), (∀ a ∈ X, a.length ≤ 1) → ∀ a ∈ setP X ps, a.length ≤ 1
 | [], X, h => h
 | x :: r, X, h => setP_one r (X.set x.1 [x.2]) fun a ha => by
   rcases List.mem_or_eq_of_mem_set ha with k | rfl
   · exact h a k
   · exact Nat.le_refl 1
theorem dvX_one : ∀ a ∈ dvX l, a.length ≤ 1 := setP_one _ _ fun a ha => by
 rw [(List.mem_replicate.1 ha).2]
 exact Nat.zero_le 1
theorem dvL_len (hd : DK l) : (dvL l).length ≤ 2 * l.length * 3 := by
 have n6 := hd.n6
 have : (dvM l 4 (List.range l.length) 0 (lenR l)).2.length ≤ 2 * (List.range l.length).length * 3 := dvM_log (l := l) 3 (List.range l.length) 0 (lenR l) (by rw [List.length_range]; omega) (by rw [List.length_range]; exact hd.n0)
 rw [List.length_range] at this
 exact this
end
end Go.Pf.Vc
namespace Go.Pf.Vc
open Go Go.Pf
set_option maxRecDepth 100000
set_option maxHeartbeats 1000000
theorem setP_other : ∀ (ps : List (Nat × RS)) (X : List (List RS)) (a : Nat), a ∉ ps.map Prod.fst → (setP X ps).getD a [] = X.getD a []
 | [], _, _, _ => rfl
 | x :: r, X, a, h => by
   rw [List.map_cons, List.mem_cons, not_or] at h
   show (setP (X.set x.1 [x.2]) r).getD a [] = _
   rw [setP_other r _ a h.2, List.getD_eq_getElem?_getD, List.getElem?_set_ne (fun k => h.1 k.symm), ← List.getD_eq_getElem?_getD]
theorem setP_get : ∀ (ps : List (Nat × RS)) (X : List (List RS)) (x : Nat × RS), (ps.map Prod.fst).Nodup → x ∈ ps → x.1 < X.length → (setP X ps).getD x.1 [] = [x.2]
 | [], _, _, _, h, _ => by cases h
 | y :: r, X, x, hn, hx, hl => by
   rw [List.map_cons, List.nodup_cons] at hn
   show (setP (X.set y.1 [y.2]) r).getD x.1 [] = _
   rcases List.mem_cons.1 hx with rfl | hx
   · rw [setP_other r _ _ hn.1, List.getD_eq_getElem?_getD, List.getElem?_set_self hl]
     rfl
   · exact setP_get r _ x hn.2 hx (by rw [List.length_set]; exact hl)
section
variable {l : List Ck}
theorem dvM_perm : ∀ (n : Nat) (A : List Nat) (q p : Rat), A.length ≤ 2 ^ n → 1 ≤ A.length → ((dvM l (n + 1) A q p).1.map Prod.fst).Perm A
 | 0, A, q, p, h, h1 => by
   have h : A.length ≤ 1 := h
   rw [dvM_one h]
   match A, h1, h with
   | [a], _, _ => exact List.Perm.refl _
 | n + 1, A, q, p, h, h1 => by
   by_cases h2 : A.length ≤ 1
   · rw [dvM_one h2]
     match A, h1, h2 with
     | [a], _, _ => exact List.Perm.refl _
   · have e2 : 2 ^ (n + 1) = 2 * 2 ^ n := by rw [Nat.pow_succ, Nat.mul_comm]
     rw [dvM_two (by omega), List.map_append]
     have k1 := dvM_perm n (lftS A (fA l A q p)) q (cutH A (fA l A q p)) (by rw [lft_len]; omega) (by rw [lft_len]; omega)
     have k2 := dvM_perm n (rgtS A (fA l A q p)) (cutH A (fA l A q p)) p (by rw [rgt_len]; omega) (by rw [rgt_len]; omega)
     exact (k1.append k2).trans (lr_perm _)
def psL (l : List Ck) : List (Nat × RS) := (dvM l 4 (List.range l.length) 0 (lenR l)).1
def oL (l : List Ck) (a : Nat) : Nat := ((psL l).map Prod.fst).idxOf a
theorem psL_perm (hd : DK l) : ((psL l).map Prod.fst).Perm (List.range l.length) := by
 have n6 := hd.n6
 exact dvM_perm 3 _ _ _ (by rw [List.length_range]; omega) (by rw [List.length_range]; exact hd.n0)
theorem psL_len (hd : DK l) : (psL l).length = l.length := by
 have := (psL_perm hd).length_eq
 rwa [List.length_map, List.length_range] at this
theorem oL_at (hd : DK l) {a : Nat} (ha : a < l.length) : oL l a < l.length ∧ ((psL l).getD (oL l a) default).1 = a ∧ (psL l).getD (oL l a) default ∈ psL l := by
 have hm : a ∈ (psL l).map Prod.fst := (psL_perm hd).mem_iff.2 (List.mem_range.2 ha)
 have hl := psL_len hd
 have h1 : oL l a < ((psL l).map Prod.fst).length := List.idxOf_lt_length_of_mem hm
 rw [List.length_map, hl] at h1
 have h2 : (psL l)[oL l a]? = some ((psL l)[oL l a]'(by omega)) := List.getElem?_eq_getElem (by omega)
 have e : (psL l).getD (oL l a) default = (psL l)[oL l a]'(by omega) := by rw [List.getD_eq_getElem?_getD, h2]; rfl
 refine ⟨h1, ?_, by rw [e]; exact List.getElem_mem _⟩
 rw [e]
 have := List.getElem_idxOf (xs := (psL l).map Prod.fst) (x := a) (by rw [List.length_map, hl]; exact h1)
 rw [List.getElem_map] at this
 exact this
theorem nodP (hd : DK l) : ((psL l).map Prod.fst).Nodup := (psL_perm hd).nodup_iff.2 List.nodup_range
theorem dvX_at (hd : DK l) {a : Nat} (ha : a < l.length) : (dvX l).getD a [] = [((psL l).getD (oL l a) default).2] := by
 obtain ⟨h1, h2, h3⟩ := oL_at hd ha
 have := setP_get (psL l) (List.replicate l.length []) _ (nodP hd) h3 (by rw [h2, List.length_replicate]; exact ha)
 rw [h2] at this
 exact this
end
end Go.Pf.Vc
namespace Go.Pf.Vc
open Go Go.Pf
set_option maxRecDepth 100000
def thr9 : List Ck := [⟨6, [0, 6], [1]⟩, ⟨6, [0, 4, 6], [1, 4]⟩, ⟨6, [0, 2, 6], [2, 0]⟩]
theorem dk9 : DK thr9 := (deskE_zero (l := thr9) (m := 0) (by decide +kernel)).1
theorem dvX9 : dvX thr9 = [[(mkRat 2 3, mkRat 10 3)], [(mkRat 10 3, 6)], [(0, mkRat 2 3)]] := by decide +kernel
theorem dvL9 : (dvL thr9).length = 7 := by decide +kernel
theorem cut9 : cutH [0, 1, 2] (fA thr9 [0, 1, 2] 0 (lenR thr9)) = mkRat 2 3 ∧ lftS [0, 1, 2] (fA thr9 [0, 1, 2] 0 (lenR thr9)) = [2] ∧ rgtS [0, 1, 2] (fA thr9 [0, 1, 2] 0 (lenR thr9)) = [0, 1] := by decide +kernel
theorem three9 (K : List PV → Prop) : w_l09_three K = K (cks thr9) := rfl
theorem btw9 (a b c d : Int) (K : List PV → Prop) : w_l09_between a b c d K = K [(.agg [(.int .i64 a), (.int .i64 b), (.int .i64 c), (.int .i64 d)])] := rfl
theorem same9 (K : Bool → Prop) : w_r06_Same (rspL [[(mkRat 2 3, mkRat 10 3)], [(mkRat 10 3, 6)], [(0, mkRat 2 3)]]) [(.data [(.agg [(.int .i64 (2 : Int)), (.int .i64 (3 : Int)), (.int .i64 (10 : Int)), (.int .i64 (3 : Int))])]), (.data [(.agg [(.int .i64 (10 : Int)), (.int .i64 (3 : Int)), (.int .i64 (6 : Int)), (.int .i64 (1 : Int))])]), (.data [(.agg [(.int .i64 (0 : Int)), (.int .i64 (1 : Int)), (.int .i64 (2 : Int)), (.int .i64 (3 : Int))])])] K = K true := by
 have h := gSame_self (l := [[⟨2, 3, 10, 3⟩], [⟨10, 3, 6, 1⟩], [⟨0, 1, 2, 3⟩]]) (fun i hi => by
   have hi : i < 3 := hi
   obtain rfl | rfl | rfl : i = 0 ∨ i = 1 ∨ i = 2 := by omega
   all_goals decide) (by decide) K
 have e : rspL [[(mkRat 2 3, mkRat 10 3)], [(mkRat 10 3, (6 : Rat))], [((0 : Rat), mkRat 2 3)]] = pieces [[⟨2, 3, 10, 3⟩], [⟨10, 3, 6, 1⟩], [⟨0, 1, 2, 3⟩]] := by kernel_rfl
 rw [e]
 exact h
theorem iSame9 {A : List Nat} (h : A.length ≤ 1000) (K : Bool → Prop) : w_r09_Same (A.map encV) (A.map encV) K = K true := by
 have e : A.map encV = ints (A.map fun (a : Nat) => (a : Int)) := by unfold ints; rw [List.map_map]; rfl
 rw [e]
 exact iSame_self (by rw [List.length_map]; omega) K
theorem alive9_eq (K : Bool → Prop) : w_l09_alive K = K true := by
 obtain ⟨c1, c2, c3⟩ := cut9
 have run : ∀ K, w_halve_Split (cks thr9) (logs []) ([0, 1, 2].map encV) (0 : Rat).num (0 : Rat).den (lenR thr9).num (lenR thr9).den K = K (cks thr9) (logs ([] ++ [0, 1, 2].flatMap (gA thr9 [0, 1, 2] 0 (lenR thr9)))) (mkRat 2 3).num (mkRat 2 3).den ([2].map encV) ([0, 1].map encV) 0 := fun K => by
   have := (HV.top dk9).run dk9 (by decide) (lg := []) (by decide) K
   rw [show List.range thr9.length = [0, 1, 2] from rfl, c1, c2, c3] at this
   exact this
 unfold w_l09_alive wv_l09_alive
 dsimp only [Go.Pf.jn]
 refine (rOf9 _ _).trans ?_
 refine (rOf9 _ _).trans ?_
 rw [three9, hRun_ok dk9, three9]
 refine (run _).trans ?_
 rw [hBound9]
 refine (cbYY rfl).trans ?_
 refine (btw9 _ _ _ _ _).trans ?_
 refine (btw9 _ _ _ _ _).trans ?_
 refine (btw9 _ _ _ _ _).trans ?_
 rw [dvX9, same9, cbr_true, logs_len, dvL9]
 refine (cbYY rfl).trans ?_
 refine (cbYY rfl).trans ?_
 refine (cbYY (by decide +kernel)).trans ?_
 refine (iSame9 (A := [2]) (by decide) _).trans ?_
 rw [cbr_true]
 refine (iSame9 (A := [0, 1]) (by decide) _).trans ?_
 rw [cbr_true]
 refine (cbYY rfl).trans ?_
 rfl
section
variable {l : List Ck}
theorem fit9_eq (hl : l.length ≤ 9223372036854775807) (K : Bool → Prop) : w_l09_fit (cks l) K = K (!greatC l && decide (deskE l 0 = 0)) := by
 unfold w_l09_fit wv_l09_fit
 dsimp only [Go.Pf.jn]
 rw [GreatCakes_eq hl]
 cases hg : greatC l with
 | true => rfl
 | false =>
   obtain ⟨g1, g2, g3⟩ := greatC_low hg
   have h : ∀ K, w_r04_Check (cks l) [] K = K (deskE l 0) := fun K => fCheck_eq (lg := []) g3 (by omega) K
   rw [show (!false) = true from rfl, cbr_true, h, Bool.true_and]
   rfl
end
end Go.Pf.Vc
namespace Go.Pf.Vc
open Go Go.Pf
set_option maxRecDepth 100000
set_option maxHeartbeats 1000000
def nStep (cuts dens : List Int) (i : Nat) (x : List Int × List Int) : List Int × List Int :=
 if i = 0 ∨ dens.getD i 0 = dens.getD (i - 1) 0 then x else (x.1 ++ [cuts.getD i 0], x.2 ++ [dens.getD (i - 1) 0])
def nlR (cuts dens : List Int) : Nat → Nat → List Int × List Int → List Int × List Int
 | 0, _, x => x
 | r + 1, i, x => nlR cuts dens r (i + 1) (nStep cuts dens i x)
theorem ints_snoc (l : List Int) (x : Int) : ints l ++ [.int .i64 x] = ints (l ++ [x]) := by unfold ints; rw [List.map_append]; rfl
section
variable {cuts dens : List Int} {a0 : Int → List PV → List PV → (Int → Prop) → Prop} {x0 : List PV → Int → List PV → List PV → Int → Int → Int → Bool → Prop} {x1 : List PV → List PV → Int → List PV → List PV → Int → Int → Int → Bool → Prop}
theorem nIte {i : Nat} (hi : 1 ≤ i) (x : List Int × List Int) : nStep cuts dens i x = bif (dens.getD i 0 != dens.getD (i - 1) 0) then (x.1 ++ [cuts.getD i 0], x.2 ++ [dens.getD (i - 1) 0]) else x := by
 unfold nStep
 by_cases h : dens.getD i 0 = dens.getD (i - 1) 0
 · rw [if_pos (.inr h), bne_f h]
   rfl
 · rw [if_neg (by rintro (k | k); omega; exact h k), bne_t h]
   rfl
theorem nStep_len {i : Nat} {x : List Int × List Int} (h1 : x.1.length ≤ i + 1) (h2 : x.2.length ≤ i) : (nStep cuts dens i x).1.length ≤ i + 1 + 1 ∧ (nStep cuts dens i x).2.length ≤ i + 1 := by
 unfold nStep
 split
 · exact ⟨by omega, by omega⟩
 · simp only [List.length_append, List.length_singleton]
   exact ⟨by omega, by omega⟩
theorem nor1 (i2 i5 i6 : Int) {k : Nat} (hk : k = dens.length) (hk2 : k ≤ 100) (hc : k ≤ cuts.length) : ∀ (r i : Nat) (x : List Int × List Int), i + r = k → 1 ≤ i → x.1.length ≤ i + 1 → x.2.length ≤ i →
   (∃ n, L_r02_Normal_0_1 a0 x0 x1 n (ints x.1) (ints x.2) i2 (ints cuts) (ints dens) i5 i6 (i : Int)) = x1 (ints (nlR cuts dens r i x).1) (ints (nlR cuts dens r i x).2) i2 (ints cuts) (ints dens) i5 i6 (k : Int) false
 | 0, i, x, hi, h1, _, _ => by
   have e : ∀ n, L_r02_Normal_0_1 a0 x0 x1 (n + 1) (ints x.1) (ints x.2) i2 (ints cuts) (ints dens) i5 i6 (i : Int) = x1 (ints x.1) (ints x.2) i2 (ints cuts) (ints dens) i5 i6 (k : Int) false := fun n => by
     conv => lhs; unfold L_r02_Normal_0_1
     rw [ints_len, cbF (by omega), show (i : Int) = (k : Int) by omega]
   rw [exS3 rfl (R := fun _ => _) e, exC3]
   rfl
 | r + 1, i, x, hi, h1, l1, l2 => by
   obtain ⟨m1, m2⟩ := nStep_len (cuts := cuts) (dens := dens) l1 l2
   have ih := nor1 i2 i5 i6 hk hk2 hc r (i + 1) (nStep cuts dens i x) (by omega) (by omega) m1 m2
   have w : IntKind.i64.wrap ((i : Int) + 1) = ((i + 1 : Nat) : Int) := by rw [wib (by omega) (by omega)]; omega
   have w1 : IntKind.i64.wrap ((i : Int) - 1) = ((i - 1 : Nat) : Int) := by rw [wib (by omega) (by omega)]; omega
   have e : ∀ n, L_r02_Normal_0_1 a0 x0 x1 (n + 1) (ints x.1) (ints x.2) i2 (ints cuts) (ints dens) i5 i6 (i : Int) = L_r02_Normal_0_1 a0 x0 x1 n (ints (nStep cuts dens i x).1) (ints (nStep cuts dens i x).2) i2 (ints cuts) (ints dens) i5 i6 ((i + 1 : Nat) : Int) := fun n => by
     conv => lhs; unfold L_r02_Normal_0_1
     dsimp only [lt, Go.Pf.jn]
     rw [ints_len, w, w1, Int.toNat_natCast, Int.toNat_natCast, cbT (by omega), cbT (by omega), ints_at (l := dens) (i := i) (by omega), ints_at (l := dens) (i := i - 1) (by omega), ints_at (l := cuts) (i := i) (by omega), ints_len, ints_len, ints_len]
     refine (asTT (decide_eq_true (by omega))).trans ?_
     refine (asTT (decide_eq_true (by omega))).trans ?_
     refine (asTT rfl).trans ?_
     refine (asTT (decide_eq_true (by omega))).trans ?_
     refine (asTT (decide_eq_true (by omega))).trans ?_
     refine (asTT rfl).trans ?_
     rw [nIte h1]
     show cbr (dens.getD i 0 != dens.getD (i - 1) 0) _ _ = _
     cases hb : (dens.getD i 0 != dens.getD (i - 1) 0) with
     | true =>
       rw [cbr_true]
       refine (asTT (decide_eq_true (by omega))).trans ?_
       refine (asTT (decide_eq_true (by omega))).trans ?_
       refine (asTT rfl).trans ?_
       refine (asTT (by simp)).trans ?_
       refine (asTT (by simp)).trans ?_
       refine (asTT (by simp)).trans ?_
       refine (asTT (by simp)).trans ?_
       refine (asTT (decide_eq_true (by unfold room; omega))).trans ?_
       refine (asTT (decide_eq_true (by omega))).trans ?_
       refine (asTT (decide_eq_true (by omega))).trans ?_
       refine (asTT rfl).trans ?_
       refine (asTT (by simp)).trans ?_
       refine (asTT (by simp)).trans ?_
       refine (asTT (by simp)).trans ?_
       refine (asTT (by simp)).trans ?_
       refine (asTT (decide_eq_true (by unfold room; omega))).trans ?_
       refine (asTT (by simp)).trans ?_
       show L_r02_Normal_0_1 a0 x0 x1 n (ints x.1 ++ [.int .i64 (cuts.getD i 0)]) (ints x.2 ++ [.int .i64 (dens.getD (i - 1) 0)]) _ _ _ _ _ _ = _
       rw [ints_snoc, ints_snoc]
       rfl
     | false =>
       rw [cbr_false]
       exact (asTT (by simp)).trans rfl
   rw [exS3 rfl (R := fun _ => _) e]
   exact ih
theorem nor0 (i1 i4 i5 : Int) {k : Nat} (hk : k = dens.length) (hk2 : k ≤ 100) (hc : k ≤ cuts.length) {Y : List Int → List Int → Prop} (hX0 : ∀ oc, x0 (ints oc) i1 (ints cuts) (ints dens) i4 i5 (k : Int) false = Y oc []) (hX1 : ∀ oc od, x1 (ints oc) (ints od) i1 (ints cuts) (ints dens) i4 i5 (k : Int) false = Y oc od) : ∀ (r i : Nat) (oc : List Int), i + r = k → oc.length ≤ i + 1 →
   (∃ n, L_r02_Normal_0_0 a0 x0 x1 n (ints oc) i1 (ints cuts) (ints dens) i4 i5 (i : Int)) = Y (nlR cuts dens r i (oc, [])).1 (nlR cuts dens r i (oc, [])).2
 | 0, i, oc, hi, _ => by
   have e : ∀ n, L_r02_Normal_0_0 a0 x0 x1 (n + 1) (ints oc) i1 (ints cuts) (ints dens) i4 i5 (i : Int) = Y oc [] := fun n => by
     conv => lhs; unfold L_r02_Normal_0_0
     rw [ints_len, cbF (by omega), show (i : Int) = (k : Int) by omega, hX0]
   rw [exS3 rfl (R := fun _ => _) e, exC3]
   rfl
 | r + 1, i, oc, hi, l1 => by
   have w : IntKind.i64.wrap ((i : Int) + 1) = ((i + 1 : Nat) : Int) := by rw [wib (by omega) (by omega)]; omega
   show _ = Y (nlR cuts dens r (i + 1) (nStep cuts dens i (oc, []))).1 (nlR cuts dens r (i + 1) (nStep cuts dens i (oc, []))).2
   by_cases h1 : i = 0
   · have es : nStep cuts dens i (oc, []) = (oc, []) := by unfold nStep; rw [if_pos (.inl h1)]
     have ih := nor0 i1 i4 i5 hk hk2 hc hX0 hX1 r (i + 1) oc (by omega) (by omega)
     rw [es]
     have e : ∀ n, L_r02_Normal_0_0 a0 x0 x1 (n + 1) (ints oc) i1 (ints cuts) (ints dens) i4 i5 (i : Int) = L_r02_Normal_0_0 a0 x0 x1 n (ints oc) i1 (ints cuts) (ints dens) i4 i5 ((i + 1 : Nat) : Int) := fun n => by
       conv => lhs; unfold L_r02_Normal_0_0
       dsimp only [lt, Go.Pf.jn]
       rw [ints_len, w, cbT (by omega), cbF (by omega), cbr_false]
       exact asTT (by simp)
     rw [exS3 rfl (R := fun _ => _) e]
     exact ih
   · have w1 : IntKind.i64.wrap ((i : Int) - 1) = ((i - 1 : Nat) : Int) := by rw [wib (by omega) (by omega)]; omega
     cases hb : (dens.getD i 0 != dens.getD (i - 1) 0) with
     | true =>
       have es : nStep cuts dens i (oc, []) = (oc ++ [cuts.getD i 0], [dens.getD (i - 1) 0]) := by rw [nIte (by omega), hb]; rfl
       have ih := nor1 (a0 := a0) (x0 := x0) (x1 := x1) (cuts := cuts) (dens := dens) i1 i4 i5 hk hk2 hc r (i + 1) (oc ++ [cuts.getD i 0], [dens.getD (i - 1) 0]) (by omega) (by omega) (by simp only [List.length_append, List.length_singleton]; omega) (by simp only [List.length_singleton]; omega)
       rw [es]
       have e : ∀ n, L_r02_Normal_0_0 a0 x0 x1 (n + 1) (ints oc) i1 (ints cuts) (ints dens) i4 i5 (i : Int) = L_r02_Normal_0_1 a0 x0 x1 n (ints (oc ++ [cuts.getD i 0])) (ints [dens.getD (i - 1) 0]) i1 (ints cuts) (ints dens) i4 i5 ((i + 1 : Nat) : Int) := fun n => by
         conv => lhs; unfold L_r02_Normal_0_0
         dsimp only [lt, Go.Pf.jn]
         rw [ints_len, w, w1, Int.toNat_natCast, Int.toNat_natCast, cbT (by omega), cbT (by omega), ints_at (l := dens) (i := i) (by omega), ints_at (l := dens) (i := i - 1) (by omega), ints_at (l := cuts) (i := i) (by omega), ints_len, ints_len]
         refine (asTT (decide_eq_true (by omega))).trans ?_
         refine (asTT (decide_eq_true (by omega))).trans ?_
         refine (asTT rfl).trans ?_
         refine (asTT (decide_eq_true (by omega))).trans ?_
         refine (asTT (decide_eq_true (by omega))).trans ?_
         refine (asTT rfl).trans ?_
         show cbr (dens.getD i 0 != dens.getD (i - 1) 0) _ _ = _
         rw [hb, cbr_true]
         refine (asTT (decide_eq_true (by omega))).trans ?_
         refine (asTT (decide_eq_true (by omega))).trans ?_
         refine (asTT rfl).trans ?_
         refine (asTT (by simp)).trans ?_
         refine (asTT (by simp)).trans ?_
         refine (asTT (by simp)).trans ?_
         refine (asTT (by simp)).trans ?_
         refine (asTT (decide_eq_true (by unfold room; omega))).trans ?_
         refine (asTT (decide_eq_true (by omega))).trans ?_
         refine (asTT (decide_eq_true (by omega))).trans ?_
         refine (asTT rfl).trans ?_
         refine (asTT (by simp)).trans ?_
         show L_r02_Normal_0_1 a0 x0 x1 n (ints oc ++ [.int .i64 (cuts.getD i 0)]) _ _ _ _ _ _ _ = _
         rw [ints_snoc]
         rfl
       rw [exS3 rfl (R := fun _ => _) e]
       exact ih.trans (hX1 _ _)
     | false =>
       have es : nStep cuts dens i (oc, []) = (oc, []) := by rw [nIte (by omega), hb]; rfl
       have ih := nor0 i1 i4 i5 hk hk2 hc hX0 hX1 r (i + 1) oc (by omega) (by omega)
       rw [es]
       have e : ∀ n, L_r02_Normal_0_0 a0 x0 x1 (n + 1) (ints oc) i1 (ints cuts) (ints dens) i4 i5 (i : Int) = L_r02_Normal_0_0 a0 x0 x1 n (ints oc) i1 (ints cuts) (ints dens) i4 i5 ((i + 1 : Nat) : Int) := fun n => by
         conv => lhs; unfold L_r02_Normal_0_0
         dsimp only [lt, Go.Pf.jn]
         rw [ints_len, w, w1, Int.toNat_natCast, cbT (by omega), cbT (by omega)]
         refine (asTT (decide_eq_true (by omega))).trans ?_
         refine (asTT (decide_eq_true (by omega))).trans ?_
         rw [Int.toNat_natCast, ints_at (l := dens) (i := i) (by omega), ints_at (l := dens) (i := i - 1) (by omega)]
         refine (asTT rfl).trans ?_
         refine (asTT (decide_eq_true (by omega))).trans ?_
         refine (asTT (decide_eq_true (by omega))).trans ?_
         refine (asTT rfl).trans ?_
         show cbr (dens.getD i 0 != dens.getD (i - 1) 0) _ _ = _
         rw [hb, cbr_false]
         exact asTT (by simp)
       rw [exS3 rfl (R := fun _ => _) e]
       exact ih
end
def nrC (cuts dens : List Int) (len : Int) : List Int := (nlR cuts dens dens.length 0 ([0], [])).1 ++ [len]
def nrD (cuts dens : List Int) : List Int := (nlR cuts dens dens.length 0 ([0], [])).2 ++ [dens.getD (dens.length - 1) 0]
theorem nlR_len {cuts dens : List Int} : ∀ (r i : Nat) (x : List Int × List Int), x.1.length ≤ i + 1 → x.2.length ≤ i → (nlR cuts dens r i x).1.length ≤ i + r + 1 ∧ (nlR cuts dens r i x).2.length ≤ i + r
 | 0, i, x, h1, h2 => ⟨by simpa [nlR] using h1, by simpa [nlR] using h2⟩
 | r + 1, i, x, h1, h2 => by
   obtain ⟨m1, m2⟩ := nStep_len (cuts := cuts) (dens := dens) h1 h2
   obtain ⟨a, b⟩ := nlR_len (cuts := cuts) (dens := dens) r (i + 1) (nStep cuts dens i x) m1 m2
   exact ⟨by show (nlR cuts dens r (i + 1) _).1.length ≤ _; omega, by show (nlR cuts dens r (i + 1) _).2.length ≤ _; omega⟩
theorem Normal_eq {len : Int} {cuts dens : List Int} (h : VC len cuts dens) (K : Int → List PV → List PV → Int → Prop) : w_r02_Normal len (ints cuts) (ints dens) K = K len (ints (nrC cuts dens len)) (ints (nrD cuts dens)) 0 := by
 have l1 := h.l1
 have l2 := h.l2
 have l3 : 2 ≤ cuts.length := h.2.2.1
 obtain ⟨m1, m2⟩ := nlR_len (cuts := cuts) (dens := dens) dens.length 0 ([0], []) (by decide) (by decide)
 have w : IntKind.i64.wrap ((dens.length : Int) - 1) = ((dens.length - 1 : Nat) : Int) := by rw [wib (by omega) (by omega)]; omega
 unfold w_r02_Normal wv_r02_Normal
 rw [dCheck_eq (by omega) (by omega), h.ck, cnF rfl]
 dsimp only [lt]
 refine (asTT rfl).trans ?_
 let Y : List Int → List Int → Prop := fun oc od => asr (decide ((oc.length + 1 + 64) * (8 + 1) ≤ room)) (asr (decide ((od.length + 1 + 64) * (8 + 1) ≤ room)) (K len (ints (oc ++ [len])) (ints (od ++ [dens.getD (dens.length - 1) 0])) 0))
 refine (nor0 (cuts := cuts) (dens := dens) (Y := Y) len 0 len rfl (by omega) (by omega) (fun oc => ?_) (fun oc od => ?_) dens.length 0 [0] (by omega) (by decide)).trans ?_
 · rw [ints_len, ints_len, w, Int.toNat_natCast, ints_at (l := dens) (i := dens.length - 1) (by omega)]
   refine (asTT (by simp)).trans ?_
   refine (asTT (by simp)).trans ?_
   refine (asTT (by simp)).trans ?_
   refine (asTT (by simp)).trans ?_
   refine congrArg (asr _) ?_
   refine (asTT (decide_eq_true (by omega))).trans ?_
   refine (asTT (decide_eq_true (by omega))).trans ?_
   refine (asTT rfl).trans ?_
   refine (asTT (by simp)).trans ?_
   refine (asTT (by simp)).trans ?_
   refine Eq.trans ?_ (asTT (decide_eq_true (by unfold room; simp))).symm
   rw [List.take_of_length_le (Nat.le_refl _), ints_snoc]
   rfl
 · rw [ints_len, ints_len, ints_len, w, Int.toNat_natCast, ints_at (l := dens) (i := dens.length - 1) (by omega)]
   refine (asTT (by simp)).trans ?_
   refine (asTT (by simp)).trans ?_
   refine (asTT (by simp)).trans ?_
   refine (asTT (by simp)).trans ?_
   refine congrArg (asr _) ?_
   refine (asTT (decide_eq_true (by omega))).trans ?_
   refine (asTT (decide_eq_true (by omega))).trans ?_
   refine (asTT rfl).trans ?_
   refine (asTT (by simp)).trans ?_
   refine (asTT (by simp)).trans ?_
   refine (asTT (by simp)).trans ?_
   refine (asTT (by simp)).trans ?_
   refine congrArg (asr _) ?_
   refine (asTT (by simp)).trans ?_
   refine (asTT (by simp)).trans ?_
   refine (asTT (by simp)).trans ?_
   refine (asTT (by simp)).trans ?_
   rw [List.take_of_length_le (Nat.le_refl _), List.take_of_length_le (Nat.le_refl _), ints_snoc]
   show K len _ (ints od ++ [.int .i64 (dens.getD (dens.length - 1) 0)]) 0 = _
   rw [ints_snoc]
 · refine (asTT (decide_eq_true (by unfold room; omega))).trans ?_
   exact asTT (decide_eq_true (by unfold room; omega))
end Go.Pf.Vc
namespace Go.Pf.Vc
open Go Go.Pf
set_option maxRecDepth 100000
set_option maxHeartbeats 1000000
def cl9 (x a b : Rat) : Rat := minR (maxR x a) b
theorem cl9_add {x a b c : Rat} (h1 : a ≤ b) (h2 : b ≤ c) : cl9 x a b + cl9 x b c = cl9 x a c + b := by
 have m1 := maxR_is x a
 have m2 := maxR_is x b
 have n1 := minR_is (maxR x a) b
 have n2 := minR_is (maxR x b) c
 have n3 := minR_is (maxR x a) c
 unfold cl9
 grind
def vt9 (cuts dens : List Int) (x : Rat) : Nat → Rat
 | 0 => 0
 | n + 1 => vt9 cuts dens x n + ((dens.getD n 0 : Int) : Rat) * uC cuts n x
theorem vu_vt {cuts dens : List Int} {x : Rat} : ∀ (r i : Nat), vu cuts dens x r i = vt9 cuts dens x (i + r) - vt9 cuts dens x i
 | 0, i => by unfold vu; rw [Nat.add_zero]; grind
 | r + 1, i => by
   have ih := vu_vt (cuts := cuts) (dens := dens) (x := x) r (i + 1)
   unfold vu
   rw [ih, show i + 1 + r = i + (r + 1) by omega]
   show _ + (_ - (vt9 cuts dens x i + _)) = _
   grind
theorem vX_vt (cuts dens : List Int) (x : Rat) : vX cuts dens x = vt9 cuts dens x dens.length := by
 unfold vX
 rw [vu_vt, Nat.zero_add]
 show _ - 0 = _
 grind
theorem vt9_congr {cuts dens cuts' dens' : List Int} {x : Rat} : ∀ n, (∀ j, j < n → dens.getD j 0 = dens'.getD j 0) → (∀ j, j ≤ n → cuts.getD j 0 = cuts'.getD j 0) → vt9 cuts dens x n = vt9 cuts' dens' x n
 | 0, _, _ => rfl
 | n + 1, h1, h2 => by
   have ih := vt9_congr (x := x) n (fun j hj => h1 j (by omega)) (fun j hj => h2 j (by omega))
   show vt9 cuts dens x n + ((dens.getD n 0 : Int) : Rat) * uC cuts n x = vt9 cuts' dens' x n + ((dens'.getD n 0 : Int) : Rat) * uC cuts' n x
   unfold uC
   rw [ih, h1 n (by omega), h2 n (by omega), h2 (n + 1) (by omega)]
theorem gL9 {oc t : List Int} {j : Nat} (h : j < oc.length) : (oc ++ t).getD j 0 = oc.getD j 0 := by
 rw [List.getD_eq_getElem?_getD, List.getElem?_append_left h, ← List.getD_eq_getElem?_getD]
structure NI (cuts dens : List Int) (i : Nat) (x : List Int × List Int) : Prop where
 l : x.1.length = x.2.length + 1
 le : x.1.length ≤ i
 c0 : x.1.getD 0 0 = 0
 inc : ∀ j, j + 1 < x.1.length → x.1.getD j 0 < x.1.getD (j + 1) 0
 lt : x.1.getD x.2.length 0 < cuts.getD i 0
 den : ∀ d ∈ x.2, 0 ≤ d ∧ d ≤ 12
 val : ∃ κ : Rat, ∀ y, vt9 x.1 x.2 y x.2.length + ((dens.getD (i - 1) 0 : Int) : Rat) * cl9 y ((x.1.getD x.2.length 0 : Int) : Rat) ((cuts.getD i 0 : Int) : Rat) = vt9 cuts dens y i - κ
 pos : (∃ j, j < i ∧ 0 < dens.getD j 0) → (∃ d ∈ x.2, 0 < d) ∨ 0 < dens.getD (i - 1) 0
section
variable {len : Int} {cuts dens : List Int}
theorem NI.init (h : VC len cuts dens) : NI cuts dens 1 ([0], []) := by
 have l1 := h.l1
 have l3 : 2 ≤ cuts.length := h.2.2.1
 have c0 : cuts.getD 0 0 = 0 := h.2.2.2.2.2.1
 have st := h.step (i := 0) (by omega)
 refine ⟨rfl, by decide, rfl, fun j hj => ?_, ?_, (fun d hd => by cases hd), ⟨0, fun y => ?_⟩, fun ⟨j, hj, hp⟩ => .inr ?_⟩
 · have hj : j + 1 < 1 := hj
   omega
 · show (0 : Int) < cuts.getD 1 0
   rw [c0] at st
   exact st
 · show (0 : Rat) + ((dens.getD 0 0 : Int) : Rat) * cl9 y ((0 : Int) : Rat) ((cuts.getD 1 0 : Int) : Rat) = (0 + ((dens.getD 0 0 : Int) : Rat) * minR (maxR y ((cuts.getD 0 0 : Int) : Rat)) ((cuts.getD 1 0 : Int) : Rat)) - 0
   rw [c0]
   unfold cl9
   grind
 · obtain rfl : j = 0 := by omega
   exact hp
theorem NI.step (h : VC len cuts dens) {i : Nat} (hi : 1 ≤ i) (hi2 : i < dens.length) {x : List Int × List Int} (n : NI cuts dens i x) : NI cuts dens (i + 1) (nStep cuts dens i x) := by
 have l1 := h.l1
 have st := h.step (i := i) (by omega)
 have hl := n.l
 have hle := n.le
 have hlt := n.lt
 obtain ⟨κ, hv⟩ := n.val
 have r1 : ((x.1.getD x.2.length 0 : Int) : Rat) ≤ ((cuts.getD i 0 : Int) : Rat) := Rat.intCast_le_intCast.2 (by omega)
 have r2 : ((cuts.getD i 0 : Int) : Rat) ≤ ((cuts.getD (i + 1) 0 : Int) : Rat) := Rat.intCast_le_intCast.2 (by omega)
 unfold nStep
 by_cases c : i = 0 ∨ dens.getD i 0 = dens.getD (i - 1) 0
 · have c : dens.getD i 0 = dens.getD (i - 1) 0 := by rcases c with c | c; omega; exact c
   rw [if_pos (.inr c)]
   refine ⟨hl, by omega, n.c0, n.inc, by omega, n.den, ⟨κ + ((dens.getD i 0 : Int) : Rat) * ((cuts.getD i 0 : Int) : Rat), fun y => ?_⟩, fun ⟨j, hj, hp⟩ => ?_⟩
   · have e := cl9_add (x := y) r1 r2
     have v := hv y
     rw [Nat.add_sub_cancel]
     show _ = vt9 cuts dens y i + ((dens.getD i 0 : Int) : Rat) * cl9 y ((cuts.getD i 0 : Int) : Rat) ((cuts.getD (i + 1) 0 : Int) : Rat) - _
     rw [← c] at v
     have e3 : ((dens.getD i 0 : Int) : Rat) * (cl9 y ((x.1.getD x.2.length 0 : Int) : Rat) ((cuts.getD i 0 : Int) : Rat) + cl9 y ((cuts.getD i 0 : Int) : Rat) ((cuts.getD (i + 1) 0 : Int) : Rat)) = ((dens.getD i 0 : Int) : Rat) * (cl9 y ((x.1.getD x.2.length 0 : Int) : Rat) ((cuts.getD (i + 1) 0 : Int) : Rat) + ((cuts.getD i 0 : Int) : Rat)) := by rw [e]
     rw [Rat.mul_add, Rat.mul_add] at e3
     grind
   · rw [Nat.add_sub_cancel]
     by_cases k : j < i
     · rw [c]
       exact n.pos ⟨j, k, hp⟩
     · obtain rfl : j = i := by omega
       exact .inr hp
 · rw [if_neg c]
   have gl : (x.1 ++ [cuts.getD i 0]).getD (x.2 ++ [dens.getD (i - 1) 0]).length 0 = cuts.getD i 0 := last_at (by rw [List.length_append, List.length_singleton]; omega)
   refine ⟨by simp only [List.length_append, List.length_singleton]; omega, by simp only [List.length_append, List.length_singleton]; omega, ?_, fun j hj => ?_, ?_, fun d hd => ?_, ⟨κ, fun y => ?_⟩, fun ⟨j, hj, hp⟩ => ?_⟩
   · show (x.1 ++ [cuts.getD i 0]).getD 0 0 = 0
     rw [gL9 (by omega)]
     exact n.c0
   · have hj : j + 1 < (x.1 ++ [cuts.getD i 0]).length := hj
     rw [List.length_append, List.length_singleton] at hj
     show (x.1 ++ [cuts.getD i 0]).getD j 0 < (x.1 ++ [cuts.getD i 0]).getD (j + 1) 0
     by_cases k : j + 1 < x.1.length
     · rw [gL9 (by omega), gL9 k]
       exact n.inc j k
     · rw [gL9 (by omega), last_at (by omega), show j = x.2.length by omega]
       exact hlt
   · show (x.1 ++ [cuts.getD i 0]).getD (x.2 ++ [dens.getD (i - 1) 0]).length 0 < _
     rw [gl]
     exact st
   · rcases List.mem_append.1 hd with hd | hd
     · exact n.den d hd
     · rw [List.mem_singleton.1 hd]
       exact h.den (by omega)
   · show vt9 (x.1 ++ [cuts.getD i 0]) (x.2 ++ [dens.getD (i - 1) 0]) y (x.2 ++ [dens.getD (i - 1) 0]).length + ((dens.getD (i + 1 - 1) 0 : Int) : Rat) * cl9 y (((x.1 ++ [cuts.getD i 0]).getD (x.2 ++ [dens.getD (i - 1) 0]).length 0 : Int) : Rat) _ = _
     rw [gl, Nat.add_sub_cancel, List.length_append, List.length_singleton]
     show vt9 (x.1 ++ [cuts.getD i 0]) (x.2 ++ [dens.getD (i - 1) 0]) y x.2.length + (((x.2 ++ [dens.getD (i - 1) 0]).getD x.2.length 0 : Int) : Rat) * cl9 y (((x.1 ++ [cuts.getD i 0]).getD x.2.length 0 : Int) : Rat) (((x.1 ++ [cuts.getD i 0]).getD (x.2.length + 1) 0 : Int) : Rat) + _ = vt9 cuts dens y i + ((dens.getD i 0 : Int) : Rat) * cl9 y ((cuts.getD i 0 : Int) : Rat) ((cuts.getD (i + 1) 0 : Int) : Rat) - _
     rw [last_at (acc := x.2) rfl, gL9 (oc := x.1) (j := x.2.length) (by omega), last_at (acc := x.1) (i := x.2.length + 1) (by omega)]
     rw [vt9_congr (cuts' := x.1) (dens' := x.2) x.2.length (fun j hj => gL9 hj) (fun j hj => gL9 (by omega))]
     have v := hv y
     grind
   · rw [Nat.add_sub_cancel]
     by_cases k : j < i
     · rcases n.pos ⟨j, k, hp⟩ with ⟨d, hd, p⟩ | p
       · exact .inl ⟨d, List.mem_append.2 (.inl hd), p⟩
       · exact .inl ⟨_, List.mem_append.2 (.inr (List.mem_singleton.2 rfl)), p⟩
     · obtain rfl : j = i := by omega
       exact .inr hp
theorem NI.all (h : VC len cuts dens) : ∀ (r i : Nat) (x : List Int × List Int), i + r = dens.length → 1 ≤ i → NI cuts dens i x → NI cuts dens dens.length (nlR cuts dens r i x)
 | 0, i, x, hi, _, n => by
   obtain rfl : i = dens.length := hi
   exact n
 | r + 1, i, x, hi, h1, n => NI.all h r (i + 1) _ (by omega) (by omega) (n.step h h1 (by omega))
theorem nr_NI (h : VC len cuts dens) : NI cuts dens dens.length (nlR cuts dens dens.length 0 ([0], [])) := by
 have l1 := h.l1
 have l3 : 2 ≤ cuts.length := h.2.2.1
 have e : nlR cuts dens dens.length 0 ([0], []) = nlR cuts dens (dens.length - 1) 1 ([0], []) := by
   conv => lhs; rw [show dens.length = (dens.length - 1) + 1 by omega]
   rfl
 rw [e]
 exact NI.all h _ 1 _ (by omega) (by omega) (NI.init h)
theorem nr_ok (h : VC len cuts dens) : VC len (nrC cuts dens len) (nrD cuts dens) ∧ ∃ κ : Rat, ∀ y, vX (nrC cuts dens len) (nrD cuts dens) y = vX cuts dens y - κ := by
 have n := nr_NI h
 have l1 := h.l1
 have l2 := h.l2
 have l3 : 2 ≤ cuts.length := h.2.2.1
 have hla := h.last
 unfold nrC nrD
 generalize nlR cuts dens dens.length 0 ([0], []) = x at n ⊢
 have hl := n.l
 have hle := n.le
 have hlt := n.lt
 rw [hla] at hlt
 refine ⟨⟨h.1, h.2.1, by rw [List.length_append, List.length_singleton]; omega, by rw [List.length_append, List.length_singleton]; omega, by simp only [List.length_append, List.length_singleton]; omega, ?_, ?_, (incr_iff _).2 fun j hj1 hj => ?_, fun d hd => ?_, ?_⟩, ?_⟩
 · rw [gL9 (by omega)]
   exact n.c0
 · exact last_at (by rw [List.length_append, List.length_singleton]; omega)
 · rw [List.length_append, List.length_singleton] at hj
   by_cases k : j + 1 < x.1.length
   · rw [gL9 (by omega), gL9 k]
     exact n.inc j k
   · rw [gL9 (by omega), last_at (by omega), show j = x.2.length by omega]
     exact hlt
 · rcases List.mem_append.1 hd with hd | hd
   · exact n.den d hd
   · rw [List.mem_singleton.1 hd]
     exact h.den (by omega)
 · obtain ⟨d, hd, hp⟩ := h.2.2.2.2.2.2.2.2.2
   obtain ⟨j, hj, rfl⟩ := List.mem_iff_getElem.1 hd
   rcases n.pos ⟨j, hj, by rw [List.getD_eq_getElem?_getD, List.getElem?_eq_getElem hj]; exact hp⟩ with ⟨d, hd, p⟩ | p
   · exact ⟨d, List.mem_append.2 (.inl hd), p⟩
   · exact ⟨_, List.mem_append.2 (.inr (List.mem_singleton.2 rfl)), p⟩
 · obtain ⟨κ, hv⟩ := n.val
   refine ⟨κ, fun y => ?_⟩
   rw [vX_vt, vX_vt, List.length_append, List.length_singleton, ← hv y, hla]
   show vt9 (x.1 ++ [len]) (x.2 ++ [dens.getD (dens.length - 1) 0]) y x.2.length + (((x.2 ++ [dens.getD (dens.length - 1) 0]).getD x.2.length 0 : Int) : Rat) * cl9 y (((x.1 ++ [len]).getD x.2.length 0 : Int) : Rat) (((x.1 ++ [len]).getD (x.2.length + 1) 0 : Int) : Rat) = _
   rw [last_at (acc := x.2) rfl, gL9 (oc := x.1) (j := x.2.length) (by omega), last_at (acc := x.1) (i := x.2.length + 1) (by omega)]
   rw [vt9_congr (cuts' := x.1) (dens' := x.2) x.2.length (fun j hj => gL9 hj) (fun j hj => gL9 (by omega))]
end
end Go.Pf.Vc
namespace Go.Pf.Vc
open Go Go.Pf
set_option maxRecDepth 100000
set_option maxHeartbeats 1000000
def nrK (c : Ck) : Ck := ⟨c.len, nrC c.cuts c.dens c.len, nrD c.cuts c.dens⟩
section
variable {l : List Ck}
theorem nrK_at {a : Nat} (ha : a < l.length) : (l.map nrK).getD a default = nrK (l.getD a default) := by
 rw [List.getD_eq_getElem?_getD, List.getElem?_map, List.getD_eq_getElem?_getD, List.getElem?_eq_getElem ha]
 rfl
theorem nrL_DK (hd : DK l) : DK (l.map nrK) := by
 have n0 := hd.n0
 refine ⟨by rw [List.length_map]; exact hd.n6, by rw [List.length_map]; exact hd.n0, fun i hi => ?_, fun i hi => ?_⟩
 · rw [List.length_map] at hi
   rw [nrK_at hi]
   exact (nr_ok (hd.ok i hi)).1
 · rw [List.length_map] at hi
   rw [nrK_at hi, nrK_at (by omega)]
   exact hd.len i hi
theorem nr_len (hd : DK l) : lenR (l.map nrK) = lenR l := by
 have n0 := hd.n0
 unfold lenR
 rw [nrK_at (by omega)]
 rfl
theorem nr_vXA (hd : DK l) {a : Nat} (ha : a < l.length) : ∃ κ : Rat, ∀ y, vXA (l.map nrK) a y = vXA l a y - κ := by
 unfold vXA
 rw [nrK_at ha]
 exact (nr_ok (hd.ok a ha)).2
theorem nr_dif (hd : DK l) {a : Nat} (ha : a < l.length) (q p : Rat) : vXA (l.map nrK) a p - vXA (l.map nrK) a q = vXA l a p - vXA l a q := by
 obtain ⟨κ, h⟩ := nr_vXA hd ha
 rw [h, h]
 grind
theorem nr_mark (hd : DK l) {a : Nat} (ha : a < l.length) {q v : Rat} (q0 : 0 ≤ q) (q1 : q ≤ lenR l) (v0 : 0 ≤ v) {D D' : Int} (h : MkV l a q v D) (h' : MkV (l.map nrK) a q v D') : mkV (l.map nrK) a q v = mkV l a q v := by
 have hd' := nrL_DK hd
 have ha' : a < (l.map nrK).length := by rw [List.length_map]; exact ha
 have e1 : q ≤ (((l.getD a default).len : Int) : Rat) := by rw [hd.len a ha]; exact q1
 have e2 : q ≤ ((((l.map nrK).getD a default).len : Int) : Rat) := by rw [nrK_at ha]; exact e1
 obtain ⟨a1, a2, a3, a4, a5⟩ := mrkC_vX (hd.ok a ha) q0 e1 v0 h.e
 obtain ⟨b1, b2, b3, b4, b5⟩ := mrkC_vX (hd'.ok a ha') q0 e2 v0 h'.e
 by_cases hz : v = 0
 · rw [← a4 hz, ← b4 hz]
 · obtain ⟨κ, hk⟩ := nr_vXA hd ha
   have k1 := hk (mkV l a q v)
   have k2 := hk (mkV (l.map nrK) a q v)
   have k3 := hk q
   have c1 := h.eqv
   have c2 := h'.eqv
   rcases (by grind : mkV l a q v < mkV (l.map nrK) a q v ∨ mkV l a q v = mkV (l.map nrK) a q v ∨ mkV (l.map nrK) a q v < mkV l a q v) with k | k | k
   · have c3 : vXA (l.map nrK) a (mkV l a q v) < vXA (l.map nrK) a (mkV (l.map nrK) a q v) := b5 hz _ k
     grind
   · exact k.symm
   · have c3 : vXA l a (mkV (l.map nrK) a q v) < vXA l a (mkV l a q v) := a5 hz _ k
     grind
theorem HV.nr (hd : DK l) {A : List Nat} {q p : Rat} {D : Int} (h : HV l A q p D) : HV (l.map nrK) A q p D :=
 ⟨h.len, h.srt, fun a ha => by rw [List.length_map]; exact h.mem a ha, h.q0, by rw [nr_len hd]; exact h.p1, h.D1, h.iq, h.ip, h.qp, fun a ha => by rw [nr_dif hd (h.mem a ha)]; exact h.pos a ha⟩
theorem nr_fA (hd : DK l) {A : List Nat} {q p : Rat} {D : Int} (h : HV l A q p D) (h2 : 2 ≤ A.length) {a : Nat} (ha : a ∈ A) : fA (l.map nrK) A q p a = fA l A q p a := by
 have hal := h.mem a ha
 have m := (h.sm hd h2 ha).2.2.2.2
 have m' := ((h.nr hd).sm (nrL_DK hd) h2 ha).2.2.2.2
 have w0 : 0 ≤ (vXA l a p - vXA l a q) * partR A := Rat.mul_nonneg (Rat.le_of_lt (h.pos a ha)) (Rat.le_of_lt (part_ok h2 h.len.2).2.1)
 unfold fA hAt
 rw [nr_dif hd hal] at m' ⊢
 exact nr_mark hd hal h.q0 (Rat.le_trans (Rat.le_of_lt h.qp) h.p1) w0 m m'
theorem nr_gA (hd : DK l) {A : List Nat} {q p : Rat} {D : Int} (h : HV l A q p D) (h2 : 2 ≤ A.length) {a : Nat} (ha : a ∈ A) : gA (l.map nrK) A q p a = gA l A q p a := by
 have f := nr_fA hd h h2 ha
 unfold fA hAt at f
 unfold gA hLog vlQ hAsk
 rw [nr_dif hd (h.mem a ha)] at f ⊢
 rw [f, nr_len hd]
theorem hs_congr {A : List Nat} {f g : Nat → Rat} (h : ∀ a ∈ A, f a = g a) : hsS A f = hsS A g := by
 unfold hsS
 rw [List.map_congr_left fun a ha => by rw [h a ha]]
theorem dvM_nr (hd : DK l) : ∀ (n : Nat) (A : List Nat) (q p : Rat) (D : Int), HV l A q p D → A.length ≤ 2 ^ n → (72 : Int) ^ n * D ≤ 100000000 → dvM (l.map nrK) (n + 1) A q p = dvM l (n + 1) A q p := by
 intro n
 induction n with
 | zero =>
   intro A q p D _ hA _
   have hA : A.length ≤ 1 := hA
   rw [dvM_one hA, dvM_one hA]
 | succ n ih =>
   intro A q p D h hA hD
   by_cases h2 : A.length ≤ 1
   · rw [dvM_one h2, dvM_one h2]
   · have h2 : 2 ≤ A.length := by omega
     have D1 := h.D1
     have pw : (1 : Int) ≤ 72 ^ n := Int.pow_pos (by decide)
     have e72 : (72 : Int) ^ (n + 1) * D = 72 ^ n * (72 * D) := by rw [Int.pow_succ]; rw [Int.mul_assoc]
     rw [e72] at hD
     have hD2 : 1 * (72 * D) ≤ 72 ^ n * (72 * D) := Int.mul_le_mul_of_nonneg_right pw (by omega)
     obtain ⟨D', hD', hL, hR⟩ := h.split hd h2 (by omega)
     have hD3 : (72 : Int) ^ n * D' ≤ 72 ^ n * (72 * D) := Int.mul_le_mul_of_nonneg_left hD' (by omega)
     have e2 : 2 ^ (n + 1) = 2 * 2 ^ n := by rw [Nat.pow_succ, Nat.mul_comm]
     have es : hsS A (fA (l.map nrK) A q p) = hsS A (fA l A q p) := hs_congr fun a ha => nr_fA hd h h2 ha
     have eL : lftS A (fA (l.map nrK) A q p) = lftS A (fA l A q p) := by unfold lftS; rw [es]
     have eR : rgtS A (fA (l.map nrK) A q p) = rgtS A (fA l A q p) := by unfold rgtS; rw [es]
     have eC : cutH A (fA (l.map nrK) A q p) = cutH A (fA l A q p) := by unfold cutH; rw [es]
     have eG : A.flatMap (gA (l.map nrK) A q p) = A.flatMap (gA l A q p) := by
       rw [List.flatMap_def, List.flatMap_def, List.map_congr_left fun a ha => nr_gA hd h h2 ha]
     rw [dvM_two (A := A) h2, dvM_two (A := A) h2, eL, eR, eC, eG, ih _ _ _ _ hL (by rw [lft_len]; omega) (by omega), ih _ _ _ _ hR (by rw [rgt_len]; omega) (by omega)]
theorem dvX_nr (hd : DK l) : dvX (l.map nrK) = dvX l ∧ dvL (l.map nrK) = dvL l := by
 have n6 := hd.n6
 have e := dvM_nr hd 3 (List.range l.length) 0 (lenR l) 1 (HV.top hd) (by rw [List.length_range]; omega) (by decide)
 unfold dvX dvL
 rw [List.length_map, nr_len hd, e]
 exact ⟨rfl, rfl⟩
end
end Go.Pf.Vc
namespace Go.Pf.Vc
open Go Go.Pf
set_option maxRecDepth 100000
set_option maxHeartbeats 1000000
section
variable {l : List Ck}
def pcA (l : List Ck) (a : Nat) : RS := ((psL l).getD (oL l a) default).2
theorem pcA_at (hd : DK l) {a : Nat} (ha : a < l.length) : List.getD (rspL (dvX l)) ((a : Int).toNat) .nils = .data (rsp [pcA l a]) := by
 rw [Int.toNat_natCast, rspL_at (by rw [dvX_len]; exact ha), dvX_at hd ha]
 rfl
def hitA (l : List Ck) (i j : Nat) : Bool := decide ((pcA l j).2 = (pcA l i).1)
theorem hs21 {a0 a1 a2 a3 a4 a5 x1} (hd : DK l) (l0 : List PV) {i : Nat} (hi : i < l.length) : ∀ (d k : Nat) (b : Bool), k + d = l.length →
   (∃ n, L_l09_HalveSame_2_1 a0 a1 a2 a3 a4 a5 x1 n l0 (cks l) (rspL (dvX l)) (i : Int) b (k : Int)) = x1 l0 (cks l) (rspL (dvX l)) (i : Int) (b || (List.range' k d).any (hitA l i)) (l.length : Int) false
 | 0, k, b, h => by
   have e : ∀ n, L_l09_HalveSame_2_1 a0 a1 a2 a3 a4 a5 x1 (n + 1) l0 (cks l) (rspL (dvX l)) (i : Int) b (k : Int) = x1 l0 (cks l) (rspL (dvX l)) (i : Int) b (l.length : Int) false := fun n => by
     conv => lhs; unfold L_l09_HalveSame_2_1
     rw [cks_len, cbF (by omega), show (k : Int) = (l.length : Int) by omega]
   rw [exS3 rfl (R := fun _ => _) e, exC3]
   simp
 | d + 1, k, b, h => by
   have n6 := hd.n6
   have hk : k < l.length := by omega
   have ih := fun b => hs21 (a0 := a0) (a1 := a1) (a2 := a2) (a3 := a3) (a4 := a4) (a5 := a5) (x1 := x1) hd l0 hi d (k + 1) b (by omega)
   have w : IntKind.i64.wrap ((k : Int) + 1) = ((k + 1 : Nat) : Int) := by rw [wib (by omega) (by omega)]; omega
   have gk := pcA_at hd hk
   have gi := pcA_at hd hi
   have lX : (rspL (dvX l)).length = l.length := by rw [rspL_len, dvX_len]
   have e : ∀ n, L_l09_HalveSame_2_1 a0 a1 a2 a3 a4 a5 x1 (n + 1) l0 (cks l) (rspL (dvX l)) (i : Int) b (k : Int) = L_l09_HalveSame_2_1 a0 a1 a2 a3 a4 a5 x1 n l0 (cks l) (rspL (dvX l)) (i : Int) (b || hitA l i k) ((k + 1 : Nat) : Int) := fun n => by
     conv => lhs; unfold L_l09_HalveSame_2_1
     dsimp only [lt, Go.Pf.jn]
     rw [cks_len, cbT (by omega), w, gk, gi, lX]
     cases b with
     | true => rfl
     | false =>
       rw [cbr_false]
       refine (asTT (decide_eq_true (by omega))).trans ?_
       refine (asTT (decide_eq_true (by omega))).trans ?_
       refine (asTT rfl).trans ?_
       refine (cbYY rfl).trans ?_
       refine (asTT (decide_eq_true (by omega))).trans ?_
       refine (asTT (decide_eq_true (by omega))).trans ?_
       refine (asTT rfl).trans ?_
       refine (asTT rfl).trans ?_
       refine (asTT rfl).trans ?_
       refine (asTT (decide_eq_true (by omega))).trans ?_
       refine (asTT (decide_eq_true (by omega))).trans ?_
       refine (asTT rfl).trans ?_
       refine (asTT rfl).trans ?_
       refine (asTT rfl).trans ?_
       rw [Bool.false_or]
       have eq : (((pcA l k).2.num == (pcA l i).1.num) && ((((pcA l k).2.den : Int) == ((pcA l i).1.den : Int)) && true)) = hitA l i k := rbeq3
       rw [← eq]
       rfl
   rw [exS3 rfl (R := fun _ => _) e, ih, List.range'_succ, List.any_cons, Bool.or_assoc]
theorem hit_any (hd : DK l) {i : Nat} (hi : i < l.length) : ((((pcA l i).1.num : Int) == 0) || (List.range' 0 l.length).any (hitA l i)) = true := by
 have n6 := hd.n6
 have n0 := hd.n0
 obtain ⟨h1, h2, h3⟩ := oL_at hd hi
 rcases dvM_begin (l := l) 3 (List.range l.length) 0 (lenR l) (by rw [List.length_range]; omega) (by rw [List.length_range]; omega) _ h3 with k | ⟨y, hy, k⟩
 · have k : (pcA l i).1 = 0 := k
   rw [k]
   rfl
 · have hm : y.1 ∈ (psL l).map Prod.fst := List.mem_map.2 ⟨y, hy, rfl⟩
   have hj : y.1 < l.length := List.mem_range.1 ((psL_perm hd).mem_iff.1 hm)
   have e : (dvX l).getD y.1 [] = [y.2] := setP_get (psL l) (List.replicate l.length []) y (nodP hd) hy (by rw [List.length_replicate]; exact hj)
   have e2 : pcA l y.1 = y.2 := by
     have := dvX_at hd hj
     rw [e] at this
     exact (List.cons.inj this).1.symm
   rw [Bool.or_eq_true]
   refine .inr (List.any_eq_true.2 ⟨y.1, List.mem_range'_1.2 ⟨by omega, by omega⟩, ?_⟩)
   unfold hitA
   rw [e2]
   exact decide_eq_true k
theorem hs11 {a0 a1 a2 a3 a4 a5 x2 x3} (hd : DK l) (l0 : List PV) : ∀ (d i : Nat), i + d = l.length →
   (∃ n, L_l09_HalveSame_1_1 a0 a1 a2 a3 a4 a5 x2 x3 n l0 (cks l) (rspL (dvX l)) (i : Int)) = x2 l0 (cks l) (rspL (dvX l)) (l.length : Int) false
 | 0, i, h => by
   have e : ∀ n, L_l09_HalveSame_1_1 a0 a1 a2 a3 a4 a5 x2 x3 (n + 1) l0 (cks l) (rspL (dvX l)) (i : Int) = x2 l0 (cks l) (rspL (dvX l)) (l.length : Int) false := fun n => by
     conv => lhs; unfold L_l09_HalveSame_1_1
     rw [cks_len, cbF (by omega), show (i : Int) = (l.length : Int) by omega]
   rw [exS3 rfl (R := fun _ => _) e, exC3]
 | d + 1, i, h => by
   have n6 := hd.n6
   have hi : i < l.length := by omega
   have ih := hs11 (a0 := a0) (a1 := a1) (a2 := a2) (a3 := a3) (a4 := a4) (a5 := a5) (x2 := x2) (x3 := x3) hd l0 d (i + 1) (by omega)
   have w : IntKind.i64.wrap ((i : Int) + 1) = ((i + 1 : Nat) : Int) := by rw [wib (by omega) (by omega)]; omega
   have gi := pcA_at hd hi
   have lX : (rspL (dvX l)).length = l.length := by rw [rspL_len, dvX_len]
   have e : ∀ n, L_l09_HalveSame_1_1 a0 a1 a2 a3 a4 a5 x2 x3 (n + 1) l0 (cks l) (rspL (dvX l)) (i : Int) = L_l09_HalveSame_1_1 a0 a1 a2 a3 a4 a5 x2 x3 n l0 (cks l) (rspL (dvX l)) ((i + 1 : Nat) : Int) := fun n => by
     conv => lhs; unfold L_l09_HalveSame_1_1
     dsimp only [lt, Go.Pf.jn]
     rw [cks_len, cbT (by omega), gi, lX]
     refine (asTT (decide_eq_true (by omega))).trans ?_
     refine (asTT (decide_eq_true (by omega))).trans ?_
     refine (asTT rfl).trans ?_
     refine (cbNN rfl).trans ?_
     refine (asTT (decide_eq_true (by omega))).trans ?_
     refine (asTT (decide_eq_true (by omega))).trans ?_
     refine (asTT rfl).trans ?_
     refine (asTT rfl).trans ?_
     refine (asTT rfl).trans ?_
     refine (hs21 hd l0 hi l.length 0 _ (by omega)).trans ?_
     have k : ((intOfV (cellAt (List.getD (datOfV (.data (rsp [pcA l i]))) 0 .nils) 0) == 0) || (List.range' 0 l.length).any (hitA l i)) = true := hit_any hd hi
     rw [k, w]
     rfl
   rw [exS3 rfl (R := fun _ => _) e]
   exact ih
theorem hs01 {a0 a1 a3 a4 a5 x2 x3} (hd : DK l) : ∀ (d i : Nat), i + d = l.length → 1 ≤ i →
   (∃ n, L_l09_HalveSame_0_1 a0 a1 w_r02_Normal a3 a4 a5 x2 x3 n (cks ((l.take i).map nrK)) (cks l) (i : Int)) = x2 (cks (l.map nrK)) (cks l) (l.length : Int) false
 | 0, i, h, h1 => by
   have e : ∀ n, L_l09_HalveSame_0_1 a0 a1 w_r02_Normal a3 a4 a5 x2 x3 (n + 1) (cks ((l.take i).map nrK)) (cks l) (i : Int) = x2 (cks (l.map nrK)) (cks l) (l.length : Int) false := fun n => by
     conv => lhs; unfold L_l09_HalveSame_0_1
     rw [cks_len, cbF (by omega), show (i : Int) = (l.length : Int) by omega, List.take_of_length_le (by omega)]
   rw [exS3 rfl (R := fun _ => _) e, exC3]
 | d + 1, i, h, h1 => by
   have n6 := hd.n6
   have hi : i < l.length := by omega
   have ih := hs01 (a0 := a0) (a1 := a1) (a3 := a3) (a4 := a4) (a5 := a5) (x2 := x2) (x3 := x3) hd d (i + 1) (by omega) (by omega)
   have w : IntKind.i64.wrap ((i : Int) + 1) = ((i + 1 : Nat) : Int) := by rw [wib (by omega) (by omega)]; omega
   have lT : (cks ((l.take i).map nrK)).length = i := by rw [cks_len, List.length_map, List.length_take]; omega
   have gc : List.getD (cks l) ((i : Int).toNat) .nils = encC (l.getD i default) := by rw [Int.toNat_natCast]; exact cks_at hi
   have et : cks ((l.take i).map nrK) ++ [encC (nrK (l.getD i default))] = cks ((l.take (i + 1)).map nrK) := by
     have : l.take (i + 1) = l.take i ++ [l.getD i default] := by
       rw [List.take_add_one, List.getD_eq_getElem?_getD, List.getElem?_eq_getElem hi]
       rfl
     rw [this, List.map_append]
     unfold cks
     rw [List.map_append]
     rfl
   have e : ∀ n, L_l09_HalveSame_0_1 a0 a1 w_r02_Normal a3 a4 a5 x2 x3 (n + 1) (cks ((l.take i).map nrK)) (cks l) (i : Int) = L_l09_HalveSame_0_1 a0 a1 w_r02_Normal a3 a4 a5 x2 x3 n (cks ((l.take (i + 1)).map nrK)) (cks l) ((i + 1 : Nat) : Int) := fun n => by
     conv => lhs; unfold L_l09_HalveSame_0_1
     dsimp only [lt, Go.Pf.jn]
     rw [cks_len (l := l), cbT (by omega), w, gc, lT]
     refine (asTT (decide_eq_true (by omega))).trans ?_
     refine (asTT (decide_eq_true (by omega))).trans ?_
     refine (asTT rfl).trans ?_
     refine (Normal_eq (hd.ok i hi) _).trans ?_
     refine (cnF rfl).trans ?_
     refine (asTT (by simp)).trans ?_
     refine (asTT (by simp)).trans ?_
     refine (asTT (by simp)).trans ?_
     refine (asTT (by simp)).trans ?_
     refine (asTT (decide_eq_true (by unfold room; omega))).trans ?_
     refine (asTT (by simp)).trans ?_
     show L_l09_HalveSame_0_1 a0 a1 w_r02_Normal a3 a4 a5 x2 x3 n (cks ((l.take i).map nrK) ++ [encC (nrK (l.getD i default))]) _ _ = _
     rw [et]
   rw [exS3 rfl (R := fun _ => _) e]
   exact ih
theorem hs00 {a0 a1 a3 a4 a5 x0 x1 x2 x3} (hd : DK l) :
   (∃ n, L_l09_HalveSame_0_0 a0 a1 w_r02_Normal a3 a4 a5 x0 x1 x2 x3 n (cks l) 0) = x2 (cks (l.map nrK)) (cks l) (l.length : Int) false := by
 have n0 := hd.n0
 have et : [encC (nrK (l.getD 0 default))] = cks ((l.take 1).map nrK) := by
   match l, n0 with
   | c :: r, _ => rfl
 have e : ∀ n, L_l09_HalveSame_0_0 a0 a1 w_r02_Normal a3 a4 a5 x0 x1 x2 x3 (n + 1) (cks l) 0 = L_l09_HalveSame_0_1 a0 a1 w_r02_Normal a3 a4 a5 x2 x3 n (cks ((l.take 1).map nrK)) (cks l) ((1 : Nat) : Int) := fun n => by
   conv => lhs; unfold L_l09_HalveSame_0_0
   dsimp only [lt, Go.Pf.jn]
   rw [cks_len, cbT (by omega), show (0 : Int).toNat = 0 from rfl, cks_at n0]
   refine (asTT (by decide)).trans ?_
   refine (asTT (decide_eq_true (by omega))).trans ?_
   refine (asTT rfl).trans ?_
   refine (Normal_eq (hd.ok 0 n0) _).trans ?_
   refine (cnF rfl).trans ?_
   refine (asTT (by simp)).trans ?_
   show L_l09_HalveSame_0_1 a0 a1 w_r02_Normal a3 a4 a5 x2 x3 n [encC (nrK (l.getD 0 default))] _ _ = _
   rw [et]
   rfl
 rw [exS3 rfl (R := fun _ => _) e]
 exact hs01 hd (l.length - 1) 1 (by omega) (by omega)
theorem HalveSame_ok (hl : l.length ≤ 9223372036854775807) : w_l09_HalveSame (cks l) (fun b => b = true) := by
 unfold w_l09_HalveSame wv_l09_HalveSame
 rw [fit9_eq hl]
 by_cases hf : (!greatC l && decide (deskE l 0 = 0)) = true
 case neg =>
   rw [show (!greatC l && decide (deskE l 0 = 0)) = false by simpa using hf]
   show w_l09_alive _
   rw [alive9_eq]
 rw [hf, show (!true) = false from rfl, cbr_false]
 simp only [Bool.and_eq_true, Bool.not_eq_true', decide_eq_true_eq] at hf
 obtain ⟨hg, hz⟩ := hf
 have hd := (deskE_zero hz).1
 have n0 := hd.n0; have n6 := hd.n6
 have hd' := nrL_DK hd
 obtain ⟨eX, eL⟩ := dvX_nr hd
 have hL := dvL_len hd
 rw [hs00 hd]
 dsimp only [Go.Pf.jn]
 rw [hRun_ok hd, List.take_of_length_le (Nat.le_refl _)]
 refine Eq.mpr (asTT (by simp)) ?_
 refine Eq.mpr (asTT (by simp)) ?_
 rw [hRun_ok hd', eX, eL, cnF rfl, cnF rfl, sameD (dvX l) (by rw [dvX_len]; omega) (fun a ha => Nat.le_trans (dvX_one a ha) (by omega))]
 rw [show (!true) = false from rfl, cbr_false, SameLogs_self (by omega), show (!true) = false from rfl, cbr_false, rspL_len, dvX_len, cks_len, bne_self_eq_false, cbr_false]
 refine Eq.mpr (hs11 hd _ l.length 0 (by omega)) ?_
 rw [alive9_eq]
end
end Go.Pf.Vc
