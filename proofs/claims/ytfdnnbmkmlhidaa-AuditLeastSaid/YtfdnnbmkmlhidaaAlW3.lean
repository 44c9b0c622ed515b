/- Part 3 of what the statement rests on: a verified evaluator over pure values, the conditions of the program's functions, and their plain laws. -/
import Derived.Test.YtfdnnbmkmlhidaaAlW2
namespace Go.Pf.Vc
open Go Go.Pf
set_option maxRecDepth 100000
theorem loop_audit_heights_1 : ∀ F H Q, lp_audit_heights w_audit_order w_s_Equal_int64_int64 10433800 F H Q → LoopT (E ef0) b_10433800 F H Q := by
 intro F H Q h
 have go := LoopT.intro (callW_ok (se0_audit_heights) 5) (lpb_audit_heights_1) (R_audit_heights_1 w_audit_order w_s_Equal_int64_int64 Q) (by
   intro F H h
   unfold R_audit_heights_1 D_audit_heights_1 at h
   split at h
   · obtain ⟨hg, k⟩ := asr_iff.1 h
     clear h
     have h := k
     clear k
     try simp only [Bool.and_eq_true, decide_eq_true_eq] at hg
     have g0 := hg; have g0 := Nat.eq_of_beq_eq_true g0; subst g0; exact h
   · obtain ⟨hg, k⟩ := asr_iff.1 h
     clear h
     have h := k
     clear k
     try simp only [Bool.and_eq_true, decide_eq_true_eq] at hg
     have g0 := hg; have g0 := Nat.eq_of_beq_eq_true g0; subst g0; exact h
   · exact h) (by
   intro n F H h
   unfold R_audit_heights_1 D_audit_heights_1 at h
   split at h
   · obtain ⟨hg, k⟩ := asr_iff.1 h
     clear h
     have h := k
     clear k
     try simp only [Bool.and_eq_true, decide_eq_true_eq] at hg
     have g0 := hg; have g0 := Nat.eq_of_beq_eq_true g0; subst g0; exact (body_audit_heights_1_0 ..).mpr h
   · obtain ⟨hg, k⟩ := asr_iff.1 h
     clear h
     have h := k
     clear k
     try simp only [Bool.and_eq_true, decide_eq_true_eq] at hg
     have g0 := hg; have g0 := Nat.eq_of_beq_eq_true g0; subst g0; exact (body_audit_heights_1_1 ..).mpr h
   · exact h.elim)
 have h : D_audit_heights_1 F H _ _ := h
 unfold D_audit_heights_1 at h
 split at h
 · obtain ⟨hg, n, h⟩ := asr_iff.1 h; exact go n _ _ (asr_iff.2 ⟨hg, h⟩)
 · obtain ⟨hg, n, h⟩ := asr_iff.1 h; exact go n _ _ (asr_iff.2 ⟨hg, h⟩)
 · exact h.elim
theorem body_audit_heights_3_0 (a0 a1 Q n l0 l1 l2 l3 i4 i5 n6 n7 n8 n9 n10 n11 l12 i13 i14 i15) : WC (E ef0) (callW (S0_audit_heights a0 a1) 5) (lp_audit_heights a0 a1) b_17934301 [(1, .v (.data l3)), (2, .v (.int .i64 i4)), (7, .v (.fn (.func n_audit_heights_1) [] [(.ptr 0 1 0 0)])), (8, .v (.int .i64 i5)), (9, .v (.own 1 0 n6 n7 (some n8))), (12, .v (.own 2 0 n9 n10 (some n11))), (13, .v (.data l12)), (14, .v (.int .i64 i13)), (59, .v (.int .i64 i14)), (60, .v (.int .i64 i15))] [⟨false, true, 1, ([(.data l2)] : List PV)⟩, ⟨false, true, 1, l0⟩, ⟨false, true, 1, l1⟩] (fun x F' H' => match x with | .norm => R_audit_heights_3 a0 a1 Q n F' H' | .exit i => Q (.exit i) F' H' | .ret => Q .ret F' H') = L_audit_heights_3_0 a0 a1 (X_audit_heights_3_0 Q) (n + 1) l0 l1 l2 l3 i4 i5 n6 n7 n8 n9 n10 n11 l12 i13 i14 i15 := by kernel_rfl
theorem lpb_audit_heights_3 : LpOk (E ef0) (lp_audit_heights w_audit_order w_s_Equal_int64_int64) b_17934301 := (LpOk_no (by kernel_rfl))
theorem loop_audit_heights_3 : ∀ F H Q, lp_audit_heights w_audit_order w_s_Equal_int64_int64 17934301 F H Q → LoopT (E ef0) b_17934301 F H Q := by
 intro F H Q h
 have go := LoopT.intro (callW_ok (se0_audit_heights) 5) (lpb_audit_heights_3) (R_audit_heights_3 w_audit_order w_s_Equal_int64_int64 Q) (by
   intro F H h
   unfold R_audit_heights_3 D_audit_heights_3 at h
   split at h
   · obtain ⟨hg, k⟩ := asr_iff.1 h
     clear h
     have h := k
     clear k
     try simp only [Bool.and_eq_true, decide_eq_true_eq] at hg
     have g0 := hg; have g0 := Nat.eq_of_beq_eq_true g0; subst g0; exact h
   · exact h) (by
   intro n F H h
   unfold R_audit_heights_3 D_audit_heights_3 at h
   split at h
   · obtain ⟨hg, k⟩ := asr_iff.1 h
     clear h
     have h := k
     clear k
     try simp only [Bool.and_eq_true, decide_eq_true_eq] at hg
     have g0 := hg; have g0 := Nat.eq_of_beq_eq_true g0; subst g0; exact (body_audit_heights_3_0 ..).mpr h
   · exact h.elim)
 have h : D_audit_heights_3 F H _ := h
 unfold D_audit_heights_3 at h
 split at h
 · obtain ⟨hg, n, h⟩ := asr_iff.1 h; exact go n _ _ (asr_iff.2 ⟨hg, h⟩)
 · exact h.elim
theorem se1_audit_heights : SEOk (S1_audit_heights w_audit_order w_s_Equal_int64_int64) := seOk_of ⟨(ok_audit_order ef0 effG0), (ok_s_Equal_int64_int64 ef0 effG0), trivial⟩ ⟨⟨by kernel_rfl, by kernel_rfl, rfl, fun as => baseS_none (by kernel_rfl) as, effG0.num _ (by kernel_rfl), (LpOk_no (by kernel_rfl))⟩, ⟨by kernel_rfl, by kernel_rfl, rfl, fun as => baseS_none (by kernel_rfl) as, effG0.num _ (by kernel_rfl), (LpOk_by (l := [(10433800, b_10433800)]) ⟨loop_audit_heights_1, trivial⟩ (by kernel_rfl))⟩, trivial⟩ effG0.ok
theorem body_audit_heights_4_0 (a0 a1 Q n l0 l1 l2 l3 i4 i5 n6 n7 n8 n9 n10 n11 l12 i13 i14 l15 i16 i17) : WC (E ef0) (callW (S1_audit_heights a0 a1) 5) (lp_audit_heights a0 a1) b_17934302 [(1, .v (.data l3)), (2, .v (.int .i64 i4)), (7, .v (.fn (.func n_audit_heights_1) [] [(.ptr 0 1 0 0)])), (8, .v (.int .i64 i5)), (9, .v (.own 1 0 n6 n7 (some n8))), (12, .v (.own 2 0 n9 n10 (some n11))), (13, .v (.data l12)), (59, .v (.int .i64 i13)), (60, .v (.int .i64 i14)), (88, .v (.data l15)), (89, .v (.int .i64 i16)), (90, .v (.int .i64 i17))] [⟨false, true, 1, ([(.data l2)] : List PV)⟩, ⟨false, true, 1, l0⟩, ⟨false, true, 1, l1⟩] (fun x F' H' => match x with | .norm => R_audit_heights_4 a0 a1 Q n F' H' | .exit i => Q (.exit i) F' H' | .ret => Q .ret F' H') = L_audit_heights_4_0 a0 a1 (X_audit_heights_4_0 Q) (n + 1) l0 l1 l2 l3 i4 i5 n6 n7 n8 n9 n10 n11 l12 i13 i14 l15 i16 i17 := by kernel_rfl
theorem lpb_audit_heights_4 : LpOk (E ef0) (lp_audit_heights w_audit_order w_s_Equal_int64_int64) b_17934302 := (LpOk_no (by kernel_rfl))
theorem loop_audit_heights_4 : ∀ F H Q, lp_audit_heights w_audit_order w_s_Equal_int64_int64 17934302 F H Q → LoopT (E ef0) b_17934302 F H Q := by
 intro F H Q h
 have go := LoopT.intro (callW_ok (se1_audit_heights) 5) (lpb_audit_heights_4) (R_audit_heights_4 w_audit_order w_s_Equal_int64_int64 Q) (by
   intro F H h
   unfold R_audit_heights_4 D_audit_heights_4 at h
   split at h
   · obtain ⟨hg, k⟩ := asr_iff.1 h
     clear h
     have h := k
     clear k
     try simp only [Bool.and_eq_true, decide_eq_true_eq] at hg
     have g0 := hg; have g0 := Nat.eq_of_beq_eq_true g0; subst g0; exact h
   · exact h) (by
   intro n F H h
   unfold R_audit_heights_4 D_audit_heights_4 at h
   split at h
   · obtain ⟨hg, k⟩ := asr_iff.1 h
     clear h
     have h := k
     clear k
     try simp only [Bool.and_eq_true, decide_eq_true_eq] at hg
     have g0 := hg; have g0 := Nat.eq_of_beq_eq_true g0; subst g0; exact (body_audit_heights_4_0 ..).mpr h
   · exact h.elim)
 have h : D_audit_heights_4 F H _ := h
 unfold D_audit_heights_4 at h
 split at h
 · obtain ⟨hg, n, h⟩ := asr_iff.1 h; exact go n _ _ (asr_iff.2 ⟨hg, h⟩)
 · exact h.elim
theorem body_audit_heights_0_0 (a0 a1 Q n l0 l1 l2 i3 i4 n5 n6 n7 l8 i9 i10) : WC (E ef0) (callW (S1_audit_heights a0 a1) 5) (lp_audit_heights a0 a1) b_17934300 [(1, .v (.data l2)), (2, .v (.int .i64 i3)), (3, .v (.ptr 0 1 0 0)), (7, .v (.fn (.func n_audit_heights_1) [] [(.ptr 0 1 0 0)])), (8, .v (.int .i64 i4)), (9, .v (.own 1 0 n5 n6 (some n7))), (27, .v (.data l8)), (28, .v (.int .i64 i9)), (29, .v (.int .i64 i10))] [⟨false, true, 1, ([(.data l1)] : List PV)⟩, ⟨false, true, 1, l0⟩] (fun x F' H' => match x with | .norm => R_audit_heights_0 a0 a1 Q n F' H' | .exit i => Q (.exit i) F' H' | .ret => Q .ret F' H') = L_audit_heights_0_0 a0 a1 (X_audit_heights_0_0 Q) (X_audit_heights_0_1 Q) (n + 1) l0 l1 l2 i3 i4 n5 n6 n7 l8 i9 i10 := by kernel_rfl
theorem lpb_audit_heights_0 : LpOk (E ef0) (lp_audit_heights w_audit_order w_s_Equal_int64_int64) b_17934300 := (LpOk_no (by kernel_rfl))
theorem loop_audit_heights_0 : ∀ F H Q, lp_audit_heights w_audit_order w_s_Equal_int64_int64 17934300 F H Q → LoopT (E ef0) b_17934300 F H Q := by
 intro F H Q h
 have go := LoopT.intro (callW_ok (se1_audit_heights) 5) (lpb_audit_heights_0) (R_audit_heights_0 w_audit_order w_s_Equal_int64_int64 Q) (by
   intro F H h
   unfold R_audit_heights_0 D_audit_heights_0 at h
   split at h
   · obtain ⟨hg, k⟩ := asr_iff.1 h
     clear h
     have h := k
     clear k
     try simp only [Bool.and_eq_true, decide_eq_true_eq] at hg
     have g0 := hg; have g0 := Nat.eq_of_beq_eq_true g0; subst g0; exact h
   · exact h) (by
   intro n F H h
   unfold R_audit_heights_0 D_audit_heights_0 at h
   split at h
   · obtain ⟨hg, k⟩ := asr_iff.1 h
     clear h
     have h := k
     clear k
     try simp only [Bool.and_eq_true, decide_eq_true_eq] at hg
     have g0 := hg; have g0 := Nat.eq_of_beq_eq_true g0; subst g0; exact (body_audit_heights_0_0 ..).mpr h
   · exact h.elim)
 have h : D_audit_heights_0 F H _ := h
 unfold D_audit_heights_0 at h
 split at h
 · obtain ⟨hg, n, h⟩ := asr_iff.1 h; exact go n _ _ (asr_iff.2 ⟨hg, h⟩)
 · exact h.elim
theorem body_audit_heights_2_0 (a0 a1 Q n l0 l1 l2 l3 i4 i5 n6 n7 n8 n9 n10 n11 i12 i13) : WC (E ef0) (callW (S1_audit_heights a0 a1) 5) (lp_audit_heights a0 a1) b_17934303 [(1, .v (.data l3)), (2, .v (.int .i64 i4)), (7, .v (.fn (.func n_audit_heights_1) [] [(.ptr 0 1 0 0)])), (8, .v (.int .i64 i5)), (9, .v (.own 1 0 n6 n7 (some n8))), (12, .v (.own 2 0 n9 n10 (some n11))), (59, .v (.int .i64 i12)), (60, .v (.int .i64 i13))] [⟨false, true, 1, ([(.data l2)] : List PV)⟩, ⟨false, true, 1, l0⟩, ⟨false, true, 1, l1⟩] (fun x F' H' => match x with | .norm => R_audit_heights_2 a0 a1 Q n F' H' | .exit i => Q (.exit i) F' H' | .ret => Q .ret F' H') = L_audit_heights_2_0 a0 a1 (X_audit_heights_2_0 Q) (X_audit_heights_2_1 Q) (X_audit_heights_2_2 Q) (n + 1) l0 l1 l2 l3 i4 i5 n6 n7 n8 n9 n10 n11 i12 i13 := by kernel_rfl
theorem lpb_audit_heights_2 : LpOk (E ef0) (lp_audit_heights w_audit_order w_s_Equal_int64_int64) b_17934303 := (LpOk_by (l := [(17934301, b_17934301), (17934302, b_17934302)]) ⟨loop_audit_heights_3, loop_audit_heights_4, trivial⟩ (by kernel_rfl))
theorem loop_audit_heights_2 : ∀ F H Q, lp_audit_heights w_audit_order w_s_Equal_int64_int64 17934303 F H Q → LoopT (E ef0) b_17934303 F H Q := by
 intro F H Q h
 have go := LoopT.intro (callW_ok (se1_audit_heights) 5) (lpb_audit_heights_2) (R_audit_heights_2 w_audit_order w_s_Equal_int64_int64 Q) (by
   intro F H h
   unfold R_audit_heights_2 D_audit_heights_2 at h
   split at h
   · obtain ⟨hg, k⟩ := asr_iff.1 h
     clear h
     have h := k
     clear k
     try simp only [Bool.and_eq_true, decide_eq_true_eq] at hg
     have g0 := hg; have g0 := Nat.eq_of_beq_eq_true g0; subst g0; exact h
   · exact h) (by
   intro n F H h
   unfold R_audit_heights_2 D_audit_heights_2 at h
   split at h
   · obtain ⟨hg, k⟩ := asr_iff.1 h
     clear h
     have h := k
     clear k
     try simp only [Bool.and_eq_true, decide_eq_true_eq] at hg
     have g0 := hg; have g0 := Nat.eq_of_beq_eq_true g0; subst g0; exact (body_audit_heights_2_0 ..).mpr h
   · exact h.elim)
 have h : D_audit_heights_2 F H _ := h
 unfold D_audit_heights_2 at h
 split at h
 · obtain ⟨hg, n, h⟩ := asr_iff.1 h; exact go n _ _ (asr_iff.2 ⟨hg, h⟩)
 · exact h.elim
theorem eq_audit_heights (a0 a1 p0 p1 p2 K0 K) : WPN (S1_audit_heights a0 a1) 6 t_audit_heights [(.data p0), (.data p1), (.int .i64 p2)] K0 K = wv_audit_heights a0 a1 p0 p1 p2 K0 (fun r0 => K (.data r0)) := by kernel_rfl
theorem ok_audit_heights : OkF (E ef0) wp_audit_heights n_audit_heights := by
 intro as K h
 unfold wp_audit_heights pw_audit_heights at h
 split at h
 · exact WPN_ok (se1_audit_heights) (LpOk_by (l := [(17934300, b_17934300), (17934301, b_17934301), (17934302, b_17934302), (17934303, b_17934303)]) ⟨loop_audit_heights_0, loop_audit_heights_3, loop_audit_heights_4, loop_audit_heights_2, trivial⟩ (by kernel_rfl)) (by kernel_rfl) (by kernel_rfl) (fun _ => baseS_none (by kernel_rfl) _) (effG0.num _ (by kernel_rfl)) ((eq_audit_heights ..).mpr h)
 · exact h.elim
abbrev T_audit_Guess : Type := Int → List PV → (List PV → List PV → Int → Prop) → Prop
def L_audit_Guess_0_1 (a0 : T_audit_claims) (a1 : T_audit_scale) (a2 : T_audit_pointsOf) (a3 : T_audit_heights) (a4 : T_ratio_Make) (x1 : List PV → Int → List PV → List PV → List PV → Int → Int → Bool → Prop) : Nat → List PV → Int → List PV → List PV → List PV → Int → Int → Prop
 | 0, _, _, _, _, _, _, _ => False
 | n + 1, l0, i1, l2, l5, l6, i7, i8 =>
 (cbr (decide (i8 < i7))
 (asr (decide ((0 : Int) ≤ i8))
 (asr (decide (i8 < (((List.length l6) : Nat) : Int)))
 (lt (List.getD l6 (i8.toNat) .nils) (fun yr50 =>
 (asr (conf (.one (.i .i64)) yr50)
 (lt (IntKind.i64.wrap ((((List.length l5) : Nat) : Int) + (1 : Int))) (fun yi56 =>
 (lt (IntKind.i64.wrap (i1 * yi56)) (fun yi57 =>
 (a4 (intOfV yr50) yi57 (fun yi58 yi59 _ => 
 (asr (decide ((List.length l0) = (List.length l0)))
 (asr (decide ((0 + (List.length l0)) ≤ (List.length l0)))
 (asr (!(decide (((0 + (List.length l0)) + 1) ≤ (List.length l0))))
 (asr (decide ((List.length l0) = (List.length l0)))
 (asr (decide ((((List.length l0) + 1) + 64) * (16 + 1) ≤ room))
 (lt (IntKind.i64.wrap (i8 + (1 : Int))) (fun yi61 =>
 (asr (decide ((List.length (l0 ++ ([(.agg [(.int .i64 yi58), (.int .i64 yi59)])] : List PV))) = List.length (l0 ++ ([(.agg [(.int .i64 yi58), (.int .i64 yi59)])] : List PV))) && decide ((List.length (l0 ++ ([(.agg [(.int .i64 yi58), (.int .i64 yi59)])] : List PV))) = List.length (l0 ++ ([(.agg [(.int .i64 yi58), (.int .i64 yi59)])] : List PV))))
 (L_audit_Guess_0_1 a0 a1 a2 a3 a4 x1 n (l0 ++ ([(.agg [(.int .i64 yi58), (.int .i64 yi59)])] : List PV)) i1 l2 l5 l6 i7 yi61))))))))))))))))))))
 (x1 l0 i1 l2 l5 l6 i7 i8 false))
def L_audit_Guess_0_0 (a0 : T_audit_claims) (a1 : T_audit_scale) (a2 : T_audit_pointsOf) (a3 : T_audit_heights) (a4 : T_ratio_Make) (x0 : Int → List PV → List PV → List PV → Int → Int → Bool → Prop) (x1 : List PV → Int → List PV → List PV → List PV → Int → Int → Bool → Prop) : Nat → Int → List PV → List PV → List PV → Int → Int → Prop
 | 0, _, _, _, _, _, _ => False
 | n + 1, i0, l1, l2, l3, i4, i5 =>
 (cbr (decide (i5 < i4))
 (asr (decide ((0 : Int) ≤ i5))
 (asr (decide (i5 < (((List.length l3) : Nat) : Int)))
 (lt (List.getD l3 (i5.toNat) .nils) (fun yr25 =>
 (asr (conf (.one (.i .i64)) yr25)
 (lt (IntKind.i64.wrap ((((List.length l2) : Nat) : Int) + (1 : Int))) (fun yi31 =>
 (lt (IntKind.i64.wrap (i0 * yi31)) (fun yi32 =>
 (a4 (intOfV yr25) yi32 (fun yi33 yi34 _ => 
 (lt (IntKind.i64.wrap (i5 + (1 : Int))) (fun yi36 =>
 (asr (decide (1 = List.length ([(.agg [(.int .i64 yi33), (.int .i64 yi34)])] : List PV)) && decide (1 = List.length ([(.agg [(.int .i64 yi33), (.int .i64 yi34)])] : List PV)))
 (L_audit_Guess_0_1 a0 a1 a2 a3 a4 x1 n ([(.agg [(.int .i64 yi33), (.int .i64 yi34)])] : List PV) i0 l1 l2 l3 i4 yi36)))))))))))))))
 (x0 i0 l1 l2 l3 i4 i5 false))
def wv_audit_Guess (a0 : T_audit_claims) (a1 : T_audit_scale) (a2 : T_audit_pointsOf) (a3 : T_audit_heights) (a4 : T_ratio_Make) (p0 : Int) (p1 : List PV) (K : List PV → List PV → Int → Prop) : Prop :=
 (a0 p0 p1 (fun yl2 yi3 => 
 (cbr (yi3 != (0 : Int))
 (K ([] : List PV) ([] : List PV) yi3)
 (a1 yl2 (fun yi6 yi7 => 
 (cbr (yi7 != (0 : Int))
 (K ([] : List PV) ([] : List PV) yi7)
 (a2 p0 yl2 (fun yl9 => 
 (a3 yl9 yl2 yi6
 (K ([] : List PV) ([] : List PV) (6 : Int))
 (fun yl11 => 
 (asr (!(List.isEmpty yl11))
 (∃ n : Nat, L_audit_Guess_0_0 a0 a1 a2 a3 a4
 (fun _ yl78 _ _ _ _ _ => (K yl78 ([] : List PV) (0 : Int)))
 (fun yl84 _ yl86 _ _ _ _ _ => (asr (decide ((List.length yl84) = (List.length yl84)))
 (asr (decide ((0 + (List.length yl84)) ≤ (List.length yl84)))
 (K yl86 (List.take (List.length yl84) yl84) (0 : Int)))))
 n yi6 yl9 yl11 yl11 (((List.length yl11) : Nat) : Int) (0 : Int)))))))))))))
def w_audit_Guess (p0 : Int) (p1 : List PV) (K : List PV → List PV → Int → Prop) : Prop := wv_audit_Guess w_audit_claims w_audit_scale w_audit_pointsOf w_audit_heights w_ratio_Make p0 p1 K
def pw_audit_Guess (w : T_audit_Guess) (as : List PV) (K : PV → Prop) : Prop :=
 match as with
 | [(.int .i64 p0), (.data p1)] => w p0 p1 (fun r0 r1 r2 => K (.tup [(.agg [(.data r0), (.data r1)]), (.int .i64 r2)]))
 | _ => False
def wp_audit_Guess (as : List PV) (K : PV → Prop) : Prop := pw_audit_Guess w_audit_Guess as K
def D_audit_Guess_0 (F : Frm) (H : Hp) (A0 : Int → List PV → List PV → List PV → Int → Int → Prop) (A1 : List PV → Int → List PV → List PV → List PV → Int → Int → Prop) : Prop :=
 match F, H with
 | [(4, .box (.agg [.nils, .nils])), (8, .v (.int .i64 i0)), (9, .box (.agg [(.data l1), .nils])), (10, .v (.data l2)), (46, .v (.data l3)), (47, .v (.int .i64 i4)), (48, .v (.int .i64 i5))], [] => (A0 i0 l1 l2 l3 i4 i5)
 | [(4, .box (.agg [.nils, .nils])), (8, .v (.int .i64 i1)), (9, .box (.agg [(.data l2), (.own 0 0 t3 t4 none)])), (10, .v (.data l5)), (46, .v (.data l6)), (47, .v (.int .i64 i7)), (48, .v (.int .i64 i8))], [⟨false, true, 2, l0⟩] => asr (decide (t3 = List.length l0) && decide (t4 = List.length l0)) (A1 l0 i1 l2 l5 l6 i7 i8)
 | _, _ => False
def X_audit_Guess_0_0 (Q : Ex → Frm → Hp → Prop) : Int → List PV → List PV → List PV → Int → Int → Bool → Prop := (fun i0 l1 l2 l3 i4 i5 b6 => Q (.exit 0) [(4, .box (.agg [.nils, .nils])), (8, .v (.int .i64 i0)), (9, .box (.agg [(.data l1), .nils])), (10, .v (.data l2)), (46, .v (.data l3)), (47, .v (.int .i64 i4)), (48, .v (.int .i64 i5)), (49, .v (.bool b6))] [])
def X_audit_Guess_0_1 (Q : Ex → Frm → Hp → Prop) : List PV → Int → List PV → List PV → List PV → Int → Int → Bool → Prop := (fun l0 i1 l2 l5 l6 i7 i8 b9 => Q (.exit 0) [(4, .box (.agg [.nils, .nils])), (8, .v (.int .i64 i1)), (9, .box (.agg [(.data l2), (.own 0 0 (List.length l0) (List.length l0) none)])), (10, .v (.data l5)), (46, .v (.data l6)), (47, .v (.int .i64 i7)), (48, .v (.int .i64 i8)), (49, .v (.bool b9))] [⟨false, true, 2, l0⟩])
def R_audit_Guess_0 (a0 : T_audit_claims) (a1 : T_audit_scale) (a2 : T_audit_pointsOf) (a3 : T_audit_heights) (a4 : T_ratio_Make) (Q : Ex → Frm → Hp → Prop) (n : Nat) (F : Frm) (H : Hp) : Prop := D_audit_Guess_0 F H (fun i0 l1 l2 l3 i4 i5 => L_audit_Guess_0_0 a0 a1 a2 a3 a4 (X_audit_Guess_0_0 Q) (X_audit_Guess_0_1 Q) n i0 l1 l2 l3 i4 i5) (fun l0 i1 l2 l5 l6 i7 i8 => L_audit_Guess_0_1 a0 a1 a2 a3 a4 (X_audit_Guess_0_1 Q) n l0 i1 l2 l5 l6 i7 i8)
def lp_audit_Guess (a0 : T_audit_claims) (a1 : T_audit_scale) (a2 : T_audit_pointsOf) (a3 : T_audit_heights) (a4 : T_ratio_Make) : LP := fun id F H Q =>
 bif Nat.beq id 81034600 then D_audit_Guess_0 F H (fun i0 l1 l2 l3 i4 i5 => ∃ n : Nat, L_audit_Guess_0_0 a0 a1 a2 a3 a4 (X_audit_Guess_0_0 Q) (X_audit_Guess_0_1 Q) n i0 l1 l2 l3 i4 i5) (fun l0 i1 l2 l5 l6 i7 i8 => ∃ n : Nat, L_audit_Guess_0_1 a0 a1 a2 a3 a4 (X_audit_Guess_0_1 Q) n l0 i1 l2 l5 l6 i7 i8) else
 False
def S0_audit_Guess (a0 : T_audit_claims) (a1 : T_audit_scale) (a2 : T_audit_pointsOf) (a3 : T_audit_heights) (a4 : T_ratio_Make) : SE := ⟨(E ef0), lookS [(n_audit_claims, pw_audit_claims a0), (n_audit_scale, pw_audit_scale a1), (n_audit_pointsOf, pw_audit_pointsOf a2), (n_audit_heights, pw_audit_heights a3), (n_ratio_Make, pw_ratio_Make a4)], lookI [], lp_audit_Guess a0 a1 a2 a3 a4⟩
theorem se0_audit_Guess : SEOk (S0_audit_Guess w_audit_claims w_audit_scale w_audit_pointsOf w_audit_heights w_ratio_Make) := seOk_of ⟨(ok_audit_claims ef0 effG0), (ok_audit_scale ef0 effG0), ok_audit_pointsOf, ok_audit_heights, (ok_ratio_Make ef0 effG0), trivial⟩ trivial effG0.ok
theorem body_audit_Guess_0_0 (a0 a1 a2 a3 a4 Q n i0 l1 l2 l3 i4 i5) : WC (E ef0) (callW (S0_audit_Guess a0 a1 a2 a3 a4) 5) (lp_audit_Guess a0 a1 a2 a3 a4) b_81034600 [(4, .box (.agg [.nils, .nils])), (8, .v (.int .i64 i0)), (9, .box (.agg [(.data l1), .nils])), (10, .v (.data l2)), (46, .v (.data l3)), (47, .v (.int .i64 i4)), (48, .v (.int .i64 i5))] [] (fun x F' H' => match x with | .norm => R_audit_Guess_0 a0 a1 a2 a3 a4 Q n F' H' | .exit i => Q (.exit i) F' H' | .ret => Q .ret F' H') = L_audit_Guess_0_0 a0 a1 a2 a3 a4 (X_audit_Guess_0_0 Q) (X_audit_Guess_0_1 Q) (n + 1) i0 l1 l2 l3 i4 i5 := by kernel_rfl
theorem body_audit_Guess_0_1 (a0 a1 a2 a3 a4 Q n l0 i1 l2 l5 l6 i7 i8) : WC (E ef0) (callW (S0_audit_Guess a0 a1 a2 a3 a4) 5) (lp_audit_Guess a0 a1 a2 a3 a4) b_81034600 [(4, .box (.agg [.nils, .nils])), (8, .v (.int .i64 i1)), (9, .box (.agg [(.data l2), (.own 0 0 (List.length l0) (List.length l0) none)])), (10, .v (.data l5)), (46, .v (.data l6)), (47, .v (.int .i64 i7)), (48, .v (.int .i64 i8))] [⟨false, true, 2, l0⟩] (fun x F' H' => match x with | .norm => R_audit_Guess_0 a0 a1 a2 a3 a4 Q n F' H' | .exit i => Q (.exit i) F' H' | .ret => Q .ret F' H') = L_audit_Guess_0_1 a0 a1 a2 a3 a4 (X_audit_Guess_0_1 Q) (n + 1) l0 i1 l2 l5 l6 i7 i8 := by kernel_rfl
theorem lpb_audit_Guess_0 : LpOk (E ef0) (lp_audit_Guess w_audit_claims w_audit_scale w_audit_pointsOf w_audit_heights w_ratio_Make) b_81034600 := (LpOk_no (by kernel_rfl))
theorem loop_audit_Guess_0 : ∀ F H Q, lp_audit_Guess w_audit_claims w_audit_scale w_audit_pointsOf w_audit_heights w_ratio_Make 81034600 F H Q → LoopT (E ef0) b_81034600 F H Q := by
 intro F H Q h
 have go := LoopT.intro (callW_ok (se0_audit_Guess) 5) (lpb_audit_Guess_0) (R_audit_Guess_0 w_audit_claims w_audit_scale w_audit_pointsOf w_audit_heights w_ratio_Make Q) (by
   intro F H h
   unfold R_audit_Guess_0 D_audit_Guess_0 at h
   split at h
   · exact h
   · obtain ⟨hg, k⟩ := asr_iff.1 h
     clear h
     have h := k
     clear k
     try simp only [Bool.and_eq_true, decide_eq_true_eq] at hg
     obtain ⟨g0, g1⟩ := hg; subst g0; subst g1; exact h
   · exact h) (by
   intro n F H h
   unfold R_audit_Guess_0 D_audit_Guess_0 at h
   split at h
   · exact (body_audit_Guess_0_0 ..).mpr h
   · obtain ⟨hg, k⟩ := asr_iff.1 h
     clear h
     have h := k
     clear k
     try simp only [Bool.and_eq_true, decide_eq_true_eq] at hg
     obtain ⟨g0, g1⟩ := hg; subst g0; subst g1; exact (body_audit_Guess_0_1 ..).mpr h
   · exact h.elim)
 have h : D_audit_Guess_0 F H _ _ := h
 unfold D_audit_Guess_0 at h
 split at h
 · obtain ⟨n, h⟩ := h; exact go n _ _ h
 · obtain ⟨hg, n, h⟩ := asr_iff.1 h; exact go n _ _ (asr_iff.2 ⟨hg, h⟩)
 · exact h.elim
theorem eq_audit_Guess (a0 a1 a2 a3 a4 p0 p1 K) : WP (S0_audit_Guess a0 a1 a2 a3 a4) 6 t_audit_Guess [(.int .i64 p0), (.data p1)] K = wv_audit_Guess a0 a1 a2 a3 a4 p0 p1 (fun r0 r1 r2 => K (.tup [(.agg [(.data r0), (.data r1)]), (.int .i64 r2)])) := by kernel_rfl
theorem ok_audit_Guess : OkF (E ef0) wp_audit_Guess n_audit_Guess := by
 intro as K h
 unfold wp_audit_Guess pw_audit_Guess at h
 split at h
 · exact WP_ok (se0_audit_Guess) (LpOk_by (l := [(81034600, b_81034600)]) ⟨loop_audit_Guess_0, trivial⟩ (by kernel_rfl)) (by kernel_rfl) (by kernel_rfl) (fun _ => baseS_none (by kernel_rfl) _) (effG0.num _ (by kernel_rfl)) ((eq_audit_Guess ..).mpr h)
 · exact h.elim
abbrev T_audit_First : Type := Int → List PV → (Int → Int → Prop) → Prop
def L_audit_First_0_0 (a0 : T_audit_claims) (a1 : T_audit_scale) (a2 : T_audit_pointsOf) (a3 : T_audit_heights) (x0 : Int → List PV → Int → Int → Int → Bool → Prop) : Nat → Int → List PV → Int → Int → Int → Prop
 | 0, _, _, _, _, _ => False
 | n + 1, i0, l1, i2, i3, i4 =>
 (lt (IntKind.i64.wrap (i4 - i3)) (fun yi13 =>
 (cbr (decide (yi13 > (1 : Int)))
 (lt (IntKind.i64.wrap (i3 + i4)) (fun yi16 =>
 (lt (IntKind.i64.wrap (Int.tdiv yi16 (2 : Int))) (fun yi17 =>
 (jn (fun (yj21 : Bool → Prop) =>
 (asr (decide ((0 : Int) ≤ yi17))
 (asr (decide (yi17 ≤ (((List.length l1) : Nat) : Int)))
 (a2 i0 (List.take (yi17.toNat) l1) (fun yl22 => 
 (asr (decide ((0 : Int) ≤ yi17))
 (asr (decide (yi17 ≤ (((List.length l1) : Nat) : Int)))
 (a3 yl22 (List.take (yi17.toNat) l1) i2
 (yj21 true)
 (fun yl23 => 
 (asr (!(List.isEmpty yl23))
 (yj21 false)))))))))))
 (fun yb20 => (cbr yb20
 (L_audit_First_0_0 a0 a1 a2 a3 x0 n i0 l1 i2 i3 yi17)
 (L_audit_First_0_0 a0 a1 a2 a3 x0 n i0 l1 i2 yi17 i4))))))))
 (x0 i0 l1 i2 i3 i4 false))))
def wv_audit_First (a0 : T_audit_claims) (a1 : T_audit_scale) (a2 : T_audit_pointsOf) (a3 : T_audit_heights) (p0 : Int) (p1 : List PV) (K : Int → Int → Prop) : Prop :=
 (a0 p0 p1 (fun yl2 yi3 => 
 (cbr (yi3 != (0 : Int))
 (K (0 : Int) yi3)
 (a1 yl2 (fun yi6 yi7 => 
 (cbr (yi7 != (0 : Int))
 (K (0 : Int) yi7)
 (lt (IntKind.i64.wrap ((((List.length yl2) : Nat) : Int) + (1 : Int))) (fun yi9 =>
 (∃ n : Nat, L_audit_First_0_0 a0 a1 a2 a3
 (fun _ _ _ yi33 _ _ => (K yi33 (0 : Int)))
 n p0 yl2 yi6 (0 : Int) yi9)))))))))
def w_audit_First (p0 : Int) (p1 : List PV) (K : Int → Int → Prop) : Prop := wv_audit_First w_audit_claims w_audit_scale w_audit_pointsOf w_audit_heights p0 p1 K
def pw_audit_First (w : T_audit_First) (as : List PV) (K : PV → Prop) : Prop :=
 match as with
 | [(.int .i64 p0), (.data p1)] => w p0 p1 (fun r0 r1 => K (.tup [(.int .i64 r0), (.int .i64 r1)]))
 | _ => False
def wp_audit_First (as : List PV) (K : PV → Prop) : Prop := pw_audit_First w_audit_First as K
def D_audit_First_0 (F : Frm) (H : Hp) (A0 : Int → List PV → Int → Int → Int → Prop) : Prop :=
 match F, H with
 | [(0, .v (.int .i64 i0)), (6, .v (.data l1)), (8, .v (.int .i64 i2)), (9, .v (.int .i64 i3)), (10, .v (.int .i64 i4))], [] => (A0 i0 l1 i2 i3 i4)
 | _, _ => False
def X_audit_First_0_0 (Q : Ex → Frm → Hp → Prop) : Int → List PV → Int → Int → Int → Bool → Prop := (fun i0 l1 i2 i3 i4 b5 => Q (.exit 0) [(0, .v (.int .i64 i0)), (6, .v (.data l1)), (8, .v (.int .i64 i2)), (9, .v (.int .i64 i3)), (10, .v (.int .i64 i4)), (35, .v (.bool b5))] [])
def R_audit_First_0 (a0 : T_audit_claims) (a1 : T_audit_scale) (a2 : T_audit_pointsOf) (a3 : T_audit_heights) (Q : Ex → Frm → Hp → Prop) (n : Nat) (F : Frm) (H : Hp) : Prop := D_audit_First_0 F H (fun i0 l1 i2 i3 i4 => L_audit_First_0_0 a0 a1 a2 a3 (X_audit_First_0_0 Q) n i0 l1 i2 i3 i4)
def lp_audit_First (a0 : T_audit_claims) (a1 : T_audit_scale) (a2 : T_audit_pointsOf) (a3 : T_audit_heights) : LP := fun id F H Q =>
 bif Nat.beq id 55097000 then D_audit_First_0 F H (fun i0 l1 i2 i3 i4 => ∃ n : Nat, L_audit_First_0_0 a0 a1 a2 a3 (X_audit_First_0_0 Q) n i0 l1 i2 i3 i4) else
 False
def S0_audit_First (a0 : T_audit_claims) (a1 : T_audit_scale) (a2 : T_audit_pointsOf) (a3 : T_audit_heights) : SE := ⟨(E ef0), lookS [(n_audit_claims, pw_audit_claims a0), (n_audit_scale, pw_audit_scale a1), (n_audit_pointsOf, pw_audit_pointsOf a2), (n_audit_heights, pw_audit_heights a3)], lookI [], lp_audit_First a0 a1 a2 a3⟩
theorem se0_audit_First : SEOk (S0_audit_First w_audit_claims w_audit_scale w_audit_pointsOf w_audit_heights) := seOk_of ⟨(ok_audit_claims ef0 effG0), (ok_audit_scale ef0 effG0), ok_audit_pointsOf, ok_audit_heights, trivial⟩ trivial effG0.ok
theorem body_audit_First_0_0 (a0 a1 a2 a3 Q n i0 l1 i2 i3 i4) : WC (E ef0) (callW (S0_audit_First a0 a1 a2 a3) 5) (lp_audit_First a0 a1 a2 a3) b_55097000 [(0, .v (.int .i64 i0)), (6, .v (.data l1)), (8, .v (.int .i64 i2)), (9, .v (.int .i64 i3)), (10, .v (.int .i64 i4))] [] (fun x F' H' => match x with | .norm => R_audit_First_0 a0 a1 a2 a3 Q n F' H' | .exit i => Q (.exit i) F' H' | .ret => Q .ret F' H') = L_audit_First_0_0 a0 a1 a2 a3 (X_audit_First_0_0 Q) (n + 1) i0 l1 i2 i3 i4 := by kernel_rfl
theorem lpb_audit_First_0 : LpOk (E ef0) (lp_audit_First w_audit_claims w_audit_scale w_audit_pointsOf w_audit_heights) b_55097000 := (LpOk_no (by kernel_rfl))
theorem loop_audit_First_0 : ∀ F H Q, lp_audit_First w_audit_claims w_audit_scale w_audit_pointsOf w_audit_heights 55097000 F H Q → LoopT (E ef0) b_55097000 F H Q := by
 intro F H Q h
 have go := LoopT.intro (callW_ok (se0_audit_First) 5) (lpb_audit_First_0) (R_audit_First_0 w_audit_claims w_audit_scale w_audit_pointsOf w_audit_heights Q) (by
   intro F H h
   unfold R_audit_First_0 D_audit_First_0 at h
   split at h
   · exact h
   · exact h) (by
   intro n F H h
   unfold R_audit_First_0 D_audit_First_0 at h
   split at h
   · exact (body_audit_First_0_0 ..).mpr h
   · exact h.elim)
 have h : D_audit_First_0 F H _ := h
 unfold D_audit_First_0 at h
 split at h
 · obtain ⟨n, h⟩ := h; exact go n _ _ h
 · exact h.elim
theorem eq_audit_First (a0 a1 a2 a3 p0 p1 K) : WP (S0_audit_First a0 a1 a2 a3) 6 t_audit_First [(.int .i64 p0), (.data p1)] K = wv_audit_First a0 a1 a2 a3 p0 p1 (fun r0 r1 => K (.tup [(.int .i64 r0), (.int .i64 r1)])) := by kernel_rfl
theorem ok_audit_First : OkF (E ef0) wp_audit_First n_audit_First := by
 intro as K h
 unfold wp_audit_First pw_audit_First at h
 split at h
 · exact WP_ok (se0_audit_First) (LpOk_by (l := [(55097000, b_55097000)]) ⟨loop_audit_First_0, trivial⟩ (by kernel_rfl)) (by kernel_rfl) (by kernel_rfl) (fun _ => baseS_none (by kernel_rfl) _) (effG0.num _ (by kernel_rfl)) ((eq_audit_First ..).mpr h)
 · exact h.elim
abbrev T_audit_Points : Type := Int → List PV → (List PV → Int → Prop) → Prop
def wv_audit_Points (a0 : T_audit_claims) (a1 : T_audit_pointsOf) (p0 : Int) (p1 : List PV) (K : List PV → Int → Prop) : Prop :=
 (a0 p0 p1 (fun yl2 yi3 => 
 (cbr (yi3 != (0 : Int))
 (K ([] : List PV) yi3)
 (a1 p0 yl2 (fun yl5 => 
 (K yl5 (0 : Int)))))))
def w_audit_Points (p0 : Int) (p1 : List PV) (K : List PV → Int → Prop) : Prop := wv_audit_Points w_audit_claims w_audit_pointsOf p0 p1 K
def pw_audit_Points (w : T_audit_Points) (as : List PV) (K : PV → Prop) : Prop :=
 match as with
 | [(.int .i64 p0), (.data p1)] => w p0 p1 (fun r0 r1 => K (.tup [(.data r0), (.int .i64 r1)]))
 | _ => False
def wp_audit_Points (as : List PV) (K : PV → Prop) : Prop := pw_audit_Points w_audit_Points as K
def lp_audit_Points (_ : T_audit_claims) (_ : T_audit_pointsOf) : LP := fun _ _ _ _ =>
 False
def S0_audit_Points (a0 : T_audit_claims) (a1 : T_audit_pointsOf) : SE := ⟨(E ef0), lookS [(n_audit_claims, pw_audit_claims a0), (n_audit_pointsOf, pw_audit_pointsOf a1)], lookI [], lp_audit_Points a0 a1⟩
theorem se0_audit_Points : SEOk (S0_audit_Points w_audit_claims w_audit_pointsOf) := seOk_of ⟨(ok_audit_claims ef0 effG0), ok_audit_pointsOf, trivial⟩ trivial effG0.ok
theorem eq_audit_Points (a0 a1 p0 p1 K) : WP (S0_audit_Points a0 a1) 6 t_audit_Points [(.int .i64 p0), (.data p1)] K = wv_audit_Points a0 a1 p0 p1 (fun r0 r1 => K (.tup [(.data r0), (.int .i64 r1)])) := by kernel_rfl
theorem ok_audit_Points : OkF (E ef0) wp_audit_Points n_audit_Points := by
 intro as K h
 unfold wp_audit_Points pw_audit_Points at h
 split at h
 · exact WP_ok (se0_audit_Points) (LpOk_no (by kernel_rfl)) (by kernel_rfl) (by kernel_rfl) (fun _ => baseS_none (by kernel_rfl) _) (effG0.num _ (by kernel_rfl)) ((eq_audit_Points ..).mpr h)
 · exact h.elim
end Go.Pf.Vc
namespace Go.Pf.Vc
open Go Go.Pf
set_option linter.unusedVariables false
theorem det_audit_claimed (p0 : Int) (p1 : Int) (p2 : Int) (p3 : Int) (p4 : Int) (p5 : Int) (p6 : Int) (p7 : Int) (p8 : Int) (r0 : Int) (r1 : Int) (r2 : Int) (r3 : Int) (r4 : Int) (r5 : Int) (r6 : Bool) (r7 : Bool) (h : ∀ K : Int → Int → Int → Int → Int → Int → Bool → Bool → Prop, K r0 r1 r2 r3 r4 r5 r6 r7 → w_audit_claimed p0 p1 p2 p3 p4 p5 p6 p7 p8 K) (K : Int → Int → Int → Int → Int → Int → Bool → Bool → Prop) : w_audit_claimed p0 p1 p2 p3 p4 p5 p6 p7 p8 K = K r0 r1 r2 r3 r4 r5 r6 r7 :=
 propext ⟨fun k => detC (ok_audit_claimed [] effG_nil) (as := [(.int .i64 p0), (.agg [(.int .i64 p1), (.int .u8 p2), (.int .i64 p3), (.int .i64 p4), (.int .i64 p5), (.int .i64 p6), (.int .i64 p7), (.int .i64 p8)])]) (x := (.tup [(.agg [(.int .i64 r0), (.int .i64 r1), (.int .i64 r2), (.int .i64 r3), (.int .i64 r4), (.int .i64 r5), (.bool r6)]), (.bool r7)])) (fun K' k' => h (fun r0 r1 r2 r3 r4 r5 r6 r7 => K' (.tup [(.agg [(.int .i64 r0), (.int .i64 r1), (.int .i64 r2), (.int .i64 r3), (.int .i64 r4), (.int .i64 r5), (.bool r6)]), (.bool r7)])) k') (K := fun x => match x with | (.tup [(.agg [(.int .i64 r0), (.int .i64 r1), (.int .i64 r2), (.int .i64 r3), (.int .i64 r4), (.int .i64 r5), (.bool r6)]), (.bool r7)]) => K r0 r1 r2 r3 r4 r5 r6 r7 | _ => False) k, h K⟩
theorem det_audit_claims (p0 : Int) (p1 : List PV) (r0 : List PV) (r1 : Int) (h : ∀ K : List PV → Int → Prop, K r0 r1 → w_audit_claims p0 p1 K) (K : List PV → Int → Prop) : w_audit_claims p0 p1 K = K r0 r1 :=
 propext ⟨fun k => detC (ok_audit_claims [] effG_nil) (as := [(.int .i64 p0), (.data p1)]) (x := (.tup [(.data r0), (.int .i64 r1)])) (fun K' k' => h (fun r0 r1 => K' (.tup [(.data r0), (.int .i64 r1)])) k') (K := fun x => match x with | (.tup [(.data r0), (.int .i64 r1)]) => K r0 r1 | _ => False) k, h K⟩
theorem det_audit_scale (p0 : List PV) (r0 : Int) (r1 : Int) (h : ∀ K : Int → Int → Prop, K r0 r1 → w_audit_scale p0 K) (K : Int → Int → Prop) : w_audit_scale p0 K = K r0 r1 :=
 propext ⟨fun k => detC (ok_audit_scale [] effG_nil) (as := [(.data p0)]) (x := (.tup [(.int .i64 r0), (.int .i64 r1)])) (fun K' k' => h (fun r0 r1 => K' (.tup [(.int .i64 r0), (.int .i64 r1)])) k') (K := fun x => match x with | (.tup [(.int .i64 r0), (.int .i64 r1)]) => K r0 r1 | _ => False) k, h K⟩
theorem det_audit_pointsOf (p0 : Int) (p1 : List PV) (r0 : List PV) (h : ∀ K : List PV → Prop, K r0 → w_audit_pointsOf p0 p1 K) (K : List PV → Prop) : w_audit_pointsOf p0 p1 K = K r0 :=
 propext ⟨fun k => detC ok_audit_pointsOf (as := [(.int .i64 p0), (.data p1)]) (x := (.data r0)) (fun K' k' => h (fun r0 => K' (.data r0)) k') (K := fun x => match x with | (.data r0) => K r0 | _ => False) k, h K⟩
theorem det_audit_Guess (p0 : Int) (p1 : List PV) (r0 : List PV) (r1 : List PV) (r2 : Int) (h : ∀ K : List PV → List PV → Int → Prop, K r0 r1 r2 → w_audit_Guess p0 p1 K) (K : List PV → List PV → Int → Prop) : w_audit_Guess p0 p1 K = K r0 r1 r2 :=
 propext ⟨fun k => detC ok_audit_Guess (as := [(.int .i64 p0), (.data p1)]) (x := (.tup [(.agg [(.data r0), (.data r1)]), (.int .i64 r2)])) (fun K' k' => h (fun r0 r1 r2 => K' (.tup [(.agg [(.data r0), (.data r1)]), (.int .i64 r2)])) k') (K := fun x => match x with | (.tup [(.agg [(.data r0), (.data r1)]), (.int .i64 r2)]) => K r0 r1 r2 | _ => False) k, h K⟩
theorem det_audit_First (p0 : Int) (p1 : List PV) (r0 : Int) (r1 : Int) (h : ∀ K : Int → Int → Prop, K r0 r1 → w_audit_First p0 p1 K) (K : Int → Int → Prop) : w_audit_First p0 p1 K = K r0 r1 :=
 propext ⟨fun k => detC ok_audit_First (as := [(.int .i64 p0), (.data p1)]) (x := (.tup [(.int .i64 r0), (.int .i64 r1)])) (fun K' k' => h (fun r0 r1 => K' (.tup [(.int .i64 r0), (.int .i64 r1)])) k') (K := fun x => match x with | (.tup [(.int .i64 r0), (.int .i64 r1)]) => K r0 r1 | _ => False) k, h K⟩
end Go.Pf.Vc
namespace Go.Pf.Vc
open Go Go.Pf
set_option maxRecDepth 100000
abbrev T_r01_abs : Type := Int → (Int → Prop) → Prop
def wv_r01_abs (p0 : Int) (K : Int → Prop) : Prop :=
 (cbr (decide (p0 < (0 : Int)))
 (K (IntKind.u64.wrap ((IntKind.u64.wrap (IntKind.i64.wrap ((0 : Int) - (IntKind.i64.wrap (p0 + (1 : Int)))))) + (1 : Int))))
 (K (IntKind.u64.wrap p0)))
def w_r01_abs (p0 : Int) (K : Int → Prop) : Prop := wv_r01_abs p0 K
def pw_r01_abs (w : T_r01_abs) (as : List PV) (K : PV → Prop) : Prop :=
 match as with
 | [(.int .i64 p0)] => w p0 (fun r0 => K (.int .u64 r0))
 | _ => False
def wp_r01_abs (as : List PV) (K : PV → Prop) : Prop := pw_r01_abs w_r01_abs as K
def lp_r01_abs : LP := fun _ _ _ _ =>
 False
def S0_r01_abs (e : List (Nat × EffF)) : SE := ⟨(E e), lookS [], lookI [], lp_r01_abs⟩
theorem se0_r01_abs (e : List (Nat × EffF)) (he : EG e) : SEOk (S0_r01_abs e) := seOk_of trivial trivial he.ok
theorem eq_r01_abs (e : List (Nat × EffF)) ( p0 K) : WP (S0_r01_abs e) 6 t_r01_abs [(.int .i64 p0)] K = wv_r01_abs p0 (fun r0 => K (.int .u64 r0)) := by kernel_rfl
theorem ok_r01_abs (e : List (Nat × EffF)) (he : EG e) : OkF (E e) wp_r01_abs n_r01_abs := by
 intro as K h
 unfold wp_r01_abs pw_r01_abs at h
 split at h
 · exact WP_ok (se0_r01_abs e he) (LpOk_no (by kernel_rfl)) (by kernel_rfl) (by kernel_rfl) (fun _ => baseS_none (by kernel_rfl) _) (he.num _ (by kernel_rfl)) ((eq_r01_abs ..).mpr h)
 · exact h.elim
abbrev T_r01_gcd : Type := Int → Int → (Int → Prop) → Prop
def L_r01_gcd_0_0 (x0 : Int → Int → Bool → Prop) : Nat → Int → Int → Prop
 | 0, _, _ => False
 | n + 1, i0, i1 =>
 (cbr (i1 != (0 : Int))
 (asr (!(decide (i1 = (0 : Int))))
 (L_r01_gcd_0_0 x0 n i1 (Int.tmod i0 i1)))
 (x0 i0 i1 false))
def wv_r01_gcd (p0 p1 : Int) (K : Int → Prop) : Prop :=
 (∃ n : Nat, L_r01_gcd_0_0
 (fun yi0 _ _ => (K yi0))
 n p0 p1)
def w_r01_gcd (p0 p1 : Int) (K : Int → Prop) : Prop := wv_r01_gcd p0 p1 K
def pw_r01_gcd (w : T_r01_gcd) (as : List PV) (K : PV → Prop) : Prop :=
 match as with
 | [(.int .u64 p0), (.int .u64 p1)] => w p0 p1 (fun r0 => K (.int .u64 r0))
 | _ => False
def wp_r01_gcd (as : List PV) (K : PV → Prop) : Prop := pw_r01_gcd w_r01_gcd as K
def D_r01_gcd_0 (F : Frm) (H : Hp) (A0 : Int → Int → Prop) : Prop :=
 match F, H with
 | [(0, .v (.int .u64 i0)), (1, .v (.int .u64 i1))], [] => (A0 i0 i1)
 | _, _ => False
def X_r01_gcd_0_0 (Q : Ex → Frm → Hp → Prop) : Int → Int → Bool → Prop := (fun i0 i1 b2 => Q (.exit 0) [(0, .v (.int .u64 i0)), (1, .v (.int .u64 i1)), (6, .v (.bool b2))] [])
def R_r01_gcd_0 (Q : Ex → Frm → Hp → Prop) (n : Nat) (F : Frm) (H : Hp) : Prop := D_r01_gcd_0 F H (fun i0 i1 => L_r01_gcd_0_0 (X_r01_gcd_0_0 Q) n i0 i1)
def lp_r01_gcd : LP := fun id F H Q =>
 bif Nat.beq id 16774900 then D_r01_gcd_0 F H (fun i0 i1 => ∃ n : Nat, L_r01_gcd_0_0 (X_r01_gcd_0_0 Q) n i0 i1) else
 False
def S0_r01_gcd (e : List (Nat × EffF)) : SE := ⟨(E e), lookS [], lookI [], lp_r01_gcd⟩
theorem se0_r01_gcd (e : List (Nat × EffF)) (he : EG e) : SEOk (S0_r01_gcd e) := seOk_of trivial trivial he.ok
theorem body_r01_gcd_0_0 (e : List (Nat × EffF)) ( Q n i0 i1) : WC (E e) (callW (S0_r01_gcd e) 5) (lp_r01_gcd) b_16774900 [(0, .v (.int .u64 i0)), (1, .v (.int .u64 i1))] [] (fun x F' H' => match x with | .norm => R_r01_gcd_0 Q n F' H' | .exit i => Q (.exit i) F' H' | .ret => Q .ret F' H') = L_r01_gcd_0_0 (X_r01_gcd_0_0 Q) (n + 1) i0 i1 := by kernel_rfl
theorem lpb_r01_gcd_0 (e : List (Nat × EffF)) (_ : EG e) : LpOk (E e) (lp_r01_gcd) b_16774900 := (LpOk_no (by kernel_rfl))
theorem loop_r01_gcd_0 (e : List (Nat × EffF)) (he : EG e) : ∀ F H Q, lp_r01_gcd 16774900 F H Q → LoopT (E e) b_16774900 F H Q := by
 intro F H Q h
 have go := LoopT.intro (callW_ok (se0_r01_gcd e he) 5) (lpb_r01_gcd_0 e he) (R_r01_gcd_0 Q) (by
   intro F H h
   unfold R_r01_gcd_0 D_r01_gcd_0 at h
   split at h
   · exact h
   · exact h) (by
   intro n F H h
   unfold R_r01_gcd_0 D_r01_gcd_0 at h
   split at h
   · exact (body_r01_gcd_0_0 ..).mpr h
   · exact h.elim)
 have h : D_r01_gcd_0 F H _ := h
 unfold D_r01_gcd_0 at h
 split at h
 · obtain ⟨n, h⟩ := h; exact go n _ _ h
 · exact h.elim
theorem eq_r01_gcd (e : List (Nat × EffF)) ( p0 p1 K) : WP (S0_r01_gcd e) 6 t_r01_gcd [(.int .u64 p0), (.int .u64 p1)] K = wv_r01_gcd p0 p1 (fun r0 => K (.int .u64 r0)) := by kernel_rfl
theorem ok_r01_gcd (e : List (Nat × EffF)) (he : EG e) : OkF (E e) wp_r01_gcd n_r01_gcd := by
 intro as K h
 unfold wp_r01_gcd pw_r01_gcd at h
 split at h
 · exact WP_ok (se0_r01_gcd e he) (LpOk_by (l := [(16774900, b_16774900)]) ⟨loop_r01_gcd_0 e he, trivial⟩ (by kernel_rfl)) (by kernel_rfl) (by kernel_rfl) (fun _ => baseS_none (by kernel_rfl) _) (he.num _ (by kernel_rfl)) ((eq_r01_gcd ..).mpr h)
 · exact h.elim
abbrev T_r01_Check : Type := Int → Int → (Int → Prop) → Prop
def wv_r01_Check (a0 : T_r01_abs) (a1 : T_r01_gcd) (p0 p1 : Int) (K : Int → Prop) : Prop :=
 (cbr (decide (p1 < (1 : Int)))
 (K (8 : Int))
 (cbr (decide (p1 > (1000000000000000000 : Int)))
 (K (8 : Int))
 (cbr (decide (p0 < (-1000000000000000000 : Int)))
 (K (8 : Int))
 (cbr (decide (p0 > (1000000000000000000 : Int)))
 (K (8 : Int))
 (a0 p0 (fun yi0 => 
 (a1 yi0 (IntKind.u64.wrap p1) (fun yi1 => 
 (cbr (yi1 != (1 : Int))
 (K (8 : Int))
 (K (0 : Int)))))))))))
def w_r01_Check (p0 p1 : Int) (K : Int → Prop) : Prop := wv_r01_Check w_r01_abs w_r01_gcd p0 p1 K
def pw_r01_Check (w : T_r01_Check) (as : List PV) (K : PV → Prop) : Prop :=
 match as with
 | [(.agg [(.int .i64 p0), (.int .i64 p1)])] => w p0 p1 (fun r0 => K (.int .i64 r0))
 | _ => False
def wp_r01_Check (as : List PV) (K : PV → Prop) : Prop := pw_r01_Check w_r01_Check as K
def lp_r01_Check (_ : T_r01_abs) (_ : T_r01_gcd) : LP := fun _ _ _ _ =>
 False
def S0_r01_Check (e : List (Nat × EffF)) (a0 : T_r01_abs) (a1 : T_r01_gcd) : SE := ⟨(E e), lookS [(n_r01_abs, pw_r01_abs a0), (n_r01_gcd, pw_r01_gcd a1)], lookI [], lp_r01_Check a0 a1⟩
theorem se0_r01_Check (e : List (Nat × EffF)) (he : EG e) : SEOk (S0_r01_Check e w_r01_abs w_r01_gcd) := seOk_of ⟨(ok_r01_abs e he), (ok_r01_gcd e he), trivial⟩ trivial he.ok
theorem eq_r01_Check (e : List (Nat × EffF)) (a0 a1 p0 p1 K) : WP (S0_r01_Check e a0 a1) 6 t_r01_Check [(.agg [(.int .i64 p0), (.int .i64 p1)])] K = wv_r01_Check a0 a1 p0 p1 (fun r0 => K (.int .i64 r0)) := by kernel_rfl
theorem ok_r01_Check (e : List (Nat × EffF)) (he : EG e) : OkF (E e) wp_r01_Check n_r01_Check := by
 intro as K h
 unfold wp_r01_Check pw_r01_Check at h
 split at h
 · exact WP_ok (se0_r01_Check e he) (LpOk_no (by kernel_rfl)) (by kernel_rfl) (by kernel_rfl) (fun _ => baseS_none (by kernel_rfl) _) (he.num _ (by kernel_rfl)) ((eq_r01_Check ..).mpr h)
 · exact h.elim
abbrev T_r01_Both : Type := Int → Int → Int → Int → (Int → Prop) → Prop
def wv_r01_Both (a0 : T_r01_Check) (p0 p1 p2 p3 : Int) (K : Int → Prop) : Prop :=
 (a0 p0 p1 (fun yi0 => 
 (cbr (yi0 != (0 : Int))
 (a0 p0 p1 (fun yi1 => 
 (K yi1)))
 (a0 p2 p3 (fun yi2 => 
 (K yi2))))))
def w_r01_Both (p0 p1 p2 p3 : Int) (K : Int → Prop) : Prop := wv_r01_Both w_r01_Check p0 p1 p2 p3 K
def pw_r01_Both (w : T_r01_Both) (as : List PV) (K : PV → Prop) : Prop :=
 match as with
 | [(.agg [(.int .i64 p0), (.int .i64 p1)]), (.agg [(.int .i64 p2), (.int .i64 p3)])] => w p0 p1 p2 p3 (fun r0 => K (.int .i64 r0))
 | _ => False
def wp_r01_Both (as : List PV) (K : PV → Prop) : Prop := pw_r01_Both w_r01_Both as K
def lp_r01_Both (_ : T_r01_Check) : LP := fun _ _ _ _ =>
 False
def S0_r01_Both (e : List (Nat × EffF)) (a0 : T_r01_Check) : SE := ⟨(E e), lookS [(n_r01_Check, pw_r01_Check a0)], lookI [], lp_r01_Both a0⟩
theorem se0_r01_Both (e : List (Nat × EffF)) (he : EG e) : SEOk (S0_r01_Both e w_r01_Check) := seOk_of ⟨(ok_r01_Check e he), trivial⟩ trivial he.ok
theorem eq_r01_Both (e : List (Nat × EffF)) (a0 p0 p1 p2 p3 K) : WP (S0_r01_Both e a0) 6 t_r01_Both [(.agg [(.int .i64 p0), (.int .i64 p1)]), (.agg [(.int .i64 p2), (.int .i64 p3)])] K = wv_r01_Both a0 p0 p1 p2 p3 (fun r0 => K (.int .i64 r0)) := by kernel_rfl
theorem ok_r01_Both (e : List (Nat × EffF)) (he : EG e) : OkF (E e) wp_r01_Both n_r01_Both := by
 intro as K h
 unfold wp_r01_Both pw_r01_Both at h
 split at h
 · exact WP_ok (se0_r01_Both e he) (LpOk_no (by kernel_rfl)) (by kernel_rfl) (by kernel_rfl) (fun _ => baseS_none (by kernel_rfl) _) (he.num _ (by kernel_rfl)) ((eq_r01_Both ..).mpr h)
 · exact h.elim
abbrev T_r01_Of : Type := Int → (Int → Int → Prop) → Prop
def wv_r01_Of (p0 : Int) (K : Int → Int → Prop) : Prop :=
 (K p0 (1 : Int))
def w_r01_Of (p0 : Int) (K : Int → Int → Prop) : Prop := wv_r01_Of p0 K
def pw_r01_Of (w : T_r01_Of) (as : List PV) (K : PV → Prop) : Prop :=
 match as with
 | [(.int .i64 p0)] => w p0 (fun r0 r1 => K (.agg [(.int .i64 r0), (.int .i64 r1)]))
 | _ => False
def wp_r01_Of (as : List PV) (K : PV → Prop) : Prop := pw_r01_Of w_r01_Of as K
def lp_r01_Of : LP := fun _ _ _ _ =>
 False
def S0_r01_Of (e : List (Nat × EffF)) : SE := ⟨(E e), lookS [], lookI [], lp_r01_Of⟩
theorem se0_r01_Of (e : List (Nat × EffF)) (he : EG e) : SEOk (S0_r01_Of e) := seOk_of trivial trivial he.ok
theorem eq_r01_Of (e : List (Nat × EffF)) ( p0 K) : WP (S0_r01_Of e) 6 t_r01_Of [(.int .i64 p0)] K = wv_r01_Of p0 (fun r0 r1 => K (.agg [(.int .i64 r0), (.int .i64 r1)])) := by kernel_rfl
theorem ok_r01_Of (e : List (Nat × EffF)) (he : EG e) : OkF (E e) wp_r01_Of n_r01_Of := by
 intro as K h
 unfold wp_r01_Of pw_r01_Of at h
 split at h
 · exact WP_ok (se0_r01_Of e he) (LpOk_no (by kernel_rfl)) (by kernel_rfl) (by kernel_rfl) (fun _ => baseS_none (by kernel_rfl) _) (he.num _ (by kernel_rfl)) ((eq_r01_Of ..).mpr h)
 · exact h.elim
abbrev T_r01_times : Type := Int → Int → (Int → Int → Prop) → Prop
def wv_r01_times (p0 p1 : Int) (K : Int → Int → Prop) : Prop :=
 (K (IntKind.u64.wrap ((IntKind.u64.wrap ((IntKind.u64.wrap ((Int.fdiv p0 4294967296) * (Int.fdiv p1 4294967296))) + (Int.fdiv (IntKind.u64.wrap ((Int.fdiv p0 4294967296) * (IntKind.u64.wrap (BitVec.ofInt IntKind.u64.bits p1 &&& BitVec.ofInt IntKind.u64.bits (4294967295 : Int)).toNat))) 4294967296))) + (Int.fdiv (IntKind.u64.wrap ((IntKind.u64.wrap ((IntKind.u64.wrap (BitVec.ofInt IntKind.u64.bits (IntKind.u64.wrap ((Int.fdiv p0 4294967296) * (IntKind.u64.wrap (BitVec.ofInt IntKind.u64.bits p1 &&& BitVec.ofInt IntKind.u64.bits (4294967295 : Int)).toNat))) &&& BitVec.ofInt IntKind.u64.bits (4294967295 : Int)).toNat) + (IntKind.u64.wrap ((IntKind.u64.wrap (BitVec.ofInt IntKind.u64.bits p0 &&& BitVec.ofInt IntKind.u64.bits (4294967295 : Int)).toNat) * (Int.fdiv p1 4294967296))))) + (Int.fdiv (IntKind.u64.wrap ((IntKind.u64.wrap (BitVec.ofInt IntKind.u64.bits p0 &&& BitVec.ofInt IntKind.u64.bits (4294967295 : Int)).toNat) * (IntKind.u64.wrap (BitVec.ofInt IntKind.u64.bits p1 &&& BitVec.ofInt IntKind.u64.bits (4294967295 : Int)).toNat))) 4294967296))) 4294967296))) (IntKind.u64.wrap (BitVec.ofInt IntKind.u64.bits (IntKind.u64.wrap ((IntKind.u64.wrap ((IntKind.u64.wrap ((IntKind.u64.wrap (BitVec.ofInt IntKind.u64.bits (IntKind.u64.wrap ((Int.fdiv p0 4294967296) * (IntKind.u64.wrap (BitVec.ofInt IntKind.u64.bits p1 &&& BitVec.ofInt IntKind.u64.bits (4294967295 : Int)).toNat))) &&& BitVec.ofInt IntKind.u64.bits (4294967295 : Int)).toNat) + (IntKind.u64.wrap ((IntKind.u64.wrap (BitVec.ofInt IntKind.u64.bits p0 &&& BitVec.ofInt IntKind.u64.bits (4294967295 : Int)).toNat) * (Int.fdiv p1 4294967296))))) + (Int.fdiv (IntKind.u64.wrap ((IntKind.u64.wrap (BitVec.ofInt IntKind.u64.bits p0 &&& BitVec.ofInt IntKind.u64.bits (4294967295 : Int)).toNat) * (IntKind.u64.wrap (BitVec.ofInt IntKind.u64.bits p1 &&& BitVec.ofInt IntKind.u64.bits (4294967295 : Int)).toNat))) 4294967296))) * (4294967296 : Int))) ||| BitVec.ofInt IntKind.u64.bits (IntKind.u64.wrap (BitVec.ofInt IntKind.u64.bits (IntKind.u64.wrap ((IntKind.u64.wrap (BitVec.ofInt IntKind.u64.bits p0 &&& BitVec.ofInt IntKind.u64.bits (4294967295 : Int)).toNat) * (IntKind.u64.wrap (BitVec.ofInt IntKind.u64.bits p1 &&& BitVec.ofInt IntKind.u64.bits (4294967295 : Int)).toNat))) &&& BitVec.ofInt IntKind.u64.bits (4294967295 : Int)).toNat)).toNat))
def w_r01_times (p0 p1 : Int) (K : Int → Int → Prop) : Prop := wv_r01_times p0 p1 K
def pw_r01_times (w : T_r01_times) (as : List PV) (K : PV → Prop) : Prop :=
 match as with
 | [(.int .u64 p0), (.int .u64 p1)] => w p0 p1 (fun r0 r1 => K (.agg [(.int .u64 r0), (.int .u64 r1)]))
 | _ => False
def wp_r01_times (as : List PV) (K : PV → Prop) : Prop := pw_r01_times w_r01_times as K
def lp_r01_times : LP := fun _ _ _ _ =>
 False
def S0_r01_times (e : List (Nat × EffF)) : SE := ⟨(E e), lookS [], lookI [], lp_r01_times⟩
theorem se0_r01_times (e : List (Nat × EffF)) (he : EG e) : SEOk (S0_r01_times e) := seOk_of trivial trivial he.ok
theorem eq_r01_times (e : List (Nat × EffF)) ( p0 p1 K) : WP (S0_r01_times e) 6 t_r01_times [(.int .u64 p0), (.int .u64 p1)] K = wv_r01_times p0 p1 (fun r0 r1 => K (.agg [(.int .u64 r0), (.int .u64 r1)])) := by kernel_rfl
theorem ok_r01_times (e : List (Nat × EffF)) (he : EG e) : OkF (E e) wp_r01_times n_r01_times := by
 intro as K h
 unfold wp_r01_times pw_r01_times at h
 split at h
 · exact WP_ok (se0_r01_times e he) (LpOk_no (by kernel_rfl)) (by kernel_rfl) (by kernel_rfl) (fun _ => baseS_none (by kernel_rfl) _) (he.num _ (by kernel_rfl)) ((eq_r01_times ..).mpr h)
 · exact h.elim
abbrev T_r01_less : Type := Int → Int → Int → Int → (Bool → Prop) → Prop
def wv_r01_less (p0 p1 p2 p3 : Int) (K : Bool → Prop) : Prop :=
 (cbr (decide (p0 < p2))
 (K true)
 (cbr (p0 == p2)
 (K (decide (p1 < p3)))
 (K false)))
def w_r01_less (p0 p1 p2 p3 : Int) (K : Bool → Prop) : Prop := wv_r01_less p0 p1 p2 p3 K
def pw_r01_less (w : T_r01_less) (as : List PV) (K : PV → Prop) : Prop :=
 match as with
 | [(.agg [(.int .u64 p0), (.int .u64 p1)]), (.agg [(.int .u64 p2), (.int .u64 p3)])] => w p0 p1 p2 p3 (fun r0 => K (.bool r0))
 | _ => False
def wp_r01_less (as : List PV) (K : PV → Prop) : Prop := pw_r01_less w_r01_less as K
def lp_r01_less : LP := fun _ _ _ _ =>
 False
def S0_r01_less (e : List (Nat × EffF)) : SE := ⟨(E e), lookS [], lookI [], lp_r01_less⟩
theorem se0_r01_less (e : List (Nat × EffF)) (he : EG e) : SEOk (S0_r01_less e) := seOk_of trivial trivial he.ok
theorem eq_r01_less (e : List (Nat × EffF)) ( p0 p1 p2 p3 K) : WP (S0_r01_less e) 6 t_r01_less [(.agg [(.int .u64 p0), (.int .u64 p1)]), (.agg [(.int .u64 p2), (.int .u64 p3)])] K = wv_r01_less p0 p1 p2 p3 (fun r0 => K (.bool r0)) := by kernel_rfl
theorem ok_r01_less (e : List (Nat × EffF)) (he : EG e) : OkF (E e) wp_r01_less n_r01_less := by
 intro as K h
 unfold wp_r01_less pw_r01_less at h
 split at h
 · exact WP_ok (se0_r01_less e he) (LpOk_no (by kernel_rfl)) (by kernel_rfl) (by kernel_rfl) (fun _ => baseS_none (by kernel_rfl) _) (he.num _ (by kernel_rfl)) ((eq_r01_less ..).mpr h)
 · exact h.elim
abbrev T_r01_Less : Type := Int → Int → Int → Int → (Bool → Prop) → Prop
def wv_r01_Less (a0 : T_r01_abs) (a1 : T_r01_times) (a2 : T_r01_less) (p0 p1 p2 p3 : Int) (K : Bool → Prop) : Prop :=
 (cbr ((decide (p0 < (0 : Int))) != (decide (p2 < (0 : Int))))
 (K (decide (p0 < (0 : Int))))
 (a0 p0 (fun yi0 => 
 (a1 yi0 (IntKind.u64.wrap p3) (fun yi1 yi2 => 
 (a0 p2 (fun yi3 => 
 (a1 yi3 (IntKind.u64.wrap p1) (fun yi4 yi5 => 
 (cbr (decide (p0 < (0 : Int)))
 (a2 yi4 yi5 yi1 yi2 (fun yb6 => 
 (K yb6)))
 (a2 yi1 yi2 yi4 yi5 (fun yb7 => 
 (K yb7)))))))))))))
def w_r01_Less (p0 p1 p2 p3 : Int) (K : Bool → Prop) : Prop := wv_r01_Less w_r01_abs w_r01_times w_r01_less p0 p1 p2 p3 K
def pw_r01_Less (w : T_r01_Less) (as : List PV) (K : PV → Prop) : Prop :=
 match as with
 | [(.agg [(.int .i64 p0), (.int .i64 p1)]), (.agg [(.int .i64 p2), (.int .i64 p3)])] => w p0 p1 p2 p3 (fun r0 => K (.bool r0))
 | _ => False
def wp_r01_Less (as : List PV) (K : PV → Prop) : Prop := pw_r01_Less w_r01_Less as K
def lp_r01_Less (_ : T_r01_abs) (_ : T_r01_times) (_ : T_r01_less) : LP := fun _ _ _ _ =>
 False
def S0_r01_Less (e : List (Nat × EffF)) (a0 : T_r01_abs) (a1 : T_r01_times) (a2 : T_r01_less) : SE := ⟨(E e), lookS [(n_r01_abs, pw_r01_abs a0), (n_r01_times, pw_r01_times a1), (n_r01_less, pw_r01_less a2)], lookI [], lp_r01_Less a0 a1 a2⟩
theorem se0_r01_Less (e : List (Nat × EffF)) (he : EG e) : SEOk (S0_r01_Less e w_r01_abs w_r01_times w_r01_less) := seOk_of ⟨(ok_r01_abs e he), (ok_r01_times e he), (ok_r01_less e he), trivial⟩ trivial he.ok
theorem eq_r01_Less (e : List (Nat × EffF)) (a0 a1 a2 p0 p1 p2 p3 K) : WP (S0_r01_Less e a0 a1 a2) 6 t_r01_Less [(.agg [(.int .i64 p0), (.int .i64 p1)]), (.agg [(.int .i64 p2), (.int .i64 p3)])] K = wv_r01_Less a0 a1 a2 p0 p1 p2 p3 (fun r0 => K (.bool r0)) := by kernel_rfl
theorem ok_r01_Less (e : List (Nat × EffF)) (he : EG e) : OkF (E e) wp_r01_Less n_r01_Less := by
 intro as K h
 unfold wp_r01_Less pw_r01_Less at h
 split at h
 · exact WP_ok (se0_r01_Less e he) (LpOk_no (by kernel_rfl)) (by kernel_rfl) (by kernel_rfl) (fun _ => baseS_none (by kernel_rfl) _) (he.num _ (by kernel_rfl)) ((eq_r01_Less ..).mpr h)
 · exact h.elim
abbrev T_r01_made : Type := Bool → Int → Int → Int → Int → (Int → Int → Int → Prop) → Prop
def wv_r01_made (p0 : Bool) (p1 p2 p3 p4 : Int) (K : Int → Int → Int → Prop) : Prop :=
 (cbr (decide (p1 > (0 : Int)))
 (K (0 : Int) (0 : Int) (16 : Int))
 (cbr (decide (p3 > (0 : Int)))
 (K (0 : Int) (0 : Int) (16 : Int))
 (cbr (decide (p2 > (1000000000000000000 : Int)))
 (K (0 : Int) (0 : Int) (16 : Int))
 (cbr (decide (p4 > (1000000000000000000 : Int)))
 (K (0 : Int) (0 : Int) (16 : Int))
 (cbr p0
 (K (IntKind.i64.wrap ((0 : Int) - (IntKind.i64.wrap p2))) (IntKind.i64.wrap p4) (0 : Int))
 (K (IntKind.i64.wrap p2) (IntKind.i64.wrap p4) (0 : Int)))))))
def w_r01_made (p0 : Bool) (p1 p2 p3 p4 : Int) (K : Int → Int → Int → Prop) : Prop := wv_r01_made p0 p1 p2 p3 p4 K
def pw_r01_made (w : T_r01_made) (as : List PV) (K : PV → Prop) : Prop :=
 match as with
 | [(.bool p0), (.agg [(.int .u64 p1), (.int .u64 p2)]), (.agg [(.int .u64 p3), (.int .u64 p4)])] => w p0 p1 p2 p3 p4 (fun r0 r1 r2 => K (.tup [(.agg [(.int .i64 r0), (.int .i64 r1)]), (.int .i64 r2)]))
 | _ => False
def wp_r01_made (as : List PV) (K : PV → Prop) : Prop := pw_r01_made w_r01_made as K
def lp_r01_made : LP := fun _ _ _ _ =>
 False
def S0_r01_made (e : List (Nat × EffF)) : SE := ⟨(E e), lookS [], lookI [], lp_r01_made⟩
theorem se0_r01_made (e : List (Nat × EffF)) (he : EG e) : SEOk (S0_r01_made e) := seOk_of trivial trivial he.ok
theorem eq_r01_made (e : List (Nat × EffF)) ( p0 p1 p2 p3 p4 K) : WP (S0_r01_made e) 6 t_r01_made [(.bool p0), (.agg [(.int .u64 p1), (.int .u64 p2)]), (.agg [(.int .u64 p3), (.int .u64 p4)])] K = wv_r01_made p0 p1 p2 p3 p4 (fun r0 r1 r2 => K (.tup [(.agg [(.int .i64 r0), (.int .i64 r1)]), (.int .i64 r2)])) := by kernel_rfl
theorem ok_r01_made (e : List (Nat × EffF)) (he : EG e) : OkF (E e) wp_r01_made n_r01_made := by
 intro as K h
 unfold wp_r01_made pw_r01_made at h
 split at h
 · exact WP_ok (se0_r01_made e he) (LpOk_no (by kernel_rfl)) (by kernel_rfl) (by kernel_rfl) (fun _ => baseS_none (by kernel_rfl) _) (he.num _ (by kernel_rfl)) ((eq_r01_made ..).mpr h)
 · exact h.elim
abbrev T_r01_Make : Type := Int → Int → (Int → Int → Int → Prop) → Prop
def wv_r01_Make (a0 : T_r01_abs) (a1 : T_r01_gcd) (a2 : T_r01_made) (p0 p1 : Int) (K : Int → Int → Int → Prop) : Prop :=
 (cbr (p1 == (0 : Int))
 (K (0 : Int) (0 : Int) (18 : Int))
 (a0 p0 (fun yi0 => 
 (a0 p1 (fun yi1 => 
 (a1 yi0 yi1 (fun yi2 => 
 (asr (!(decide (yi2 = (0 : Int))))
 (asr (!(decide (yi2 = (0 : Int))))
 (a2 ((decide (p0 < (0 : Int))) != (decide (p1 < (0 : Int)))) (0 : Int) (IntKind.u64.wrap (Int.tdiv yi0 yi2)) (0 : Int) (IntKind.u64.wrap (Int.tdiv yi1 yi2)) (fun yi3 yi4 yi5 => 
 (K yi3 yi4 yi5))))))))))))
def w_r01_Make (p0 p1 : Int) (K : Int → Int → Int → Prop) : Prop := wv_r01_Make w_r01_abs w_r01_gcd w_r01_made p0 p1 K
def pw_r01_Make (w : T_r01_Make) (as : List PV) (K : PV → Prop) : Prop :=
 match as with
 | [(.int .i64 p0), (.int .i64 p1)] => w p0 p1 (fun r0 r1 r2 => K (.tup [(.agg [(.int .i64 r0), (.int .i64 r1)]), (.int .i64 r2)]))
 | _ => False
def wp_r01_Make (as : List PV) (K : PV → Prop) : Prop := pw_r01_Make w_r01_Make as K
def lp_r01_Make (_ : T_r01_abs) (_ : T_r01_gcd) (_ : T_r01_made) : LP := fun _ _ _ _ =>
 False
def S0_r01_Make (e : List (Nat × EffF)) (a0 : T_r01_abs) (a1 : T_r01_gcd) (a2 : T_r01_made) : SE := ⟨(E e), lookS [(n_r01_abs, pw_r01_abs a0), (n_r01_gcd, pw_r01_gcd a1), (n_r01_made, pw_r01_made a2)], lookI [], lp_r01_Make a0 a1 a2⟩
theorem se0_r01_Make (e : List (Nat × EffF)) (he : EG e) : SEOk (S0_r01_Make e w_r01_abs w_r01_gcd w_r01_made) := seOk_of ⟨(ok_r01_abs e he), (ok_r01_gcd e he), (ok_r01_made e he), trivial⟩ trivial he.ok
theorem eq_r01_Make (e : List (Nat × EffF)) (a0 a1 a2 p0 p1 K) : WP (S0_r01_Make e a0 a1 a2) 6 t_r01_Make [(.int .i64 p0), (.int .i64 p1)] K = wv_r01_Make a0 a1 a2 p0 p1 (fun r0 r1 r2 => K (.tup [(.agg [(.int .i64 r0), (.int .i64 r1)]), (.int .i64 r2)])) := by kernel_rfl
theorem ok_r01_Make (e : List (Nat × EffF)) (he : EG e) : OkF (E e) wp_r01_Make n_r01_Make := by
 intro as K h
 unfold wp_r01_Make pw_r01_Make at h
 split at h
 · exact WP_ok (se0_r01_Make e he) (LpOk_no (by kernel_rfl)) (by kernel_rfl) (by kernel_rfl) (fun _ => baseS_none (by kernel_rfl) _) (he.num _ (by kernel_rfl)) ((eq_r01_Make ..).mpr h)
 · exact h.elim
end Go.Pf.Vc
namespace Go.Pf.Vc
open Go Go.Pf
set_option linter.unusedVariables false
theorem det_r01_gcd (p0 : Int) (p1 : Int) (r0 : Int) (h : ∀ K : Int → Prop, K r0 → w_r01_gcd p0 p1 K) (K : Int → Prop) : w_r01_gcd p0 p1 K = K r0 :=
 propext ⟨fun k => detC (ok_r01_gcd [] effG_nil) (as := [(.int .u64 p0), (.int .u64 p1)]) (x := (.int .u64 r0)) (fun K' k' => h (fun r0 => K' (.int .u64 r0)) k') (K := fun x => match x with | (.int .u64 r0) => K r0 | _ => False) k, h K⟩
end Go.Pf.Vc
namespace Go.Pf.Vc
open Go Go.Pf
set_option maxRecDepth 100000
abbrev T_r02_Point : Type := Int → Int → Int → (Bool → Prop) → Prop
def wv_r02_Point (a0 : T_r01_Check) (a1 : T_r01_Of) (a2 : T_r01_Less) (p0 p1 p2 : Int) (K : Bool → Prop) : Prop :=
 (a0 p1 p2 (fun yi0 => 
 (cbr (yi0 == (0 : Int))
 (cbr (decide (p1 ≥ (0 : Int)))
 (a1 p0 (fun yi1 yi2 => 
 (a2 yi1 yi2 p1 p2 (fun yb3 => 
 (K (!yb3))))))
 (K false))
 (K false))))
def w_r02_Point (p0 p1 p2 : Int) (K : Bool → Prop) : Prop := wv_r02_Point w_r01_Check w_r01_Of w_r01_Less p0 p1 p2 K
def pw_r02_Point (w : T_r02_Point) (as : List PV) (K : PV → Prop) : Prop :=
 match as with
 | [(.int .i64 p0), (.agg [(.int .i64 p1), (.int .i64 p2)])] => w p0 p1 p2 (fun r0 => K (.bool r0))
 | _ => False
def wp_r02_Point (as : List PV) (K : PV → Prop) : Prop := pw_r02_Point w_r02_Point as K
def lp_r02_Point (_ : T_r01_Check) (_ : T_r01_Of) (_ : T_r01_Less) : LP := fun _ _ _ _ =>
 False
def S0_r02_Point (e : List (Nat × EffF)) (a0 : T_r01_Check) (a1 : T_r01_Of) (a2 : T_r01_Less) : SE := ⟨(E e), lookS [(n_r01_Check, pw_r01_Check a0), (n_r01_Of, pw_r01_Of a1), (n_r01_Less, pw_r01_Less a2)], lookI [], lp_r02_Point a0 a1 a2⟩
theorem se0_r02_Point (e : List (Nat × EffF)) (he : EG e) : SEOk (S0_r02_Point e w_r01_Check w_r01_Of w_r01_Less) := seOk_of ⟨(ok_r01_Check e he), (ok_r01_Of e he), (ok_r01_Less e he), trivial⟩ trivial he.ok
theorem eq_r02_Point (e : List (Nat × EffF)) (a0 a1 a2 p0 p1 p2 K) : WP (S0_r02_Point e a0 a1 a2) 6 t_r02_Point [(.int .i64 p0), (.agg [(.int .i64 p1), (.int .i64 p2)])] K = wv_r02_Point a0 a1 a2 p0 p1 p2 (fun r0 => K (.bool r0)) := by kernel_rfl
theorem ok_r02_Point (e : List (Nat × EffF)) (he : EG e) : OkF (E e) wp_r02_Point n_r02_Point := by
 intro as K h
 unfold wp_r02_Point pw_r02_Point at h
 split at h
 · exact WP_ok (se0_r02_Point e he) (LpOk_no (by kernel_rfl)) (by kernel_rfl) (by kernel_rfl) (fun _ => baseS_none (by kernel_rfl) _) (he.num _ (by kernel_rfl)) ((eq_r02_Point ..).mpr h)
 · exact h.elim
end Go.Pf.Vc
namespace Go.Pf.Vc
open Go Go.Pf
set_option maxRecDepth 100000
abbrev T_r05_Great : Type := List PV → (Bool → Prop) → Prop
def wv_r05_Great (p0 : List PV) (K : Bool → Prop) : Prop :=
 (jn (fun (yj1 : Bool → Prop) =>
 (cbr (decide ((((List.length p0) : Nat) : Int) > (14 : Int)))
 (cbr (decide ((((List.length p0) : Nat) : Int) ≤ (40 : Int)))
 (yj1 true)
 (yj1 (decide ((((List.length p0) : Nat) : Int) > (60 : Int)))))
 (yj1 (decide ((((List.length p0) : Nat) : Int) > (60 : Int))))))
 (fun yb0 => (K yb0)))
def w_r05_Great (p0 : List PV) (K : Bool → Prop) : Prop := wv_r05_Great p0 K
def pw_r05_Great (w : T_r05_Great) (as : List PV) (K : PV → Prop) : Prop :=
 match as with
 | [(.data p0)] => w p0 (fun r0 => K (.bool r0))
 | _ => False
def wp_r05_Great (as : List PV) (K : PV → Prop) : Prop := pw_r05_Great w_r05_Great as K
def lp_r05_Great : LP := fun _ _ _ _ =>
 False
def S0_r05_Great (e : List (Nat × EffF)) : SE := ⟨(E e), lookS [], lookI [], lp_r05_Great⟩
theorem se0_r05_Great (e : List (Nat × EffF)) (he : EG e) : SEOk (S0_r05_Great e) := seOk_of trivial trivial he.ok
theorem eq_r05_Great (e : List (Nat × EffF)) ( p0 K) : WP (S0_r05_Great e) 6 t_r05_Great [(.data p0)] K = wv_r05_Great p0 (fun r0 => K (.bool r0)) := by kernel_rfl
theorem ok_r05_Great (e : List (Nat × EffF)) (he : EG e) : OkF (E e) wp_r05_Great n_r05_Great := by
 intro as K h
 unfold wp_r05_Great pw_r05_Great at h
 split at h
 · exact WP_ok (se0_r05_Great e he) (LpOk_no (by kernel_rfl)) (by kernel_rfl) (by kernel_rfl) (fun _ => baseS_none (by kernel_rfl) _) (he.num _ (by kernel_rfl)) ((eq_r05_Great ..).mpr h)
 · exact h.elim
abbrev T_r05_right : Type := Int → Int → Int → Int → Int → Int → Int → Int → Int → (Bool → Prop) → Prop
def wv_r05_right (a0 : T_r01_Both) (a1 : T_r01_Check) (a2 : T_r02_Point) (a3 : T_r01_Less) (p0 _ p2 p3 p4 p5 p6 p7 p8 : Int) (K : Bool → Prop) : Prop :=
 (jn (fun (yj12 : Bool → Prop) =>
 (a0 p3 p4 p5 p6 (fun yi37 => 
 (cbr (yi37 != (0 : Int))
 (yj12 true)
 (a1 p7 p8 (fun yi38 => 
 (cbr (yi38 != (0 : Int))
 (yj12 true)
 (a2 p0 p3 p4 (fun yb39 => 
 (yj12 (!yb39)))))))))))
 (fun yb11 => (cbr yb11
 (K false)
 (cbr (p2 == (1 : Int))
 (jn (fun (yj28 : Bool → Prop) =>
 (a2 p0 p5 p6 (fun yb29 => 
 (cbr yb29
 (a3 p5 p6 p3 p4 (fun yb30 => 
 (cbr (!yb30)
 (yj28 (decide (p7 ≥ (0 : Int))))
 (yj28 false))))
 (yj28 false)))))
 (fun yb27 => (K yb27)))
 (cbr (p2 == (2 : Int))
 (jn (fun (yj34 : Bool → Prop) =>
 (a2 p0 p7 p8 (fun yb35 => 
 (cbr yb35
 (a3 p7 p8 p3 p4 (fun yb36 => 
 (cbr (!yb36)
 (yj34 (decide (p5 ≥ (0 : Int))))
 (yj34 false))))
 (yj34 false)))))
 (fun yb33 => (K yb33)))
 (K false))))))
def w_r05_right (p0 p1 p2 p3 p4 p5 p6 p7 p8 : Int) (K : Bool → Prop) : Prop := wv_r05_right w_r01_Both w_r01_Check w_r02_Point w_r01_Less p0 p1 p2 p3 p4 p5 p6 p7 p8 K
def pw_r05_right (w : T_r05_right) (as : List PV) (K : PV → Prop) : Prop :=
 match as with
 | [(.int .i64 p0), (.agg [(.int .i64 p1), (.int .u8 p2), (.int .i64 p3), (.int .i64 p4), (.int .i64 p5), (.int .i64 p6), (.int .i64 p7), (.int .i64 p8)])] => w p0 p1 p2 p3 p4 p5 p6 p7 p8 (fun r0 => K (.bool r0))
 | _ => False
def wp_r05_right (as : List PV) (K : PV → Prop) : Prop := pw_r05_right w_r05_right as K
def lp_r05_right (_ : T_r01_Both) (_ : T_r01_Check) (_ : T_r02_Point) (_ : T_r01_Less) : LP := fun _ _ _ _ =>
 False
def S0_r05_right (e : List (Nat × EffF)) (a0 : T_r01_Both) (a1 : T_r01_Check) (a2 : T_r02_Point) (a3 : T_r01_Less) : SE := ⟨(E e), lookS [(n_r01_Both, pw_r01_Both a0), (n_r01_Check, pw_r01_Check a1), (n_r02_Point, pw_r02_Point a2), (n_r01_Less, pw_r01_Less a3)], lookI [], lp_r05_right a0 a1 a2 a3⟩
theorem se0_r05_right (e : List (Nat × EffF)) (he : EG e) : SEOk (S0_r05_right e w_r01_Both w_r01_Check w_r02_Point w_r01_Less) := seOk_of ⟨(ok_r01_Both e he), (ok_r01_Check e he), (ok_r02_Point e he), (ok_r01_Less e he), trivial⟩ trivial he.ok
theorem eq_r05_right (e : List (Nat × EffF)) (a0 a1 a2 a3 p0 p1 p2 p3 p4 p5 p6 p7 p8 K) : WP (S0_r05_right e a0 a1 a2 a3) 6 t_r05_right [(.int .i64 p0), (.agg [(.int .i64 p1), (.int .u8 p2), (.int .i64 p3), (.int .i64 p4), (.int .i64 p5), (.int .i64 p6), (.int .i64 p7), (.int .i64 p8)])] K = wv_r05_right a0 a1 a2 a3 p0 p1 p2 p3 p4 p5 p6 p7 p8 (fun r0 => K (.bool r0)) := by kernel_rfl
theorem ok_r05_right (e : List (Nat × EffF)) (he : EG e) : OkF (E e) wp_r05_right n_r05_right := by
 intro as K h
 unfold wp_r05_right pw_r05_right at h
 split at h
 · exact WP_ok (se0_r05_right e he) (LpOk_no (by kernel_rfl)) (by kernel_rfl) (by kernel_rfl) (fun _ => baseS_none (by kernel_rfl) _) (he.num _ (by kernel_rfl)) ((eq_r05_right ..).mpr h)
 · exact h.elim
abbrev T_r05_Check : Type := Int → List PV → (Int → Prop) → Prop
def L_r05_Check_0_0 (a0 : T_r05_right) (x0 : Int → List PV → Int → Bool → Prop) (x1 : Int → Prop) : Nat → Int → List PV → Int → Prop
 | 0, _, _, _ => False
 | n + 1, i0, l1, i2 =>
 (cbr (decide (i2 < (((List.length l1) : Nat) : Int)))
 (asr (decide ((0 : Int) ≤ i2))
 (asr (decide (i2 < (((List.length l1) : Nat) : Int)))
 (lt (List.getD l1 (i2.toNat) .nils) (fun yr10 =>
 (asr (conf (.agg [.i .i64, .i .u8, .i .i64, .i .i64, .i .i64, .i .i64, .i .i64, .i .i64]) yr10)
 (a0 i0 (intOfV (cellAt yr10 0)) (intOfV (cellAt yr10 1)) (intOfV (cellAt yr10 2)) (intOfV (cellAt yr10 3)) (intOfV (cellAt yr10 4)) (intOfV (cellAt yr10 5)) (intOfV (cellAt yr10 6)) (intOfV (cellAt yr10 7)) (fun yb11 => 
 (cbr (!yb11)
 (x1 (8 : Int))
 (lt (IntKind.i64.wrap (i2 + (1 : Int))) (fun yi12 =>
 (L_r05_Check_0_0 a0 x0 x1 n i0 l1 yi12)))))))))))
 (x0 i0 l1 i2 false))
def wv_r05_Check (a0 : T_r05_right) (p0 : Int) (p1 : List PV) (K : Int → Prop) : Prop :=
 (jn (fun (yj3 : Bool → Prop) =>
 (cbr (decide (p0 < (1 : Int)))
 (yj3 true)
 (yj3 (decide (p0 > (1000 : Int))))))
 (fun yb2 => (cbr yb2
 (K (2 : Int))
 (cbr (decide ((((List.length p1) : Nat) : Int) > (40 : Int)))
 (K (4 : Int))
 (∃ n : Nat, L_r05_Check_0_0 a0
 (fun _ _ _ _ => (K (0 : Int)))
 (fun yi22 => (K yi22))
 n p0 p1 (0 : Int))))))
def w_r05_Check (p0 : Int) (p1 : List PV) (K : Int → Prop) : Prop := wv_r05_Check w_r05_right p0 p1 K
def pw_r05_Check (w : T_r05_Check) (as : List PV) (K : PV → Prop) : Prop :=
 match as with
 | [(.int .i64 p0), (.data p1)] => w p0 p1 (fun r0 => K (.int .i64 r0))
 | _ => False
def wp_r05_Check (as : List PV) (K : PV → Prop) : Prop := pw_r05_Check w_r05_Check as K
def D_r05_Check_0 (F : Frm) (H : Hp) (A0 : Int → List PV → Int → Prop) : Prop :=
 match F, H with
 | [(0, .v (.int .i64 i0)), (1, .v (.data l1)), (5, .v (.int .i64 i2))], [] => (A0 i0 l1 i2)
 | _, _ => False
def X_r05_Check_0_0 (Q : Ex → Frm → Hp → Prop) : Int → List PV → Int → Bool → Prop := (fun i0 l1 i2 b3 => Q (.exit 0) [(0, .v (.int .i64 i0)), (1, .v (.data l1)), (5, .v (.int .i64 i2)), (18, .v (.bool b3))] [])
def X_r05_Check_0_1 (Q : Ex → Frm → Hp → Prop) : Int → Prop := (fun i0 => Q .ret [(4, .v (.int .i64 i0))] [])
def R_r05_Check_0 (a0 : T_r05_right) (Q : Ex → Frm → Hp → Prop) (n : Nat) (F : Frm) (H : Hp) : Prop := D_r05_Check_0 F H (fun i0 l1 i2 => L_r05_Check_0_0 a0 (X_r05_Check_0_0 Q) (X_r05_Check_0_1 Q) n i0 l1 i2)
def lp_r05_Check (a0 : T_r05_right) : LP := fun id F H Q =>
 bif Nat.beq id 13207700 then D_r05_Check_0 F H (fun i0 l1 i2 => ∃ n : Nat, L_r05_Check_0_0 a0 (X_r05_Check_0_0 Q) (X_r05_Check_0_1 Q) n i0 l1 i2) else
 False
def S0_r05_Check (e : List (Nat × EffF)) (a0 : T_r05_right) : SE := ⟨(E e), lookS [(n_r05_right, pw_r05_right a0)], lookI [], lp_r05_Check a0⟩
theorem se0_r05_Check (e : List (Nat × EffF)) (he : EG e) : SEOk (S0_r05_Check e w_r05_right) := seOk_of ⟨(ok_r05_right e he), trivial⟩ trivial he.ok
theorem body_r05_Check_0_0 (e : List (Nat × EffF)) (a0 Q n i0 l1 i2) : WC (E e) (callW (S0_r05_Check e a0) 5) (lp_r05_Check a0) b_13207700 [(0, .v (.int .i64 i0)), (1, .v (.data l1)), (5, .v (.int .i64 i2))] [] (fun x F' H' => match x with | .norm => R_r05_Check_0 a0 Q n F' H' | .exit i => Q (.exit i) F' H' | .ret => Q .ret F' H') = L_r05_Check_0_0 a0 (X_r05_Check_0_0 Q) (X_r05_Check_0_1 Q) (n + 1) i0 l1 i2 := by kernel_rfl
theorem lpb_r05_Check_0 (e : List (Nat × EffF)) (_ : EG e) : LpOk (E e) (lp_r05_Check w_r05_right) b_13207700 := (LpOk_no (by kernel_rfl))
theorem loop_r05_Check_0 (e : List (Nat × EffF)) (he : EG e) : ∀ F H Q, lp_r05_Check w_r05_right 13207700 F H Q → LoopT (E e) b_13207700 F H Q := by
 intro F H Q h
 have go := LoopT.intro (callW_ok (se0_r05_Check e he) 5) (lpb_r05_Check_0 e he) (R_r05_Check_0 w_r05_right Q) (by
   intro F H h
   unfold R_r05_Check_0 D_r05_Check_0 at h
   split at h
   · exact h
   · exact h) (by
   intro n F H h
   unfold R_r05_Check_0 D_r05_Check_0 at h
   split at h
   · exact (body_r05_Check_0_0 ..).mpr h
   · exact h.elim)
 have h : D_r05_Check_0 F H _ := h
 unfold D_r05_Check_0 at h
 split at h
 · obtain ⟨n, h⟩ := h; exact go n _ _ h
 · exact h.elim
theorem eq_r05_Check (e : List (Nat × EffF)) (a0 p0 p1 K) : WP (S0_r05_Check e a0) 6 t_r05_Check [(.int .i64 p0), (.data p1)] K = wv_r05_Check a0 p0 p1 (fun r0 => K (.int .i64 r0)) := by kernel_rfl
theorem ok_r05_Check (e : List (Nat × EffF)) (he : EG e) : OkF (E e) wp_r05_Check n_r05_Check := by
 intro as K h
 unfold wp_r05_Check pw_r05_Check at h
 split at h
 · exact WP_ok (se0_r05_Check e he) (LpOk_by (l := [(13207700, b_13207700)]) ⟨loop_r05_Check_0 e he, trivial⟩ (by kernel_rfl)) (by kernel_rfl) (by kernel_rfl) (fun _ => baseS_none (by kernel_rfl) _) (he.num _ (by kernel_rfl)) ((eq_r05_Check ..).mpr h)
 · exact h.elim
abbrev T_r05_SameList : Type := List PV → List PV → (Bool → Prop) → Prop
def L_r05_SameList_0_0 (x0 : List PV → List PV → Int → Bool → Prop) (x1 : Bool → Prop) : Nat → List PV → List PV → Int → Prop
 | 0, _, _, _ => False
 | n + 1, l0, l1, i2 =>
 (cbr (decide (i2 < (((List.length l0) : Nat) : Int)))
 (asr (decide ((0 : Int) ≤ i2))
 (asr (decide (i2 < (((List.length l0) : Nat) : Int)))
 (lt (List.getD l0 (i2.toNat) .nils) (fun yr6 =>
 (asr (conf (.agg [.i .i64, .i .i64]) yr6)
 (asr (decide ((0 : Int) ≤ i2))
 (asr (decide (i2 < (((List.length l1) : Nat) : Int)))
 (lt (List.getD l1 (i2.toNat) .nils) (fun yr7 =>
 (asr (conf (.agg [.i .i64, .i .i64]) yr7)
 (cbr (!(((intOfV (cellAt yr6 0)) == (intOfV (cellAt yr7 0))) && (((intOfV (cellAt yr6 1)) == (intOfV (cellAt yr7 1))) && true)))
 (x1 false)
 (lt (IntKind.i64.wrap (i2 + (1 : Int))) (fun yi8 =>
 (L_r05_SameList_0_0 x0 x1 n l0 l1 yi8))))))))))))))
 (x0 l0 l1 i2 false))
def wv_r05_SameList (p0 p1 : List PV) (K : Bool → Prop) : Prop :=
 (cbr ((((List.length p0) : Nat) : Int) != (((List.length p1) : Nat) : Int))
 (K false)
 (∃ n : Nat, L_r05_SameList_0_0
 (fun _ _ _ _ => (K true))
 (fun yb18 => (K yb18))
 n p0 p1 (0 : Int)))
def w_r05_SameList (p0 p1 : List PV) (K : Bool → Prop) : Prop := wv_r05_SameList p0 p1 K
def pw_r05_SameList (w : T_r05_SameList) (as : List PV) (K : PV → Prop) : Prop :=
 match as with
 | [(.data p0), (.data p1)] => w p0 p1 (fun r0 => K (.bool r0))
 | _ => False
def wp_r05_SameList (as : List PV) (K : PV → Prop) : Prop := pw_r05_SameList w_r05_SameList as K
def D_r05_SameList_0 (F : Frm) (H : Hp) (A0 : List PV → List PV → Int → Prop) : Prop :=
 match F, H with
 | [(0, .v (.data l0)), (1, .v (.data l1)), (5, .v (.int .i64 i2))], [] => (A0 l0 l1 i2)
 | _, _ => False
def X_r05_SameList_0_0 (Q : Ex → Frm → Hp → Prop) : List PV → List PV → Int → Bool → Prop := (fun l0 l1 i2 b3 => Q (.exit 0) [(0, .v (.data l0)), (1, .v (.data l1)), (5, .v (.int .i64 i2)), (14, .v (.bool b3))] [])
def X_r05_SameList_0_1 (Q : Ex → Frm → Hp → Prop) : Bool → Prop := (fun b0 => Q .ret [(4, .v (.bool b0))] [])
def R_r05_SameList_0 (Q : Ex → Frm → Hp → Prop) (n : Nat) (F : Frm) (H : Hp) : Prop := D_r05_SameList_0 F H (fun l0 l1 i2 => L_r05_SameList_0_0 (X_r05_SameList_0_0 Q) (X_r05_SameList_0_1 Q) n l0 l1 i2)
def lp_r05_SameList : LP := fun id F H Q =>
 bif Nat.beq id 53352400 then D_r05_SameList_0 F H (fun l0 l1 i2 => ∃ n : Nat, L_r05_SameList_0_0 (X_r05_SameList_0_0 Q) (X_r05_SameList_0_1 Q) n l0 l1 i2) else
 False
def S0_r05_SameList (e : List (Nat × EffF)) : SE := ⟨(E e), lookS [], lookI [], lp_r05_SameList⟩
theorem se0_r05_SameList (e : List (Nat × EffF)) (he : EG e) : SEOk (S0_r05_SameList e) := seOk_of trivial trivial he.ok
theorem body_r05_SameList_0_0 (e : List (Nat × EffF)) ( Q n l0 l1 i2) : WC (E e) (callW (S0_r05_SameList e) 5) (lp_r05_SameList) b_53352400 [(0, .v (.data l0)), (1, .v (.data l1)), (5, .v (.int .i64 i2))] [] (fun x F' H' => match x with | .norm => R_r05_SameList_0 Q n F' H' | .exit i => Q (.exit i) F' H' | .ret => Q .ret F' H') = L_r05_SameList_0_0 (X_r05_SameList_0_0 Q) (X_r05_SameList_0_1 Q) (n + 1) l0 l1 i2 := by kernel_rfl
theorem lpb_r05_SameList_0 (e : List (Nat × EffF)) (_ : EG e) : LpOk (E e) (lp_r05_SameList) b_53352400 := (LpOk_no (by kernel_rfl))
theorem loop_r05_SameList_0 (e : List (Nat × EffF)) (he : EG e) : ∀ F H Q, lp_r05_SameList 53352400 F H Q → LoopT (E e) b_53352400 F H Q := by
 intro F H Q h
 have go := LoopT.intro (callW_ok (se0_r05_SameList e he) 5) (lpb_r05_SameList_0 e he) (R_r05_SameList_0 Q) (by
   intro F H h
   unfold R_r05_SameList_0 D_r05_SameList_0 at h
   split at h
   · exact h
   · exact h) (by
   intro n F H h
   unfold R_r05_SameList_0 D_r05_SameList_0 at h
   split at h
   · exact (body_r05_SameList_0_0 ..).mpr h
   · exact h.elim)
 have h : D_r05_SameList_0 F H _ := h
 unfold D_r05_SameList_0 at h
 split at h
 · obtain ⟨n, h⟩ := h; exact go n _ _ h
 · exact h.elim
theorem eq_r05_SameList (e : List (Nat × EffF)) ( p0 p1 K) : WP (S0_r05_SameList e) 6 t_r05_SameList [(.data p0), (.data p1)] K = wv_r05_SameList p0 p1 (fun r0 => K (.bool r0)) := by kernel_rfl
theorem ok_r05_SameList (e : List (Nat × EffF)) (he : EG e) : OkF (E e) wp_r05_SameList n_r05_SameList := by
 intro as K h
 unfold wp_r05_SameList pw_r05_SameList at h
 split at h
 · exact WP_ok (se0_r05_SameList e he) (LpOk_by (l := [(53352400, b_53352400)]) ⟨loop_r05_SameList_0 e he, trivial⟩ (by kernel_rfl)) (by kernel_rfl) (by kernel_rfl) (fun _ => baseS_none (by kernel_rfl) _) (he.num _ (by kernel_rfl)) ((eq_r05_SameList ..).mpr h)
 · exact h.elim
abbrev T_r05_Same : Type := List PV → List PV → List PV → List PV → (Bool → Prop) → Prop
def wv_r05_Same (a0 : T_r05_SameList) (p0 p1 p2 p3 : List PV) (K : Bool → Prop) : Prop :=
 (jn (fun (yj3 : Bool → Prop) =>
 (a0 p0 p2 (fun yb4 => 
 (cbr yb4
 (a0 p1 p3 (fun yb5 => 
 (yj3 yb5)))
 (yj3 false)))))
 (fun yb2 => (K yb2)))
def w_r05_Same (p0 p1 p2 p3 : List PV) (K : Bool → Prop) : Prop := wv_r05_Same w_r05_SameList p0 p1 p2 p3 K
def pw_r05_Same (w : T_r05_Same) (as : List PV) (K : PV → Prop) : Prop :=
 match as with
 | [(.agg [(.data p0), (.data p1)]), (.agg [(.data p2), (.data p3)])] => w p0 p1 p2 p3 (fun r0 => K (.bool r0))
 | _ => False
def wp_r05_Same (as : List PV) (K : PV → Prop) : Prop := pw_r05_Same w_r05_Same as K
def lp_r05_Same (_ : T_r05_SameList) : LP := fun _ _ _ _ =>
 False
def S0_r05_Same (e : List (Nat × EffF)) (a0 : T_r05_SameList) : SE := ⟨(E e), lookS [(n_r05_SameList, pw_r05_SameList a0)], lookI [], lp_r05_Same a0⟩
theorem se0_r05_Same (e : List (Nat × EffF)) (he : EG e) : SEOk (S0_r05_Same e w_r05_SameList) := seOk_of ⟨(ok_r05_SameList e he), trivial⟩ trivial he.ok
theorem eq_r05_Same (e : List (Nat × EffF)) (a0 p0 p1 p2 p3 K) : WP (S0_r05_Same e a0) 6 t_r05_Same [(.agg [(.data p0), (.data p1)]), (.agg [(.data p2), (.data p3)])] K = wv_r05_Same a0 p0 p1 p2 p3 (fun r0 => K (.bool r0)) := by kernel_rfl
theorem ok_r05_Same (e : List (Nat × EffF)) (he : EG e) : OkF (E e) wp_r05_Same n_r05_Same := by
 intro as K h
 unfold wp_r05_Same pw_r05_Same at h
 split at h
 · exact WP_ok (se0_r05_Same e he) (LpOk_no (by kernel_rfl)) (by kernel_rfl) (by kernel_rfl) (fun _ => baseS_none (by kernel_rfl) _) (he.num _ (by kernel_rfl)) ((eq_r05_Same ..).mpr h)
 · exact h.elim
abbrev T_r05_Told : Type := Int → Int → Int → Int → Int → Int → Int → Int → (Int → Int → Prop) → Prop
def wv_r05_Told (_ p1 _ _ p4 p5 p6 p7 : Int) (K : Int → Int → Prop) : Prop :=
 (cbr (p1 == (1 : Int))
 (K p6 p7)
 (K p4 p5))
def w_r05_Told (p0 p1 p2 p3 p4 p5 p6 p7 : Int) (K : Int → Int → Prop) : Prop := wv_r05_Told p0 p1 p2 p3 p4 p5 p6 p7 K
def pw_r05_Told (w : T_r05_Told) (as : List PV) (K : PV → Prop) : Prop :=
 match as with
 | [(.agg [(.int .i64 p0), (.int .u8 p1), (.int .i64 p2), (.int .i64 p3), (.int .i64 p4), (.int .i64 p5), (.int .i64 p6), (.int .i64 p7)])] => w p0 p1 p2 p3 p4 p5 p6 p7 (fun r0 r1 => K (.agg [(.int .i64 r0), (.int .i64 r1)]))
 | _ => False
def wp_r05_Told (as : List PV) (K : PV → Prop) : Prop := pw_r05_Told w_r05_Told as K
def lp_r05_Told : LP := fun _ _ _ _ =>
 False
def S0_r05_Told (e : List (Nat × EffF)) : SE := ⟨(E e), lookS [], lookI [], lp_r05_Told⟩
theorem se0_r05_Told (e : List (Nat × EffF)) (he : EG e) : SEOk (S0_r05_Told e) := seOk_of trivial trivial he.ok
theorem eq_r05_Told (e : List (Nat × EffF)) ( p0 p1 p2 p3 p4 p5 p6 p7 K) : WP (S0_r05_Told e) 6 t_r05_Told [(.agg [(.int .i64 p0), (.int .u8 p1), (.int .i64 p2), (.int .i64 p3), (.int .i64 p4), (.int .i64 p5), (.int .i64 p6), (.int .i64 p7)])] K = wv_r05_Told p0 p1 p2 p3 p4 p5 p6 p7 (fun r0 r1 => K (.agg [(.int .i64 r0), (.int .i64 r1)])) := by kernel_rfl
theorem ok_r05_Told (e : List (Nat × EffF)) (he : EG e) : OkF (E e) wp_r05_Told n_r05_Told := by
 intro as K h
 unfold wp_r05_Told pw_r05_Told at h
 split at h
 · exact WP_ok (se0_r05_Told e he) (LpOk_no (by kernel_rfl)) (by kernel_rfl) (by kernel_rfl) (fun _ => baseS_none (by kernel_rfl) _) (he.num _ (by kernel_rfl)) ((eq_r05_Told ..).mpr h)
 · exact h.elim
abbrev T_r05_gcd : Type := Int → Int → (Int → Prop) → Prop
def L_r05_gcd_0_0 (x0 : Int → Int → Bool → Prop) : Nat → Int → Int → Prop
 | 0, _, _ => False
 | n + 1, i0, i1 =>
 (cbr (i1 != (0 : Int))
 (asr (!(decide (i1 = (0 : Int))))
 (lt (Int.tmod i0 i1) (fun yi0 =>
 (L_r05_gcd_0_0 x0 n i1 yi0))))
 (x0 i0 i1 false))
def wv_r05_gcd (p0 p1 : Int) (K : Int → Prop) : Prop :=
 (∃ n : Nat, L_r05_gcd_0_0
 (fun yi4 _ _ => (K yi4))
 n p0 p1)
def w_r05_gcd (p0 p1 : Int) (K : Int → Prop) : Prop := wv_r05_gcd p0 p1 K
def pw_r05_gcd (w : T_r05_gcd) (as : List PV) (K : PV → Prop) : Prop :=
 match as with
 | [(.int .i64 p0), (.int .i64 p1)] => w p0 p1 (fun r0 => K (.int .i64 r0))
 | _ => False
def wp_r05_gcd (as : List PV) (K : PV → Prop) : Prop := pw_r05_gcd w_r05_gcd as K
def D_r05_gcd_0 (F : Frm) (H : Hp) (A0 : Int → Int → Prop) : Prop :=
 match F, H with
 | [(0, .v (.int .i64 i0)), (1, .v (.int .i64 i1))], [] => (A0 i0 i1)
 | _, _ => False
def X_r05_gcd_0_0 (Q : Ex → Frm → Hp → Prop) : Int → Int → Bool → Prop := (fun i0 i1 b2 => Q (.exit 0) [(0, .v (.int .i64 i0)), (1, .v (.int .i64 i1)), (6, .v (.bool b2))] [])
def R_r05_gcd_0 (Q : Ex → Frm → Hp → Prop) (n : Nat) (F : Frm) (H : Hp) : Prop := D_r05_gcd_0 F H (fun i0 i1 => L_r05_gcd_0_0 (X_r05_gcd_0_0 Q) n i0 i1)
def lp_r05_gcd : LP := fun id F H Q =>
 bif Nat.beq id 18745900 then D_r05_gcd_0 F H (fun i0 i1 => ∃ n : Nat, L_r05_gcd_0_0 (X_r05_gcd_0_0 Q) n i0 i1) else
 False
def S0_r05_gcd (e : List (Nat × EffF)) : SE := ⟨(E e), lookS [], lookI [], lp_r05_gcd⟩
theorem se0_r05_gcd (e : List (Nat × EffF)) (he : EG e) : SEOk (S0_r05_gcd e) := seOk_of trivial trivial he.ok
theorem body_r05_gcd_0_0 (e : List (Nat × EffF)) ( Q n i0 i1) : WC (E e) (callW (S0_r05_gcd e) 5) (lp_r05_gcd) b_18745900 [(0, .v (.int .i64 i0)), (1, .v (.int .i64 i1))] [] (fun x F' H' => match x with | .norm => R_r05_gcd_0 Q n F' H' | .exit i => Q (.exit i) F' H' | .ret => Q .ret F' H') = L_r05_gcd_0_0 (X_r05_gcd_0_0 Q) (n + 1) i0 i1 := by kernel_rfl
theorem lpb_r05_gcd_0 (e : List (Nat × EffF)) (_ : EG e) : LpOk (E e) (lp_r05_gcd) b_18745900 := (LpOk_no (by kernel_rfl))
theorem loop_r05_gcd_0 (e : List (Nat × EffF)) (he : EG e) : ∀ F H Q, lp_r05_gcd 18745900 F H Q → LoopT (E e) b_18745900 F H Q := by
 intro F H Q h
 have go := LoopT.intro (callW_ok (se0_r05_gcd e he) 5) (lpb_r05_gcd_0 e he) (R_r05_gcd_0 Q) (by
   intro F H h
   unfold R_r05_gcd_0 D_r05_gcd_0 at h
   split at h
   · exact h
   · exact h) (by
   intro n F H h
   unfold R_r05_gcd_0 D_r05_gcd_0 at h
   split at h
   · exact (body_r05_gcd_0_0 ..).mpr h
   · exact h.elim)
 have h : D_r05_gcd_0 F H _ := h
 unfold D_r05_gcd_0 at h
 split at h
 · obtain ⟨n, h⟩ := h; exact go n _ _ h
 · exact h.elim
theorem eq_r05_gcd (e : List (Nat × EffF)) ( p0 p1 K) : WP (S0_r05_gcd e) 6 t_r05_gcd [(.int .i64 p0), (.int .i64 p1)] K = wv_r05_gcd p0 p1 (fun r0 => K (.int .i64 r0)) := by kernel_rfl
theorem ok_r05_gcd (e : List (Nat × EffF)) (he : EG e) : OkF (E e) wp_r05_gcd n_r05_gcd := by
 intro as K h
 unfold wp_r05_gcd pw_r05_gcd at h
 split at h
 · exact WP_ok (se0_r05_gcd e he) (LpOk_by (l := [(18745900, b_18745900)]) ⟨loop_r05_gcd_0 e he, trivial⟩ (by kernel_rfl)) (by kernel_rfl) (by kernel_rfl) (fun _ => baseS_none (by kernel_rfl) _) (he.num _ (by kernel_rfl)) ((eq_r05_gcd ..).mpr h)
 · exact h.elim
abbrev T_r05_Scale : Type := List PV → (Int → Int → Prop) → Prop
def L_r05_Scale_0_0 (a0 : T_r05_Told) (a1 : T_r05_gcd) (x90278700_0 : List PV → Int → Int → Bool → Prop) (x90278700_1 : Int → Int → Prop) : Nat → List PV → Int → Int → Prop
 | 0, _, _, _ => False
 | n90278700 + 1, l0, i1, i2 =>
 (cbr (decide (i2 < (((List.length l0) : Nat) : Int)))
 (asr (decide ((0 : Int) ≤ i2))
 (asr (decide (i2 < (((List.length l0) : Nat) : Int)))
 (lt (List.getD l0 (i2.toNat) .nils) (fun yr21 =>
 (asr (conf (.agg [.i .i64, .i .u8, .i .i64, .i .i64, .i .i64, .i .i64, .i .i64, .i .i64]) yr21)
 (a0 (intOfV (cellAt yr21 0)) (intOfV (cellAt yr21 1)) (intOfV (cellAt yr21 2)) (intOfV (cellAt yr21 3)) (intOfV (cellAt yr21 4)) (intOfV (cellAt yr21 5)) (intOfV (cellAt yr21 6)) (intOfV (cellAt yr21 7)) (fun _ yi23 => 
 (a1 i1 yi23 (fun yi25 => 
 (asr (!(decide (yi25 = (0 : Int))))
 (lt (IntKind.i64.wrap (Int.tdiv yi23 yi25)) (fun yi32 =>
 (asr (!(decide (i1 = (0 : Int))))
 (lt (IntKind.i64.wrap (Int.tdiv (1000000000 : Int) i1)) (fun yi33 =>
 (cbr (decide (yi32 > yi33))
 (x90278700_1 (0 : Int) (16 : Int))
 (asr (!(decide (yi25 = (0 : Int))))
 (lt (IntKind.i64.wrap (Int.tdiv yi23 yi25)) (fun yi34 =>
 (lt (IntKind.i64.wrap (i1 * yi34)) (fun yi35 =>
 (lt (IntKind.i64.wrap (i2 + (1 : Int))) (fun yi36 =>
 (L_r05_Scale_0_0 a0 a1 x90278700_0 x90278700_1 n90278700 l0 yi35 yi36))))))))))))))))))))))))
 (x90278700_0 l0 i1 i2 false))
def L_r05_Scale_1_0 (a0 : T_r05_Told) (a1 : T_r05_gcd) (x90278701_0 : List PV → Int → Int → Bool → Prop) (x90278701_1 : Int → Int → Prop) : Nat → List PV → Int → Int → Prop
 | 0, _, _, _ => False
 | n90278701 + 1, l0, i1, i2 =>
 (cbr (decide (i2 < (((List.length l0) : Nat) : Int)))
 (asr (decide ((0 : Int) ≤ i2))
 (asr (decide (i2 < (((List.length l0) : Nat) : Int)))
 (lt (List.getD l0 (i2.toNat) .nils) (fun yr60 =>
 (asr (conf (.agg [.i .i64, .i .u8, .i .i64, .i .i64, .i .i64, .i .i64, .i .i64, .i .i64]) yr60)
 (a0 (intOfV (cellAt yr60 0)) (intOfV (cellAt yr60 1)) (intOfV (cellAt yr60 2)) (intOfV (cellAt yr60 3)) (intOfV (cellAt yr60 4)) (intOfV (cellAt yr60 5)) (intOfV (cellAt yr60 6)) (intOfV (cellAt yr60 7)) (fun yi61 yi62 => 
 (asr (!(decide (yi62 = (0 : Int))))
 (lt (IntKind.i64.wrap (Int.tdiv i1 yi62)) (fun yi65 =>
 (asr (!(decide (yi65 = (0 : Int))))
 (lt (IntKind.i64.wrap (Int.tdiv (1000000000000 : Int) yi65)) (fun yi66 =>
 (cbr (decide (yi61 > yi66))
 (x90278701_1 (0 : Int) (16 : Int))
 (lt (IntKind.i64.wrap (i2 + (1 : Int))) (fun yi67 =>
 (L_r05_Scale_1_0 a0 a1 x90278701_0 x90278701_1 n90278701 l0 i1 yi67)))))))))))))))))
 (x90278701_0 l0 i1 i2 false))
def wv_r05_Scale (a0 : T_r05_Told) (a1 : T_r05_gcd) (p0 : List PV) (K : Int → Int → Prop) : Prop :=
 (∃ n90278700 : Nat, L_r05_Scale_0_0 a0 a1
 (fun yl43 yi44 _ _ => (∃ n90278701 : Nat, L_r05_Scale_1_0 a0 a1
 (fun _ yi75 _ _ => (K yi75 (0 : Int)))
 (fun yi78 yi79 => (K yi78 yi79))
 n90278701 yl43 yi44 (0 : Int)))
 (fun yi80 yi81 => (K yi80 yi81))
 n90278700 p0 (1 : Int) (0 : Int))
def w_r05_Scale (p0 : List PV) (K : Int → Int → Prop) : Prop := wv_r05_Scale w_r05_Told w_r05_gcd p0 K
def pw_r05_Scale (w : T_r05_Scale) (as : List PV) (K : PV → Prop) : Prop :=
 match as with
 | [(.data p0)] => w p0 (fun r0 r1 => K (.tup [(.int .i64 r0), (.int .i64 r1)]))
 | _ => False
def wp_r05_Scale (as : List PV) (K : PV → Prop) : Prop := pw_r05_Scale w_r05_Scale as K
def D_r05_Scale_0 (F : Frm) (H : Hp) (A0 : List PV → Int → Int → Prop) : Prop :=
 match F, H with
 | [(0, .v (.data l0)), (4, .v (.int .i64 i1)), (5, .v (.int .i64 i2))], [] => (A0 l0 i1 i2)
 | _, _ => False
def D_r05_Scale_1 (F : Frm) (H : Hp) (A0 : List PV → Int → Int → Prop) : Prop :=
 match F, H with
 | [(0, .v (.data l0)), (4, .v (.int .i64 i1)), (8, .v (.int .i64 i2))], [] => (A0 l0 i1 i2)
 | _, _ => False
def X_r05_Scale_0_0 (Q : Ex → Frm → Hp → Prop) : List PV → Int → Int → Bool → Prop := (fun l0 i1 i2 b3 => Q (.exit 0) [(0, .v (.data l0)), (4, .v (.int .i64 i1)), (5, .v (.int .i64 i2)), (13, .v (.bool b3))] [])
def X_r05_Scale_0_1 (Q : Ex → Frm → Hp → Prop) : Int → Int → Prop := (fun i0 i1 => Q .ret [(2, .v (.int .i64 i0)), (3, .v (.int .i64 i1))] [])
def X_r05_Scale_1_0 (Q : Ex → Frm → Hp → Prop) : List PV → Int → Int → Bool → Prop := (fun l0 i1 i2 b3 => Q (.exit 2) [(0, .v (.data l0)), (4, .v (.int .i64 i1)), (8, .v (.int .i64 i2)), (39, .v (.bool b3))] [])
def X_r05_Scale_1_1 (Q : Ex → Frm → Hp → Prop) : Int → Int → Prop := (fun i0 i1 => Q .ret [(2, .v (.int .i64 i0)), (3, .v (.int .i64 i1))] [])
def R_r05_Scale_0 (a0 : T_r05_Told) (a1 : T_r05_gcd) (Q : Ex → Frm → Hp → Prop) (n : Nat) (F : Frm) (H : Hp) : Prop := D_r05_Scale_0 F H (fun l0 i1 i2 => L_r05_Scale_0_0 a0 a1 (X_r05_Scale_0_0 Q) (X_r05_Scale_0_1 Q) n l0 i1 i2)
def R_r05_Scale_1 (a0 : T_r05_Told) (a1 : T_r05_gcd) (Q : Ex → Frm → Hp → Prop) (n : Nat) (F : Frm) (H : Hp) : Prop := D_r05_Scale_1 F H (fun l0 i1 i2 => L_r05_Scale_1_0 a0 a1 (X_r05_Scale_1_0 Q) (X_r05_Scale_1_1 Q) n l0 i1 i2)
def lp_r05_Scale (a0 : T_r05_Told) (a1 : T_r05_gcd) : LP := fun id F H Q =>
 bif Nat.beq id 90278700 then D_r05_Scale_0 F H (fun l0 i1 i2 => ∃ n : Nat, L_r05_Scale_0_0 a0 a1 (X_r05_Scale_0_0 Q) (X_r05_Scale_0_1 Q) n l0 i1 i2) else
 bif Nat.beq id 90278701 then D_r05_Scale_1 F H (fun l0 i1 i2 => ∃ n : Nat, L_r05_Scale_1_0 a0 a1 (X_r05_Scale_1_0 Q) (X_r05_Scale_1_1 Q) n l0 i1 i2) else
 False
def S0_r05_Scale (e : List (Nat × EffF)) (a0 : T_r05_Told) (a1 : T_r05_gcd) : SE := ⟨(E e), lookS [(n_r05_Told, pw_r05_Told a0), (n_r05_gcd, pw_r05_gcd a1)], lookI [], lp_r05_Scale a0 a1⟩
theorem se0_r05_Scale (e : List (Nat × EffF)) (he : EG e) : SEOk (S0_r05_Scale e w_r05_Told w_r05_gcd) := seOk_of ⟨(ok_r05_Told e he), (ok_r05_gcd e he), trivial⟩ trivial he.ok
theorem body_r05_Scale_0_0 (e : List (Nat × EffF)) (a0 a1 Q n l0 i1 i2) : WC (E e) (callW (S0_r05_Scale e a0 a1) 5) (lp_r05_Scale a0 a1) b_90278700 [(0, .v (.data l0)), (4, .v (.int .i64 i1)), (5, .v (.int .i64 i2))] [] (fun x F' H' => match x with | .norm => R_r05_Scale_0 a0 a1 Q n F' H' | .exit i => Q (.exit i) F' H' | .ret => Q .ret F' H') = L_r05_Scale_0_0 a0 a1 (X_r05_Scale_0_0 Q) (X_r05_Scale_0_1 Q) (n + 1) l0 i1 i2 := by kernel_rfl
theorem lpb_r05_Scale_0 (e : List (Nat × EffF)) (_ : EG e) : LpOk (E e) (lp_r05_Scale w_r05_Told w_r05_gcd) b_90278700 := (LpOk_no (by kernel_rfl))
theorem loop_r05_Scale_0 (e : List (Nat × EffF)) (he : EG e) : ∀ F H Q, lp_r05_Scale w_r05_Told w_r05_gcd 90278700 F H Q → LoopT (E e) b_90278700 F H Q := by
 intro F H Q h
 have go := LoopT.intro (callW_ok (se0_r05_Scale e he) 5) (lpb_r05_Scale_0 e he) (R_r05_Scale_0 w_r05_Told w_r05_gcd Q) (by
   intro F H h
   unfold R_r05_Scale_0 D_r05_Scale_0 at h
   split at h
   · exact h
   · exact h) (by
   intro n F H h
   unfold R_r05_Scale_0 D_r05_Scale_0 at h
   split at h
   · exact (body_r05_Scale_0_0 ..).mpr h
   · exact h.elim)
 have h : D_r05_Scale_0 F H _ := h
 unfold D_r05_Scale_0 at h
 split at h
 · obtain ⟨n, h⟩ := h; exact go n _ _ h
 · exact h.elim
theorem body_r05_Scale_1_0 (e : List (Nat × EffF)) (a0 a1 Q n l0 i1 i2) : WC (E e) (callW (S0_r05_Scale e a0 a1) 5) (lp_r05_Scale a0 a1) b_90278701 [(0, .v (.data l0)), (4, .v (.int .i64 i1)), (8, .v (.int .i64 i2))] [] (fun x F' H' => match x with | .norm => R_r05_Scale_1 a0 a1 Q n F' H' | .exit i => Q (.exit i) F' H' | .ret => Q .ret F' H') = L_r05_Scale_1_0 a0 a1 (X_r05_Scale_1_0 Q) (X_r05_Scale_1_1 Q) (n + 1) l0 i1 i2 := by kernel_rfl
theorem lpb_r05_Scale_1 (e : List (Nat × EffF)) (_ : EG e) : LpOk (E e) (lp_r05_Scale w_r05_Told w_r05_gcd) b_90278701 := (LpOk_no (by kernel_rfl))
theorem loop_r05_Scale_1 (e : List (Nat × EffF)) (he : EG e) : ∀ F H Q, lp_r05_Scale w_r05_Told w_r05_gcd 90278701 F H Q → LoopT (E e) b_90278701 F H Q := by
 intro F H Q h
 have go := LoopT.intro (callW_ok (se0_r05_Scale e he) 5) (lpb_r05_Scale_1 e he) (R_r05_Scale_1 w_r05_Told w_r05_gcd Q) (by
   intro F H h
   unfold R_r05_Scale_1 D_r05_Scale_1 at h
   split at h
   · exact h
   · exact h) (by
   intro n F H h
   unfold R_r05_Scale_1 D_r05_Scale_1 at h
   split at h
   · exact (body_r05_Scale_1_0 ..).mpr h
   · exact h.elim)
 have h : D_r05_Scale_1 F H _ := h
 unfold D_r05_Scale_1 at h
 split at h
 · obtain ⟨n, h⟩ := h; exact go n _ _ h
 · exact h.elim
theorem eq_r05_Scale (e : List (Nat × EffF)) (a0 a1 p0 K) : WP (S0_r05_Scale e a0 a1) 6 t_r05_Scale [(.data p0)] K = wv_r05_Scale a0 a1 p0 (fun r0 r1 => K (.tup [(.int .i64 r0), (.int .i64 r1)])) := by kernel_rfl
theorem ok_r05_Scale (e : List (Nat × EffF)) (he : EG e) : OkF (E e) wp_r05_Scale n_r05_Scale := by
 intro as K h
 unfold wp_r05_Scale pw_r05_Scale at h
 split at h
 · exact WP_ok (se0_r05_Scale e he) (LpOk_by (l := [(90278700, b_90278700), (90278701, b_90278701)]) ⟨loop_r05_Scale_0 e he, loop_r05_Scale_1 e he, trivial⟩ (by kernel_rfl)) (by kernel_rfl) (by kernel_rfl) (fun _ => baseS_none (by kernel_rfl) _) (he.num _ (by kernel_rfl)) ((eq_r05_Scale ..).mpr h)
 · exact h.elim
abbrev T_r05_At : Type := List PV → Int → Int → (Int → Prop) → Prop
def L_r05_At_0_0 (x0 : List PV → Int → Int → Int → Bool → Prop) (x1 : Int → Prop) : Nat → List PV → Int → Int → Int → Prop
 | 0, _, _, _, _ => False
 | n + 1, l0, i1, i2, i3 =>
 (cbr (decide (i3 < (((List.length l0) : Nat) : Int)))
 (asr (decide ((0 : Int) ≤ i3))
 (asr (decide (i3 < (((List.length l0) : Nat) : Int)))
 (lt (List.getD l0 (i3.toNat) .nils) (fun yr3 =>
 (asr (conf (.agg [.i .i64, .i .i64]) yr3)
 (cbr (((intOfV (cellAt yr3 0)) == i1) && (((intOfV (cellAt yr3 1)) == i2) && true))
 (x1 i3)
 (lt (IntKind.i64.wrap (i3 + (1 : Int))) (fun yi4 =>
 (L_r05_At_0_0 x0 x1 n l0 i1 i2 yi4)))))))))
 (x0 l0 i1 i2 i3 false))
def wv_r05_At (p0 : List PV) (p1 p2 : Int) (K : Int → Prop) : Prop :=
 (∃ n : Nat, L_r05_At_0_0
 (fun _ _ _ _ _ => (K (-1 : Int)))
 (fun yi16 => (K yi16))
 n p0 p1 p2 (0 : Int))
def w_r05_At (p0 : List PV) (p1 p2 : Int) (K : Int → Prop) : Prop := wv_r05_At p0 p1 p2 K
def pw_r05_At (w : T_r05_At) (as : List PV) (K : PV → Prop) : Prop :=
 match as with
 | [(.data p0), (.agg [(.int .i64 p1), (.int .i64 p2)])] => w p0 p1 p2 (fun r0 => K (.int .i64 r0))
 | _ => False
def wp_r05_At (as : List PV) (K : PV → Prop) : Prop := pw_r05_At w_r05_At as K
def D_r05_At_0 (F : Frm) (H : Hp) (A0 : List PV → Int → Int → Int → Prop) : Prop :=
 match F, H with
 | [(0, .v (.data l0)), (3, .box (.agg [(.int .i64 i1), (.int .i64 i2)])), (5, .v (.int .i64 i3))], [] => (A0 l0 i1 i2 i3)
 | _, _ => False
def X_r05_At_0_0 (Q : Ex → Frm → Hp → Prop) : List PV → Int → Int → Int → Bool → Prop := (fun l0 i1 i2 i3 b4 => Q (.exit 0) [(0, .v (.data l0)), (3, .box (.agg [(.int .i64 i1), (.int .i64 i2)])), (5, .v (.int .i64 i3)), (9, .v (.bool b4))] [])
def X_r05_At_0_1 (Q : Ex → Frm → Hp → Prop) : Int → Prop := (fun i0 => Q .ret [(4, .v (.int .i64 i0))] [])
def R_r05_At_0 (Q : Ex → Frm → Hp → Prop) (n : Nat) (F : Frm) (H : Hp) : Prop := D_r05_At_0 F H (fun l0 i1 i2 i3 => L_r05_At_0_0 (X_r05_At_0_0 Q) (X_r05_At_0_1 Q) n l0 i1 i2 i3)
def lp_r05_At : LP := fun id F H Q =>
 bif Nat.beq id 30944100 then D_r05_At_0 F H (fun l0 i1 i2 i3 => ∃ n : Nat, L_r05_At_0_0 (X_r05_At_0_0 Q) (X_r05_At_0_1 Q) n l0 i1 i2 i3) else
 False
def S0_r05_At (e : List (Nat × EffF)) : SE := ⟨(E e), lookS [], lookI [], lp_r05_At⟩
theorem se0_r05_At (e : List (Nat × EffF)) (he : EG e) : SEOk (S0_r05_At e) := seOk_of trivial trivial he.ok
theorem body_r05_At_0_0 (e : List (Nat × EffF)) ( Q n l0 i1 i2 i3) : WC (E e) (callW (S0_r05_At e) 5) (lp_r05_At) b_30944100 [(0, .v (.data l0)), (3, .box (.agg [(.int .i64 i1), (.int .i64 i2)])), (5, .v (.int .i64 i3))] [] (fun x F' H' => match x with | .norm => R_r05_At_0 Q n F' H' | .exit i => Q (.exit i) F' H' | .ret => Q .ret F' H') = L_r05_At_0_0 (X_r05_At_0_0 Q) (X_r05_At_0_1 Q) (n + 1) l0 i1 i2 i3 := by kernel_rfl
theorem lpb_r05_At_0 (e : List (Nat × EffF)) (_ : EG e) : LpOk (E e) (lp_r05_At) b_30944100 := (LpOk_no (by kernel_rfl))
theorem loop_r05_At_0 (e : List (Nat × EffF)) (he : EG e) : ∀ F H Q, lp_r05_At 30944100 F H Q → LoopT (E e) b_30944100 F H Q := by
 intro F H Q h
 have go := LoopT.intro (callW_ok (se0_r05_At e he) 5) (lpb_r05_At_0 e he) (R_r05_At_0 Q) (by
   intro F H h
   unfold R_r05_At_0 D_r05_At_0 at h
   split at h
   · exact h
   · exact h) (by
   intro n F H h
   unfold R_r05_At_0 D_r05_At_0 at h
   split at h
   · exact (body_r05_At_0_0 ..).mpr h
   · exact h.elim)
 have h : D_r05_At_0 F H _ := h
 unfold D_r05_At_0 at h
 split at h
 · obtain ⟨n, h⟩ := h; exact go n _ _ h
 · exact h.elim
theorem eq_r05_At (e : List (Nat × EffF)) ( p0 p1 p2 K) : WP (S0_r05_At e) 6 t_r05_At [(.data p0), (.agg [(.int .i64 p1), (.int .i64 p2)])] K = wv_r05_At p0 p1 p2 (fun r0 => K (.int .i64 r0)) := by kernel_rfl
theorem ok_r05_At (e : List (Nat × EffF)) (he : EG e) : OkF (E e) wp_r05_At n_r05_At := by
 intro as K h
 unfold wp_r05_At pw_r05_At at h
 split at h
 · exact WP_ok (se0_r05_At e he) (LpOk_by (l := [(30944100, b_30944100)]) ⟨loop_r05_At_0 e he, trivial⟩ (by kernel_rfl)) (by kernel_rfl) (by kernel_rfl) (fun _ => baseS_none (by kernel_rfl) _) (he.num _ (by kernel_rfl)) ((eq_r05_At ..).mpr h)
 · exact h.elim
abbrev T_r05_To : Type := Int → Int → Int → Int → Int → Int → Int → Int → (Int → Int → Prop) → Prop
def wv_r05_To (_ p1 _ _ p4 p5 p6 p7 : Int) (K : Int → Int → Prop) : Prop :=
 (cbr (p1 == (1 : Int))
 (K p4 p5)
 (K p6 p7))
def w_r05_To (p0 p1 p2 p3 p4 p5 p6 p7 : Int) (K : Int → Int → Prop) : Prop := wv_r05_To p0 p1 p2 p3 p4 p5 p6 p7 K
def pw_r05_To (w : T_r05_To) (as : List PV) (K : PV → Prop) : Prop :=
 match as with
 | [(.agg [(.int .i64 p0), (.int .u8 p1), (.int .i64 p2), (.int .i64 p3), (.int .i64 p4), (.int .i64 p5), (.int .i64 p6), (.int .i64 p7)])] => w p0 p1 p2 p3 p4 p5 p6 p7 (fun r0 r1 => K (.agg [(.int .i64 r0), (.int .i64 r1)]))
 | _ => False
def wp_r05_To (as : List PV) (K : PV → Prop) : Prop := pw_r05_To w_r05_To as K
def lp_r05_To : LP := fun _ _ _ _ =>
 False
def S0_r05_To (e : List (Nat × EffF)) : SE := ⟨(E e), lookS [], lookI [], lp_r05_To⟩
theorem se0_r05_To (e : List (Nat × EffF)) (he : EG e) : SEOk (S0_r05_To e) := seOk_of trivial trivial he.ok
theorem eq_r05_To (e : List (Nat × EffF)) ( p0 p1 p2 p3 p4 p5 p6 p7 K) : WP (S0_r05_To e) 6 t_r05_To [(.agg [(.int .i64 p0), (.int .u8 p1), (.int .i64 p2), (.int .i64 p3), (.int .i64 p4), (.int .i64 p5), (.int .i64 p6), (.int .i64 p7)])] K = wv_r05_To p0 p1 p2 p3 p4 p5 p6 p7 (fun r0 r1 => K (.agg [(.int .i64 r0), (.int .i64 r1)])) := by kernel_rfl
theorem ok_r05_To (e : List (Nat × EffF)) (he : EG e) : OkF (E e) wp_r05_To n_r05_To := by
 intro as K h
 unfold wp_r05_To pw_r05_To at h
 split at h
 · exact WP_ok (se0_r05_To e he) (LpOk_no (by kernel_rfl)) (by kernel_rfl) (by kernel_rfl) (fun _ => baseS_none (by kernel_rfl) _) (he.num _ (by kernel_rfl)) ((eq_r05_To ..).mpr h)
 · exact h.elim
end Go.Pf.Vc
namespace Go.Pf.Vc
open Go Go.Pf
set_option linter.unusedVariables false
theorem det_r05_Check (p0 : Int) (p1 : List PV) (r0 : Int) (h : ∀ K : Int → Prop, K r0 → w_r05_Check p0 p1 K) (K : Int → Prop) : w_r05_Check p0 p1 K = K r0 :=
 propext ⟨fun k => detC (ok_r05_Check [] effG_nil) (as := [(.int .i64 p0), (.data p1)]) (x := (.int .i64 r0)) (fun K' k' => h (fun r0 => K' (.int .i64 r0)) k') (K := fun x => match x with | (.int .i64 r0) => K r0 | _ => False) k, h K⟩
theorem det_r05_SameList (p0 : List PV) (p1 : List PV) (r0 : Bool) (h : ∀ K : Bool → Prop, K r0 → w_r05_SameList p0 p1 K) (K : Bool → Prop) : w_r05_SameList p0 p1 K = K r0 :=
 propext ⟨fun k => detC (ok_r05_SameList [] effG_nil) (as := [(.data p0), (.data p1)]) (x := (.bool r0)) (fun K' k' => h (fun r0 => K' (.bool r0)) k') (K := fun x => match x with | (.bool r0) => K r0 | _ => False) k, h K⟩
theorem det_r05_gcd (p0 : Int) (p1 : Int) (r0 : Int) (h : ∀ K : Int → Prop, K r0 → w_r05_gcd p0 p1 K) (K : Int → Prop) : w_r05_gcd p0 p1 K = K r0 :=
 propext ⟨fun k => detC (ok_r05_gcd [] effG_nil) (as := [(.int .i64 p0), (.int .i64 p1)]) (x := (.int .i64 r0)) (fun K' k' => h (fun r0 => K' (.int .i64 r0)) k') (K := fun x => match x with | (.int .i64 r0) => K r0 | _ => False) k, h K⟩
theorem det_r05_Scale (p0 : List PV) (r0 : Int) (r1 : Int) (h : ∀ K : Int → Int → Prop, K r0 r1 → w_r05_Scale p0 K) (K : Int → Int → Prop) : w_r05_Scale p0 K = K r0 r1 :=
 propext ⟨fun k => detC (ok_r05_Scale [] effG_nil) (as := [(.data p0)]) (x := (.tup [(.int .i64 r0), (.int .i64 r1)])) (fun K' k' => h (fun r0 r1 => K' (.tup [(.int .i64 r0), (.int .i64 r1)])) k') (K := fun x => match x with | (.tup [(.int .i64 r0), (.int .i64 r1)]) => K r0 r1 | _ => False) k, h K⟩
theorem det_r05_At (p0 : List PV) (p1 : Int) (p2 : Int) (r0 : Int) (h : ∀ K : Int → Prop, K r0 → w_r05_At p0 p1 p2 K) (K : Int → Prop) : w_r05_At p0 p1 p2 K = K r0 :=
 propext ⟨fun k => detC (ok_r05_At [] effG_nil) (as := [(.data p0), (.agg [(.int .i64 p1), (.int .i64 p2)])]) (x := (.int .i64 r0)) (fun K' k' => h (fun r0 => K' (.int .i64 r0)) k') (K := fun x => match x with | (.int .i64 r0) => K r0 | _ => False) k, h K⟩
end Go.Pf.Vc
namespace Go.Pf.Vc
open Go Go.Pf
set_option maxRecDepth 100000
abbrev T_l05_valid : Type := Int → List PV → (Bool → Prop) → Prop
def wv_l05_valid (a0 : T_r05_Great) (a1 : T_r05_Check) (p0 : Int) (p1 : List PV) (K : Bool → Prop) : Prop :=
 (jn (fun (yj3 : Bool → Prop) =>
 (a0 p1 (fun yb4 => 
 (cbr (!yb4)
 (a1 p0 p1 (fun yi5 => 
 (yj3 (yi5 == (0 : Int)))))
 (yj3 false)))))
 (fun yb2 => (K yb2)))
def w_l05_valid (p0 : Int) (p1 : List PV) (K : Bool → Prop) : Prop := wv_l05_valid w_r05_Great w_r05_Check p0 p1 K
def pw_l05_valid (w : T_l05_valid) (as : List PV) (K : PV → Prop) : Prop :=
 match as with
 | [(.int .i64 p0), (.data p1)] => w p0 p1 (fun r0 => K (.bool r0))
 | _ => False
def wp_l05_valid (as : List PV) (K : PV → Prop) : Prop := pw_l05_valid w_l05_valid as K
def lp_l05_valid (_ : T_r05_Great) (_ : T_r05_Check) : LP := fun _ _ _ _ =>
 False
def S0_l05_valid (e : List (Nat × EffF)) (a0 : T_r05_Great) (a1 : T_r05_Check) : SE := ⟨(E e), lookS [(n_r05_Great, pw_r05_Great a0), (n_r05_Check, pw_r05_Check a1)], lookI [], lp_l05_valid a0 a1⟩
theorem se0_l05_valid (e : List (Nat × EffF)) (he : EG e) : SEOk (S0_l05_valid e w_r05_Great w_r05_Check) := seOk_of ⟨(ok_r05_Great e he), (ok_r05_Check e he), trivial⟩ trivial he.ok
theorem eq_l05_valid (e : List (Nat × EffF)) (a0 a1 p0 p1 K) : WP (S0_l05_valid e a0 a1) 6 t_l05_valid [(.int .i64 p0), (.data p1)] K = wv_l05_valid a0 a1 p0 p1 (fun r0 => K (.bool r0)) := by kernel_rfl
theorem ok_l05_valid (e : List (Nat × EffF)) (he : EG e) : OkF (E e) wp_l05_valid n_l05_valid := by
 intro as K h
 unfold wp_l05_valid pw_l05_valid at h
 split at h
 · exact WP_ok (se0_l05_valid e he) (LpOk_no (by kernel_rfl)) (by kernel_rfl) (by kernel_rfl) (fun _ => baseS_none (by kernel_rfl) _) (he.num _ (by kernel_rfl)) ((eq_l05_valid ..).mpr h)
 · exact h.elim
abbrev T_l05_of : Type := Int → (Int → Int → Prop) → Prop
def wv_l05_of (p0 : Int) (K : Int → Int → Prop) : Prop :=
 (K p0 (1 : Int))
def w_l05_of (p0 : Int) (K : Int → Int → Prop) : Prop := wv_l05_of p0 K
def pw_l05_of (w : T_l05_of) (as : List PV) (K : PV → Prop) : Prop :=
 match as with
 | [(.int .i64 p0)] => w p0 (fun r0 r1 => K (.agg [(.int .i64 r0), (.int .i64 r1)]))
 | _ => False
def wp_l05_of (as : List PV) (K : PV → Prop) : Prop := pw_l05_of w_l05_of as K
def lp_l05_of : LP := fun _ _ _ _ =>
 False
def S0_l05_of (e : List (Nat × EffF)) : SE := ⟨(E e), lookS [], lookI [], lp_l05_of⟩
theorem se0_l05_of (e : List (Nat × EffF)) (he : EG e) : SEOk (S0_l05_of e) := seOk_of trivial trivial he.ok
theorem eq_l05_of (e : List (Nat × EffF)) ( p0 K) : WP (S0_l05_of e) 6 t_l05_of [(.int .i64 p0)] K = wv_l05_of p0 (fun r0 r1 => K (.agg [(.int .i64 r0), (.int .i64 r1)])) := by kernel_rfl
theorem ok_l05_of (e : List (Nat × EffF)) (he : EG e) : OkF (E e) wp_l05_of n_l05_of := by
 intro as K h
 unfold wp_l05_of pw_l05_of at h
 split at h
 · exact WP_ok (se0_l05_of e he) (LpOk_no (by kernel_rfl)) (by kernel_rfl) (by kernel_rfl) (fun _ => baseS_none (by kernel_rfl) _) (he.num _ (by kernel_rfl)) ((eq_l05_of ..).mpr h)
 · exact h.elim
abbrev T_l05_value : Type := Int → Int → Int → (Int → Int → Int → Int → Int → Int → Int → Int → Prop) → Prop
def wv_l05_value (a0 : T_l05_of) (p0 p1 p2 : Int) (K : Int → Int → Int → Int → Int → Int → Int → Int → Prop) : Prop :=
 (a0 p0 (fun yi6 yi7 => 
 (a0 p1 (fun yi8 yi9 => 
 (a0 p2 (fun yi10 yi11 => 
 (K (0 : Int) (1 : Int) yi6 yi7 yi8 yi9 yi10 yi11)))))))
def w_l05_value (p0 p1 p2 : Int) (K : Int → Int → Int → Int → Int → Int → Int → Int → Prop) : Prop := wv_l05_value w_l05_of p0 p1 p2 K
def pw_l05_value (w : T_l05_value) (as : List PV) (K : PV → Prop) : Prop :=
 match as with
 | [(.int .i64 p0), (.int .i64 p1), (.int .i64 p2)] => w p0 p1 p2 (fun r0 r1 r2 r3 r4 r5 r6 r7 => K (.agg [(.int .i64 r0), (.int .u8 r1), (.int .i64 r2), (.int .i64 r3), (.int .i64 r4), (.int .i64 r5), (.int .i64 r6), (.int .i64 r7)]))
 | _ => False
def wp_l05_value (as : List PV) (K : PV → Prop) : Prop := pw_l05_value w_l05_value as K
def lp_l05_value (_ : T_l05_of) : LP := fun _ _ _ _ =>
 False
def S0_l05_value (e : List (Nat × EffF)) (a0 : T_l05_of) : SE := ⟨(E e), lookS [(n_l05_of, pw_l05_of a0)], lookI [], lp_l05_value a0⟩
theorem se0_l05_value (e : List (Nat × EffF)) (he : EG e) : SEOk (S0_l05_value e w_l05_of) := seOk_of ⟨(ok_l05_of e he), trivial⟩ trivial he.ok
theorem eq_l05_value (e : List (Nat × EffF)) (a0 p0 p1 p2 K) : WP (S0_l05_value e a0) 6 t_l05_value [(.int .i64 p0), (.int .i64 p1), (.int .i64 p2)] K = wv_l05_value a0 p0 p1 p2 (fun r0 r1 r2 r3 r4 r5 r6 r7 => K (.agg [(.int .i64 r0), (.int .u8 r1), (.int .i64 r2), (.int .i64 r3), (.int .i64 r4), (.int .i64 r5), (.int .i64 r6), (.int .i64 r7)])) := by kernel_rfl
theorem ok_l05_value (e : List (Nat × EffF)) (he : EG e) : OkF (E e) wp_l05_value n_l05_value := by
 intro as K h
 unfold wp_l05_value pw_l05_value at h
 split at h
 · exact WP_ok (se0_l05_value e he) (LpOk_no (by kernel_rfl)) (by kernel_rfl) (by kernel_rfl) (fun _ => baseS_none (by kernel_rfl) _) (he.num _ (by kernel_rfl)) ((eq_l05_value ..).mpr h)
 · exact h.elim
abbrev T_l05_mark : Type := Int → Int → Int → (Int → Int → Int → Int → Int → Int → Int → Int → Prop) → Prop
def wv_l05_mark (a0 : T_l05_of) (p0 p1 p2 : Int) (K : Int → Int → Int → Int → Int → Int → Int → Int → Prop) : Prop :=
 (a0 p0 (fun yi6 yi7 => 
 (a0 p1 (fun yi8 yi9 => 
 (a0 p2 (fun yi10 yi11 => 
 (K (0 : Int) (2 : Int) yi6 yi7 yi8 yi9 yi10 yi11)))))))
def w_l05_mark (p0 p1 p2 : Int) (K : Int → Int → Int → Int → Int → Int → Int → Int → Prop) : Prop := wv_l05_mark w_l05_of p0 p1 p2 K
def pw_l05_mark (w : T_l05_mark) (as : List PV) (K : PV → Prop) : Prop :=
 match as with
 | [(.int .i64 p0), (.int .i64 p1), (.int .i64 p2)] => w p0 p1 p2 (fun r0 r1 r2 r3 r4 r5 r6 r7 => K (.agg [(.int .i64 r0), (.int .u8 r1), (.int .i64 r2), (.int .i64 r3), (.int .i64 r4), (.int .i64 r5), (.int .i64 r6), (.int .i64 r7)]))
 | _ => False
def wp_l05_mark (as : List PV) (K : PV → Prop) : Prop := pw_l05_mark w_l05_mark as K
def lp_l05_mark (_ : T_l05_of) : LP := fun _ _ _ _ =>
 False
def S0_l05_mark (e : List (Nat × EffF)) (a0 : T_l05_of) : SE := ⟨(E e), lookS [(n_l05_of, pw_l05_of a0)], lookI [], lp_l05_mark a0⟩
theorem se0_l05_mark (e : List (Nat × EffF)) (he : EG e) : SEOk (S0_l05_mark e w_l05_of) := seOk_of ⟨(ok_l05_of e he), trivial⟩ trivial he.ok
theorem eq_l05_mark (e : List (Nat × EffF)) (a0 p0 p1 p2 K) : WP (S0_l05_mark e a0) 6 t_l05_mark [(.int .i64 p0), (.int .i64 p1), (.int .i64 p2)] K = wv_l05_mark a0 p0 p1 p2 (fun r0 r1 r2 r3 r4 r5 r6 r7 => K (.agg [(.int .i64 r0), (.int .u8 r1), (.int .i64 r2), (.int .i64 r3), (.int .i64 r4), (.int .i64 r5), (.int .i64 r6), (.int .i64 r7)])) := by kernel_rfl
theorem ok_l05_mark (e : List (Nat × EffF)) (he : EG e) : OkF (E e) wp_l05_mark n_l05_mark := by
 intro as K h
 unfold wp_l05_mark pw_l05_mark at h
 split at h
 · exact WP_ok (se0_l05_mark e he) (LpOk_no (by kernel_rfl)) (by kernel_rfl) (by kernel_rfl) (fun _ => baseS_none (by kernel_rfl) _) (he.num _ (by kernel_rfl)) ((eq_l05_mark ..).mpr h)
 · exact h.elim
abbrev T_l05_alive : Type := (Bool → Prop) → Prop
def wv_l05_alive (a0 : T_l05_value) (a1 : T_l05_mark) (a2 : T_audit_Guess) (a3 : T_audit_First) (a4 : T_l05_of) (a5 : T_r05_Same) (K : Bool → Prop) : Prop :=
 (a0 (0 : Int) (1 : Int) (1 : Int) (fun yi19 yi20 yi21 yi22 yi23 yi24 yi25 yi26 => 
 (a1 (0 : Int) (3 : Int) (2 : Int) (fun yi27 yi28 yi29 yi30 yi31 yi32 yi33 yi34 => 
 (a2 (2 : Int) ([(.agg [(.int .i64 yi19), (.int .u8 yi20), (.int .i64 yi21), (.int .i64 yi22), (.int .i64 yi23), (.int .i64 yi24), (.int .i64 yi25), (.int .i64 yi26)]), (.agg [(.int .i64 yi27), (.int .u8 yi28), (.int .i64 yi29), (.int .i64 yi30), (.int .i64 yi31), (.int .i64 yi32), (.int .i64 yi33), (.int .i64 yi34)])] : List PV) (fun yl35 yl36 yi37 => 
 (a0 (0 : Int) (1 : Int) (1 : Int) (fun yi57 yi58 yi59 yi60 yi61 yi62 yi63 yi64 => 
 (a1 (0 : Int) (1 : Int) (2 : Int) (fun yi65 yi66 yi67 yi68 yi69 yi70 yi71 yi72 => 
 (a2 (2 : Int) ([(.agg [(.int .i64 yi57), (.int .u8 yi58), (.int .i64 yi59), (.int .i64 yi60), (.int .i64 yi61), (.int .i64 yi62), (.int .i64 yi63), (.int .i64 yi64)]), (.agg [(.int .i64 yi65), (.int .u8 yi66), (.int .i64 yi67), (.int .i64 yi68), (.int .i64 yi69), (.int .i64 yi70), (.int .i64 yi71), (.int .i64 yi72)])] : List PV) (fun _ _ yi75 => 
 (a0 (0 : Int) (1 : Int) (1 : Int) (fun yi94 yi95 yi96 yi97 yi98 yi99 yi100 yi101 => 
 (a1 (0 : Int) (1 : Int) (2 : Int) (fun yi102 yi103 yi104 yi105 yi106 yi107 yi108 yi109 => 
 (a3 (2 : Int) ([(.agg [(.int .i64 yi94), (.int .u8 yi95), (.int .i64 yi96), (.int .i64 yi97), (.int .i64 yi98), (.int .i64 yi99), (.int .i64 yi100), (.int .i64 yi101)]), (.agg [(.int .i64 yi102), (.int .u8 yi103), (.int .i64 yi104), (.int .i64 yi105), (.int .i64 yi106), (.int .i64 yi107), (.int .i64 yi108), (.int .i64 yi109)])] : List PV) (fun yi110 yi111 => 
 (a1 (0 : Int) (1 : Int) (2 : Int) (fun yi123 yi124 yi125 yi126 yi127 yi128 yi129 yi130 => 
 (a2 (2 : Int) ([(.agg [(.int .i64 yi123), (.int .u8 yi124), (.int .i64 yi125), (.int .i64 yi126), (.int .i64 yi127), (.int .i64 yi128), (.int .i64 yi129), (.int .i64 yi130)])] : List PV) (fun yl131 yl132 yi133 => 
 (jn (fun (yj157 : Bool → Prop) =>
 (cbr (yi37 == (0 : Int))
 (a4 (0 : Int) (fun yi158 yi159 => 
 (a4 (1 : Int) (fun yi160 yi161 => 
 (a4 (2 : Int) (fun yi162 yi163 => 
 (a4 (0 : Int) (fun yi164 yi165 => 
 (a4 (1 : Int) (fun yi166 yi167 => 
 (a4 (3 : Int) (fun yi168 yi169 => 
 (a5 yl35 yl36 ([(.agg [(.int .i64 yi158), (.int .i64 yi159)]), (.agg [(.int .i64 yi160), (.int .i64 yi161)]), (.agg [(.int .i64 yi162), (.int .i64 yi163)])] : List PV) ([(.agg [(.int .i64 yi164), (.int .i64 yi165)]), (.agg [(.int .i64 yi166), (.int .i64 yi167)]), (.agg [(.int .i64 yi168), (.int .i64 yi169)])] : List PV) (fun yb170 => 
 (cbr yb170
 (cbr (yi75 == (6 : Int))
 (cbr (yi111 == (0 : Int))
 (cbr (yi110 == (1 : Int))
 (cbr (yi133 == (0 : Int))
 (a4 (0 : Int) (fun yi171 yi172 => 
 (a4 (2 : Int) (fun yi173 yi174 => 
 (a4 (0 : Int) (fun yi175 yi176 => 
 (a4 (1 : Int) (fun yi177 yi178 => 
 (a5 yl131 yl132 ([(.agg [(.int .i64 yi171), (.int .i64 yi172)]), (.agg [(.int .i64 yi173), (.int .i64 yi174)])] : List PV) ([(.agg [(.int .i64 yi175), (.int .i64 yi176)]), (.agg [(.int .i64 yi177), (.int .i64 yi178)])] : List PV) (fun yb179 => 
 (yj157 yb179)))))))))))
 (yj157 false))
 (yj157 false))
 (yj157 false))
 (yj157 false))
 (yj157 false))))))))))))))))
 (yj157 false)))
 (fun yb156 => (K yb156)))))))))))))))))))))))))
def w_l05_alive (K : Bool → Prop) : Prop := wv_l05_alive w_l05_value w_l05_mark w_audit_Guess w_audit_First w_l05_of w_r05_Same  K
def pw_l05_alive (w : T_l05_alive) (as : List PV) (K : PV → Prop) : Prop :=
 match as with
 | [] => w  (fun r0 => K (.bool r0))
 | _ => False
def wp_l05_alive (as : List PV) (K : PV → Prop) : Prop := pw_l05_alive w_l05_alive as K
def lp_l05_alive (_ : T_l05_value) (_ : T_l05_mark) (_ : T_audit_Guess) (_ : T_audit_First) (_ : T_l05_of) (_ : T_r05_Same) : LP := fun _ _ _ _ =>
 False
def S0_l05_alive (a0 : T_l05_value) (a1 : T_l05_mark) (a2 : T_audit_Guess) (a3 : T_audit_First) (a4 : T_l05_of) (a5 : T_r05_Same) : SE := ⟨(E ef0), lookS [(n_l05_value, pw_l05_value a0), (n_l05_mark, pw_l05_mark a1), (n_audit_Guess, pw_audit_Guess a2), (n_audit_First, pw_audit_First a3), (n_l05_of, pw_l05_of a4), (n_r05_Same, pw_r05_Same a5)], lookI [], lp_l05_alive a0 a1 a2 a3 a4 a5⟩
theorem se0_l05_alive : SEOk (S0_l05_alive w_l05_value w_l05_mark w_audit_Guess w_audit_First w_l05_of w_r05_Same) := seOk_of ⟨(ok_l05_value ef0 effG0), (ok_l05_mark ef0 effG0), ok_audit_Guess, ok_audit_First, (ok_l05_of ef0 effG0), (ok_r05_Same ef0 effG0), trivial⟩ trivial effG0.ok
theorem eq_l05_alive (a0 a1 a2 a3 a4 a5 K) : WP (S0_l05_alive a0 a1 a2 a3 a4 a5) 6 t_l05_alive [] K = wv_l05_alive a0 a1 a2 a3 a4 a5  (fun r0 => K (.bool r0)) := by kernel_rfl
theorem ok_l05_alive : OkF (E ef0) wp_l05_alive n_l05_alive := by
 intro as K h
 unfold wp_l05_alive pw_l05_alive at h
 split at h
 · exact WP_ok (se0_l05_alive) (LpOk_no (by kernel_rfl)) (by kernel_rfl) (by kernel_rfl) (fun _ => baseS_none (by kernel_rfl) _) (effG0.num _ (by kernel_rfl)) ((eq_l05_alive ..).mpr h)
 · exact h.elim
abbrev T_l05_obeyed : Type := List PV → List PV → List PV → Int → (Bool → Prop) → Prop
def L_l05_obeyed_0_0 (a0 : T_r05_At) (a1 : T_r05_To) (a2 : T_r05_Told) (x10230700_0 : List PV → List PV → List PV → Int → Int → Bool → Prop) (x10230700_1 : Bool → Prop) : Nat → List PV → List PV → List PV → Int → Int → Prop
 | 0, _, _, _, _, _ => False
 | n10230700 + 1, l0, l1, l2, i3, i4 =>
 (cbr (decide (i4 < (((List.length l2) : Nat) : Int)))
 (jn (fun (yj22 : Bool → Prop) =>
 (asr (decide ((0 : Int) ≤ i4))
 (asr (decide (i4 < (((List.length l2) : Nat) : Int)))
 (lt (List.getD l2 (i4.toNat) .nils) (fun yr24 =>
 (asr (conf (.one (.i .i64)) yr24)
 (lt (IntKind.i64.wrap (i4 - (1 : Int))) (fun yi25 =>
 (asr (decide ((0 : Int) ≤ yi25))
 (asr (decide (yi25 < (((List.length l2) : Nat) : Int)))
 (lt (List.getD l2 (yi25.toNat) .nils) (fun yr26 =>
 (asr (conf (.one (.i .i64)) yr26)
 (cbr (decide ((intOfV yr24) < (intOfV yr26)))
 (yj22 true)
 (asr (decide ((0 : Int) ≤ i4))
 (asr (decide (i4 < (((List.length l2) : Nat) : Int)))
 (lt (List.getD l2 (i4.toNat) .nils) (fun yr27 =>
 (asr (conf (.one (.i .i64)) yr27)
 (yj22 (decide ((intOfV yr27) > (10000000000000000 : Int)))))))))))))))))))))))
 (fun yb21 => (cbr yb21
 (x10230700_1 false)
 (lt (IntKind.i64.wrap (i4 + (1 : Int))) (fun yi23 =>
 (L_l05_obeyed_0_0 a0 a1 a2 x10230700_0 x10230700_1 n10230700 l0 l1 l2 i3 yi23))))))
 (x10230700_0 l0 l1 l2 i3 i4 false))
def L_l05_obeyed_1_0 (a0 : T_r05_At) (a1 : T_r05_To) (a2 : T_r05_Told) (x10230701_0 : List PV → List PV → List PV → Int → Int → Bool → Prop) (x10230701_1 : Bool → Prop) : Nat → List PV → List PV → List PV → Int → Int → Prop
 | 0, _, _, _, _, _ => False
 | n10230701 + 1, l0, l1, l2, i3, i4 =>
 (cbr (decide (i4 < (((List.length l1) : Nat) : Int)))
 (asr (decide ((0 : Int) ≤ i4))
 (asr (decide (i4 < (((List.length l1) : Nat) : Int)))
 (lt (List.getD l1 (i4.toNat) .nils) (fun yr102 =>
 (asr (conf (.agg [.i .i64, .i .u8, .i .i64, .i .i64, .i .i64, .i .i64, .i .i64, .i .i64]) yr102)
 (a0 l0 (intOfV (cellAt yr102 2)) (intOfV (cellAt yr102 3)) (fun yi109 => 
 (a1 (intOfV (cellAt yr102 0)) (intOfV (cellAt yr102 1)) (intOfV (cellAt yr102 2)) (intOfV (cellAt yr102 3)) (intOfV (cellAt yr102 4)) (intOfV (cellAt yr102 5)) (intOfV (cellAt yr102 6)) (intOfV (cellAt yr102 7)) (fun yi110 yi111 => 
 (a0 l0 yi110 yi111 (fun yi112 => 
 (a2 (intOfV (cellAt yr102 0)) (intOfV (cellAt yr102 1)) (intOfV (cellAt yr102 2)) (intOfV (cellAt yr102 3)) (intOfV (cellAt yr102 4)) (intOfV (cellAt yr102 5)) (intOfV (cellAt yr102 6)) (intOfV (cellAt yr102 7)) (fun yi113 yi114 => 
 (jn (fun (yj139 : Bool → Prop) =>
 (cbr (decide (yi109 < (0 : Int)))
 (yj139 true)
 (cbr (decide (yi112 < (0 : Int)))
 (yj139 true)
 (asr (decide ((0 : Int) ≤ yi112))
 (asr (decide (yi112 < (((List.length l2) : Nat) : Int)))
 (lt (List.getD l2 (yi112.toNat) .nils) (fun yr155 =>
 (asr (conf (.one (.i .i64)) yr155)
 (asr (decide ((0 : Int) ≤ yi109))
 (asr (decide (yi109 < (((List.length l2) : Nat) : Int)))
 (lt (List.getD l2 (yi109.toNat) .nils) (fun yr156 =>
 (asr (conf (.one (.i .i64)) yr156)
 (lt (IntKind.i64.wrap ((intOfV yr155) - (intOfV yr156))) (fun yi157 =>
 (asr (!(decide (yi114 = (0 : Int))))
 (lt (IntKind.i64.wrap (Int.tdiv i3 yi114)) (fun yi158 =>
 (lt (IntKind.i64.wrap (yi113 * yi158)) (fun yi159 =>
 (lt (IntKind.i64.wrap ((((List.length l0) : Nat) : Int) + (1 : Int))) (fun yi160 =>
 (lt (IntKind.i64.wrap (yi159 * yi160)) (fun yi161 =>
 (yj139 (yi157 != yi161))))))))))))))))))))))))))
 (fun yb138 => (cbr yb138
 (x10230701_1 false)
 (jn (fun (yj147 : Bool → Prop) =>
 (cbr ((intOfV (cellAt yr102 1)) == (2 : Int))
 (cbr (yi113 == (0 : Int))
 (cbr (yi109 != yi112)
 (yj147 true)
 (cbr (decide (yi113 > (0 : Int)))
 (cbr (yi112 == (0 : Int))
 (yj147 true)
 (asr (decide ((0 : Int) ≤ yi112))
 (asr (decide (yi112 < (((List.length l2) : Nat) : Int)))
 (lt (List.getD l2 (yi112.toNat) .nils) (fun yr149 =>
 (asr (conf (.one (.i .i64)) yr149)
 (lt (IntKind.i64.wrap (yi112 - (1 : Int))) (fun yi150 =>
 (asr (decide ((0 : Int) ≤ yi150))
 (asr (decide (yi150 < (((List.length l2) : Nat) : Int)))
 (lt (List.getD l2 (yi150.toNat) .nils) (fun yr151 =>
 (asr (conf (.one (.i .i64)) yr151)
 (yj147 ((intOfV yr149) == (intOfV yr151))))))))))))))))
 (yj147 false)))
 (cbr (decide (yi113 > (0 : Int)))
 (cbr (yi112 == (0 : Int))
 (yj147 true)
 (asr (decide ((0 : Int) ≤ yi112))
 (asr (decide (yi112 < (((List.length l2) : Nat) : Int)))
 (lt (List.getD l2 (yi112.toNat) .nils) (fun yr152 =>
 (asr (conf (.one (.i .i64)) yr152)
 (lt (IntKind.i64.wrap (yi112 - (1 : Int))) (fun yi153 =>
 (asr (decide ((0 : Int) ≤ yi153))
 (asr (decide (yi153 < (((List.length l2) : Nat) : Int)))
 (lt (List.getD l2 (yi153.toNat) .nils) (fun yr154 =>
 (asr (conf (.one (.i .i64)) yr154)
 (yj147 ((intOfV yr152) == (intOfV yr154))))))))))))))))
 (yj147 false)))
 (yj147 false)))
 (fun yb146 => (cbr yb146
 (x10230701_1 false)
 (lt (IntKind.i64.wrap (i4 + (1 : Int))) (fun yi148 =>
 (L_l05_obeyed_1_0 a0 a1 a2 x10230701_0 x10230701_1 n10230701 l0 l1 l2 i3 yi148))))))))))))))))))))))
 (x10230701_0 l0 l1 l2 i3 i4 false))
def wv_l05_obeyed (a0 : T_r05_At) (a1 : T_r05_To) (a2 : T_r05_Told) (p0 p1 p2 : List PV) (p3 : Int) (K : Bool → Prop) : Prop :=
 (jn (fun (yj6 : Bool → Prop) =>
 (cbr ((((List.length p2) : Nat) : Int) != (((List.length p0) : Nat) : Int))
 (yj6 true)
 (cbr ((((List.length p2) : Nat) : Int) == (0 : Int))
 (yj6 true)
 (asr (decide ((0 : Int) < (((List.length p2) : Nat) : Int)))
 (lt (List.getD p2 0 .nils) (fun yr177 =>
 (asr (conf (.one (.i .i64)) yr177)
 (yj6 ((intOfV yr177) != (0 : Int))))))))))
 (fun yb5 => (cbr yb5
 (K false)
 (∃ n10230700 : Nat, L_l05_obeyed_0_0 a0 a1 a2
 (fun yl35 yl36 yl37 yi38 _ _ => (∃ n10230701 : Nat, L_l05_obeyed_1_0 a0 a1 a2
 (fun _ _ _ _ _ _ => (K true))
 (fun yb175 => (K yb175))
 n10230701 yl35 yl36 yl37 yi38 (0 : Int)))
 (fun yb176 => (K yb176))
 n10230700 p0 p1 p2 p3 (1 : Int)))))
def w_l05_obeyed (p0 p1 p2 : List PV) (p3 : Int) (K : Bool → Prop) : Prop := wv_l05_obeyed w_r05_At w_r05_To w_r05_Told p0 p1 p2 p3 K
def pw_l05_obeyed (w : T_l05_obeyed) (as : List PV) (K : PV → Prop) : Prop :=
 match as with
 | [(.data p0), (.data p1), (.data p2), (.int .i64 p3)] => w p0 p1 p2 p3 (fun r0 => K (.bool r0))
 | _ => False
def wp_l05_obeyed (as : List PV) (K : PV → Prop) : Prop := pw_l05_obeyed w_l05_obeyed as K
def D_l05_obeyed_0 (F : Frm) (H : Hp) (A0 : List PV → List PV → List PV → Int → Int → Prop) : Prop :=
 match F, H with
 | [(0, .v (.data l0)), (1, .v (.data l1)), (2, .v (.data l2)), (3, .v (.int .i64 i3)), (9, .v (.int .i64 i4))], [] => (A0 l0 l1 l2 i3 i4)
 | _, _ => False
def D_l05_obeyed_1 (F : Frm) (H : Hp) (A0 : List PV → List PV → List PV → Int → Int → Prop) : Prop :=
 match F, H with
 | [(0, .v (.data l0)), (1, .v (.data l1)), (2, .v (.data l2)), (3, .v (.int .i64 i3)), (10, .v (.int .i64 i4))], [] => (A0 l0 l1 l2 i3 i4)
 | _, _ => False
def X_l05_obeyed_0_0 (Q : Ex → Frm → Hp → Prop) : List PV → List PV → List PV → Int → Int → Bool → Prop := (fun l0 l1 l2 i3 i4 b5 => Q (.exit 0) [(0, .v (.data l0)), (1, .v (.data l1)), (2, .v (.data l2)), (3, .v (.int .i64 i3)), (9, .v (.int .i64 i4)), (34, .v (.bool b5))] [])
def X_l05_obeyed_0_1 (Q : Ex → Frm → Hp → Prop) : Bool → Prop := (fun b0 => Q .ret [(8, .v (.bool b0))] [])
def X_l05_obeyed_1_0 (Q : Ex → Frm → Hp → Prop) : List PV → List PV → List PV → Int → Int → Bool → Prop := (fun l0 l1 l2 i3 i4 b5 => Q (.exit 2) [(0, .v (.data l0)), (1, .v (.data l1)), (2, .v (.data l2)), (3, .v (.int .i64 i3)), (10, .v (.int .i64 i4)), (57, .v (.bool b5))] [])
def X_l05_obeyed_1_1 (Q : Ex → Frm → Hp → Prop) : Bool → Prop := (fun b0 => Q .ret [(8, .v (.bool b0))] [])
def R_l05_obeyed_0 (a0 : T_r05_At) (a1 : T_r05_To) (a2 : T_r05_Told) (Q : Ex → Frm → Hp → Prop) (n : Nat) (F : Frm) (H : Hp) : Prop := D_l05_obeyed_0 F H (fun l0 l1 l2 i3 i4 => L_l05_obeyed_0_0 a0 a1 a2 (X_l05_obeyed_0_0 Q) (X_l05_obeyed_0_1 Q) n l0 l1 l2 i3 i4)
def R_l05_obeyed_1 (a0 : T_r05_At) (a1 : T_r05_To) (a2 : T_r05_Told) (Q : Ex → Frm → Hp → Prop) (n : Nat) (F : Frm) (H : Hp) : Prop := D_l05_obeyed_1 F H (fun l0 l1 l2 i3 i4 => L_l05_obeyed_1_0 a0 a1 a2 (X_l05_obeyed_1_0 Q) (X_l05_obeyed_1_1 Q) n l0 l1 l2 i3 i4)
def lp_l05_obeyed (a0 : T_r05_At) (a1 : T_r05_To) (a2 : T_r05_Told) : LP := fun id F H Q =>
 bif Nat.beq id 10230700 then D_l05_obeyed_0 F H (fun l0 l1 l2 i3 i4 => ∃ n : Nat, L_l05_obeyed_0_0 a0 a1 a2 (X_l05_obeyed_0_0 Q) (X_l05_obeyed_0_1 Q) n l0 l1 l2 i3 i4) else
 bif Nat.beq id 10230701 then D_l05_obeyed_1 F H (fun l0 l1 l2 i3 i4 => ∃ n : Nat, L_l05_obeyed_1_0 a0 a1 a2 (X_l05_obeyed_1_0 Q) (X_l05_obeyed_1_1 Q) n l0 l1 l2 i3 i4) else
 False
def S0_l05_obeyed (e : List (Nat × EffF)) (a0 : T_r05_At) (a1 : T_r05_To) (a2 : T_r05_Told) : SE := ⟨(E e), lookS [(n_r05_At, pw_r05_At a0), (n_r05_To, pw_r05_To a1), (n_r05_Told, pw_r05_Told a2)], lookI [], lp_l05_obeyed a0 a1 a2⟩
theorem se0_l05_obeyed (e : List (Nat × EffF)) (he : EG e) : SEOk (S0_l05_obeyed e w_r05_At w_r05_To w_r05_Told) := seOk_of ⟨(ok_r05_At e he), (ok_r05_To e he), (ok_r05_Told e he), trivial⟩ trivial he.ok
theorem body_l05_obeyed_0_0 (e : List (Nat × EffF)) (a0 a1 a2 Q n l0 l1 l2 i3 i4) : WC (E e) (callW (S0_l05_obeyed e a0 a1 a2) 5) (lp_l05_obeyed a0 a1 a2) b_10230700 [(0, .v (.data l0)), (1, .v (.data l1)), (2, .v (.data l2)), (3, .v (.int .i64 i3)), (9, .v (.int .i64 i4))] [] (fun x F' H' => match x with | .norm => R_l05_obeyed_0 a0 a1 a2 Q n F' H' | .exit i => Q (.exit i) F' H' | .ret => Q .ret F' H') = L_l05_obeyed_0_0 a0 a1 a2 (X_l05_obeyed_0_0 Q) (X_l05_obeyed_0_1 Q) (n + 1) l0 l1 l2 i3 i4 := by kernel_rfl
theorem lpb_l05_obeyed_0 (e : List (Nat × EffF)) (_ : EG e) : LpOk (E e) (lp_l05_obeyed w_r05_At w_r05_To w_r05_Told) b_10230700 := (LpOk_no (by kernel_rfl))
theorem loop_l05_obeyed_0 (e : List (Nat × EffF)) (he : EG e) : ∀ F H Q, lp_l05_obeyed w_r05_At w_r05_To w_r05_Told 10230700 F H Q → LoopT (E e) b_10230700 F H Q := by
 intro F H Q h
 have go := LoopT.intro (callW_ok (se0_l05_obeyed e he) 5) (lpb_l05_obeyed_0 e he) (R_l05_obeyed_0 w_r05_At w_r05_To w_r05_Told Q) (by
   intro F H h
   unfold R_l05_obeyed_0 D_l05_obeyed_0 at h
   split at h
   · exact h
   · exact h) (by
   intro n F H h
   unfold R_l05_obeyed_0 D_l05_obeyed_0 at h
   split at h
   · exact (body_l05_obeyed_0_0 ..).mpr h
   · exact h.elim)
 have h : D_l05_obeyed_0 F H _ := h
 unfold D_l05_obeyed_0 at h
 split at h
 · obtain ⟨n, h⟩ := h; exact go n _ _ h
 · exact h.elim
theorem body_l05_obeyed_1_0 (e : List (Nat × EffF)) (a0 a1 a2 Q n l0 l1 l2 i3 i4) : WC (E e) (callW (S0_l05_obeyed e a0 a1 a2) 5) (lp_l05_obeyed a0 a1 a2) b_10230701 [(0, .v (.data l0)), (1, .v (.data l1)), (2, .v (.data l2)), (3, .v (.int .i64 i3)), (10, .v (.int .i64 i4))] [] (fun x F' H' => match x with | .norm => R_l05_obeyed_1 a0 a1 a2 Q n F' H' | .exit i => Q (.exit i) F' H' | .ret => Q .ret F' H') = L_l05_obeyed_1_0 a0 a1 a2 (X_l05_obeyed_1_0 Q) (X_l05_obeyed_1_1 Q) (n + 1) l0 l1 l2 i3 i4 := by kernel_rfl
theorem lpb_l05_obeyed_1 (e : List (Nat × EffF)) (_ : EG e) : LpOk (E e) (lp_l05_obeyed w_r05_At w_r05_To w_r05_Told) b_10230701 := (LpOk_no (by kernel_rfl))
theorem loop_l05_obeyed_1 (e : List (Nat × EffF)) (he : EG e) : ∀ F H Q, lp_l05_obeyed w_r05_At w_r05_To w_r05_Told 10230701 F H Q → LoopT (E e) b_10230701 F H Q := by
 intro F H Q h
 have go := LoopT.intro (callW_ok (se0_l05_obeyed e he) 5) (lpb_l05_obeyed_1 e he) (R_l05_obeyed_1 w_r05_At w_r05_To w_r05_Told Q) (by
   intro F H h
   unfold R_l05_obeyed_1 D_l05_obeyed_1 at h
   split at h
   · exact h
   · exact h) (by
   intro n F H h
   unfold R_l05_obeyed_1 D_l05_obeyed_1 at h
   split at h
   · exact (body_l05_obeyed_1_0 ..).mpr h
   · exact h.elim)
 have h : D_l05_obeyed_1 F H _ := h
 unfold D_l05_obeyed_1 at h
 split at h
 · obtain ⟨n, h⟩ := h; exact go n _ _ h
 · exact h.elim
theorem eq_l05_obeyed (e : List (Nat × EffF)) (a0 a1 a2 p0 p1 p2 p3 K) : WP (S0_l05_obeyed e a0 a1 a2) 6 t_l05_obeyed [(.data p0), (.data p1), (.data p2), (.int .i64 p3)] K = wv_l05_obeyed a0 a1 a2 p0 p1 p2 p3 (fun r0 => K (.bool r0)) := by kernel_rfl
theorem ok_l05_obeyed (e : List (Nat × EffF)) (he : EG e) : OkF (E e) wp_l05_obeyed n_l05_obeyed := by
 intro as K h
 unfold wp_l05_obeyed pw_l05_obeyed at h
 split at h
 · exact WP_ok (se0_l05_obeyed e he) (LpOk_by (l := [(10230700, b_10230700), (10230701, b_10230701)]) ⟨loop_l05_obeyed_0 e he, loop_l05_obeyed_1 e he, trivial⟩ (by kernel_rfl)) (by kernel_rfl) (by kernel_rfl) (fun _ => baseS_none (by kernel_rfl) _) (he.num _ (by kernel_rfl)) ((eq_l05_obeyed ..).mpr h)
 · exact h.elim
abbrev T_l05_AuditLeast : Type := Int → List PV → List PV → (Bool → Prop) → Prop
def L_l05_AuditLeast_0_0 (a0 : T_l05_valid) (a1 : T_l05_alive) (a2 : T_audit_Points) (a3 : T_r05_Scale) (a4 : T_l05_obeyed) (a5 : T_audit_Guess) (a6 : T_r01_Make) (a7 : T_r01_Check) (a8 : T_r01_Less) (x0 : List PV → List PV → Int → List PV → List PV → Int → Bool → Prop) (x1 : Bool → Prop) : Nat → List PV → List PV → Int → List PV → List PV → Int → Prop
 | 0, _, _, _, _, _, _ => False
 | n + 1, l0, l1, i2, l3, l4, i5 =>
 (cbr (decide (i5 < (((List.length l1) : Nat) : Int)))
 (asr (decide ((0 : Int) ≤ i5))
 (asr (decide (i5 < (((List.length l0) : Nat) : Int)))
 (lt (List.getD l0 (i5.toNat) .nils) (fun yr72 =>
 (asr (conf (.one (.i .i64)) yr72)
 (lt (IntKind.i64.wrap ((((List.length l1) : Nat) : Int) + (1 : Int))) (fun yi73 =>
 (lt (IntKind.i64.wrap (i2 * yi73)) (fun yi74 =>
 (a6 (intOfV yr72) yi74 (fun yi75 yi76 yi77 => 
 (jn (fun (yj85 : Bool → Prop) =>
 (cbr (yi77 == (0 : Int))
 (asr (decide ((0 : Int) ≤ i5))
 (asr (decide (i5 < (((List.length l4) : Nat) : Int)))
 (lt (List.getD l4 (i5.toNat) .nils) (fun yr87 =>
 (asr (conf (.agg [.i .i64, .i .i64]) yr87)
 (a7 (intOfV (cellAt yr87 0)) (intOfV (cellAt yr87 1)) (fun yi88 => 
 (cbr (yi88 != (0 : Int))
 (yj85 true)
 (cbr (yi77 == (0 : Int))
 (asr (decide ((0 : Int) ≤ i5))
 (asr (decide (i5 < (((List.length l4) : Nat) : Int)))
 (lt (List.getD l4 (i5.toNat) .nils) (fun yr89 =>
 (asr (conf (.agg [.i .i64, .i .i64]) yr89)
 (a8 yi75 yi76 (intOfV (cellAt yr89 0)) (intOfV (cellAt yr89 1)) (fun yb90 => 
 (yj85 yb90))))))))
 (yj85 false))))))))))
 (cbr (yi77 == (0 : Int))
 (asr (decide ((0 : Int) ≤ i5))
 (asr (decide (i5 < (((List.length l4) : Nat) : Int)))
 (lt (List.getD l4 (i5.toNat) .nils) (fun yr91 =>
 (asr (conf (.agg [.i .i64, .i .i64]) yr91)
 (a8 yi75 yi76 (intOfV (cellAt yr91 0)) (intOfV (cellAt yr91 1)) (fun yb92 => 
 (yj85 yb92))))))))
 (yj85 false))))
 (fun yb84 => (cbr yb84
 (x1 false)
 (lt (IntKind.i64.wrap (i5 + (1 : Int))) (fun yi86 =>
 (L_l05_AuditLeast_0_0 a0 a1 a2 a3 a4 a5 a6 a7 a8 x0 x1 n l0 l1 i2 l3 l4 yi86)))))))))))))))))
 (x0 l0 l1 i2 l3 l4 i5 false))
def wv_l05_AuditLeast (a0 : T_l05_valid) (a1 : T_l05_alive) (a2 : T_audit_Points) (a3 : T_r05_Scale) (a4 : T_l05_obeyed) (a5 : T_audit_Guess) (a6 : T_r01_Make) (a7 : T_r01_Check) (a8 : T_r01_Less) (p0 : Int) (p1 p2 : List PV) (K : Bool → Prop) : Prop :=
 (jn (fun (yj8 : Bool → Prop) =>
 (a0 p0 p1 (fun yb112 => 
 (cbr (!yb112)
 (yj8 true)
 (yj8 (decide ((((List.length p2) : Nat) : Int) > (60 : Int))))))))
 (fun yb7 => (cbr yb7
 (a1  (fun yb10 => 
 (K yb10)))
 (a2 p0 p1 (fun yl13 yi14 => 
 (a3 p1 (fun yi17 yi18 => 
 (cbr (yi14 != (0 : Int))
 (K false)
 (jn (fun (yj27 : Bool → Prop) =>
 (cbr (yi18 != (0 : Int))
 (yj27 true)
 (a4 yl13 p1 p2 yi17 (fun yb111 => 
 (yj27 (!yb111))))))
 (fun yb26 => (cbr yb26
 (a1  (fun yb29 => 
 (K yb29)))
 (a5 p0 p1 (fun yl33 yl34 yi35 => 
 (jn (fun (yj39 : Bool → Prop) =>
 (cbr (yi35 != (0 : Int))
 (yj39 true)
 (yj39 ((((List.length yl34) : Nat) : Int) != (((List.length yl13) : Nat) : Int)))))
 (fun yb38 => (cbr yb38
 (K false)
 (∃ n : Nat, L_l05_AuditLeast_0_0 a0 a1 a2 a3 a4 a5 a6 a7 a8
 (fun _ _ _ _ _ _ _ => (a1  (fun yb109 => 
 (K yb109))))
 (fun yb110 => (K yb110))
 n p2 yl13 yi17 yl33 yl34 (0 : Int))))))))))))))))))
def w_l05_AuditLeast (p0 : Int) (p1 p2 : List PV) (K : Bool → Prop) : Prop := wv_l05_AuditLeast w_l05_valid w_l05_alive w_audit_Points w_r05_Scale w_l05_obeyed w_audit_Guess w_r01_Make w_r01_Check w_r01_Less p0 p1 p2 K
def pw_l05_AuditLeast (w : T_l05_AuditLeast) (as : List PV) (K : PV → Prop) : Prop :=
 match as with
 | [(.int .i64 p0), (.data p1), (.data p2)] => w p0 p1 p2 (fun r0 => K (.bool r0))
 | _ => False
def wp_l05_AuditLeast (as : List PV) (K : PV → Prop) : Prop := pw_l05_AuditLeast w_l05_AuditLeast as K
def D_l05_AuditLeast_0 (F : Frm) (H : Hp) (A0 : List PV → List PV → Int → List PV → List PV → Int → Prop) : Prop :=
 match F, H with
 | [(2, .v (.data l0)), (7, .v (.data l1)), (9, .v (.int .i64 i2)), (11, .box (.agg [(.data l3), (.data l4)])), (13, .v (.int .i64 i5))], [] => (A0 l0 l1 i2 l3 l4 i5)
 | _, _ => False
def X_l05_AuditLeast_0_0 (Q : Ex → Frm → Hp → Prop) : List PV → List PV → Int → List PV → List PV → Int → Bool → Prop := (fun l0 l1 i2 l3 l4 i5 b6 => Q (.exit 0) [(2, .v (.data l0)), (7, .v (.data l1)), (9, .v (.int .i64 i2)), (11, .box (.agg [(.data l3), (.data l4)])), (13, .v (.int .i64 i5)), (69, .v (.bool b6))] [])
def X_l05_AuditLeast_0_1 (Q : Ex → Frm → Hp → Prop) : Bool → Prop := (fun b0 => Q .ret [(6, .v (.bool b0))] [])
def R_l05_AuditLeast_0 (a0 : T_l05_valid) (a1 : T_l05_alive) (a2 : T_audit_Points) (a3 : T_r05_Scale) (a4 : T_l05_obeyed) (a5 : T_audit_Guess) (a6 : T_r01_Make) (a7 : T_r01_Check) (a8 : T_r01_Less) (Q : Ex → Frm → Hp → Prop) (n : Nat) (F : Frm) (H : Hp) : Prop := D_l05_AuditLeast_0 F H (fun l0 l1 i2 l3 l4 i5 => L_l05_AuditLeast_0_0 a0 a1 a2 a3 a4 a5 a6 a7 a8 (X_l05_AuditLeast_0_0 Q) (X_l05_AuditLeast_0_1 Q) n l0 l1 i2 l3 l4 i5)
def lp_l05_AuditLeast (a0 : T_l05_valid) (a1 : T_l05_alive) (a2 : T_audit_Points) (a3 : T_r05_Scale) (a4 : T_l05_obeyed) (a5 : T_audit_Guess) (a6 : T_r01_Make) (a7 : T_r01_Check) (a8 : T_r01_Less) : LP := fun id F H Q =>
 bif Nat.beq id 54984600 then D_l05_AuditLeast_0 F H (fun l0 l1 i2 l3 l4 i5 => ∃ n : Nat, L_l05_AuditLeast_0_0 a0 a1 a2 a3 a4 a5 a6 a7 a8 (X_l05_AuditLeast_0_0 Q) (X_l05_AuditLeast_0_1 Q) n l0 l1 i2 l3 l4 i5) else
 False
def S0_l05_AuditLeast (a0 : T_l05_valid) (a1 : T_l05_alive) (a2 : T_audit_Points) (a3 : T_r05_Scale) (a4 : T_l05_obeyed) (a5 : T_audit_Guess) (a6 : T_r01_Make) (a7 : T_r01_Check) (a8 : T_r01_Less) : SE := ⟨(E ef0), lookS [(n_l05_valid, pw_l05_valid a0), (n_l05_alive, pw_l05_alive a1), (n_audit_Points, pw_audit_Points a2), (n_r05_Scale, pw_r05_Scale a3), (n_l05_obeyed, pw_l05_obeyed a4), (n_audit_Guess, pw_audit_Guess a5), (n_r01_Make, pw_r01_Make a6), (n_r01_Check, pw_r01_Check a7), (n_r01_Less, pw_r01_Less a8)], lookI [], lp_l05_AuditLeast a0 a1 a2 a3 a4 a5 a6 a7 a8⟩
theorem se0_l05_AuditLeast : SEOk (S0_l05_AuditLeast w_l05_valid w_l05_alive w_audit_Points w_r05_Scale w_l05_obeyed w_audit_Guess w_r01_Make w_r01_Check w_r01_Less) := seOk_of ⟨(ok_l05_valid ef0 effG0), ok_l05_alive, ok_audit_Points, (ok_r05_Scale ef0 effG0), (ok_l05_obeyed ef0 effG0), ok_audit_Guess, (ok_r01_Make ef0 effG0), (ok_r01_Check ef0 effG0), (ok_r01_Less ef0 effG0), trivial⟩ trivial effG0.ok
theorem body_l05_AuditLeast_0_0 (a0 a1 a2 a3 a4 a5 a6 a7 a8 Q n l0 l1 i2 l3 l4 i5) : WC (E ef0) (callW (S0_l05_AuditLeast a0 a1 a2 a3 a4 a5 a6 a7 a8) 5) (lp_l05_AuditLeast a0 a1 a2 a3 a4 a5 a6 a7 a8) b_54984600 [(2, .v (.data l0)), (7, .v (.data l1)), (9, .v (.int .i64 i2)), (11, .box (.agg [(.data l3), (.data l4)])), (13, .v (.int .i64 i5))] [] (fun x F' H' => match x with | .norm => R_l05_AuditLeast_0 a0 a1 a2 a3 a4 a5 a6 a7 a8 Q n F' H' | .exit i => Q (.exit i) F' H' | .ret => Q .ret F' H') = L_l05_AuditLeast_0_0 a0 a1 a2 a3 a4 a5 a6 a7 a8 (X_l05_AuditLeast_0_0 Q) (X_l05_AuditLeast_0_1 Q) (n + 1) l0 l1 i2 l3 l4 i5 := by kernel_rfl
theorem lpb_l05_AuditLeast_0 : LpOk (E ef0) (lp_l05_AuditLeast w_l05_valid w_l05_alive w_audit_Points w_r05_Scale w_l05_obeyed w_audit_Guess w_r01_Make w_r01_Check w_r01_Less) b_54984600 := (LpOk_no (by kernel_rfl))
theorem loop_l05_AuditLeast_0 : ∀ F H Q, lp_l05_AuditLeast w_l05_valid w_l05_alive w_audit_Points w_r05_Scale w_l05_obeyed w_audit_Guess w_r01_Make w_r01_Check w_r01_Less 54984600 F H Q → LoopT (E ef0) b_54984600 F H Q := by
 intro F H Q h
 have go := LoopT.intro (callW_ok (se0_l05_AuditLeast) 5) (lpb_l05_AuditLeast_0) (R_l05_AuditLeast_0 w_l05_valid w_l05_alive w_audit_Points w_r05_Scale w_l05_obeyed w_audit_Guess w_r01_Make w_r01_Check w_r01_Less Q) (by
   intro F H h
   unfold R_l05_AuditLeast_0 D_l05_AuditLeast_0 at h
   split at h
   · exact h
   · exact h) (by
   intro n F H h
   unfold R_l05_AuditLeast_0 D_l05_AuditLeast_0 at h
   split at h
   · exact (body_l05_AuditLeast_0_0 ..).mpr h
   · exact h.elim)
 have h : D_l05_AuditLeast_0 F H _ := h
 unfold D_l05_AuditLeast_0 at h
 split at h
 · obtain ⟨n, h⟩ := h; exact go n _ _ h
 · exact h.elim
theorem eq_l05_AuditLeast (a0 a1 a2 a3 a4 a5 a6 a7 a8 p0 p1 p2 K) : WP (S0_l05_AuditLeast a0 a1 a2 a3 a4 a5 a6 a7 a8) 6 t_l05_AuditLeast [(.int .i64 p0), (.data p1), (.data p2)] K = wv_l05_AuditLeast a0 a1 a2 a3 a4 a5 a6 a7 a8 p0 p1 p2 (fun r0 => K (.bool r0)) := by kernel_rfl
theorem ok_l05_AuditLeast : OkF (E ef0) wp_l05_AuditLeast n_l05_AuditLeast := by
 intro as K h
 unfold wp_l05_AuditLeast pw_l05_AuditLeast at h
 split at h
 · exact WP_ok (se0_l05_AuditLeast) (LpOk_by (l := [(54984600, b_54984600)]) ⟨loop_l05_AuditLeast_0, trivial⟩ (by kernel_rfl)) (by kernel_rfl) (by kernel_rfl) (fun _ => baseS_none (by kernel_rfl) _) (effG0.num _ (by kernel_rfl)) ((eq_l05_AuditLeast ..).mpr h)
 · exact h.elim
end Go.Pf.Vc
namespace Go.Pf.Vc
open Go Go.Pf
set_option linter.unusedVariables false
theorem det_l05_obeyed (p0 : List PV) (p1 : List PV) (p2 : List PV) (p3 : Int) (r0 : Bool) (h : ∀ K : Bool → Prop, K r0 → w_l05_obeyed p0 p1 p2 p3 K) (K : Bool → Prop) : w_l05_obeyed p0 p1 p2 p3 K = K r0 :=
 propext ⟨fun k => detC (ok_l05_obeyed [] effG_nil) (as := [(.data p0), (.data p1), (.data p2), (.int .i64 p3)]) (x := (.bool r0)) (fun K' k' => h (fun r0 => K' (.bool r0)) k') (K := fun x => match x with | (.bool r0) => K r0 | _ => False) k, h K⟩
end Go.Pf.Vc
namespace Go.Pf.Vc
open Go Go.Pf
def I64 (n : Int) : Prop := -9223372036854775808 ≤ n ∧ n ≤ 9223372036854775807
def U64 (n : Int) : Prop := 0 ≤ n ∧ n ≤ 18446744073709551615
theorem wu64' (n : Int) : IntKind.u64.wrap n = n % 18446744073709551616 := by
 simp only [IntKind.wrap, IntKind.signed, IntKind.bits, Bool.false_and, Bool.false_eq_true, if_false]
 rfl
theorem wi64' (n : Int) : IntKind.i64.wrap n = if n % 18446744073709551616 ≥ 9223372036854775808 then n % 18446744073709551616 - 18446744073709551616 else n % 18446744073709551616 := by
 have e1 : (2 : Int) ^ 64 = 18446744073709551616 := rfl
 have e2 : (2 : Int) ^ (64 - 1) = 9223372036854775808 := rfl
 simp only [IntKind.wrap, IntKind.signed, IntKind.bits, Bool.true_and, e1, e2]
 by_cases h : n % 18446744073709551616 ≥ 9223372036854775808 <;> simp [h]
theorem wu64 {n : Int} (h : U64 n) : IntKind.u64.wrap n = n := by
 unfold U64 at h
 rw [wu64']
 omega
theorem wi64 {n : Int} (h : I64 n) : IntKind.i64.wrap n = n := by
 unfold I64 at h
 rw [wi64']
 split <;> omega
theorem cbr_true {x y : Prop} : cbr true x y = x := rfl
theorem cbr_false {x y : Prop} : cbr false x y = y := rfl
theorem asr_true {x : Prop} : asr true x = x := rfl
theorem size_eq {p : Int} (h : I64 p) (K : Int → Prop) : w_ratio_size p K = K (p.natAbs : Int) := by
 unfold I64 at h
 unfold w_ratio_size wv_ratio_size
 by_cases hp : p < 0
 · have e : IntKind.u64.wrap ((0 : Int) - IntKind.u64.wrap p) = (p.natAbs : Int) := by
     rw [wu64', wu64']
     omega
   rw [decide_eq_true hp, cbr_true, e]
 · rw [decide_eq_false hp, cbr_false, wu64 ⟨by omega, by omega⟩]
   congr 1
   omega
theorem gcd_loop (x : Int → Int → Bool → Prop) : ∀ (n a b : Nat), b < n → L_ratio_gcd_0_0 x n (a : Int) (b : Int) = x ((Nat.gcd a b : Nat) : Int) 0 false
 | 0, a, b, h => by omega
 | n + 1, a, b, h => by
   unfold L_ratio_gcd_0_0
   by_cases hb : b = 0
   · subst hb
     simp [cbr]
   · have h1 : (b : Int) > 0 := by omega
     have h2 : ¬ ((b : Int) = 0) := by omega
     rw [decide_eq_true h1, cbr_true, decide_eq_false h2, Bool.not_false, asr_true]
     have e : Int.tmod (a : Int) (b : Int) = ((a % b : Nat) : Int) := by rw [Int.tmod_eq_emod_of_nonneg (by omega)]; omega
     rw [e, gcd_loop x n b (a % b) (by have := Nat.mod_lt a (show b > 0 by omega); omega)]
     rw [Nat.gcd_comm a b, Nat.gcd_rec b a, Nat.gcd_comm]
theorem gcd_of (a b : Nat) (K : Int → Prop) (h : K ((Nat.gcd a b : Nat) : Int)) : w_ratio_gcd (a : Int) (b : Int) K := by
 unfold w_ratio_gcd wv_ratio_gcd
 exact ⟨b + 1, by rw [gcd_loop _ (b + 1) a b (by omega)]; exact h⟩
def RV (n d : Int) : Prop := 1 ≤ d ∧ d ≤ 1000000000000000000 ∧ -1000000000000000000 ≤ n ∧ n ≤ 1000000000000000000 ∧ Nat.gcd n.natAbs d.natAbs = 1
instance (n d : Int) : Decidable (RV n d) := by unfold RV; infer_instance
def chk (n d : Int) : Int := if RV n d then 0 else 8
theorem Check_of {n d : Int} (hn : I64 n) (hd : I64 d) {K : Int → Prop} (h : K (chk n d)) : w_ratio_Check n d K := by
 unfold w_ratio_Check wv_ratio_Check
 by_cases h1 : d < 1
 · have e : chk n d = 8 := if_neg fun h => by have := h.1; omega
   rw [decide_eq_true h1, cbr_true, ← e]; exact h
 · have hd' := hd; have hn' := hn
   unfold I64 at hd' hn'
   have ed : IntKind.u64.wrap d = ((d.natAbs : Nat) : Int) := by rw [wu64 ⟨by omega, by omega⟩]; omega
   rw [decide_eq_false h1, cbr_false, size_eq hn, ed]
   by_cases h2 : ((if ((d.natAbs : Nat) : Int) > ((n.natAbs : Nat) : Int) then ((d.natAbs : Nat) : Int) else ((n.natAbs : Nat) : Int)) > 1000000000000000000)
   · have e : chk n d = 8 := if_neg fun h => by
       obtain ⟨a1, a2, a3, a4, _⟩ := h
       revert h2; split <;> omega
     rw [decide_eq_true h2, cbr_true, ← e]; exact h
   · rw [decide_eq_false h2, cbr_false, size_eq hn]
     refine gcd_of _ _ _ ?_
     have h3 : 0 < Nat.gcd n.natAbs d.natAbs := Nat.gcd_pos_of_pos_right _ (by omega)
     have h4 : d ≤ 1000000000000000000 ∧ -1000000000000000000 ≤ n ∧ n ≤ 1000000000000000000 := by
       revert h2; split <;> omega
     by_cases h5 : ((Nat.gcd n.natAbs d.natAbs : Nat) : Int) > 1
     · have e : chk n d = 8 := if_neg fun h => by have := h.2.2.2.2; omega
       rw [decide_eq_true h5, cbr_true, ← e]; exact h
     · have e : chk n d = 0 := if_pos ⟨by omega, h4.1, h4.2.1, h4.2.2, by omega⟩
       rw [decide_eq_false h5, cbr_false, ← e]; exact h
end Go.Pf.Vc
namespace Go.Pf.Vc
open Go Go.Pf
theorem mask32 {p : Int} (h : U64 p) : IntKind.u64.wrap (BitVec.ofInt IntKind.u64.bits p &&& BitVec.ofInt IntKind.u64.bits (4294967295 : Int)).toNat = p % 4294967296 := by
 unfold U64 at h
 have e1 : (BitVec.ofInt 64 p).toNat = p.toNat := by
   rw [BitVec.toNat_ofInt]; omega
 have e2 : (BitVec.ofInt 64 (4294967295 : Int)).toNat = 4294967295 := rfl
 have e3 : (BitVec.ofInt IntKind.u64.bits p &&& BitVec.ofInt IntKind.u64.bits (4294967295 : Int)).toNat = p.toNat % 4294967296 := by
   show (BitVec.ofInt 64 p &&& BitVec.ofInt 64 (4294967295 : Int)).toNat = _
   rw [BitVec.toNat_and, e1, e2]
   exact Nat.and_two_pow_sub_one_eq_mod p.toNat 32
 rw [e3, wu64']
 omega
theorem fdiv32 (p : Int) : Int.fdiv p 4294967296 = p / 4294967296 := by
 rw [Int.fdiv_eq_ediv_of_nonneg _ (by omega)]
theorem Mul64_eq {a b : Int} (ha : U64 a) (hb : U64 b) (K : Int → Int → Prop) : w_m_Mul64 a b K = K (a * b / 18446744073709551616) (a * b % 18446744073709551616) := by
 unfold w_m_Mul64 wv_m_Mul64
 simp only [fdiv32]
 rw [mask32 ha, mask32 hb]
 unfold U64 at ha hb
 have ha' := ha; have hb' := hb
 obtain ⟨x1, hx1⟩ : ∃ x, x = a / 4294967296 := ⟨_, rfl⟩
 obtain ⟨x0, hx0⟩ : ∃ x, x = a % 4294967296 := ⟨_, rfl⟩
 obtain ⟨y1, hy1⟩ : ∃ x, x = b / 4294967296 := ⟨_, rfl⟩
 obtain ⟨y0, hy0⟩ : ∃ x, x = b % 4294967296 := ⟨_, rfl⟩
 rw [← hx1, ← hx0, ← hy1, ← hy0]
 have b1 : 0 ≤ x1 ∧ x1 ≤ 4294967295 := by omega
 have b2 : 0 ≤ x0 ∧ x0 ≤ 4294967295 := by omega
 have b3 : 0 ≤ y1 ∧ y1 ≤ 4294967295 := by omega
 have b4 : 0 ≤ y0 ∧ y0 ≤ 4294967295 := by omega
 have pb : ∀ x y : Int, 0 ≤ x ∧ x ≤ 4294967295 → 0 ≤ y ∧ y ≤ 4294967295 → 0 ≤ x * y ∧ x * y ≤ 18446744065119617025 := by
   intro x y hx hy
   refine ⟨Int.mul_nonneg hx.1 hy.1, ?_⟩
   have := Int.mul_le_mul hx.2 hy.2 hy.1 (by omega : (0 : Int) ≤ 4294967295)
   omega
 have p1 := pb x1 y1 b1 b3
 have p2 := pb x1 y0 b1 b4
 have p3 := pb x0 y1 b2 b3
 have p4 := pb x0 y0 b2 b4
 have ea : a = x1 * 4294967296 + x0 := by omega
 have eb : b = y1 * 4294967296 + y0 := by omega
 have eab : a * b = x1 * y1 * 18446744073709551616 + x1 * y0 * 4294967296 + x0 * y1 * 4294967296 + x0 * y0 := by
   rw [ea, eb]; grind
 obtain ⟨P, hP⟩ : ∃ x, x = x1 * y1 := ⟨_, rfl⟩
 obtain ⟨Q, hQ⟩ : ∃ x, x = x1 * y0 := ⟨_, rfl⟩
 obtain ⟨R, hR⟩ : ∃ x, x = x0 * y1 := ⟨_, rfl⟩
 obtain ⟨S, hS⟩ : ∃ x, x = x0 * y0 := ⟨_, rfl⟩
 rw [← hP] at p1; rw [← hQ] at p2; rw [← hR] at p3; rw [← hS] at p4
 rw [← hP, ← hQ, ← hR, ← hS] at eab ⊢
 have w1 : IntKind.u64.wrap S = S := wu64 ⟨by omega, by omega⟩
 have w2 : IntKind.u64.wrap Q = Q := wu64 ⟨by omega, by omega⟩
 have w3 : IntKind.u64.wrap R = R := wu64 ⟨by omega, by omega⟩
 have w4 : IntKind.u64.wrap P = P := wu64 ⟨by omega, by omega⟩
 rw [w1, w2, w3, w4]
 have w5 : IntKind.u64.wrap (Q + S / 4294967296) = Q + S / 4294967296 := wu64 ⟨by omega, by omega⟩
 rw [w5, mask32 ⟨by omega, by omega⟩]
 have w6 : IntKind.u64.wrap ((Q + S / 4294967296) % 4294967296 + R) = (Q + S / 4294967296) % 4294967296 + R := wu64 ⟨by omega, by omega⟩
 rw [w6]
 have w7 : IntKind.u64.wrap (P + (Q + S / 4294967296) / 4294967296) = P + (Q + S / 4294967296) / 4294967296 := by
   have : a * b / 18446744073709551616 ≤ 18446744073709551615 := by
     have h1 : a * b ≤ 18446744073709551615 * 18446744073709551615 := by
       have := Int.mul_le_mul ha'.2 hb'.2 hb'.1 (by omega : (0 : Int) ≤ 18446744073709551615)
       exact this
     omega
   exact wu64 ⟨by omega, by omega⟩
 rw [w7]
 have hab : a * b ≤ 18446744073709551615 * 18446744073709551615 := Int.mul_le_mul ha'.2 hb'.2 hb'.1 (by omega : (0 : Int) ≤ 18446744073709551615)
 rw [eab] at hab ⊢
 rw [wu64', wu64']
 congr 1
 omega
theorem Or2_of {a b : Int} {K : Int → Prop} (h : K (if a = 0 then b else a)) : w_cmp_Or_api_Errno [.int .i64 a, .int .i64 b] K := by
 unfold w_cmp_Or_api_Errno wv_cmp_Or_api_Errno
 refine ⟨3, ?_⟩
 have e1 : IntKind.i64.wrap 1 = 1 := by decide
 have e2 : IntKind.i64.wrap 2 = 2 := by decide
 by_cases ha : a = 0
 · by_cases hb : b = 0
   · simp [L_cmp_Or_api_Errno_0_0, cbr_true, cbr_false, asr_true, conf, confC, intOfV, e1, e2, ha, hb] at h ⊢; exact h
   · have e3 : (b != 0) = true := by simpa using hb
     simp [L_cmp_Or_api_Errno_0_0, cbr_true, cbr_false, asr_true, conf, confC, intOfV, e1, e2, ha, e3] at h ⊢; exact h
 · have e3 : (a != 0) = true := by simpa using ha
   simp [L_cmp_Or_api_Errno_0_0, cbr_true, cbr_false, asr_true, conf, confC, intOfV, e1, e2, ha, e3] at h ⊢; exact h
def chk2 (a b c d : Int) : Int := if chk a b = 0 then chk c d else chk a b
theorem check_of {a b c d : Int} (ha : I64 a) (hb : I64 b) (hc : I64 c) (hd : I64 d) {K : Int → Prop} (h : K (chk2 a b c d)) : w_ratio_check a b c d K := by
 unfold w_ratio_check wv_ratio_check
 exact Check_of ha hb (Check_of hc hd (Or2_of h))
end Go.Pf.Vc
namespace Go.Pf.Vc
open Go Go.Pf
def cmp3 (a b : Int) : Int := if a < b then -1 else if a > b then 1 else 0
theorem Compare_i_eq (a b : Int) (K : Int → Prop) : w_cmp_Compare_int64 a b K = K (cmp3 a b) := by
 unfold w_cmp_Compare_int64 wv_cmp_Compare_int64
 simp only [w_cmp_isNaN_int64, wv_cmp_isNaN_int64, bne_self_eq_false, cbr_false, cmp3]
 by_cases h : a < b
 · simp [h, cbr_true]
 · by_cases h2 : a > b
   · simp [h, h2, cbr_true, cbr_false]
   · simp [h, h2, cbr_false]
theorem Compare_u_eq (a b : Int) (K : Int → Prop) : w_cmp_Compare_uint64 a b K = K (cmp3 a b) := by
 unfold w_cmp_Compare_uint64 wv_cmp_Compare_uint64
 simp only [w_cmp_isNaN_uint64, wv_cmp_isNaN_uint64, bne_self_eq_false, cbr_false, cmp3]
 by_cases h : a < b
 · simp [h, cbr_true]
 · by_cases h2 : a > b
   · simp [h, h2, cbr_true, cbr_false]
   · simp [h, h2, cbr_false]
theorem Or2i_of {a b : Int} {K : Int → Prop} (h : K (if a = 0 then b else a)) : w_cmp_Or_int [.int .i64 a, .int .i64 b] K := by
 unfold w_cmp_Or_int wv_cmp_Or_int
 refine ⟨3, ?_⟩
 have e1 : IntKind.i64.wrap 1 = 1 := by decide
 have e2 : IntKind.i64.wrap 2 = 2 := by decide
 by_cases ha : a = 0
 · by_cases hb : b = 0
   · simp [L_cmp_Or_int_0_0, cbr_true, cbr_false, asr_true, conf, confC, intOfV, e1, e2, ha, hb] at h ⊢; exact h
   · have e3 : (b != 0) = true := by simpa using hb
     simp [L_cmp_Or_int_0_0, cbr_true, cbr_false, asr_true, conf, confC, intOfV, e1, e2, ha, e3] at h ⊢; exact h
 · have e3 : (a != 0) = true := by simpa using ha
   simp [L_cmp_Or_int_0_0, cbr_true, cbr_false, asr_true, conf, confC, intOfV, e1, e2, ha, e3] at h ⊢; exact h
theorem I64.of {n : Int} (h1 : -1000000000000000000 ≤ n) (h2 : n ≤ 1000000000000000000) : I64 n := ⟨by omega, by omega⟩
theorem chk2_zero {a b c d : Int} : chk2 a b c d = 0 ↔ RV a b ∧ RV c d := by
 unfold chk2 chk
 by_cases h1 : RV a b <;> by_cases h2 : RV c d <;> simp [h1, h2]
def cmpR (a b c d : Int) : Int := cmp3 (a * d) (c * b)
theorem cmp3_wide {x y : Int} (_ : 0 ≤ x) (_ : 0 ≤ y) : (if cmp3 (x / 18446744073709551616) (y / 18446744073709551616) = 0 then cmp3 (x % 18446744073709551616) (y % 18446744073709551616) else cmp3 (x / 18446744073709551616) (y / 18446744073709551616)) = cmp3 x y := by
 unfold cmp3
 split <;> rename_i h <;> revert h <;> repeat' split <;> intro h <;> omega
theorem U64.abs {n : Int} (h : I64 n) : U64 ((n.natAbs : Nat) : Int) := by unfold I64 at h; unfold U64; omega
theorem Cmp_of {a b c d : Int} (ha : I64 a) (hb : I64 b) (hc : I64 c) (hd : I64 d) {K : Int → Int → Prop} (h : K (if chk2 a b c d = 0 then cmpR a b c d else 0) (chk2 a b c d)) : w_ratio_Cmp a b c d K := by
 unfold w_ratio_Cmp wv_ratio_Cmp
 refine check_of ha hb hc hd ?_
 by_cases hk : chk2 a b c d = 0
 · rw [if_pos hk] at h
   rw [hk] at h ⊢
   obtain ⟨⟨b1, b2, a1, a2, _⟩, d1, d2, c1, c2, _⟩ := chk2_zero.1 hk
   simp only [bne_self_eq_false, cbr_false]
   by_cases hs : decide (a < 0) = decide (c < 0)
   · have e : (decide (a < 0) != decide (c < 0)) = false := by rw [hs]; simp
     rw [e, cbr_false, size_eq ha, wu64 ⟨by omega, by omega⟩, Mul64_eq (U64.abs ha) ⟨by omega, by omega⟩, size_eq hc, wu64 ⟨by omega, by omega⟩, Mul64_eq (U64.abs hc) ⟨by omega, by omega⟩, Compare_u_eq, Compare_u_eq]
     refine Or2i_of ?_
     have p1 : 0 ≤ ((a.natAbs : Nat) : Int) * d := Int.mul_nonneg (by omega) (by omega)
     have p2 : 0 ≤ ((c.natAbs : Nat) : Int) * b := Int.mul_nonneg (by omega) (by omega)
     rw [cmp3_wide p1 p2]
     by_cases hneg : a < 0
     · have hcn : c < 0 := by simpa [hneg] using hs.symm
       rw [decide_eq_true hneg, cbr_true]
       have e1 : ((a.natAbs : Nat) : Int) * d = -(a * d) := by
         rw [show ((a.natAbs : Nat) : Int) = -a by omega, Int.neg_mul]
       have e2 : ((c.natAbs : Nat) : Int) * b = -(c * b) := by
         rw [show ((c.natAbs : Nat) : Int) = -c by omega, Int.neg_mul]
       have e3 : IntKind.i64.wrap (0 - cmp3 (((a.natAbs : Nat) : Int) * d) (((c.natAbs : Nat) : Int) * b)) = cmpR a b c d := by
         rw [e1, e2]
         unfold cmpR cmp3
         rw [wi64 (by unfold I64; repeat' split <;> omega)]
         repeat' split <;> omega
       rw [e3]; exact h
     · have hcn : ¬ c < 0 := by simpa [hneg] using hs.symm
       rw [decide_eq_false hneg, cbr_false, show ((a.natAbs : Nat) : Int) = a by omega, show ((c.natAbs : Nat) : Int) = c by omega]
       exact h
   · have e : (decide (a < 0) != decide (c < 0)) = true := by simpa using hs
     rw [e, cbr_true, Compare_i_eq]
     have e2 : cmp3 a c = cmpR a b c d := by
       unfold cmpR cmp3
       by_cases hneg : a < 0
       · have hcn : ¬ c < 0 := by intro hcn; simp [hneg, hcn] at hs
         have q1 : a * d < 0 := Int.mul_neg_of_neg_of_pos hneg (by omega)
         have q2 : 0 ≤ c * b := Int.mul_nonneg (by omega) (by omega)
         rw [if_pos (by omega), if_pos (by omega)]
       · have hcn : c < 0 := by
           by_cases hcn : c < 0
           · exact hcn
           · simp [hneg, hcn] at hs
         have q1 : c * b < 0 := Int.mul_neg_of_neg_of_pos hcn (by omega)
         have q2 : 0 ≤ a * d := Int.mul_nonneg (by omega) (by omega)
         rw [if_neg (by omega), if_pos (by omega), if_neg (by omega), if_pos (by omega)]
     rw [e2]; exact h
 · rw [if_neg hk] at h
   have e : (chk2 a b c d != 0) = true := by simpa using hk
   rw [e, cbr_true]; exact h
end Go.Pf.Vc
namespace Go.Pf.Vc
open Go Go.Pf
def blen (x : Nat) : Nat := if x = 0 then 0 else x.log2 + 1
theorem blen_lt (x : Nat) : x < 2 ^ blen x := by
 unfold blen
 split
 · rename_i h; subst h; decide
 · exact Nat.lt_log2_self
theorem blen_le {x : Nat} (h : x ≠ 0) : 2 ^ (blen x - 1) ≤ x := by
 unfold blen
 rw [if_neg h]
 exact Nat.log2_self_le h
theorem blen_of {x m : Nat} (h1 : 2 ^ m ≤ x) (h2 : x < 2 ^ (m + 1)) : blen x = m + 1 := by
 have hx : x ≠ 0 := by have := Nat.two_pow_pos m; omega
 unfold blen
 rw [if_neg hx]
 congr 1
 have a := Nat.log2_self_le hx
 have b := Nat.lt_log2_self (n := x)
 have c1 : ¬ (x.log2 < m) := fun h => by
   have := Nat.pow_le_pow_right (show 0 < 2 by omega) (show x.log2 + 1 ≤ m by omega)
   omega
 have c2 : ¬ (m < x.log2) := fun h => by
   have := Nat.pow_le_pow_right (show 0 < 2 by omega) (show m + 1 ≤ x.log2 by omega)
   omega
 omega
theorem blen_div {x k : Nat} (h : 2 ^ k ≤ x) : blen x = k + blen (x / 2 ^ k) := by
 have hp := Nat.two_pow_pos k
 have hq : x / 2 ^ k ≠ 0 := by
   have := Nat.div_pos h hp
   omega
 have h1 := blen_le hq
 have h2 := blen_lt (x / 2 ^ k)
 obtain ⟨m, hm⟩ : ∃ m, blen (x / 2 ^ k) = m + 1 := ⟨blen (x / 2 ^ k) - 1, by
   have : blen (x / 2 ^ k) ≠ 0 := by unfold blen; rw [if_neg hq]; omega
   omega⟩
 rw [hm] at h1 h2 ⊢
 rw [Nat.add_sub_cancel] at h1
 have := blen_of (x := x) (m := k + m) (by
     rw [Nat.pow_add]
     calc 2 ^ k * 2 ^ m ≤ 2 ^ k * (x / 2 ^ k) := Nat.mul_le_mul_left _ h1
       _ ≤ x := Nat.mul_div_le _ _) (by
     rw [show k + m + 1 = k + (m + 1) by omega, Nat.pow_add]
     rw [Nat.mul_comm]
     exact (Nat.div_lt_iff_lt_mul hp).1 h2)
 omega
theorem tab_eq : ∀ x : Nat, x < 256 → intOfV (List.getD len8tab x .nils) = (blen x : Int) := by decide +kernel
theorem wu8 {n : Int} (h0 : 0 ≤ n) (h1 : n < 256) : IntKind.u8.wrap n = n := by
 have e1 : (2 : Int) ^ 8 = 256 := rfl
 simp only [IntKind.wrap, IntKind.signed, IntKind.bits, Bool.false_and, Bool.false_eq_true, if_false, e1]
 omega
theorem look_eq {n : Int} (h0 : 0 ≤ n) (h1 : n < 256) : intOfV (List.getD len8tab (IntKind.u8.wrap n).toNat .nils) = (blen n.toNat : Int) := by
 rw [wu8 h0 h1]
 exact tab_eq n.toNat (by omega)
theorem blen8 {n : Nat} (h : n < 256) : blen n ≤ 8 := by
 by_cases h0 : n = 0
 · subst h0; decide
 · have := blen_le h0
   have h2 : blen n - 1 < 8 := by
     refine Nat.lt_of_not_le fun hc => ?_
     have := Nat.pow_le_pow_right (show 0 < 2 by omega) hc
     omega
   omega
theorem leaf8 {n k : Int} (h0 : 0 ≤ n) (h1 : n < 256) (hk : 0 ≤ k ∧ k ≤ 56) {m : Int} (hm : m = k + blen n.toNat) {K : Int → Prop} (h : K m) :
   asr (decide ((0 : Int) ≤ (IntKind.u8.wrap n))) (asr (decide ((IntKind.u8.wrap n) < (256 : Int))) (K (IntKind.i64.wrap (k + (IntKind.i64.wrap (intOfV (List.getD len8tab ((IntKind.u8.wrap n).toNat) .nils))))))) := by
 have hb := blen8 (n := n.toNat) (by omega)
 have e1 : IntKind.i64.wrap (blen n.toNat : Int) = blen n.toNat := wi64 (by unfold I64; omega)
 have e2 : IntKind.i64.wrap (k + blen n.toNat : Int) = k + blen n.toNat := wi64 (by unfold I64; omega)
 rw [look_eq h0 h1, wu8 h0 h1, decide_eq_true h0, asr_true, decide_eq_true h1, asr_true, e1, e2, ← hm]
 exact h
theorem fdivn (p q : Int) (hq : 0 ≤ q) : Int.fdiv p q = p / q := Int.fdiv_eq_ediv_of_nonneg _ hq
theorem Len64_of {p : Int} (hp : U64 p) {K : Int → Prop} (h : K (blen p.toNat : Int)) : w_m_Len64 p K := by
 unfold U64 at hp
 unfold w_m_Len64 wv_m_Len64
 simp only [fdivn _ 4294967296 (by omega), fdivn _ 65536 (by omega), fdivn _ 256 (by omega)]
 have key : ∀ (k : Nat) (q : Int), 2 ^ k ≤ p.toNat → q = p / (2 ^ k : Nat) → (blen p.toNat : Int) = k + blen q.toNat := by
   intro k q hk hq
   have e : q.toNat = p.toNat / 2 ^ k := by
     rw [hq]
     obtain ⟨m, rfl⟩ : ∃ m : Nat, p = m := ⟨p.toNat, by omega⟩
     rw [← Int.natCast_ediv, Int.toNat_natCast, Int.toNat_natCast]
   rw [e]
   have := blen_div hk
   omega
 by_cases h1 : p ≥ 4294967296
 · rw [decide_eq_true h1, cbr_true]
   by_cases h2 : p / 4294967296 ≥ 65536
   · rw [decide_eq_true h2, cbr_true]
     by_cases h3 : p / 4294967296 / 65536 ≥ 256
     · rw [decide_eq_true h3, cbr_true]
       exact leaf8 (by omega) (by omega) (by omega) (key 56 _ (by omega) (by omega)) h
     · rw [decide_eq_false h3, cbr_false]
       exact leaf8 (by omega) (by omega) (by omega) (key 48 _ (by omega) (by omega)) h
   · rw [decide_eq_false h2, cbr_false]
     by_cases h3 : p / 4294967296 ≥ 256
     · rw [decide_eq_true h3, cbr_true]
       exact leaf8 (by omega) (by omega) (by omega) (key 40 _ (by omega) (by omega)) h
     · rw [decide_eq_false h3, cbr_false]
       exact leaf8 (by omega) (by omega) (by omega) (key 32 _ (by omega) (by omega)) h
 · rw [decide_eq_false h1, cbr_false]
   by_cases h2 : p ≥ 65536
   · rw [decide_eq_true h2, cbr_true]
     by_cases h3 : p / 65536 ≥ 256
     · rw [decide_eq_true h3, cbr_true]
       exact leaf8 (by omega) (by omega) (by omega) (key 24 _ (by omega) (by omega)) h
     · rw [decide_eq_false h3, cbr_false]
       exact leaf8 (by omega) (by omega) (by omega) (key 16 _ (by omega) (by omega)) h
   · rw [decide_eq_false h2, cbr_false]
     by_cases h3 : p ≥ 256
     · rw [decide_eq_true h3, cbr_true]
       exact leaf8 (by omega) (by omega) (by omega) (key 8 _ (by omega) (by omega)) h
     · rw [decide_eq_false h3, cbr_false]
       exact leaf8 (by omega) (by omega) (by omega) (by simp) h
end Go.Pf.Vc
namespace Go.Pf.Vc
open Go Go.Pf
structure DI (y yn1 yn0 u un q r : Int) : Prop where
 hy : y = yn1 * 4294967296 + yn0
 h1 : 2147483648 ≤ yn1 ∧ yn1 ≤ 4294967295
 h0 : 0 ≤ yn0 ∧ yn0 ≤ 4294967295
 hn : 0 ≤ un ∧ un ≤ 4294967295
 hu : q * yn1 + r = u
 hq : 0 ≤ q ∧ q ≤ 4294967297
 hr : 0 ≤ r ∧ r ≤ 4294967295
 hlt : u < y
 hU : u * 4294967296 + un < (q + 1) * y
def DG (y u un q : Int) : Prop := 0 ≤ q ∧ q ≤ 4294967295 ∧ q * y ≤ u * 4294967296 + un ∧ u * 4294967296 + un < (q + 1) * y
theorem DI.step {y yn1 yn0 u un q r : Int} (h : DI y yn1 yn0 u un q r) {A B C : Prop}
   (hA : DG y u un (q - 1) → 0 ≤ q - 1 → q - 1 ≤ 4294967296 → A)
   (hB : DI y yn1 yn0 u un (q - 1) (r + yn1) → B)
   (hC : DG y u un q → C) :
   cbr (decide (q ≥ (4294967296 : Int)))
     (cbr (decide ((IntKind.u64.wrap (r + yn1)) ≥ (4294967296 : Int))) A B)
     (cbr (decide ((IntKind.u64.wrap (q * yn0)) > (IntKind.u64.wrap ((IntKind.u64.wrap ((4294967296 : Int) * r)) + un))))
       (cbr (decide ((IntKind.u64.wrap (r + yn1)) ≥ (4294967296 : Int))) A B) C) := by
 have h' := h
 obtain ⟨hy, h1, h0, hn, hu, hq, hr, hlt, hU⟩ := h
 have e1 : IntKind.u64.wrap (r + yn1) = r + yn1 := wu64 ⟨by omega, by omega⟩
 have eq1 : q * y = q * yn1 * 4294967296 + q * yn0 := by rw [hy]; grind
 have eq2 : (q - 1) * y = q * y - y := by grind
 have eq3 : (q - 1) * yn1 = q * yn1 - yn1 := by grind
 have eq4 : (q - 1 + 1) * y = q * y := by grind
 have eq5 : (q - 1) * yn0 = q * yn0 - yn0 := by grind
 have big : u * 4294967296 + un < q * y → cbr (decide ((IntKind.u64.wrap (r + yn1)) ≥ (4294967296 : Int))) A B := by
   intro hb
   have q1 : 0 ≤ q - 1 := by
     refine Int.not_lt.1 fun hc => ?_
     have hq0 : q = 0 := by omega
     subst hq0
     simp at hb hu
     omega
   rw [e1]
   by_cases hc : r + yn1 ≥ 4294967296
   · rw [decide_eq_true hc, cbr_true]
     have hp : (q - 1) * yn0 ≤ 4294967296 * 4294967295 := Int.mul_le_mul (by omega) h0.2 h0.1 (by omega)
     have hle : (q - 1) * y ≤ u * 4294967296 + un := by
       have : (q - 1) * y = (q - 1) * yn1 * 4294967296 + (q - 1) * yn0 := by rw [hy]; grind
       omega
     have hlt32 : q - 1 ≤ 4294967295 := by
       refine Int.not_lt.1 fun hc => ?_
       have : 4294967296 * y ≤ (q - 1) * y := Int.mul_le_mul_of_nonneg_right (by omega) (by omega)
       omega
     exact hA ⟨q1, hlt32, hle, by rw [eq4]; exact hb⟩ q1 (by omega)
   · rw [decide_eq_false hc, cbr_false]
     exact hB ⟨hy, h1, h0, hn, by rw [eq3]; omega, ⟨q1, by omega⟩, ⟨by omega, by omega⟩, hlt, by rw [eq4]; exact hb⟩
 by_cases ha : q ≥ 4294967296
 · rw [decide_eq_true ha, cbr_true]
   refine big ?_
   have : 4294967296 * y ≤ q * y := Int.mul_le_mul_of_nonneg_right (by omega) (by omega)
   omega
 · rw [decide_eq_false ha, cbr_false]
   have hp : q * yn0 ≤ 4294967295 * 4294967295 := Int.mul_le_mul (by omega) h0.2 h0.1 (by omega)
   have hp0 : 0 ≤ q * yn0 := Int.mul_nonneg hq.1 h0.1
   have w1 : IntKind.u64.wrap (q * yn0) = q * yn0 := wu64 ⟨hp0, by omega⟩
   have w2 : IntKind.u64.wrap ((4294967296 : Int) * r) = 4294967296 * r := wu64 ⟨by omega, by omega⟩
   have w3 : IntKind.u64.wrap ((4294967296 : Int) * r + un) = 4294967296 * r + un := wu64 ⟨by omega, by omega⟩
   rw [w1, w2, w3]
   by_cases hb : q * yn0 > 4294967296 * r + un
   · rw [decide_eq_true hb, cbr_true]
     exact big (by omega)
   · rw [decide_eq_false hb, cbr_false]
     exact hC ⟨hq.1, by omega, by omega, hU⟩
end Go.Pf.Vc
namespace Go.Pf.Vc
open Go Go.Pf
theorem DI.init {y yn1 yn0 u un : Int} (hy : y = yn1 * 4294967296 + yn0) (h1 : 2147483648 ≤ yn1 ∧ yn1 ≤ 4294967295) (h0 : 0 ≤ yn0 ∧ yn0 ≤ 4294967295) (hn : 0 ≤ un ∧ un ≤ 4294967295)
   (hu : 0 ≤ u) (hlt : u < y) : DI y yn1 yn0 u un (u / yn1) (u - u / yn1 * yn1) := by
 have a1 := Int.mul_ediv_add_emod u yn1
 have a2 := Int.emod_nonneg u (show yn1 ≠ 0 by omega)
 have a3 := Int.emod_lt_of_pos u (show 0 < yn1 by omega)
 have a4 : u / yn1 * yn1 = yn1 * (u / yn1) := Int.mul_comm _ _
 have a5 : 0 ≤ u / yn1 := Int.ediv_nonneg hu (by omega)
 have a6 : u / yn1 ≤ 4294967297 := by
   refine Int.not_lt.1 fun hc => ?_
   have : yn1 * 4294967298 ≤ yn1 * (u / yn1) := Int.mul_le_mul_of_nonneg_left (by omega) (by omega)
   omega
 refine ⟨hy, h1, h0, hn, by omega, ⟨a5, a6⟩, ⟨by omega, by omega⟩, hlt, ?_⟩
 have e : (u / yn1 + 1) * y = yn1 * (u / yn1) * 4294967296 + yn1 * 4294967296 + (u / yn1 + 1) * yn0 := by
   obtain ⟨t, ht⟩ : ∃ t, t = u / yn1 := ⟨_, rfl⟩
   rw [← ht, hy]; grind
 have : 0 ≤ (u / yn1 + 1) * yn0 := Int.mul_nonneg (by omega) h0.1
 omega
theorem or_eq {a b : Int} {k : Nat} (ha : 0 ≤ a) (hb : 0 ≤ b ∧ b < 2 ^ k) (hab : a * 2 ^ k ≤ 18446744073709551615 ∧ b ≤ 18446744073709551615) (hs : a * 2 ^ k + b ≤ 18446744073709551615) :
   IntKind.u64.wrap (BitVec.ofInt IntKind.u64.bits (a * 2 ^ k) ||| BitVec.ofInt IntKind.u64.bits b).toNat = a * 2 ^ k + b := by
 obtain ⟨x, rfl⟩ : ∃ x : Nat, a = x := ⟨a.toNat, by omega⟩
 obtain ⟨z, rfl⟩ : ∃ z : Nat, b = z := ⟨b.toNat, by omega⟩
 have ec : ((x : Int) * 2 ^ k) = ((2 ^ k * x : Nat) : Int) := by push_cast; exact Int.mul_comm _ _
 rw [ec] at hab hs ⊢
 have hz : z < 2 ^ k := by have := hb.2; exact_mod_cast this
 have e : (BitVec.ofInt IntKind.u64.bits ((2 ^ k * x : Nat) : Int) ||| BitVec.ofInt IntKind.u64.bits (z : Int)).toNat = 2 ^ k * x + z := by
   show (BitVec.ofInt 64 ((2 ^ k * x : Nat) : Int) ||| BitVec.ofInt 64 (z : Int)).toNat = _
   rw [BitVec.toNat_or, BitVec.toNat_ofInt, BitVec.toNat_ofInt]
   have e1 : (((2 ^ k * x : Nat) : Int) % (2 ^ 64 : Nat)).toNat = 2 ^ k * x := by omega
   have e2 : ((z : Int) % (2 ^ 64 : Nat)).toNat = z := by omega
   rw [e1, e2, Nat.two_pow_add_eq_or_of_lt hz]
 rw [e, wu64 ⟨by omega, by omega⟩]
 push_cast; rfl
theorem rest_eq {u un q y : Int} (h0 : 0 ≤ u * 4294967296 + un - q * y) (h1 : u * 4294967296 + un - q * y ≤ 18446744073709551615) :
   IntKind.u64.wrap (IntKind.u64.wrap (IntKind.u64.wrap (u * 4294967296) + un) - IntKind.u64.wrap (q * y)) = u * 4294967296 + un - q * y := by
 simp only [wu64']
 omega
theorem tdivn {a b : Int} (h : 0 ≤ a) : Int.tdiv a b = a / b := Int.tdiv_eq_ediv_of_nonneg h
theorem tmodn {a b : Int} (h : 0 ≤ a) : Int.tmod a b = a % b := Int.tmod_eq_emod_of_nonneg h
end Go.Pf.Vc
namespace Go.Pf.Vc
open Go Go.Pf
def outS (s : Bool) (a b : Int) (K : Int → Int → Int → Prop) : Prop :=
 if a ≤ 1000000000000000000 ∧ b ≤ 1000000000000000000 then K (if s then -a else a) b 0 else K 0 0 16
theorem signed_eq {s : Bool} {a b : Int} (ha : 0 ≤ a) (hb : 0 ≤ b) (K : Int → Int → Int → Prop) : w_ratio_signed s a b K = outS s a b K := by
 unfold w_ratio_signed wv_ratio_signed outS
 by_cases h : a ≤ 1000000000000000000 ∧ b ≤ 1000000000000000000
 · have e : decide ((if b > a then b else a) > (1000000000000000000 : Int)) = false := by
     refine decide_eq_false ?_
     split <;> omega
   have w1 : IntKind.i64.wrap a = a := wi64 ⟨by omega, by omega⟩
   have w2 : IntKind.i64.wrap b = b := wi64 ⟨by omega, by omega⟩
   have w3 : IntKind.i64.wrap (0 - a) = -a := by rw [wi64 ⟨by omega, by omega⟩]; omega
   rw [e, cbr_false, if_pos h, w1, w2, w3]
   cases s
   · rfl
   · rfl
 · have e : decide ((if b > a then b else a) > (1000000000000000000 : Int)) = true := by
     refine decide_eq_true ?_
     split <;> omega
   rw [e, cbr_true, if_neg h]
theorem Make_of {n d : Int} (hn : I64 n) (hd : I64 d) {K : Int → Int → Int → Prop}
   (k : if d = 0 then K 0 0 18 else outS (decide (n < 0) != decide (d < 0)) ((n.natAbs / Nat.gcd n.natAbs d.natAbs : Nat) : Int) ((d.natAbs / Nat.gcd n.natAbs d.natAbs : Nat) : Int) K) : w_ratio_Make n d K := by
 unfold w_ratio_Make wv_ratio_Make
 by_cases h : d = 0
 · rw [if_pos h] at k
   have : (d == (0 : Int)) = true := beq_iff_eq.2 h
   rw [this, cbr_true]
   exact k
 · rw [if_neg h] at k
   have : (d == (0 : Int)) = false := beq_eq_false_iff_ne.2 h
   rw [this, cbr_false, size_eq hn, size_eq hd]
   refine gcd_of _ _ _ ?_
   have gp : 0 < Nat.gcd n.natAbs d.natAbs := Nat.gcd_pos_of_pos_right _ (by omega)
   have b3 : (!(decide (((Nat.gcd n.natAbs d.natAbs : Nat) : Int) = (0 : Int)))) = true := by rw [decide_eq_false (by omega)]; rfl
   unfold I64 at hn hd
   have u1 : n.natAbs / Nat.gcd n.natAbs d.natAbs ≤ n.natAbs := Nat.div_le_self _ _
   have u2 : d.natAbs / Nat.gcd n.natAbs d.natAbs ≤ d.natAbs := Nat.div_le_self _ _
   rw [b3, asr_true, asr_true, tdivn (by omega), tdivn (by omega), ← Int.natCast_ediv, ← Int.natCast_ediv]
   generalize n.natAbs / Nat.gcd n.natAbs d.natAbs = A at *
   generalize d.natAbs / Nat.gcd n.natAbs d.natAbs = B at *
   rw [wu64 (n := (A : Int)) ⟨by omega, by omega⟩, wu64 (n := (B : Int)) ⟨by omega, by omega⟩, signed_eq (by omega) (by omega)]
   exact k
end Go.Pf.Vc
namespace Go.Pf.Vc
open Go Go.Pf
theorem Add64_of {p q c : Int} {K : Int → Int → Prop} (hc : c.toNat ≤ 1) (k : K (((p.toNat + q.toNat + c.toNat) % 18446744073709551616 : Nat) : Int) (((p.toNat + q.toNat + c.toNat) / 18446744073709551616 : Nat) : Int)) : w_m_Add64 p q c K := by
 unfold w_m_Add64
 rw [decide_eq_true hc, asr_true]
 exact k
theorem Sub64_of {p q c : Int} {K : Int → Int → Prop} (hc : c.toNat ≤ 1) (k : K (((p.toNat + 18446744073709551616 - q.toNat - c.toNat) % 18446744073709551616 : Nat) : Int) ((if q.toNat + c.toNat ≤ p.toNat then 0 else 1 : Nat) : Int)) : w_m_Sub64 p q c K := by
 unfold w_m_Sub64
 rw [decide_eq_true hc, asr_true]
 have e : (bif Nat.ble (q.toNat + c.toNat) p.toNat then 0 else 1 : Nat) = (if q.toNat + c.toNat ≤ p.toNat then 0 else 1 : Nat) := by
   by_cases h : q.toNat + c.toNat ≤ p.toNat
   · rw [if_pos h, show Nat.ble (q.toNat + c.toNat) p.toNat = true from Nat.ble_eq_true_of_le h]; rfl
   · rw [if_neg h]
     cases hb : Nat.ble (q.toNat + c.toNat) p.toNat
     · rfl
     · exact absurd (Nat.le_of_ble_eq_true hb) h
 rw [e]
 exact k
theorem add_wide {X Y : Int} (hx : 0 ≤ X) (hy : 0 ≤ Y) (hs : X + Y < 340282366920938463463374607431768211456) {F : Int → Int → Int → Int → Prop}
   (h : ∀ c1 c2, F ((X + Y) % 18446744073709551616) c1 ((X + Y) / 18446744073709551616) c2) :
   w_m_Add64 (X % 18446744073709551616) (Y % 18446744073709551616) 0 (fun lo c1 => w_m_Add64 (X / 18446744073709551616) (Y / 18446744073709551616) c1 (fun hi c2 => F lo c1 hi c2)) := by
 obtain ⟨x, rfl⟩ : ∃ x : Nat, X = x := ⟨X.toNat, by omega⟩
 obtain ⟨y, rfl⟩ : ∃ y : Nat, Y = y := ⟨Y.toNat, by omega⟩
 refine Add64_of (by decide) (Add64_of (by omega) ?_)
 have e1 : (((((x : Int) % 18446744073709551616).toNat + ((y : Int) % 18446744073709551616).toNat + (0 : Int).toNat) % 18446744073709551616 : Nat) : Int) = ((x : Int) + y) % 18446744073709551616 := by omega
 have e2 : (((((x : Int) / 18446744073709551616).toNat + ((y : Int) / 18446744073709551616).toNat + (((((x : Int) % 18446744073709551616).toNat + ((y : Int) % 18446744073709551616).toNat + (0 : Int).toNat) / 18446744073709551616 : Nat) : Int).toNat) % 18446744073709551616 : Nat) : Int) = ((x : Int) + y) / 18446744073709551616 := by omega
 rw [e1, e2]
 exact h _ _
theorem sub_wide {X Y : Int} (hy : 0 ≤ Y) (hxy : Y ≤ X) (hs : X < 340282366920938463463374607431768211456) {F : Int → Int → Int → Int → Prop}
   (h : ∀ c1 c2, F ((X - Y) % 18446744073709551616) c1 ((X - Y) / 18446744073709551616) c2) :
   w_m_Sub64 (X % 18446744073709551616) (Y % 18446744073709551616) 0 (fun lo c1 => w_m_Sub64 (X / 18446744073709551616) (Y / 18446744073709551616) c1 (fun hi c2 => F lo c1 hi c2)) := by
 obtain ⟨x, rfl⟩ : ∃ x : Nat, X = x := ⟨X.toNat, by omega⟩
 obtain ⟨y, rfl⟩ : ∃ y : Nat, Y = y := ⟨Y.toNat, by omega⟩
 refine Sub64_of (by decide) (Sub64_of (by split <;> omega) ?_)
 have e1 : (((((x : Int) % 18446744073709551616).toNat + 18446744073709551616 - ((y : Int) % 18446744073709551616).toNat - (0 : Int).toNat) % 18446744073709551616 : Nat) : Int) = ((x : Int) - y) % 18446744073709551616 := by omega
 rw [e1]
 by_cases hb : ((y : Int) % 18446744073709551616).toNat + (0 : Int).toNat ≤ ((x : Int) % 18446744073709551616).toNat
 · rw [if_pos hb]
   have e2 : (((((x : Int) / 18446744073709551616).toNat + 18446744073709551616 - ((y : Int) / 18446744073709551616).toNat - ((0 : Nat) : Int).toNat) % 18446744073709551616 : Nat) : Int) = ((x : Int) - y) / 18446744073709551616 := by omega
   rw [e2]
   exact h _ _
 · rw [if_neg hb]
   have e2 : (((((x : Int) / 18446744073709551616).toNat + 18446744073709551616 - ((y : Int) / 18446744073709551616).toNat - ((1 : Nat) : Int).toNat) % 18446744073709551616 : Nat) : Int) = ((x : Int) - y) / 18446744073709551616 := by omega
   rw [e2]
   exact h _ _
end Go.Pf.Vc
namespace Go.Pf.Vc
open Go Go.Pf
def outA (s : Bool) (Z p1 p3 : Int) (g : Nat) (K : Int → Int → Int → Prop) : Prop :=
 if Z = 0 then K 0 1 0 else outS s ((Z.toNat / Nat.gcd Z.toNat g : Nat) : Int) (((p1.toNat / g) * (p3.toNat / Nat.gcd Z.toNat g) : Nat) : Int) K
theorem outA_congr {s s' : Bool} {Z Z' p1 p3 : Int} {g : Nat} {K : Int → Int → Int → Prop} (k : outA s' Z' p1 p3 g K) (hz : Z = Z') (hs : Z ≠ 0 → s = s') : outA s Z p1 p3 g K := by
 subst hz
 unfold outA at k ⊢
 by_cases h : Z = 0
 · rw [if_pos h] at k ⊢; exact k
 · rw [if_neg h] at k ⊢; rw [hs h]; exact k
end Go.Pf.Vc
namespace Go.Pf.Vc
open Go Go.Pf
theorem RV.neg {c d : Int} (h : RV c d) : RV (-c) d := by
 obtain ⟨d1, d2, c1, c2, g⟩ := h
 exact ⟨d1, d2, by omega, by omega, by rw [Int.natAbs_neg]; exact g⟩
end Go.Pf.Vc
namespace Go.Pf.Vc
open Go Go.Pf
def ints (l : List Int) : List PV := l.map (PV.int .i64)
theorem ints_len (l : List Int) : (ints l).length = l.length := List.length_map ..
theorem ints_at {l : List Int} {i : Nat} (h : i < l.length) : List.getD (ints l) i .nils = .int .i64 (l.getD i 0) := by
 unfold ints
 rw [List.getD_eq_getElem?_getD, List.getD_eq_getElem?_getD, List.getElem?_map, List.getElem?_eq_getElem h]
 rfl
theorem asr_of {c : Bool} {P : Prop} (h : c = true) (p : P) : asr c P := by rw [h, asr_true]; exact p
end Go.Pf.Vc
namespace Go.Pf.Vc
open Go Go.Pf
def incr (l : List Int) (i : Nat) : Prop := ∀ j, i ≤ j → j + 1 < l.length → l.getD j 0 < l.getD (j + 1) 0
end Go.Pf.Vc
namespace Go.Pf.Vc
open Go Go.Pf
def small (q : Rat) : Prop := -1000000000000000000 ≤ q.num ∧ q.num ≤ 1000000000000000000 ∧ (q.den : Int) ≤ 1000000000000000000
instance (q : Rat) : Decidable (small q) := by unfold small; infer_instance
theorem small.rv {q : Rat} (h : small q) : RV q.num q.den := by
 obtain ⟨h1, h2, h3⟩ := h
 have := q.den_pos
 exact ⟨by omega, h3, h1, h2, q.reduced⟩
theorem rv_rat {n d : Int} (h : RV n d) : ∃ q : Rat, small q ∧ q.num = n ∧ (q.den : Int) = d := by
 obtain ⟨h1, h2, h3, h4, h5⟩ := h
 refine ⟨⟨n, d.toNat, by omega, ?_⟩, ⟨h3, h4, by show ((d.toNat : Nat) : Int) ≤ _; omega⟩, rfl, by show ((d.toNat : Nat) : Int) = _; omega⟩
 have : d.natAbs = d.toNat := by omega
 rw [this] at h5
 exact h5
theorem small.i1 {q : Rat} (h : small q) : I64 q.num := ⟨by have := h.1; omega, by have := h.2.1; omega⟩
theorem small.i2 {q : Rat} (h : small q) : I64 (q.den : Int) := ⟨by omega, by have := h.2.2; omega⟩
theorem small_chk2 {q r : Rat} (h : small q) (k : small r) : chk2 q.num q.den r.num r.den = 0 := chk2_zero.2 ⟨h.rv, k.rv⟩
def fitK (q : Rat) (K : Int → Int → Int → Prop) : Prop := if small q then K q.num q.den 0 else K 0 0 16
theorem outS_fit {q : Rat} {s : Bool} {a b : Int} (ha : a = (q.num.natAbs : Int)) (hb : b = (q.den : Int)) (hs : q.num ≠ 0 → s = decide (q.num < 0)) (K : Int → Int → Int → Prop) : outS s a b K = fitK q K := by
 unfold outS fitK
 subst ha hb
 by_cases h : small q
 · have h' := h
   obtain ⟨h1, h2, h3⟩ := h
   rw [if_pos (show _ ∧ _ from ⟨by omega, h3⟩), if_pos h']
   have e : (if s = true then -((q.num.natAbs : Nat) : Int) else ((q.num.natAbs : Nat) : Int)) = q.num := by
     by_cases h0 : q.num = 0
     · rw [h0]; cases s <;> rfl
     · rw [hs h0]
       by_cases h1 : q.num < 0
       · rw [decide_eq_true h1, if_pos rfl]; omega
       · rw [decide_eq_false h1, if_neg (by simp)]; omega
   rw [e]
 · rw [if_neg h, if_neg]
   intro h2
   exact h ⟨by omega, by omega, h2.2⟩
theorem dvd_gcd_l (x : Int) (d : Nat) : ((Nat.gcd x.natAbs d : Nat) : Int) ∣ x := by
 rw [← Int.dvd_natAbs, Int.ofNat_dvd]; exact Nat.gcd_dvd_left _ _
theorem det_fit {w : (Int → Int → Int → Prop) → Prop} {q : Rat} (det : ∀ r0 r1 r2, (∀ K : Int → Int → Int → Prop, K r0 r1 r2 → w K) → ∀ K, w K = K r0 r1 r2) (h : ∀ K, fitK q K → w K) (K : Int → Int → Int → Prop) : w K = fitK q K := by
 unfold fitK at h ⊢
 by_cases hs : small q
 · simp only [if_pos hs] at h ⊢
   exact det _ _ _ h K
 · simp only [if_neg hs] at h ⊢
   exact det _ _ _ h K
end Go.Pf.Vc
namespace Go.Pf.Vc
open Go Go.Pf
theorem add_parts (q r : Rat) : (q + r).num = (q.num * (r.den / Nat.gcd q.den r.den : Nat) + r.num * (q.den / Nat.gcd q.den r.den : Nat)) / (Nat.gcd (q.num * (r.den / Nat.gcd q.den r.den : Nat) + r.num * (q.den / Nat.gcd q.den r.den : Nat)).natAbs (Nat.gcd q.den r.den) : Nat) ∧
   (q + r).den = (q.den / Nat.gcd q.den r.den) * r.den / Nat.gcd (q.num * (r.den / Nat.gcd q.den r.den : Nat) + r.num * (q.den / Nat.gcd q.den r.den : Nat)).natAbs (Nat.gcd q.den r.den) := by
 have e : q + r = Rat.add q r := rfl
 rw [e]
 delta Rat.add
 by_cases hg : q.den.gcd r.den = 1
 · simp only [hg, dif_pos, Nat.div_one, Nat.gcd_one_right, Int.natCast_one, Int.ediv_one, and_self]
 · simp only [hg, dif_neg, not_false_eq_true, Rat.maybeNormalize_eq]
   constructor
   · first | rfl | simp only [Int.divExact_eq_tdiv]
   · first | rfl | simp only []
theorem outA_fit {q r : Rat} {Z : Int} {g : Nat} (e1 : (q + r).num = Z / (Nat.gcd Z.natAbs g : Nat)) (e2 : (q + r).den = (q.den / g) * r.den / Nat.gcd Z.natAbs g) (hgp : 0 < g) (hgd : g ∣ r.den) (K : Int → Int → Int → Prop) :
   outA (decide (Z < 0)) (Z.natAbs : Int) q.den r.den g K = fitK (q + r) K := by
 unfold outA
 by_cases h0 : Z = 0
 · subst h0
   have : (q + r) = 0 := by
     apply Rat.num_eq_zero.1
     rw [e1]; simp
   rw [this, if_pos (by rfl)]
   unfold fitK
   rw [if_pos (by decide)]; rfl
 · have hne : ¬ ((Z.natAbs : Nat) : Int) = 0 := by omega
   rw [if_neg hne]
   have hdv : ((Nat.gcd Z.natAbs g : Nat) : Int) ∣ Z := dvd_gcd_l _ _
   have hhp : 0 < Nat.gcd Z.natAbs g := Nat.gcd_pos_of_pos_right _ hgp
   have hhg : Nat.gcd Z.natAbs g ∣ r.den := Nat.dvd_trans (Nat.gcd_dvd_right _ _) hgd
   refine outS_fit ?_ ?_ ?_ K
   · rw [e1, Int.natAbs_ediv_of_dvd hdv]; simp
   · rw [e2]; simp only [Int.toNat_natCast]; rw [Nat.mul_div_assoc _ hhg]
   · intro h
     rw [e1]
     obtain ⟨k, hk⟩ := hdv
     revert hhp hk
     generalize Nat.gcd Z.natAbs g = h
     intro hhp hk
     have e : Z / (h : Int) = k := by rw [hk, Int.mul_ediv_cancel_left _ (by omega)]
     rw [e]
     have : Z < 0 ↔ k < 0 := by
       rw [hk]
       constructor
       · intro hk; refine Int.not_le.1 fun hk2 => ?_
         have := Int.mul_nonneg (show 0 ≤ (h : Int) by omega) hk2
         omega
       · intro hk; exact Int.mul_neg_of_pos_of_neg (by omega) hk
     simp only [this]
theorem add_fit (q r : Rat) (K : Int → Int → Int → Prop) :
   outA (decide (q.num * ((r.den : Int) / (Nat.gcd (q.den : Int).natAbs (r.den : Int).natAbs : Nat)) + r.num * ((q.den : Int) / (Nat.gcd (q.den : Int).natAbs (r.den : Int).natAbs : Nat)) < 0))
     ((q.num * ((r.den : Int) / (Nat.gcd (q.den : Int).natAbs (r.den : Int).natAbs : Nat)) + r.num * ((q.den : Int) / (Nat.gcd (q.den : Int).natAbs (r.den : Int).natAbs : Nat))).natAbs : Int) q.den r.den (Nat.gcd (q.den : Int).natAbs (r.den : Int).natAbs) K = fitK (q + r) K := by
 obtain ⟨e1, e2⟩ := add_parts q r
 rw [Int.natCast_ediv, Int.natCast_ediv] at e1 e2
 exact outA_fit e1 e2 (Nat.gcd_pos_of_pos_left _ q.den_pos) (Nat.gcd_dvd_right _ _) K
theorem make_fit {n d : Int} (hd : d ≠ 0) (K : Int → Int → Int → Prop) : outS (decide (n < 0) != decide (d < 0)) ((n.natAbs / Nat.gcd n.natAbs d.natAbs : Nat) : Int) ((d.natAbs / Nat.gcd n.natAbs d.natAbs : Nat) : Int) K = fitK ((n : Rat) / (d : Rat)) K := by
 have e : (n : Rat) / (d : Rat) = mkRat (if d < 0 then -n else n) d.natAbs := by
   rw [Rat.mkRat_eq_div]
   split
   · rename_i h
     have h1 : ((d.natAbs : Nat) : Int) = -d := by omega
     have h2 : ((d.natAbs : Nat) : Rat) = -(d : Rat) := by rw [← Rat.intCast_natCast, h1, Rat.intCast_neg]
     rw [h2, Rat.intCast_neg]
     have h3 : (d : Rat) ≠ 0 := fun e => hd (Rat.intCast_eq_zero_iff.1 e)
     grind
   · rename_i h
     have h1 : ((d.natAbs : Nat) : Int) = d := by omega
     have h2 : ((d.natAbs : Nat) : Rat) = (d : Rat) := by rw [← Rat.intCast_natCast, h1]
     rw [h2]
 have h0 : d.natAbs ≠ 0 := by omega
 have hab : (if d < 0 then -n else n).natAbs = n.natAbs := by split <;> omega
 rw [e]
 refine outS_fit ?_ ?_ ?_ K
 · rw [Rat.num_mkRat, if_neg h0, hab, Int.natAbs_ediv_of_dvd, Int.natAbs_natCast, hab, Nat.gcd_comm]
   rw [← Int.dvd_natAbs, Int.ofNat_dvd, hab]; exact Nat.gcd_dvd_right _ _
 · rw [Rat.den_mkRat, if_neg h0, hab, Nat.gcd_comm]
 · rw [Rat.num_mkRat, if_neg h0, hab]
   have hdv : ((Nat.gcd d.natAbs n.natAbs : Nat) : Int) ∣ (if d < 0 then -n else n) := by
     rw [← Int.dvd_natAbs, Int.ofNat_dvd, hab]; exact Nat.gcd_dvd_right _ _
   have hp : 0 < Nat.gcd d.natAbs n.natAbs := Nat.gcd_pos_of_pos_left _ (by omega)
   obtain ⟨k, hk⟩ := hdv
   rw [hk, Int.mul_ediv_cancel_left _ (by omega)]
   intro hk0
   generalize Nat.gcd d.natAbs n.natAbs = g at *
   have h1 : (g : Int) * k < 0 ↔ k < 0 := by
     constructor
     · intro hk; refine Int.not_le.1 fun hk2 => ?_
       have := Int.mul_nonneg (show 0 ≤ (g : Int) by omega) hk2
       omega
     · intro hk; exact Int.mul_neg_of_pos_of_neg (by omega) hk
   have h2 : (g : Int) * k ≠ 0 := fun e => by rcases Int.mul_eq_zero.1 e with e | e <;> omega
   by_cases hd2 : d < 0
   · rw [if_pos hd2] at hk
     by_cases hn : n < 0
     · have : ¬ k < 0 := by omega
       simp [hd2, hn, this]
     · have : k < 0 := by omega
       simp [hd2, this]; omega
   · rw [if_neg hd2] at hk
     by_cases hn : n < 0
     · have : k < 0 := by omega
       simp [hd2, hn, this]
     · have : ¬ k < 0 := by omega
       simp [hd2, this]; omega
theorem rMake_eq {n d : Int} (hn : I64 n) (hd : I64 d) (h0 : d ≠ 0) (K : Int → Int → Int → Prop) : w_ratio_Make n d K = fitK ((n : Rat) / (d : Rat)) K :=
 det_fit (fun r0 r1 r2 h K => det_ratio_Make _ _ r0 r1 r2 h K) (fun K k => Make_of hn hd (by rw [if_neg h0, make_fit h0]; exact k)) K
def cmpQ (q r : Rat) : Int := if q < r then -1 else if r < q then 1 else 0
theorem cmpR_eq (q r : Rat) : cmpR q.num q.den r.num r.den = cmpQ q r := by
 unfold cmpR cmp3 cmpQ
 simp only [Rat.lt_iff]
theorem rCmp_eq {q r : Rat} (hq : small q) (hr : small r) (K : Int → Int → Prop) : w_ratio_Cmp q.num q.den r.num r.den K = K (cmpQ q r) 0 :=
 det_ratio_Cmp _ _ _ _ _ _ (fun K k => Cmp_of hq.i1 hq.i2 hr.i1 hr.i2 (by rw [small_chk2 hq hr, if_pos rfl, cmpR_eq]; exact k)) K
theorem rCheck_eq {n d : Int} (hn : I64 n) (hd : I64 d) (K : Int → Prop) : w_ratio_Check n d K = K (chk n d) :=
 det_ratio_Check _ _ _ (fun _ k => Check_of hn hd k) K
end Go.Pf.Vc
namespace Go.Pf.Vc
open Go Go.Pf
theorem sAbs_eq {p : Int} (h : I64 p) (K : Int → Prop) : w_r01_abs p K = K (p.natAbs : Int) := by
 unfold I64 at h
 unfold w_r01_abs wv_r01_abs
 by_cases hp : p < 0
 · have e0 : IntKind.i64.wrap (p + 1) = p + 1 := wi64 ⟨by omega, by omega⟩
   have e1 : IntKind.i64.wrap ((0 : Int) - (p + 1)) = -(p + 1) := by rw [wi64 ⟨by omega, by omega⟩]; omega
   have e2 : IntKind.u64.wrap (-(p + 1)) = -(p + 1) := wu64 ⟨by omega, by omega⟩
   have e3 : IntKind.u64.wrap (-(p + 1) + 1) = (p.natAbs : Int) := by rw [wu64 ⟨by omega, by omega⟩]; omega
   rw [decide_eq_true hp, cbr_true, e0, e1, e2, e3]
 · rw [decide_eq_false hp, cbr_false, wu64 ⟨by omega, by omega⟩]
   congr 1
   omega
theorem sgcd_loop (x : Int → Int → Bool → Prop) : ∀ (n a b : Nat), b < n → L_r01_gcd_0_0 x n (a : Int) (b : Int) = x ((Nat.gcd a b : Nat) : Int) 0 false
 | 0, a, b, h => by omega
 | n + 1, a, b, h => by
   unfold L_r01_gcd_0_0
   by_cases hb : b = 0
   · subst hb
     simp [cbr]
   · have h1 : ((b : Int) != 0) = true := by simp; omega
     have h2 : ¬ ((b : Int) = 0) := by omega
     rw [h1, cbr_true, decide_eq_false h2, Bool.not_false, asr_true]
     have e : Int.tmod (a : Int) (b : Int) = ((a % b : Nat) : Int) := by rw [Int.tmod_eq_emod_of_nonneg (by omega)]; omega
     rw [e, sgcd_loop x n b (a % b) (by have := Nat.mod_lt a (show b > 0 by omega); omega)]
     rw [Nat.gcd_comm a b, Nat.gcd_rec b a, Nat.gcd_comm]
theorem sgcd_eq (a b : Nat) (K : Int → Prop) : w_r01_gcd (a : Int) (b : Int) K = K ((Nat.gcd a b : Nat) : Int) := by
 refine det_r01_gcd _ _ _ (fun K h => ?_) K
 unfold w_r01_gcd wv_r01_gcd
 exact ⟨b + 1, by rw [sgcd_loop _ (b + 1) a b (by omega)]; exact h⟩
theorem bne_f {a b : Int} (h : a = b) : (a != b) = false := by simp [h]
theorem bne_t {a b : Int} (h : a ≠ b) : (a != b) = true := by simp [h]
theorem beq_f {a b : Int} (h : a ≠ b) : (a == b) = false := by simp [h]
theorem beq_t {a b : Int} (h : a = b) : (a == b) = true := by simp [h]
theorem sCheck_eq {n d : Int} (hn : I64 n) (_ : I64 d) (K : Int → Prop) : w_r01_Check n d K = K (chk n d) := by
 unfold w_r01_Check wv_r01_Check
 by_cases h1 : d < 1
 · rw [decide_eq_true h1, cbr_true, chk, if_neg (fun h => by have := h.1; omega)]
 · rw [decide_eq_false h1, cbr_false]
   by_cases h2 : d > 1000000000000000000
   · rw [decide_eq_true h2, cbr_true, chk, if_neg (fun h => by have := h.2.1; omega)]
   · rw [decide_eq_false h2, cbr_false]
     by_cases h3 : n < -1000000000000000000
     · rw [decide_eq_true h3, cbr_true, chk, if_neg (fun h => by have := h.2.2.1; omega)]
     · rw [decide_eq_false h3, cbr_false]
       by_cases h4 : n > 1000000000000000000
       · rw [decide_eq_true h4, cbr_true, chk, if_neg (fun h => by have := h.2.2.2.1; omega)]
       · have ed : IntKind.u64.wrap d = ((d.natAbs : Nat) : Int) := by rw [wu64 ⟨by omega, by omega⟩]; omega
         rw [decide_eq_false h4, cbr_false, sAbs_eq hn, ed, sgcd_eq]
         by_cases h5 : Nat.gcd n.natAbs d.natAbs = 1
         · rw [h5, bne_f (by rfl), cbr_false, chk, if_pos ⟨by omega, by omega, by omega, by omega, h5⟩]
         · rw [bne_t (by omega), cbr_true, chk, if_neg (fun h => h5 h.2.2.2.2)]
theorem sBoth_eq {a b c d : Int} (ha : I64 a) (hb : I64 b) (hc : I64 c) (hd : I64 d) (K : Int → Prop) : w_r01_Both a b c d K = K (chk2 a b c d) := by
 unfold w_r01_Both wv_r01_Both
 rw [sCheck_eq ha hb, sCheck_eq ha hb, sCheck_eq hc hd, chk2]
 by_cases h : chk a b = 0
 · rw [bne_f h, cbr_false, if_pos h]
 · rw [bne_t h, cbr_true, if_neg h]
theorem or32 {m s : Int} (_ : 0 ≤ m) (hs : 0 ≤ s ∧ s < 4294967296) : IntKind.u64.wrap (BitVec.ofInt IntKind.u64.bits (IntKind.u64.wrap (m * 4294967296)) ||| BitVec.ofInt IntKind.u64.bits s).toNat = m % 4294967296 * 4294967296 + s := by
 have e : IntKind.u64.wrap (m * 4294967296) = m % 4294967296 * 2 ^ 32 := by rw [wu64']; omega
 rw [e, or_eq (k := 32) (by omega) ⟨hs.1, by omega⟩ ⟨by omega, by omega⟩ (by omega)]
 omega
theorem times_eq {a b : Int} (ha : U64 a) (hb : U64 b) (K : Int → Int → Prop) : w_r01_times a b K = K (a * b / 18446744073709551616) (a * b % 18446744073709551616) := by
 unfold w_r01_times wv_r01_times
 simp only [fdiv32]
 rw [mask32 ha, mask32 hb]
 unfold U64 at ha hb
 have ha' := ha; have hb' := hb
 obtain ⟨x1, hx1⟩ : ∃ x, x = a / 4294967296 := ⟨_, rfl⟩
 obtain ⟨x0, hx0⟩ : ∃ x, x = a % 4294967296 := ⟨_, rfl⟩
 obtain ⟨y1, hy1⟩ : ∃ x, x = b / 4294967296 := ⟨_, rfl⟩
 obtain ⟨y0, hy0⟩ : ∃ x, x = b % 4294967296 := ⟨_, rfl⟩
 rw [← hx1, ← hx0, ← hy1, ← hy0]
 have b1 : 0 ≤ x1 ∧ x1 ≤ 4294967295 := by omega
 have b2 : 0 ≤ x0 ∧ x0 ≤ 4294967295 := by omega
 have b3 : 0 ≤ y1 ∧ y1 ≤ 4294967295 := by omega
 have b4 : 0 ≤ y0 ∧ y0 ≤ 4294967295 := by omega
 have pb : ∀ x y : Int, 0 ≤ x ∧ x ≤ 4294967295 → 0 ≤ y ∧ y ≤ 4294967295 → 0 ≤ x * y ∧ x * y ≤ 18446744065119617025 := by
   intro x y hx hy
   refine ⟨Int.mul_nonneg hx.1 hy.1, ?_⟩
   have := Int.mul_le_mul hx.2 hy.2 hy.1 (by omega : (0 : Int) ≤ 4294967295)
   omega
 have p1 := pb x1 y1 b1 b3
 have p2 := pb x1 y0 b1 b4
 have p3 := pb x0 y1 b2 b3
 have p4 := pb x0 y0 b2 b4
 have ea : a = x1 * 4294967296 + x0 := by omega
 have eb : b = y1 * 4294967296 + y0 := by omega
 have eab : a * b = x1 * y1 * 18446744073709551616 + x1 * y0 * 4294967296 + x0 * y1 * 4294967296 + x0 * y0 := by
   rw [ea, eb]; grind
 obtain ⟨P, hP⟩ : ∃ x, x = x1 * y1 := ⟨_, rfl⟩
 obtain ⟨Q, hQ⟩ : ∃ x, x = x1 * y0 := ⟨_, rfl⟩
 obtain ⟨R, hR⟩ : ∃ x, x = x0 * y1 := ⟨_, rfl⟩
 obtain ⟨S, hS⟩ : ∃ x, x = x0 * y0 := ⟨_, rfl⟩
 rw [← hP] at p1; rw [← hQ] at p2; rw [← hR] at p3; rw [← hS] at p4
 rw [← hP, ← hQ, ← hR, ← hS] at eab ⊢
 have w1 : IntKind.u64.wrap S = S := wu64 ⟨by omega, by omega⟩
 have w2 : IntKind.u64.wrap Q = Q := wu64 ⟨by omega, by omega⟩
 have w3 : IntKind.u64.wrap R = R := wu64 ⟨by omega, by omega⟩
 have w4 : IntKind.u64.wrap P = P := wu64 ⟨by omega, by omega⟩
 rw [w1, w2, w3, w4, mask32 (p := Q) ⟨by omega, by omega⟩, mask32 (p := S) ⟨by omega, by omega⟩]
 have w5 : IntKind.u64.wrap (Q % 4294967296 + R) = Q % 4294967296 + R := wu64 ⟨by omega, by omega⟩
 rw [w5]
 have w6 : IntKind.u64.wrap (Q % 4294967296 + R + S / 4294967296) = Q % 4294967296 + R + S / 4294967296 := wu64 ⟨by omega, by omega⟩
 rw [w6, or32 (by omega) ⟨by omega, by omega⟩]
 have hab : a * b ≤ 18446744073709551615 * 18446744073709551615 := Int.mul_le_mul ha'.2 hb'.2 hb'.1 (by omega : (0 : Int) ≤ 18446744073709551615)
 rw [eab] at hab ⊢
 have w7 : IntKind.u64.wrap (P + Q / 4294967296) = P + Q / 4294967296 := wu64 ⟨by omega, by omega⟩
 rw [w7, wu64 ⟨by omega, by omega⟩]
 congr 1 <;> omega
theorem lessW_eq {X Y : Int} (_ : 0 ≤ X) (_ : 0 ≤ Y) (K : Bool → Prop) :
   w_r01_less (X / 18446744073709551616) (X % 18446744073709551616) (Y / 18446744073709551616) (Y % 18446744073709551616) K = K (decide (X < Y)) := by
 unfold w_r01_less wv_r01_less
 by_cases h : X / 18446744073709551616 < Y / 18446744073709551616
 · rw [decide_eq_true h, cbr_true, decide_eq_true (by omega)]
 · rw [decide_eq_false h, cbr_false]
   by_cases h2 : X / 18446744073709551616 = Y / 18446744073709551616
   · rw [beq_t h2, cbr_true]
     congr 1
     rw [decide_eq_decide]; omega
   · rw [beq_f h2, cbr_false, decide_eq_false (by omega)]
end Go.Pf.Vc
namespace Go.Pf.Vc
open Go Go.Pf
theorem made_eq {s : Bool} {X Y : Int} (hx : 0 ≤ X) (hy : 0 ≤ Y) (K : Int → Int → Int → Prop) :
   w_r01_made s (X / 18446744073709551616) (X % 18446744073709551616) (Y / 18446744073709551616) (Y % 18446744073709551616) K = outS s X Y K := by
 unfold w_r01_made wv_r01_made outS
 by_cases h : X ≤ 1000000000000000000 ∧ Y ≤ 1000000000000000000
 · have e1 : IntKind.i64.wrap (X % 18446744073709551616) = X := by rw [show X % 18446744073709551616 = X by omega, wi64 ⟨by omega, by omega⟩]
   have e2 : IntKind.i64.wrap (Y % 18446744073709551616) = Y := by rw [show Y % 18446744073709551616 = Y by omega, wi64 ⟨by omega, by omega⟩]
   rw [if_pos h, decide_eq_false (by omega), cbr_false, decide_eq_false (by omega), cbr_false, decide_eq_false (by omega), cbr_false, decide_eq_false (by omega), cbr_false, e1, e2]
   cases s
   · rw [cbr_false]; rfl
   · rw [cbr_true, wi64 ⟨by omega, by omega⟩, Int.zero_sub]; rfl
 · rw [if_neg h]
   by_cases h1 : X / 18446744073709551616 > 0
   · rw [decide_eq_true h1, cbr_true]
   · rw [decide_eq_false h1, cbr_false]
     by_cases h2 : Y / 18446744073709551616 > 0
     · rw [decide_eq_true h2, cbr_true]
     · rw [decide_eq_false h2, cbr_false]
       by_cases h3 : X % 18446744073709551616 > 1000000000000000000
       · rw [decide_eq_true h3, cbr_true]
       · rw [decide_eq_false h3, cbr_false, decide_eq_true (by omega), cbr_true]
end Go.Pf.Vc
namespace Go.Pf.Vc
open Go Go.Pf
theorem nz_asr {g : Int} (h : g ≠ 0) {P : Prop} : asr (!(decide (g = (0 : Int)))) P = P := by
 rw [decide_eq_false h]; rfl
theorem wuN {n : Nat} (h : (n : Int) ≤ 18446744073709551615) : IntKind.u64.wrap (n : Int) = n := wu64 ⟨by omega, h⟩
theorem tdivN (a b : Nat) : Int.tdiv (a : Int) (b : Int) = ((a / b : Nat) : Int) := by
 rw [Int.tdiv_eq_ediv_of_nonneg (by omega), Int.natCast_ediv]
theorem times_nat {a b : Nat} (ha : a ≤ 18446744073709551615) (hb : b ≤ 18446744073709551615) (K : Int → Int → Prop) :
   w_r01_times (a : Int) (b : Int) K = K (((a * b : Nat) : Int) / 18446744073709551616) (((a * b : Nat) : Int) % 18446744073709551616) := by
 rw [times_eq ⟨by omega, by omega⟩ ⟨by omega, by omega⟩, Int.natCast_mul]
theorem sMake_eq {n d : Int} (hn : I64 n) (hd : I64 d) (h0 : d ≠ 0) (K : Int → Int → Int → Prop) : w_r01_Make n d K = fitK ((n : Rat) / (d : Rat)) K := by
 unfold w_r01_Make wv_r01_Make
 have hn' := hn; have hd' := hd
 unfold I64 at hn' hd'
 have g0 : 0 < Nat.gcd n.natAbs d.natAbs := Nat.gcd_pos_of_pos_right _ (by omega)
 have q1 : n.natAbs / Nat.gcd n.natAbs d.natAbs ≤ n.natAbs := Nat.div_le_self _ _
 have q2 : d.natAbs / Nat.gcd n.natAbs d.natAbs ≤ d.natAbs := Nat.div_le_self _ _
 have hp : ∀ x : Nat, (0 : Int) ≤ x := Int.natCast_nonneg
 rw [beq_f h0, cbr_false, sAbs_eq hn, sAbs_eq hd, sgcd_eq, nz_asr (by omega), nz_asr (by omega), tdivN, tdivN, ← make_fit h0]
 obtain ⟨x, hx⟩ : ∃ x, x = n.natAbs / Nat.gcd n.natAbs d.natAbs := ⟨_, rfl⟩
 obtain ⟨y, hy⟩ : ∃ y, y = d.natAbs / Nat.gcd n.natAbs d.natAbs := ⟨_, rfl⟩
 rw [← hx] at q1 ⊢
 rw [← hy] at q2 ⊢
 rw [wuN (by omega), wuN (by omega)]
 have m := made_eq (s := (decide (n < 0) != decide (d < 0))) (X := (x : Int)) (Y := (y : Int)) (by omega) (by omega) K
 rw [← m]
 have e1 : (x : Int) / 18446744073709551616 = 0 := by omega
 have e2 : (x : Int) % 18446744073709551616 = x := by omega
 have e3 : (y : Int) / 18446744073709551616 = 0 := by omega
 have e4 : (y : Int) % 18446744073709551616 = y := by omega
 rw [e1, e2, e3, e4]
theorem small.neg {q : Rat} (hq : small q) : small (-q) := by
 obtain ⟨a1, a2, a3⟩ := hq
 unfold small
 rw [Rat.neg_num, Rat.neg_den]
 omega
theorem sLess_eq {q r : Rat} (hq : small q) (hr : small r) (K : Bool → Prop) : w_r01_Less q.num q.den r.num r.den K = K (decide (q < r)) := by
 unfold w_r01_Less wv_r01_Less
 have hq' := hq; have hr' := hr
 obtain ⟨a1, a2, a3⟩ := hq
 obtain ⟨b1, b2, b3⟩ := hr
 have dq := q.den_pos
 have dr := r.den_pos
 have e : decide (q < r) = decide (q.num * r.den < r.num * q.den) := by rw [decide_eq_decide]; exact Rat.lt_iff q r
 rw [e]
 by_cases hs : (decide (q.num < 0) != decide (r.num < 0)) = true
 · rw [hs, cbr_true]
   by_cases h1 : q.num < 0
   · have h2 : ¬ r.num < 0 := by simpa [h1] using hs
     have p1 : q.num * r.den < 0 := Int.mul_neg_of_neg_of_pos h1 (by omega)
     have p2 : 0 ≤ r.num * q.den := Int.mul_nonneg (by omega) (by omega)
     rw [decide_eq_true h1, decide_eq_true (by omega)]
   · have h2 : r.num < 0 := by simpa [h1] using hs
     have p1 : r.num * q.den < 0 := Int.mul_neg_of_neg_of_pos h2 (by omega)
     have p2 : 0 ≤ q.num * r.den := Int.mul_nonneg (by omega) (by omega)
     rw [decide_eq_false h1, decide_eq_false (by omega)]
 · have hs' : (decide (q.num < 0) != decide (r.num < 0)) = false := by simpa using hs
   rw [hs', cbr_false, sAbs_eq hq'.i1, wuN (by omega), times_nat (by omega) (by omega), sAbs_eq hr'.i1, wuN (by omega), times_nat (by omega) (by omega), lessW_eq (Int.natCast_nonneg _) (Int.natCast_nonneg _), lessW_eq (Int.natCast_nonneg _) (Int.natCast_nonneg _), Int.natCast_mul, Int.natCast_mul]
   by_cases h1 : q.num < 0
   · have h2 : r.num < 0 := by simpa [h1] using hs'
     rw [decide_eq_true h1, cbr_true, show ((q.num.natAbs : Nat) : Int) = -q.num by omega, show ((r.num.natAbs : Nat) : Int) = -r.num by omega, Int.neg_mul, Int.neg_mul]
     congr 1
     rw [decide_eq_decide]; omega
   · have h2 : ¬ r.num < 0 := by simpa [h1] using hs'
     rw [decide_eq_false h1, cbr_false, show ((q.num.natAbs : Nat) : Int) = q.num by omega, show ((r.num.natAbs : Nat) : Int) = r.num by omega]
theorem sOf_eq (n : Int) (K : Int → Int → Prop) : w_r01_Of n K = K (n : Rat).num (n : Rat).den := rfl
end Go.Pf.Vc
namespace Go.Pf.Vc
open Go Go.Pf
theorem cbT {c : Prop} [Decidable c] {P Q : Prop} (h : c) : cbr (decide c) P Q = P := by rw [decide_eq_true h, cbr_true]
theorem cbF {c : Prop} [Decidable c] {P Q : Prop} (h : ¬ c) : cbr (decide c) P Q = Q := by rw [decide_eq_false h, cbr_false]
theorem cnT {a b : Int} {P Q : Prop} (h : a ≠ b) : cbr (a != b) P Q = P := by rw [bne_t h, cbr_true]
theorem cnF {a b : Int} {P Q : Prop} (h : a = b) : cbr (a != b) P Q = Q := by rw [bne_f h, cbr_false]
theorem ceT {a b : Int} {P Q : Prop} (h : a = b) : cbr (a == b) P Q = P := by rw [beq_t h, cbr_true]
theorem ceF {a b : Int} {P Q : Prop} (h : a ≠ b) : cbr (a == b) P Q = Q := by rw [beq_f h, cbr_false]
theorem asT {c : Prop} [Decidable c] {P : Prop} (h : c) : asr (decide c) P = P := by rw [decide_eq_true h, asr_true]
theorem wib {n : Int} (h1 : -9223372036854775808 ≤ n) (h2 : n ≤ 9223372036854775807) : IntKind.i64.wrap n = n := wi64 ⟨h1, h2⟩
theorem cast1 (i : Nat) : (i : Int) + 1 = ((i + 1 : Nat) : Int) := by omega
theorem small_int {x : Int} (h : -1000000000000000000 ≤ x ∧ x ≤ 1000000000000000000) : small (x : Rat) := by
 unfold small
 rw [Rat.num_intCast, Rat.den_intCast]
 omega
def allD (dens : List Int) : Prop := ∀ d ∈ dens, 0 ≤ d ∧ d ≤ 12
def someD (dens : List Int) : Prop := ∃ d ∈ dens, 0 < d
instance (l : List Int) : Decidable (allD l) := by unfold allD; infer_instance
instance (l : List Int) : Decidable (someD l) := by unfold someD; infer_instance
def VC (len : Int) (cuts dens : List Int) : Prop :=
 1 ≤ len ∧ len ≤ 1000 ∧ 2 ≤ cuts.length ∧ cuts.length ≤ 40 ∧ dens.length + 1 = cuts.length ∧ cuts.getD 0 0 = 0 ∧ cuts.getD (cuts.length - 1) 0 = len ∧ incr cuts 0 ∧ allD dens ∧ someD dens
theorem incr_iff (l : List Int) : incr l 0 ↔ ∀ j, j < l.length → j + 1 < l.length → l.getD j 0 < l.getD (j + 1) 0 := ⟨fun h j _ h2 => h j (by omega) h2, fun h j _ h2 => h j (by omega) h2⟩
instance (l : List Int) : Decidable (incr l 0) := decidable_of_iff _ (incr_iff l).symm
instance (len : Int) (cuts dens : List Int) : Decidable (VC len cuts dens) := by unfold VC; infer_instance
def ckC (len : Int) (cuts dens : List Int) : Int := if len > 1000 ∨ cuts.length > 40 then 4 else if VC len cuts dens then 0 else 8
def PT (len : Int) (n d : Int) : Prop := RV n d ∧ 0 ≤ n ∧ n ≤ len * d
instance (len n d : Int) : Decidable (PT len n d) := by unfold PT; infer_instance
theorem PT_rat {len n d : Int} (h : PT len n d) : ∃ q : Rat, small q ∧ q.num = n ∧ (q.den : Int) = d ∧ 0 ≤ q ∧ q ≤ (len : Rat) := by
 obtain ⟨h1, h2, h3⟩ := h
 obtain ⟨q, e1, e2, e3⟩ := rv_rat h1
 refine ⟨q, e1, e2, e3, ?_, ?_⟩
 · rw [← Rat.num_nonneg, e2]; exact h2
 · rw [Rat.le_iff, e2, e3, Rat.num_intCast, Rat.den_intCast]; simpa using h3
theorem int_lt_iff (x : Int) (q : Rat) : ((x : Rat) < q) ↔ x * (q.den : Int) < q.num := by
 rw [Rat.lt_iff, Rat.num_intCast, Rat.den_intCast]; simp
end Go.Pf.Vc
namespace Go.Pf.Vc
open Go Go.Pf
section
variable {len : Int} {cuts dens : List Int}
theorem VC.step (h : VC len cuts dens) {i : Nat} (hi : i + 1 < cuts.length) : cuts.getD i 0 < cuts.getD (i + 1) 0 := h.2.2.2.2.2.2.2.1 i (Nat.zero_le _) hi
theorem VC.mono (h : VC len cuts dens) {i : Nat} : ∀ {j : Nat}, i ≤ j → j < cuts.length → cuts.getD i 0 ≤ cuts.getD j 0
 | 0, hij, _ => by have : i = 0 := by omega
                   subst this; exact Int.le_refl _
 | j + 1, hij, hj => by
   by_cases e : i = j + 1
   · subst e; exact Int.le_refl _
   · have h1 := h.mono (i := i) (j := j) (by omega) (by omega)
     have h2 := h.step (i := j) hj
     omega
theorem VC.lo (h : VC len cuts dens) {i : Nat} (hi : i < cuts.length) : 0 ≤ cuts.getD i 0 := by
 have := h.mono (Nat.zero_le i) hi
 rw [h.2.2.2.2.2.1] at this; exact this
theorem VC.hi (h : VC len cuts dens) {i : Nat} (hi : i < cuts.length) : cuts.getD i 0 ≤ len := by
 have := h.mono (i := i) (j := cuts.length - 1) (by omega) (by omega)
 rw [h.2.2.2.2.2.2.1] at this; exact this
theorem VC.den (h : VC len cuts dens) {i : Nat} (hi : i < dens.length) : 0 ≤ dens.getD i 0 ∧ dens.getD i 0 ≤ 12 := by
 rw [List.getD_eq_getElem?_getD, List.getElem?_eq_getElem hi]
 exact h.2.2.2.2.2.2.2.2.1 _ (List.getElem_mem hi)
theorem VC.l1 (h : VC len cuts dens) : dens.length + 1 = cuts.length := h.2.2.2.2.1
theorem VC.l2 (h : VC len cuts dens) : cuts.length ≤ 40 := h.2.2.2.1
theorem VC.len0 (h : VC len cuts dens) : 1 ≤ len ∧ len ≤ 1000 := ⟨h.1, h.2.1⟩
theorem VC.sc (h : VC len cuts dens) {i : Nat} (hi : i < cuts.length) : small ((cuts.getD i 0 : Int) : Rat) := small_int (by have := h.lo hi; have := h.hi hi; have := h.len0; omega)
def totS (cuts dens : List Int) : Nat → Nat → Int → Int
 | 0, _, s => s
 | r + 1, i, s => totS cuts dens r (i + 1) (s + dens.getD i 0 * (cuts.getD (i + 1) 0 - cuts.getD i 0))
def totC (cuts dens : List Int) : Int := totS cuts dens dens.length 0 0
def fit {α : Type} (q : Rat) (k : Rat → Except Int α) : Except Int α := if small q then k q else .error 16
def valS (cuts dens : List Int) (b : Rat) : Nat → Nat → Rat → Rat → Except Int Rat
 | 0, _, _, sum => .ok sum
 | r + 1, i, p, sum =>
   let en : Rat := if b < (cuts.getD (i + 1) 0 : Int) then b else (cuts.getD (i + 1) 0 : Int)
   if dens.getD i 0 = 0 ∨ ¬ p < en then valS cuts dens b r (i + 1) (if p < en then en else p) sum
   else fit (en - p) fun l => fit (l * (dens.getD i 0 : Int)) fun w => fit (sum + w) fun s => valS cuts dens b r (i + 1) en s
def valC (cuts dens : List Int) (a b : Rat) : Except Int Rat := valS cuts dens b dens.length 0 a 0
end
end Go.Pf.Vc
namespace Go.Pf.Vc
open Go Go.Pf
def rt (n d : Int) : Rat := mkRat n d.toNat
theorem rt_self (q : Rat) : rt q.num q.den = q := by unfold rt; rw [Int.toNat_natCast, Rat.mkRat_self]
theorem rt_of {n d : Int} (h : RV n d) : small (rt n d) ∧ (rt n d).num = n ∧ ((rt n d).den : Int) = d := by
 obtain ⟨q, h1, h2, h3⟩ := rv_rat h
 subst h2 h3
 rw [rt_self]; exact ⟨h1, rfl, rfl⟩
theorem PT.pt {len n d : Int} (h : PT len n d) : small (rt n d) ∧ (rt n d).num = n ∧ ((rt n d).den : Int) = d ∧ 0 ≤ rt n d ∧ rt n d ≤ (len : Rat) := by
 obtain ⟨q, h1, h2, h3, h4, h5⟩ := PT_rat h
 subst h2 h3
 rw [rt_self]; exact ⟨h1, rfl, rfl, h4, h5⟩
theorem PT_of {len : Int} {q : Rat} (h : small q) (h0 : 0 ≤ q) (h1 : q ≤ (len : Rat)) : PT len q.num q.den := by
 refine ⟨h.rv, Rat.num_nonneg.2 h0, ?_⟩
 rw [Rat.le_iff, Rat.num_intCast, Rat.den_intCast] at h1
 simpa using h1
section
variable {len : Int} {cuts dens : List Int}
def valR (len : Int) (cuts dens : List Int) (an ad bn bd : Int) : Except Int Rat :=
 if ckC len cuts dens = 0 then (if PT len an ad ∧ PT len bn bd ∧ ¬ rt bn bd < rt an ad then valC cuts dens (rt an ad) (rt bn bd) else .error 2) else .error (ckC len cuts dens)
end
end Go.Pf.Vc
namespace Go.Pf.Vc
open Go Go.Pf
section
variable {len : Int} {cuts dens : List Int}
theorem dPoint_eq (hl : -1000000000000000000 ≤ len ∧ len ≤ 1000000000000000000) {n d : Int} (hn : I64 n) (hd : I64 d) (K : Bool → Prop) :
   w_r02_Point len n d K = K (decide (PT len n d)) := by
 unfold w_r02_Point wv_r02_Point
 rw [sCheck_eq hn hd]
 by_cases h : RV n d
 · obtain ⟨q, e1, e2, e3⟩ := rv_rat h
   rw [chk, if_pos h, ceT rfl]
   by_cases h0 : n ≥ 0
   · rw [cbT h0, sOf_eq, ← e2, ← e3, sLess_eq (small_int hl) e1]
     congr 1
     have : ((len : Rat) < q) ↔ len * (q.den : Int) < q.num := int_lt_iff _ _
     by_cases h3 : (len : Rat) < q
     · have h4 := this.1 h3
       rw [decide_eq_true h3, decide_eq_false]; rfl
       intro hp; have := hp.2.2; omega
     · have h4 : ¬ _ := fun x => h3 (this.2 x)
       rw [decide_eq_false h3, decide_eq_true]; rfl
       exact ⟨e1.rv, by omega, by omega⟩
   · rw [cbF h0, decide_eq_false]
     intro hp; have := hp.2.1; omega
 · rw [chk, if_neg h, ceF (by decide), decide_eq_false]
   intro hp; exact h hp.1
end
end Go.Pf.Vc
namespace Go.Pf.Vc
open Go Go.Pf
section
variable {len : Int} {cuts dens : List Int}
theorem add_zero (q : Rat) : q + 0 = q := by grind
end
end Go.Pf.Vc
namespace Go.Pf.Vc
open Go Go.Pf
structure Ck where
 len : Int
 cuts : List Int
 dens : List Int
instance : Inhabited Ck := ⟨⟨0, [], []⟩⟩
def Ck.fin (c : Ck) : Prop := c.cuts.length < 4611686018427387904 ∧ c.dens.length < 4611686018427387904
def Ck.ok (c : Ck) : Prop := VC c.len c.cuts c.dens
instance (c : Ck) : Decidable c.ok := by unfold Ck.ok; infer_instance
theorem drop_cons {α : Type} {l : List α} {i : Nat} (d : α) (h : i < l.length) : l.drop i = l.getD i d :: l.drop (i + 1) := by
 rw [List.drop_eq_getElem_cons h, List.getD_eq_getElem?_getD, List.getElem?_eq_getElem h]; rfl
section
variable {l : List Ck}
def finC (l : List Ck) : Prop := ∀ i, i < l.length → (l.getD i default).fin
end
end Go.Pf.Vc
namespace Go.Pf.Vc
open Go Go.Pf
section
variable {l : List Ck}
structure DK (l : List Ck) : Prop where
 n6 : l.length ≤ 6
 n0 : 1 ≤ l.length
 ok : ∀ i, i < l.length → (l.getD i default).ok
 len : ∀ i, i < l.length → (l.getD i default).len = (l.getD 0 default).len
theorem DK.fin {l : List Ck} (h : DK l) : finC l := fun i hi => by
 have h1 := (h.ok i hi).l1; have h2 := (h.ok i hi).l2
 exact ⟨by omega, by omega⟩
def qrow (agent kind an ad bn bd cn cd : Int) : PV := .agg [.int .i64 agent, .int .u8 kind, .int .i64 an, .int .i64 ad, .int .i64 bn, .int .i64 bd, .int .i64 cn, .int .i64 cd]
def Ck.value (an ad bn bd : Int) (c : Ck) : Except Int Rat := valR c.len c.cuts c.dens an ad bn bd
end
end Go.Pf.Vc
namespace Go.Pf.Vc
open Go Go.Pf
section
variable {l : List Ck}
def shr (c : Ck) (n : Int) : Rat := (totC c.cuts c.dens : Rat) / (n : Rat)
theorem small_div {n d : Int} (hn : -1000000000000000000 ≤ n ∧ n ≤ 1000000000000000000) (hd : 1 ≤ d ∧ d ≤ 1000000000000000000) : small ((n : Rat) / (d : Rat)) := by
 have e : (n : Rat) / (d : Rat) = mkRat n d.toNat := by
   rw [Rat.mkRat_eq_div]
   have h1 : ((d.toNat : Nat) : Int) = d := by omega
   have h2 : ((d.toNat : Nat) : Rat) = (d : Rat) := by rw [← Rat.intCast_natCast, h1]
   rw [h2]
 rw [e]
 unfold small
 rw [Rat.num_mkRat, Rat.den_mkRat, if_neg (by omega), if_neg (by omega)]
 have g0 : 0 < d.toNat.gcd n.natAbs := Nat.gcd_pos_of_pos_left _ (by omega)
 have h1 : (n / (d.toNat.gcd n.natAbs : Nat)).natAbs ≤ n.natAbs := by
   rw [Int.natAbs_ediv_of_dvd, Int.natAbs_natCast]
   · exact Nat.div_le_self _ _
   · rw [← Int.dvd_natAbs, Int.ofNat_dvd]; exact Nat.gcd_dvd_right _ _
 have h2 : d.toNat / d.toNat.gcd n.natAbs ≤ d.toNat := Nat.div_le_self _ _
 generalize n / (d.toNat.gcd n.natAbs : Nat) = x at *
 generalize d.toNat / d.toNat.gcd n.natAbs = y at *
 omega
end
end Go.Pf.Vc
namespace Go.Pf.Vc
open Go Go.Pf
def Fr (D B : Int) (q : Rat) : Prop := ∃ n : Int, -B ≤ n ∧ n ≤ B ∧ q = (n : Rat) / (D : Rat)
theorem Fr.small {D B : Int} {q : Rat} (h : Fr D B q) (hD : 1 ≤ D ∧ D ≤ 1000000000000000000) (hB : B ≤ 1000000000000000000) : small q := by
 obtain ⟨n, h1, h2, rfl⟩ := h
 exact small_div ⟨by omega, by omega⟩ hD
theorem Fr.add {D B1 B2 : Int} {q r : Rat} (h : Fr D B1 q) (k : Fr D B2 r) : Fr D (B1 + B2) (q + r) := by
 obtain ⟨n, h1, h2, rfl⟩ := h
 obtain ⟨m, k1, k2, rfl⟩ := k
 exact ⟨n + m, by omega, by omega, by rw [Rat.intCast_add]; grind⟩
theorem Fr.sub {D B1 B2 : Int} {q r : Rat} (h : Fr D B1 q) (k : Fr D B2 r) : Fr D (B1 + B2) (q - r) := by
 obtain ⟨n, h1, h2, rfl⟩ := h
 obtain ⟨m, k1, k2, rfl⟩ := k
 exact ⟨n - m, by omega, by omega, by rw [Rat.intCast_sub]; grind⟩
theorem Fr.mono {D B1 B2 : Int} {q : Rat} (h : Fr D B1 q) (hb : B1 ≤ B2) : Fr D B2 q := by
 obtain ⟨n, h1, h2, e⟩ := h
 exact ⟨n, by omega, by omega, e⟩
section
variable {len : Int} {cuts dens : List Int}
def rem (cuts dens : List Int) : Nat → Nat → Int
 | 0, _ => 0
 | r + 1, i => dens.getD i 0 * (cuts.getD (i + 1) 0 - cuts.getD i 0) + rem cuts dens r (i + 1)
end
end Go.Pf.Vc
namespace Go.Pf.Vc
open Go Go.Pf
structure Qy where
 agent : Int
 kind : Int
 an : Int
 ad : Int
 bn : Int
 bd : Int
 cn : Int
 cd : Int
 deriving DecidableEq
instance : Inhabited Qy := ⟨⟨0, 0, 0, 0, 0, 0, 0, 0⟩⟩
def encQ (q : Qy) : PV := qrow q.agent q.kind q.an q.ad q.bn q.bd q.cn q.cd
def logs (l : List Qy) : List PV := l.map encQ
theorem logs_len (l : List Qy) : (logs l).length = l.length := List.length_map ..
theorem logs_at {l : List Qy} {i : Nat} (h : i < l.length) : List.getD (logs l) i .nils = encQ (l.getD i default) := by
 unfold logs
 rw [List.getD_eq_getElem?_getD, List.getD_eq_getElem?_getD, List.getElem?_map, List.getElem?_eq_getElem h]
 rfl
theorem asQ {q : Qy} {P : Prop} : asr (conf (.agg [.i .i64, .i .u8, .i .i64, .i .i64, .i .i64, .i .i64, .i .i64, .i .i64]) (encQ q)) P = P := rfl
structure Sp where
 a : Int
 b : Int
 c : Int
 d : Int
 deriving DecidableEq
instance : Inhabited Sp := ⟨⟨0, 0, 0, 0⟩⟩
def encS (s : Sp) : PV := .agg [.int .i64 s.a, .int .i64 s.b, .int .i64 s.c, .int .i64 s.d]
def spans (l : List Sp) : List PV := l.map encS
theorem spans_len (l : List Sp) : (spans l).length = l.length := List.length_map ..
theorem spans_at {l : List Sp} {i : Nat} (h : i < l.length) : List.getD (spans l) i .nils = encS (l.getD i default) := by
 unfold spans
 rw [List.getD_eq_getElem?_getD, List.getD_eq_getElem?_getD, List.getElem?_map, List.getElem?_eq_getElem h]
 rfl
theorem asS {s : Sp} {P : Prop} : asr (conf (.agg [.i .i64, .i .i64, .i .i64, .i .i64]) (encS s)) P = P := rfl
end Go.Pf.Vc
namespace Go.Pf.Vc
open Go Go.Pf
section
variable {l : List Ck}
theorem cmpQ_ge (x y : Rat) : decide (cmpQ x y ≥ 0) = !decide (x < y) := by
 unfold cmpQ
 by_cases h : x < y
 · simp [h]
 · by_cases h2 : y < x <;> simp [h, h2]
end
end Go.Pf.Vc
namespace Go.Pf.Vc
open Go Go.Pf
def dsR : DS := .a [.i .i64, .i .i64]
def dsQ : DS := .a [.i .i64, .i .u8, dsR, dsR, dsR]
theorem inK_i64 {n : Int} (h : inK .i64 n) : I64 n := by
 have e1 : IntKind.i64.min = -9223372036854775808 := by decide
 have e2 : IntKind.i64.max = 9223372036854775807 := by decide
 unfold inK at h
 rw [e1, e2] at h
 exact h
theorem F_i {c : List PV} (h : HasF (.i .i64) c) : ∃ n, c = [.int .i64 n] ∧ I64 n := by
 simp only [HasF] at h
 obtain ⟨n, e, k⟩ := h
 exact ⟨n, e, inK_i64 k⟩
theorem ints_of : ∀ (rows : List PV), (∀ x ∈ rows, x.isAgg = (DS.i .i64).isA ∧ HasF (.i .i64) x.cells) → ∃ l : List Int, rows = ints l ∧ ∀ n ∈ l, I64 n
 | [], _ => ⟨[], rfl, by simp⟩
 | x :: r, h => by
   obtain ⟨l, e, hl⟩ := ints_of r (fun y hy => h y (List.mem_cons_of_mem _ hy))
   obtain ⟨h1, h2⟩ := h x (List.mem_cons_self ..)
   obtain ⟨n, e2, hn⟩ := F_i h2
   have ex : x = .int .i64 n := by
     cases x <;> first | (simp only [PV.cells, List.cons.injEq, and_true] at e2; exact e2) | (cases h1)
   refine ⟨n :: l, by rw [ex, e]; rfl, ?_⟩
   intro m hm
   rcases List.mem_cons.1 hm with rfl | hm
   · exact hn
   · exact hl m hm
def Ck.i64 (c : Ck) : Prop := I64 c.len ∧ (∀ n ∈ c.cuts, I64 n) ∧ ∀ n ∈ c.dens, I64 n
theorem agg_of {x : PV} {l : List DS} (h : x.isAgg = (DS.a l).isA) : x = .agg x.cells := by
 cases x <;> first | rfl | cases h
theorem single_of {x y : PV} (h : x.isAgg = false) (e : x.cells = [y]) : x = y := by
 cases x <;> first | (simp only [PV.cells, List.cons.injEq, and_true] at e; exact e) | cases h
end Go.Pf.Vc
namespace Go.Pf.Vc
abbrev RS : Type := Rat × Rat
def canon : List RS → Prop
 | [] => True
 | s :: r => s.1 < s.2 ∧ (∀ t ∈ r, s.2 < t.1) ∧ canon r
end Go.Pf.Vc
namespace Go.Pf.Vc
def incrR : List Rat → Prop
 | [] => True
 | x :: r => (∀ y ∈ r, x < y) ∧ incrR r
def jn (f : Rat → Bool) : List Rat → Option RS → List RS
 | x :: y :: r, none => if f x then jn f (y :: r) (some (x, y)) else jn f (y :: r) none
 | x :: y :: r, some c => if f x then (if c.2 = x then jn f (y :: r) (some (c.1, y)) else c :: jn f (y :: r) (some (x, y))) else jn f (y :: r) (some c)
 | _, none => []
 | _, some c => [c]
end Go.Pf.Vc
namespace Go.Pf.Vc
def insR (p : Rat) : List Rat → List Rat
 | [] => [p]
 | x :: r => if p = x then x :: r else if p < x then p :: x :: r else x :: insR p r
theorem insR_mem {p z : Rat} : ∀ (l : List Rat), z ∈ insR p l ↔ (z = p ∨ z ∈ l)
 | [] => by unfold insR; simp
 | x :: r => by
   unfold insR
   by_cases h : p = x
   · rw [if_pos h]
     subst h
     simp
   · rw [if_neg h]
     by_cases h2 : p < x
     · rw [if_pos h2]; simp
     · rw [if_neg h2, List.mem_cons, insR_mem r, List.mem_cons]
       constructor
       · rintro (h | h | h)
         · exact .inr (.inl h)
         · exact .inl h
         · exact .inr (.inr h)
       · rintro (h | h | h)
         · exact .inr (.inl h)
         · exact .inl h
         · exact .inr (.inr h)
theorem insR_incr {p : Rat} : ∀ (l : List Rat), incrR l → incrR (insR p l)
 | [], _ => ⟨by simp, trivial⟩
 | x :: r, h => by
   unfold insR
   by_cases h1 : p = x
   · rw [if_pos h1]; exact h
   · rw [if_neg h1]
     by_cases h2 : p < x
     · rw [if_pos h2]
       refine ⟨fun y hy => ?_, h⟩
       rcases List.mem_cons.1 hy with rfl | hy
       · exact h2
       · have := h.1 y hy; grind
     · rw [if_neg h2]
       refine ⟨fun y hy => ?_, insR_incr r h.2⟩
       rcases (insR_mem r).1 hy with rfl | hy
       · grind
       · exact h.1 y hy
def endsR : List RS → List Rat → List Rat
 | [], out => out
 | s :: a, out => endsR a (insR s.2 (insR s.1 out))
theorem endsR_incr : ∀ (a : List RS) (out : List Rat), incrR out → incrR (endsR a out)
 | [], _, h => h
 | _ :: a, _, h => endsR_incr a _ (insR_incr _ (insR_incr _ h))
end Go.Pf.Vc
namespace Go.Pf.Vc
open Go Go.Pf
def Sp.rs (s : Sp) : RS := (rt s.a s.b, rt s.c s.d)
def Sp.ok (s : Sp) : Prop := RV s.a s.b ∧ RV s.c s.d ∧ rt s.a s.b < rt s.c s.d
instance (s : Sp) : Decidable s.ok := by unfold Sp.ok; infer_instance
def Sp.i64 (s : Sp) : Prop := I64 s.a ∧ I64 s.b ∧ I64 s.c ∧ I64 s.d
theorem cmpQ_neg (q r : Rat) : decide (cmpQ q r < 0) = decide (q < r) := by
 unfold cmpQ
 by_cases h : q < r
 · rw [if_pos h]; simp [h]
 · rw [if_neg h]
   split <;> simp [h]
theorem cmpQ_le (q r : Rat) : decide (cmpQ q r ≤ 0) = !decide (r < q) := by
 unfold cmpQ
 by_cases h : q < r
 · have : ¬ r < q := by grind
   rw [if_pos h]; simp [this]
 · rw [if_neg h]
   by_cases h2 : r < q
   · rw [if_pos h2]; simp [h2]
   · rw [if_neg h2]; simp [h2]
end Go.Pf.Vc
namespace Go.Pf.Vc
open Go Go.Pf
theorem asSp {s : Sp} {P : Prop} : asr (conf (.agg [.i .i64, .i .i64, .i .i64, .i .i64]) (encS s)) P = P := rfl
def allOkB (l : List Sp) : Bool := l.all fun s => decide s.ok
def allE (l : List Sp) : Int := if l.length > 60 then 4 else if allOkB l then 0 else 8
end Go.Pf.Vc
namespace Go.Pf.Vc
open Go Go.Pf
def gapB : Sp → List Sp → Bool
 | _, [] => true
 | s, t :: r => decide (s.rs.2 < t.rs.1) && gapB t r
def rsL (l : List Sp) : List RS := l.map Sp.rs
def pieceE (l : List Sp) : Int := if allE l = 0 then (match l with | [] => 0 | s :: r => if gapB s r then 0 else 8) else allE l
theorem allE_zero {l : List Sp} (h : allE l = 0) : l.length ≤ 60 ∧ ∀ s ∈ l, s.ok := by
 unfold allE at h
 split at h
 · cases h
 · split at h
   · rename_i h1 h2
     exact ⟨by omega, fun s hs => by simpa using List.all_eq_true.1 h2 s hs⟩
   · cases h
end Go.Pf.Vc
namespace Go.Pf.Vc
open Go Go.Pf
theorem gap_canon : ∀ (r : List Sp) (s : Sp), s.ok → (∀ t ∈ r, t.ok) → (gapB s r = true ↔ canon (rsL (s :: r)))
 | [], s, hs, _ => ⟨fun _ => ⟨hs.2.2, by simp, trivial⟩, fun _ => rfl⟩
 | t :: r, s, hs, h => by
   have ht := h t List.mem_cons_self
   have ih := gap_canon r t ht fun u hu => h u (List.mem_cons_of_mem _ hu)
   unfold gapB
   rw [Bool.and_eq_true, decide_eq_true_eq, ih]
   constructor
   · rintro ⟨h1, h2⟩
     refine ⟨hs.2.2, fun u hu => ?_, h2⟩
     rcases List.mem_cons.1 hu with rfl | hu
     · exact h1
     · have := h2.2.1 u hu
       have := h2.1
       show s.rs.2 < u.1
       grind
   · rintro ⟨_, h2, h3⟩
     exact ⟨h2 _ List.mem_cons_self, h3⟩
end Go.Pf.Vc
namespace Go.Pf.Vc
open Go Go.Pf
def bothE (a b : List Sp) : Int := if pieceE a = 0 then pieceE b else pieceE a
end Go.Pf.Vc
namespace Go.Pf.Vc
open Go Go.Pf Go.Sort
theorem rvB_iff {n d : Int} : rvB n d = true ↔ RV n d := by
 unfold rvB RV
 simp only [Bool.and_eq_true, decide_eq_true_eq]
theorem cmpI_lt {a b c d : Int} (h : RV a b) (k : RV c d) : cmpI a b c d < 0 ↔ rt a b < rt c d := by
 obtain ⟨_, h2, h3⟩ := rt_of h
 obtain ⟨_, k2, k3⟩ := rt_of k
 rw [Rat.lt_iff, h2, h3, k2, k3]
 unfold cmpI
 by_cases h : a * d < c * b
 · rw [if_pos h]; simp [h]
 · rw [if_neg h]
   split <;> simp [h]
def ratOf : PV → Rat
 | .agg (.int _ a :: .int _ b :: _) => rt a b
 | _ => 0
theorem rows_some {s : Srt} : ∀ {l : List PV}, (∀ x ∈ l, s.gd x = true) → ∃ d, s.rows? l = some d
 | [], _ => ⟨[], rfl⟩
 | x :: r, h => by
   obtain ⟨d, hd⟩ := rows_some (s := s) (l := r) fun y hy => h y (List.mem_cons_of_mem _ hy)
   refine ⟨⟨x, h x List.mem_cons_self⟩ :: d, ?_⟩
   simp only [Srt.rows?]
   rw [dif_pos (h x List.mem_cons_self), hd]
theorem RV.i1 {n d : Int} (h : RV n d) : I64 n := by obtain ⟨h1, h2, h3, h4, _⟩ := h; exact ⟨by omega, by omega⟩
theorem RV.i2 {n d : Int} (h : RV n d) : I64 d := by obtain ⟨h1, h2, h3, h4, _⟩ := h; exact ⟨by omega, by omega⟩
theorem Sp.ok.i64 {s : Sp} (h : s.ok) : s.i64 := ⟨h.1.i1, h.1.i2, h.2.1.i1, h.2.1.i2⟩
end Go.Pf.Vc
namespace Go.Pf.Vc
open Go Go.Pf
def spOf (r : RS) : Sp := ⟨r.1.num, r.1.den, r.2.num, r.2.den⟩
def rsp (l : List RS) : List PV := spans (l.map spOf)
def smallS (r : RS) : Prop := small r.1 ∧ small r.2
theorem rsp_len (l : List RS) : (rsp l).length = l.length := by unfold rsp; rw [spans_len, List.length_map]
def encR (r : RS) : PV := encS (spOf r)
theorem rsp_at {l : List RS} {i : Nat} (h : i < l.length) : List.getD (rsp l) i .nils = encR (l.getD i default) := by
 unfold rsp
 rw [spans_at (by rw [List.length_map]; exact h)]
 unfold encR
 congr 1
 rw [List.getD_eq_getElem?_getD, List.getD_eq_getElem?_getD, List.getElem?_map, List.getElem?_eq_getElem h]
 rfl
theorem encR0 (r : RS) : intOfV (cellAt (encR r) 0) = r.1.num := rfl
theorem encR1 (r : RS) : intOfV (cellAt (encR r) 1) = r.1.den := rfl
theorem encR2 (r : RS) : intOfV (cellAt (encR r) 2) = r.2.num := rfl
theorem encR3 (r : RS) : intOfV (cellAt (encR r) 3) = r.2.den := rfl
theorem asR (r : RS) (P : Prop) : asr (conf (.agg [.i .i64, .i .i64, .i .i64, .i .i64]) (encR r)) P = P := rfl
theorem asE {α : Type} [DecidableEq α] (a : α) (P : Prop) : asr (decide (a = a)) P = P := by rw [decide_eq_true rfl, asr_true]
theorem asEE {α : Type} [DecidableEq α] (a : α) (b : Bool) (P : Prop) : asr (decide (a = a) && b) P = asr b P := by rw [decide_eq_true rfl, Bool.true_and]
theorem asNo {c : Prop} [Decidable c] {P : Prop} (h : ¬ c) : asr (!decide c) P = P := by rw [decide_eq_false h]; rfl
theorem asTr (P : Prop) : asr (decide True) P = P := by rw [decide_true]; rfl
theorem smallS_mem {l : List RS} (h : ∀ s ∈ l, smallS s) {i : Nat} (hi : i < l.length) : smallS (l.getD i default) := by
 rw [List.getD_eq_getElem?_getD, List.getElem?_eq_getElem hi]
 exact h _ (List.getElem_mem hi)
theorem rs_spOf {r : RS} (_ : smallS r) : (spOf r).rs = r := by
 show (rt r.1.num r.1.den, rt r.2.num r.2.den) = r
 rw [rt_self, rt_self]
theorem spOf_ok {r : RS} (h : smallS r) (hv : r.1 < r.2) : (spOf r).ok := ⟨h.1.rv, h.2.rv, by
 show rt r.1.num r.1.den < rt r.2.num r.2.den
 rw [rt_self, rt_self]; exact hv⟩
end Go.Pf.Vc
namespace Go.Pf.Vc
open Go Go.Pf
theorem sLess_rv {a b c d : Int} (h : RV a b) (k : RV c d) (K : Bool → Prop) : w_r01_Less a b c d K = K (decide (rt a b < rt c d)) := by
 obtain ⟨h1, h2, h3⟩ := rt_of h
 obtain ⟨k1, k2, k3⟩ := rt_of k
 have := sLess_eq h1 k1 K
 rw [h2, h3, k2, k3] at this
 exact this
def inB (l : List RS) (p : Rat) : Bool := l.any fun s => !decide (p < s.1) && decide (p < s.2)
end Go.Pf.Vc
namespace Go.Pf.Vc
open Go Go.Pf
def encW (q : Rat) : PV := .agg [.int .i64 q.num, .int .i64 q.den]
def rts (l : List Rat) : List PV := l.map encW
theorem rts_len (l : List Rat) : (rts l).length = l.length := List.length_map ..
theorem rts_at {l : List Rat} {i : Nat} (h : i < l.length) : List.getD (rts l) i .nils = encW (l.getD i 0) := by
 unfold rts
 rw [List.getD_eq_getElem?_getD, List.getD_eq_getElem?_getD, List.getElem?_map, List.getElem?_eq_getElem h]
 rfl
theorem encW0 (q : Rat) : intOfV (cellAt (encW q) 0) = q.num := rfl
theorem encW1 (q : Rat) : intOfV (cellAt (encW q) 1) = q.den := rfl
theorem asW (q : Rat) (P : Prop) : asr (conf (.agg [.i .i64, .i .i64]) (encW q)) P = P := rfl
theorem encW_is (q : Rat) : (.agg [.int .i64 q.num, .int .i64 q.den] : PV) = encW q := rfl
theorem rts_app (a b : List Rat) : rts a ++ rts b = rts (a ++ b) := by unfold rts; rw [List.map_append]
theorem rts_set (l : List Rat) (i : Nat) (q : Rat) : List.set (rts l) i (encW q) = rts (l.set i q) := by unfold rts; rw [List.map_set]
theorem rts_take (l : List Rat) (n : Nat) : List.take n (rts l) = rts (l.take n) := by unfold rts; rw [List.map_take]
theorem ratEq (a b : Rat) : ((a.num == b.num) && (((a.den : Int) == (b.den : Int)) && true)) = decide (a = b) := by
 rw [Bool.and_true, Bool.eq_iff_iff]
 simp only [Bool.and_eq_true, beq_iff_eq, decide_eq_true_eq]
 constructor
 · rintro ⟨h1, h2⟩; exact Rat.ext h1 (by omega)
 · rintro rfl; exact ⟨rfl, rfl⟩
theorem getD_ratMem {l : List Rat} {i : Nat} (h : i < l.length) : l.getD i 0 ∈ l := by
 rw [List.getD_eq_getElem?_getD, List.getElem?_eq_getElem h]
 exact List.getElem_mem h
end Go.Pf.Vc
namespace Go.Pf.Vc
open Go Go.Pf
theorem insR_len {q : Rat} : ∀ (out : List Rat), (insR q out).length ≤ out.length + 1
 | [] => Nat.le_refl _
 | x :: r => by
   unfold insR
   split
   · simp
   · split
     · simp
     · have := insR_len (q := q) r
       simp only [List.length_cons]; omega
theorem endsR_len : ∀ (l : List RS) (out : List Rat), (endsR l out).length ≤ out.length + 2 * l.length
 | [], _ => Nat.le_refl _
 | s :: a, out => by
   have h1 := endsR_len a (insR s.2 (insR s.1 out))
   have h2 := insR_len (q := s.2) (insR s.1 out)
   have h3 := insR_len (q := s.1) out
   show (endsR a _).length ≤ _
   simp only [List.length_cons]; omega
end Go.Pf.Vc
namespace Go.Pf.Vc
open Go Go.Pf
theorem canon_lt {l : List RS} (h : canon l) : ∀ s ∈ l, s.1 < s.2 := by
 induction l with
 | nil => intro s hs; cases hs
 | cons t r ih =>
   intro s hs
   rcases List.mem_cons.1 hs with rfl | hs
   · exact h.1
   · exact ih h.2.2 s hs
end Go.Pf.Vc
namespace Go.Pf.Vc
open Go Go.Pf
theorem cmpI_Q {a b c d : Int} (h : RV a b) (k : RV c d) : cmpI a b c d = cmpQ (rt a b) (rt c d) := by
 obtain ⟨_, h2, h3⟩ := rt_of h
 obtain ⟨_, k2, k3⟩ := rt_of k
 unfold cmpI cmpQ
 simp only [Rat.lt_iff, h2, h3, k2, k3]
end Go.Pf.Vc
namespace Go.Pf.Vc
open Go Go.Pf
structure Pc (l : List RS) : Prop where
 c : canon l
 s : ∀ s ∈ l, smallS s
 n : l.length ≤ 60
theorem rsL_spOf {l : List RS} (h : ∀ s ∈ l, smallS s) : rsL (l.map spOf) = l := by
 induction l with
 | nil => rfl
 | cons s r ih =>
   show (spOf s).rs :: rsL (r.map spOf) = _
   rw [rs_spOf (h s List.mem_cons_self), ih fun t ht => h t (List.mem_cons_of_mem _ ht)]
theorem Pc.ok {l : List RS} (h : Pc l) : ∀ s ∈ l.map spOf, s.ok := fun s hs => by
 obtain ⟨t, ht, rfl⟩ := List.mem_map.1 hs
 exact spOf_ok (h.s t ht) (canon_lt h.c t ht)
theorem Pc.i64 {l : List RS} (h : Pc l) : ∀ s ∈ l.map spOf, s.i64 := fun s hs => by
 obtain ⟨t, ht, rfl⟩ := List.mem_map.1 hs
 have := h.s t ht
 exact ⟨this.1.i1, this.1.i2, this.2.i1, this.2.i2⟩
theorem Pc.e {l : List RS} (h : Pc l) : pieceE (l.map spOf) = 0 := by
 have hl := h.n
 have ho := h.ok
 have hc := h.c
 rw [← rsL_spOf h.s] at hc
 have h1 : allOkB (l.map spOf) = true := List.all_eq_true.2 fun s hs => decide_eq_true (ho s hs)
 have h2 : allE (l.map spOf) = 0 := by
   unfold allE
   rw [if_neg (by rw [List.length_map]; omega), h1, if_pos rfl]
 unfold pieceE
 rw [h2]
 cases l with
 | nil => rfl
 | cons s r =>
   have hg : gapB (spOf s) (r.map spOf) = true := (gap_canon _ _ (ho _ (by simp)) (fun t ht => ho t (List.mem_cons_of_mem _ ht))).2 hc
   show (if (0 : Int) = 0 then (if gapB (spOf s) (r.map spOf) then 0 else 8) else _) = _
   rw [if_pos rfl, hg, if_pos rfl]
theorem Pc.both {a b : List RS} (ha : Pc a) (hb : Pc b) : bothE (a.map spOf) (b.map spOf) = 0 := by
 unfold bothE
 rw [ha.e, if_pos rfl, hb.e]
end Go.Pf.Vc
namespace Go.Pf.Vc
open Go Go.Pf
def sumO (v : RS → Rat) : List RS → Rat → Option Rat
 | [], q => some q
 | s :: r, q => if small (v s) ∧ small (q + v s) then sumO v r (q + v s) else none
def optK (o : Option Rat) (K : Int → Int → Int → Prop) : Prop := match o with | some q => K q.num q.den 0 | none => K 0 0 16
theorem small_zero : small 0 := by decide +kernel
end Go.Pf.Vc
namespace Go.Pf.Vc
open Go Go.Pf
theorem nz (P Q : Prop) : cbr ((0 : Int) != 0) P Q = Q := rfl
end Go.Pf.Vc
namespace Go.Pf.Vc
open Go Go.Pf
def outW (w : (Int → Int → Int → Prop) → Prop) (t : Rat) : Prop := (∃ c, c ≠ 0 ∧ ∀ K, w K = K 0 0 c) ∨ (small t ∧ ∀ K, w K = K t.num t.den 0)
theorem outW.const {w : (Int → Int → Int → Prop) → Prop} {t : Rat} (h : outW w t) (P : Prop) : w (fun _ _ _ => P) = P := by
 rcases h with ⟨c, _, q⟩ | ⟨_, q⟩ <;> rw [q]
end Go.Pf.Vc
namespace Go.Pf.Vc
open Go Go.Pf
abbrev Rl : Type := Nat × Nat × Int
def hAt (h : List Int) (i : Nat) : Int := h.getD i 0
def relax (r : Rl) (h : List Int) : List Int := if hAt h r.1 + r.2.2 > hAt h r.2.1 then h.set r.2.1 (hAt h r.1 + r.2.2) else h
def pass (R : List Rl) (h : List Int) : List Int := R.foldl (fun h r => relax r h) h
def leH (h x : List Int) : Prop := ∀ i, hAt h i ≤ hAt x i
def rOk (R : List Rl) (k : Nat) : Prop := ∀ r ∈ R, r.1 < k ∧ r.2.1 < k
def obeys (R : List Rl) (x : List Int) : Prop := ∀ r ∈ R, hAt x r.1 + r.2.2 ≤ hAt x r.2.1
structure Sol (R : List Rl) (k : Nat) (x : List Int) : Prop where
 len : x.length = k
 pos : ∀ i, 0 ≤ hAt x i
 ob : obeys R x
theorem hAt_set {h : List Int} {j i : Nat} {v : Int} (hj : j < h.length) : hAt (h.set j v) i = if i = j then v else hAt h i := by
 unfold hAt
 rw [List.getD_eq_getElem?_getD, List.getD_eq_getElem?_getD, List.getElem?_set]
 by_cases e : j = i
 · subst e; simp [hj]
 · rw [if_neg e, if_neg (fun q => e q.symm)]
theorem relax_len (r : Rl) (h : List Int) : (relax r h).length = h.length := by unfold relax; split <;> simp
theorem relax_at {r : Rl} {h : List Int} (hr : r.2.1 < h.length) (i : Nat) : hAt (relax r h) i = if i = r.2.1 then max (hAt h i) (hAt h r.1 + r.2.2) else hAt h i := by
 unfold relax
 split
 · rename_i hg
   rw [hAt_set hr]
   split
   · rename_i e; subst e; omega
   · rfl
 · split
   · rename_i e; subst e; omega
   · rfl
theorem relax_ge {r : Rl} {h : List Int} (hr : r.2.1 < h.length) : leH h (relax r h) := by
 intro i
 rw [relax_at hr]
 split <;> omega
theorem relax_le {r : Rl} {h x : List Int} (hr : r.2.1 < h.length) (hx : leH h x) (ho : hAt x r.1 + r.2.2 ≤ hAt x r.2.1) : leH (relax r h) x := by
 intro i
 rw [relax_at hr]
 have h1 := hx i
 have h2 := hx r.1
 split
 · rename_i e; subst e; omega
 · exact h1
theorem leH.refl (h : List Int) : leH h h := fun _ => Int.le_refl _
theorem leH.trans {a b c : List Int} (h : leH a b) (k : leH b c) : leH a c := fun i => Int.le_trans (h i) (k i)
theorem leH.anti {a b : List Int} (hl : a.length = b.length) (h : leH a b) (k : leH b a) : a = b := by
 apply List.ext_getElem hl
 intro i h1 h2
 have e1 := h i
 have e2 := k i
 unfold hAt at e1 e2
 rw [List.getD_eq_getElem?_getD, List.getD_eq_getElem?_getD, List.getElem?_eq_getElem h1, List.getElem?_eq_getElem h2] at e1 e2
 simp only [Option.getD_some] at e1 e2
 omega
theorem pass_nil (h : List Int) : pass [] h = h := rfl
theorem pass_cons (r : Rl) (R : List Rl) (h : List Int) : pass (r :: R) h = pass R (relax r h) := rfl
theorem pass_append (R S : List Rl) (h : List Int) : pass (R ++ S) h = pass S (pass R h) := List.foldl_append
theorem pass_len : ∀ (R : List Rl) (h : List Int), (pass R h).length = h.length
 | [], h => rfl
 | r :: R, h => by rw [pass_cons, pass_len R, relax_len]
theorem rOk.tail {r : Rl} {R : List Rl} {k : Nat} (h : rOk (r :: R) k) : rOk R k := fun q hq => h q (List.mem_cons_of_mem _ hq)
theorem pass_ge : ∀ (R : List Rl) (h : List Int), rOk R h.length → leH h (pass R h)
 | [], h, _ => leH.refl h
 | r :: R, h, ho => by
   rw [pass_cons]
   exact (relax_ge (ho r List.mem_cons_self).2).trans (pass_ge R (relax r h) (by rw [relax_len]; exact ho.tail))
theorem pass_le {x : List Int} : ∀ (R : List Rl) (h : List Int), rOk R h.length → leH h x → obeys R x → leH (pass R h) x
 | [], h, _, hx, _ => hx
 | r :: R, h, ho, hx, hb => by
   rw [pass_cons]
   exact pass_le R _ (by rw [relax_len]; exact ho.tail) (relax_le (ho r List.mem_cons_self).2 hx (hb r List.mem_cons_self)) fun q hq => hb q (List.mem_cons_of_mem _ hq)
theorem pass_gain : ∀ (R : List Rl) (h : List Int), rOk R h.length → ∀ r ∈ R, hAt h r.1 + r.2.2 ≤ hAt (pass R h) r.2.1
 | [], _, _, r, hr => by cases hr
 | q :: R, h, ho, r, hr => by
   rw [pass_cons]
   have h1 := relax_ge (ho q List.mem_cons_self).2
   have ho' : rOk R (relax q h).length := by rw [relax_len]; exact ho.tail
   rcases List.mem_cons.1 hr with rfl | hr
   · have h2 := relax_at (ho r List.mem_cons_self).2 r.2.1
     rw [if_pos rfl] at h2
     have h3 := pass_ge R _ ho' r.2.1
     omega
   · have h2 := pass_gain R _ ho' r hr
     have h3 := h1 r.1
     omega
theorem pass_fix {R : List Rl} {h : List Int} (ho : rOk R h.length) : pass R h = h ↔ obeys R h := by
 constructor
 · intro e r hr
   have := pass_gain R h ho r hr
   rw [e] at this
   exact this
 · intro hb
   exact leH.anti (pass_len R h) (pass_le R h ho (leH.refl h) hb) (pass_ge R h ho)
theorem pass_sol {R : List Rl} {k : Nat} {h x : List Int} (ho : rOk R k) (hl : h.length = k) (hs : Sol R k x) (hx : leH h x) : leH (pass R h) x := pass_le R h (by rw [hl]; exact ho) hx hs.ob
def iterR (R : List Rl) : Nat → List Int → Option (List Int)
 | 0, _ => none
 | n + 1, h => if pass R h = h then some h else iterR R n (pass R h)
theorem iterR_sol {R : List Rl} {k : Nat} (ho : rOk R k) : ∀ (n : Nat) (h g : List Int), h.length = k → (∀ i, 0 ≤ hAt h i) → iterR R n h = some g → Sol R k g ∧ leH h g ∧ ∀ x, Sol R k x → leH h x → leH g x
 | 0, _, _, _, _, e => by cases e
 | n + 1, h, g, hl, hp, e => by
   unfold iterR at e
   split at e
   · rename_i hf
     cases e
     exact ⟨⟨hl, hp, (pass_fix (by rw [hl]; exact ho)).1 hf⟩, leH.refl _, fun _ _ hx => hx⟩
   · have hge := pass_ge R h (by rw [hl]; exact ho)
     obtain ⟨h1, h2, h3⟩ := iterR_sol ho n (pass R h) g (by rw [pass_len]; exact hl) (fun i => Int.le_trans (hp i) (hge i)) e
     exact ⟨h1, hge.trans h2, fun x hs hx => h3 x hs (pass_sol ho hl hs hx)⟩
def zeros (k : Nat) : List Int := List.replicate k 0
theorem zeros_at (k i : Nat) : hAt (zeros k) i = 0 := by
 unfold hAt zeros
 rw [List.getD_eq_getElem?_getD, List.getElem?_replicate]
 split <;> rfl
def below (k : Nat) (h x : List Int) : Nat := (List.range k).countP fun i => decide (hAt h i < hAt x i)
theorem countP_lt {α : Type} {p q : α → Bool} : ∀ {l : List α}, (∀ a ∈ l, p a = true → q a = true) → (∃ a ∈ l, q a = true ∧ p a = false) → l.countP p < l.countP q
 | [], _, ⟨_, h, _⟩ => by cases h
 | b :: l, h1, ⟨a, ha, hq, hp⟩ => by
   have hle : l.countP p ≤ l.countP q := List.countP_mono_left fun c hc => h1 c (List.mem_cons_of_mem _ hc)
   rw [List.countP_cons, List.countP_cons]
   rcases List.mem_cons.1 ha with rfl | ha
   · rw [hp, hq]; simp; omega
   · have := countP_lt (fun c hc => h1 c (List.mem_cons_of_mem _ hc)) ⟨a, ha, hq, hp⟩
     have hb := h1 b List.mem_cons_self
     cases hpb : p b with
     | false => simp; split <;> omega
     | true => rw [hb hpb]; simp; omega
theorem below_zero {k : Nat} {h x : List Int} (h1 : h.length = k) (h2 : x.length = k) (hx : leH h x) (e : below k h x = 0) : h = x := by
 refine leH.anti (h1.trans h2.symm) hx fun i => ?_
 unfold below at e
 rw [List.countP_eq_zero] at e
 by_cases hi : i < k
 · have := e i (List.mem_range.2 hi)
   simp at this
   exact this
 · unfold hAt
   rw [List.getD_eq_getElem?_getD, List.getD_eq_getElem?_getD, List.getElem?_eq_none (by omega), List.getElem?_eq_none (by omega)]
   exact Int.le_refl _
theorem below_less {R : List Rl} {k : Nat} {h s : List Int} (ho : rOk R k) (hl : h.length = k) (hp : ∀ i, 0 ≤ hAt h i) (hs : Sol R k s) (hx : leH h s) (least : ∀ x, Sol R k x → leH s x) (hb : below k h s ≠ 0) : below k (pass R h) s < below k h s := by
 have hle := pass_sol ho hl hs hx
 have hge := pass_ge R h (by rw [hl]; exact ho)
 have hex : ∃ i, i < k ∧ hAt h i < hAt s i := by
   have : 0 < below k h s := by omega
   unfold below at this
   rw [List.countP_pos_iff] at this
   obtain ⟨i, h1, h2⟩ := this
   exact ⟨i, List.mem_range.1 h1, by simpa using h2⟩
 let t : List Int := (List.range k).map fun i => if hAt h i < hAt s i then hAt s i - 1 else hAt s i
 have tl : t.length = k := by simp [t]
 have tat : ∀ i, i < k → hAt t i = if hAt h i < hAt s i then hAt s i - 1 else hAt s i := by
   intro i hi
   unfold hAt
   rw [List.getD_eq_getElem?_getD]
   simp only [t, List.getElem?_map, List.getElem?_range hi, Option.map_some, Option.getD_some]
   rfl
 have tno : ¬ Sol R k t := by
   intro hst
   obtain ⟨i, hi, h1⟩ := hex
   have h2 := least t hst i
   rw [tat i hi, if_pos h1] at h2
   omega
 have tpos : ∀ i, 0 ≤ hAt t i := by
   intro i
   by_cases hi : i < k
   · rw [tat i hi]
     have h1 := hp i
     have h2 := hs.pos i
     split <;> omega
   · unfold hAt
     rw [List.getD_eq_getElem?_getD, List.getElem?_eq_none (by omega)]
     exact Int.le_refl _
 have : ∃ r ∈ R, hAt t r.2.1 < hAt t r.1 + r.2.2 := by
   refine Classical.byContradiction fun hn => tno ⟨tl, tpos, fun r hr => ?_⟩
   refine Int.not_lt.1 fun hlt => hn ⟨r, hr, hlt⟩
 obtain ⟨r, hr, hlt⟩ := this
 have hob := hs.ob r hr
 obtain ⟨hr1, hr2⟩ := ho r hr
 rw [tat _ hr1, tat _ hr2] at hlt
 have hgain := pass_gain R h (by rw [hl]; exact ho) r hr
 have hs1 := hx r.1
 refine countP_lt (fun i _ hi => ?_) ⟨r.2.1, List.mem_range.2 hr2, ?_, ?_⟩
 · have h1 := hge i
   simp only [decide_eq_true_eq] at hi ⊢
   omega
 · simp only [decide_eq_true_eq]
   split at hlt <;> split at hlt <;> omega
 · simp only [decide_eq_false_iff_not, Int.not_lt]
   split at hlt <;> split at hlt <;> omega
theorem mem_sum : ∀ {l : List Nat} {a : Nat}, a ∈ l → a ≤ l.sum
 | [], _, h => by cases h
 | b :: l, a, h => by
   rw [List.sum_cons]
   rcases List.mem_cons.1 h with rfl | h
   · omega
   · have := mem_sum h; omega
theorem least_sol {R : List Rl} {k : Nat} (ho : rOk R k) {x : List Int} (hs : Sol R k x) : ∀ (m : Nat) (h : List Int), h.length = k → (∀ i, 0 ≤ hAt h i) → leH h x → ((List.range k).map fun i => (hAt x i - hAt h i).toNat).sum ≤ m → ∃ n g, iterR R n h = some g := by
 intro m
 induction m with
 | zero =>
   intro h hl hp hx hm
   refine ⟨1, h, ?_⟩
   unfold iterR
   rw [if_pos]
   have e : h = x := by
     refine leH.anti (hl.trans hs.len.symm) hx fun i => ?_
     by_cases hi : i < k
     · have h1 : (hAt x i - hAt h i).toNat ∈ (List.range k).map fun i => (hAt x i - hAt h i).toNat := List.mem_map.2 ⟨i, List.mem_range.2 hi, rfl⟩
       have h2 := mem_sum h1
       omega
     · unfold hAt
       rw [List.getD_eq_getElem?_getD, List.getD_eq_getElem?_getD, List.getElem?_eq_none (by have := hs.len; omega), List.getElem?_eq_none (by omega)]
       exact Int.le_refl _
   rw [e]
   exact (pass_fix (by rw [hs.len]; exact ho)).2 hs.ob
 | succ m ih =>
   intro h hl hp hx hm
   by_cases hf : pass R h = h
   · exact ⟨1, h, by unfold iterR; rw [if_pos hf]⟩
   · have hge := pass_ge R h (by rw [hl]; exact ho)
     have hle := pass_sol ho hl hs hx
     have hne : ∃ i, i < k ∧ hAt h i < hAt (pass R h) i := by
       refine Classical.byContradiction fun hn => hf (leH.anti (pass_len R h) (fun i => ?_) hge)
       by_cases hi : i < k
       · exact Int.not_lt.1 fun hlt => hn ⟨i, hi, hlt⟩
       · unfold hAt
         rw [List.getD_eq_getElem?_getD, List.getD_eq_getElem?_getD, List.getElem?_eq_none (by rw [pass_len]; omega), List.getElem?_eq_none (by omega)]
         exact Int.le_refl _
     obtain ⟨j, hj, hlt⟩ := hne
     have key : ∀ (l : List Nat), j ∈ l → (l.map fun i => (hAt x i - hAt (pass R h) i).toNat).sum < (l.map fun i => (hAt x i - hAt h i).toNat).sum := by
       intro l
       induction l with
       | nil => intro h; cases h
       | cons a l ihl =>
         intro hm
         simp only [List.map_cons, List.sum_cons]
         have g1 := hge a
         have hle2 : (l.map fun i => (hAt x i - hAt (pass R h) i).toNat).sum ≤ (l.map fun i => (hAt x i - hAt h i).toNat).sum := by
           clear hm ihl
           induction l with
           | nil => exact Nat.le_refl _
           | cons b l ih2 => simp only [List.map_cons, List.sum_cons]; have := hge b; omega
         rcases List.mem_cons.1 hm with e | hm
         · subst e
           have g2 := hle j
           omega
         · have := ihl hm
           omega
     have := key (List.range k) (List.mem_range.2 hj)
     obtain ⟨n, g, e⟩ := ih (pass R h) (by rw [pass_len]; exact hl) (fun i => Int.le_trans (hp i) (hge i)) hle (by omega)
     exact ⟨n + 1, g, by unfold iterR; rw [if_neg hf]; exact e⟩
theorem iterR_in {R : List Rl} {k : Nat} (ho : rOk R k) {s : List Int} (hs : Sol R k s) (least : ∀ x, Sol R k x → leH s x) : ∀ (n : Nat) (h : List Int), h.length = k → (∀ i, 0 ≤ hAt h i) → leH h s → below k h s ≤ n → iterR R (n + 1) h = some s
 | 0, h, hl, _, hx, hb => by
   have e := below_zero hl hs.len hx (by omega)
   subst e
   unfold iterR
   rw [if_pos ((pass_fix (by rw [hl]; exact ho)).2 hs.ob)]
 | n + 1, h, hl, hp, hx, hb => by
   unfold iterR
   by_cases hf : pass R h = h
   · rw [if_pos hf]
     have hsol : Sol R k h := ⟨hl, hp, (pass_fix (by rw [hl]; exact ho)).1 hf⟩
     rw [leH.anti (hl.trans hs.len.symm) hx (least h hsol)]
   · rw [if_neg hf]
     have hge := pass_ge R h (by rw [hl]; exact ho)
     refine iterR_in ho hs least n (pass R h) (by rw [pass_len]; exact hl) (fun i => Int.le_trans (hp i) (hge i)) (pass_sol ho hl hs hx) ?_
     by_cases h0 : below k h s = 0
     · have e := below_zero hl hs.len hx h0
       exact absurd ((pass_fix (by rw [hl]; exact ho)).2 (by rw [e]; exact hs.ob)) hf
     · have := below_less ho hl hp hs hx least h0
       omega
def bf (R : List Rl) (k : Nat) : Option (List Int) := iterR R (k + 1) (zeros k)
theorem zeros_len (k : Nat) : (zeros k).length = k := by simp [zeros]
theorem zeros_le {R : List Rl} {k : Nat} {x : List Int} (hs : Sol R k x) : leH (zeros k) x := fun i => by rw [zeros_at]; exact hs.pos i
theorem bf_some {R : List Rl} {k : Nat} (ho : rOk R k) {g : List Int} (e : bf R k = some g) : Sol R k g ∧ ∀ x, Sol R k x → leH g x := by
 obtain ⟨h1, _, h3⟩ := iterR_sol ho _ _ _ (zeros_len k) (fun i => by rw [zeros_at]; exact Int.le_refl _) e
 exact ⟨h1, fun x hx => h3 x hx (zeros_le hx)⟩
theorem bf_of {R : List Rl} {k : Nat} (ho : rOk R k) {x : List Int} (hs : Sol R k x) : ∃ g, bf R k = some g := by
 obtain ⟨n, g, e⟩ := least_sol ho hs _ (zeros k) (zeros_len k) (fun i => by rw [zeros_at]; exact Int.le_refl _) (zeros_le hs) (Nat.le_refl _)
 obtain ⟨h1, _, h3⟩ := iterR_sol ho _ _ _ (zeros_len k) (fun i => by rw [zeros_at]; exact Int.le_refl _) e
 refine ⟨g, iterR_in ho h1 (fun x hx => h3 x hx (zeros_le hx)) k (zeros k) (zeros_len k) (fun i => by rw [zeros_at]; exact Int.le_refl _) (zeros_le h1) ?_⟩
 unfold below
 have := List.countP_le_length (p := fun i => decide (hAt (zeros k) i < hAt g i)) (l := List.range k)
 rw [List.length_range] at this
 exact this
def iterP (R : List Rl) : Nat → List Int → Option (List Int)
 | 0, _ => none
 | n + 1, h => if hAt (pass R h) 0 > 0 then none else if pass R h = h then some (pass R h) else iterP R n (pass R h)
theorem iterP_some {R : List Rl} : ∀ (n : Nat) (h g : List Int), iterP R n h = some g → iterR R n h = some g ∧ hAt g 0 ≤ 0
 | 0, _, _, e => by cases e
 | n + 1, h, g, e => by
   unfold iterP at e
   unfold iterR
   split at e
   · cases e
   · rename_i h0
     split at e
     · rename_i hf
       rw [if_pos hf]
       cases e
       exact ⟨by rw [hf], by omega⟩
     · rename_i hf
       rw [if_neg hf]
       exact iterP_some n _ g e
theorem iterP_of {R : List Rl} {k : Nat} (ho : rOk R k) : ∀ (n : Nat) (h g : List Int), h.length = k → (∀ i, 0 ≤ hAt h i) → iterR R n h = some g → hAt g 0 ≤ 0 → iterP R n h = some g
 | 0, _, _, _, _, e, _ => by cases e
 | n + 1, h, g, hl, hp, e, h0 => by
   have hge := pass_ge R h (by rw [hl]; exact ho)
   obtain ⟨hs, hle, _⟩ := iterR_sol ho _ _ _ hl hp e
   have h1 := pass_sol ho hl hs hle 0
   unfold iterR at e
   unfold iterP
   rw [if_neg (by omega)]
   split at e
   · rename_i hf; rw [if_pos hf, hf]; exact e
   · rename_i hf
     rw [if_neg hf]
     exact iterP_of ho n _ g (by rw [pass_len]; exact hl) (fun i => Int.le_trans (hp i) (hge i)) e h0
def bf0 (R : List Rl) (k : Nat) : Option (List Int) := match bf R k with | some g => if hAt g 0 = 0 then some g else none | none => none
theorem iterP_bf0 {R : List Rl} {k : Nat} (ho : rOk R k) : iterP R (k + 1) (zeros k) = bf0 R k := by
 unfold bf0
 have hz : ∀ i, 0 ≤ hAt (zeros k) i := fun i => by rw [zeros_at]; exact Int.le_refl _
 cases e : bf R k with
 | some g =>
   dsimp only
   obtain ⟨hs, _⟩ := bf_some ho e
   have h0 := hs.pos 0
   by_cases hg : hAt g 0 = 0
   · rw [if_pos hg]
     exact iterP_of ho _ _ g (zeros_len k) hz e (by omega)
   · rw [if_neg hg]
     cases e2 : iterP R (k + 1) (zeros k) with
     | none => rfl
     | some g2 =>
       obtain ⟨h1, h2⟩ := iterP_some _ _ _ e2
       rw [show iterR R (k + 1) (zeros k) = bf R k from rfl, e] at h1
       cases h1
       omega
 | none =>
   dsimp only
   cases e2 : iterP R (k + 1) (zeros k) with
   | none => rfl
   | some g2 =>
     obtain ⟨h1, _⟩ := iterP_some _ _ _ e2
     rw [show iterR R (k + 1) (zeros k) = bf R k from rfl, e] at h1
     cases h1
end Go.Pf.Vc
namespace Go.Pf.Vc
open Go Go.Pf
def frQ (y : Rat) : Rat := y - (y.floor : Rat)
def rkQ (ys : List Rat) (t : Rat) : Nat := ys.countP fun z => decide (frQ z < t)
def htQ (ys : List Rat) (y : Rat) : Int := ((ys.length : Int) + 1) * y.floor + rkQ ys (frQ y)
theorem rkQ_top {ys : List Rat} {y : Rat} (h : y ∈ ys) : rkQ ys (frQ y) + 1 ≤ ys.length := by
 have h1 : ys.countP (fun z => decide (frQ z < frQ y)) < ys.countP (fun _ => true) :=
   countP_lt (fun _ _ _ => rfl) ⟨y, h, rfl, by simp⟩
 have h2 : ys.countP (fun _ => true) = ys.length := by simp
 unfold rkQ
 omega
theorem rkQ_le (ys : List Rat) {t u : Rat} (h : t ≤ u) : rkQ ys t ≤ rkQ ys u :=
 List.countP_mono_left fun z _ hz => by
   simp only [decide_eq_true_eq] at hz ⊢
   grind
theorem rkQ_lt {ys : List Rat} {y : Rat} {u : Rat} (hy : y ∈ ys) (h : frQ y < u) : rkQ ys (frQ y) + 1 ≤ rkQ ys u :=
 countP_lt (fun z _ hz => by
   simp only [decide_eq_true_eq] at hz ⊢
   grind) ⟨y, hy, by simpa using h, by simp⟩
theorem mul_step {s a b : Int} (hs : 0 ≤ s) (h : a + 1 ≤ b) : s * a + s ≤ s * b := by
 have := Int.mul_le_mul_of_nonneg_left h hs
 rw [Int.mul_add, Int.mul_one] at this
 exact this
theorem htQ_le {ys : List Rat} {y z : Rat} (hy : y ∈ ys) (h : y ≤ z) : htQ ys y ≤ htQ ys z := by
 have h1 := Rat.floor_monotone h
 have h2 := rkQ_top hy
 unfold htQ
 by_cases e : y.floor = z.floor
 · have h3 := rkQ_le ys (t := frQ y) (u := frQ z) (by unfold frQ; rw [e]; grind)
   rw [e]; omega
 · have := mul_step (s := (ys.length : Int) + 1) (by omega) (show y.floor + 1 ≤ z.floor by omega)
   omega
theorem htQ_lt {ys : List Rat} {y z : Rat} (hy : y ∈ ys) (h : y < z) : htQ ys y + 1 ≤ htQ ys z := by
 have h1 := Rat.floor_monotone (show y ≤ z by grind)
 have h2 := rkQ_top hy
 unfold htQ
 by_cases e : y.floor = z.floor
 · have h3 := rkQ_lt (u := frQ z) hy (by unfold frQ; rw [e]; grind)
   rw [e]; omega
 · have := mul_step (s := (ys.length : Int) + 1) (by omega) (show y.floor + 1 ≤ z.floor by omega)
   omega
theorem htQ_add (ys : List Rat) (y : Rat) (d : Int) : htQ ys (y + (d : Rat)) = htQ ys y + ((ys.length : Int) + 1) * d := by
 have e : (y + (d : Rat)).floor = y.floor + d := Rat.floor_add_intCast
 have e2 : frQ (y + (d : Rat)) = frQ y := by
   unfold frQ
   rw [e, Rat.intCast_add]
   grind
 unfold htQ
 rw [e, e2, Int.mul_add]
 omega
theorem htQ_zero {ys : List Rat} : htQ ys 0 = 0 := by
 have e : (0 : Rat).floor = 0 := Rat.floor_intCast 0
 have e2 : frQ 0 = 0 := by unfold frQ; rw [e]; grind
 have h : rkQ ys 0 = 0 := by
   unfold rkQ
   rw [List.countP_eq_zero]
   intro z _
   have := Rat.floor_le z
   simp only [decide_eq_true_eq]
   unfold frQ
   grind
 unfold htQ
 rw [e, e2, h]
 simp
def ruleOk (ys : List Rat) (r : Rl) : Prop :=
 (∃ d : Int, ys.getD r.2.1 0 = ys.getD r.1 0 + (d : Rat) ∧ r.2.2 = ((ys.length : Int) + 1) * d) ∨ (ys.getD r.1 0 ≤ ys.getD r.2.1 0 ∧ r.2.2 = 0) ∨ (ys.getD r.1 0 < ys.getD r.2.1 0 ∧ r.2.2 = 1)
theorem hAt_map {ys : List Rat} {f : Rat → Int} {i : Nat} (hi : i < ys.length) : hAt (ys.map f) i = f (ys.getD i 0) := by
 unfold hAt
 rw [List.getD_eq_getElem?_getD, List.getD_eq_getElem?_getD, List.getElem?_map, List.getElem?_eq_getElem hi]
 rfl
theorem mem_getD {ys : List Rat} {i : Nat} (hi : i < ys.length) : ys.getD i 0 ∈ ys := by
 rw [List.getD_eq_getElem?_getD, List.getElem?_eq_getElem hi]
 exact List.getElem_mem hi
theorem sol_of_rat {ys : List Rat} {R : List Rl} (ho : rOk R ys.length) (hr : ∀ r ∈ R, ruleOk ys r) (hp : ∀ y ∈ ys, 0 ≤ y) : Sol R ys.length (ys.map (htQ ys)) where
 len := by simp
 pos := by
   intro i
   by_cases hi : i < ys.length
   · rw [hAt_map hi]
     have hm := mem_getD hi
     have h0 : (0 : Int) ≤ (ys.getD i 0).floor := by
       rw [Rat.le_floor_iff]
       exact hp _ hm
     unfold htQ
     have := Int.mul_nonneg (show 0 ≤ (ys.length : Int) + 1 by omega) h0
     omega
   · unfold hAt
     rw [List.getD_eq_getElem?_getD, List.getElem?_eq_none (by rw [List.length_map]; omega)]
     exact Int.le_refl _
 ob := by
   intro r h
   obtain ⟨h1, h2⟩ := ho r h
   rw [hAt_map h1, hAt_map h2]
   rcases hr r h with ⟨d, e1, e2⟩ | ⟨e1, e2⟩ | ⟨e1, e2⟩
   · rw [e1, e2, htQ_add]; exact Int.le_refl _
   · have := htQ_le (mem_getD h1) e1
     omega
   · have := htQ_lt (mem_getD h1) e1
     omega
theorem bf0_of_rat {ys : List Rat} {R : List Rl} (ho : rOk R ys.length) (hr : ∀ r ∈ R, ruleOk ys r) (hp : ∀ y ∈ ys, 0 ≤ y) (h0 : ys.getD 0 0 = 0) : ∃ g, bf0 R ys.length = some g := by
 have hs := sol_of_rat ho hr hp
 obtain ⟨g, e⟩ := bf_of ho hs
 obtain ⟨h1, h2⟩ := bf_some ho e
 refine ⟨g, ?_⟩
 unfold bf0
 rw [e]
 dsimp only
 rw [if_pos]
 have h3 := h2 _ hs 0
 have h4 := h1.pos 0
 have h5 : hAt (ys.map (htQ ys)) 0 = 0 := by
   by_cases hl : 0 < ys.length
   · rw [hAt_map hl, h0, htQ_zero]
   · unfold hAt
     rw [List.getD_eq_getElem?_getD, List.getElem?_eq_none (by rw [List.length_map]; omega)]
     rfl
 omega
theorem bf0_some {R : List Rl} {k : Nat} (ho : rOk R k) {g : List Int} (e : bf0 R k = some g) : Sol R k g ∧ hAt g 0 = 0 ∧ ∀ x, Sol R k x → leH g x := by
 unfold bf0 at e
 split at e
 · rename_i g' e'
   split at e
   · rename_i h0
     cases e
     obtain ⟨h1, h2⟩ := bf_some ho e'
     exact ⟨h1, h0, h2⟩
   · cases e
 · cases e
theorem bf0_of {R : List Rl} {k : Nat} (ho : rOk R k) {x : List Int} (hs : Sol R k x) (h0 : hAt x 0 = 0) : ∃ g, bf0 R k = some g := by
 obtain ⟨g, e⟩ := bf_of ho hs
 obtain ⟨h1, h2⟩ := bf_some ho e
 refine ⟨g, ?_⟩
 unfold bf0
 rw [e]
 dsimp only
 rw [if_pos]
 have h3 := h2 _ hs 0
 have h4 := h1.pos 0
 omega
end Go.Pf.Vc
namespace Go.Pf.Vc
open Go Go.Pf
structure Cm where
 f : Rat
 t : Rat
 v : Rat
 m : Bool
instance : Inhabited Cm := ⟨⟨0, 0, 0, false⟩⟩
def encCm (c : Cm) : PV := .agg [.int .i64 c.f.num, .int .i64 c.f.den, .int .i64 c.t.num, .int .i64 c.t.den, .int .i64 c.v.num, .int .i64 c.v.den, .bool c.m]
def Qy.i64 (q : Qy) : Prop := I64 q.an ∧ I64 q.ad ∧ I64 q.bn ∧ I64 q.bd ∧ I64 q.cn ∧ I64 q.cd
theorem aorder_rv {a b c d : Int} (h : RV a b) (k : RV c d) (K : Int → Prop) : w_audit_order a b c d K = K (cmpQ (rt a b) (rt c d)) := by
 obtain ⟨h1, h2, h3⟩ := rt_of h
 obtain ⟨k1, k2, k3⟩ := rt_of k
 unfold w_audit_order wv_audit_order
 have := rCmp_eq h1 k1 (fun x _ => K x)
 rw [h2, h3, k2, k3] at this
 rw [this]
def posR (a b : Int) : Bool := decide (RV a b) && decide (0 ≤ a)
theorem pos_test {a b : Int} (ha : I64 a) (hb : I64 b) (J : Bool → Prop) : w_ratio_Check a b (fun y => cbr (y != 0) (J true) (J (decide (a < 0)))) = J (!posR a b) := by
 rw [rCheck_eq ha hb]
 unfold posR
 by_cases h : RV a b
 · rw [show chk a b = 0 from if_pos h, nz, decide_eq_true h, Bool.true_and]
   congr 1
   rw [Bool.eq_iff_iff]
   simp only [decide_eq_true_eq, Bool.not_eq_true', decide_eq_false_iff_not]
   omega
 · rw [show chk a b = 8 from if_neg h, decide_eq_false h]
   rfl
theorem pos_jn {a b : Int} (ha : I64 a) (hb : I64 b) (F : Bool → Prop) : Go.Pf.jn (fun J : Bool → Prop => w_ratio_Check a b (fun y => cbr (y != (0 : Int)) (J true) (J (decide (a < (0 : Int)))))) F = F (!posR a b) := pos_test ha hb F
def twoP (n : Int) (a b c d : Int) : Bool := decide (rt a b ≤ rt c d) && decide (rt c d ≤ (n : Rat))
def qOk (n : Int) (q : Qy) : Bool := posR q.an q.ad && (posR q.bn q.bd && (posR q.cn q.cd && (if q.kind = 1 then twoP n q.an q.ad q.bn q.bd else if q.kind = 2 then twoP n q.an q.ad q.cn q.cd else false)))
def cmOf (q : Qy) : Cm := if q.kind = 1 then ⟨rt q.an q.ad, rt q.bn q.bd, rt q.cn q.cd, false⟩ else ⟨rt q.an q.ad, rt q.cn q.cd, rt q.bn q.bd, true⟩
theorem claimed_loop {x0 : List PV → Int → Int → Int → Int → Int → Int → Int → Int → Int → Int → Int → Int → Int → Int → Int → Bool → Int → Int → Bool → Prop} {x1 : List PV → Int → Int → Int → Int → Int → Int → Bool → Bool → Prop}
   {a1 b1 a2 b2 a3 b3 : Int} (h1 : I64 a1) (k1 : I64 b1) (h2 : I64 a2) (k2 : I64 b2) (h3 : I64 a3) (k3 : I64 b3) (i1 i2 i3 i4 i5 i6 i7 i8 i9 i10 i11 i12 i13 i14 i15 : Int) (b : Bool) :
   L_audit_claimed_0_0 w_ratio_Check w_audit_order w_audit_whole x0 x1 4 [.agg [.int .i64 a1, .int .i64 b1], .agg [.int .i64 a2, .int .i64 b2], .agg [.int .i64 a3, .int .i64 b3]] i1 i2 i3 i4 i5 i6 i7 i8 i9 i10 i11 i12 i13 i14 i15 b 3 0 =
     if posR a1 b1 && (posR a2 b2 && posR a3 b3) then x0 [.agg [.int .i64 a1, .int .i64 b1], .agg [.int .i64 a2, .int .i64 b2], .agg [.int .i64 a3, .int .i64 b3]] i1 i2 i3 i4 i5 i6 i7 i8 i9 i10 i11 i12 i13 i14 i15 b 3 3 false
     else x1 [.agg [.int .i64 a1, .int .i64 b1], .agg [.int .i64 a2, .int .i64 b2], .agg [.int .i64 a3, .int .i64 b3]] 0 0 0 0 0 0 false false := by
 have e0 : IntKind.i64.wrap ((0 : Int) + 1) = 1 := by decide
 have e1 : IntKind.i64.wrap ((1 : Int) + 1) = 2 := by decide
 have e2 : IntKind.i64.wrap ((2 : Int) + 1) = 3 := by decide
 generalize hr : ([.agg [.int .i64 a1, .int .i64 b1], .agg [.int .i64 a2, .int .i64 b2], .agg [.int .i64 a3, .int .i64 b3]] : List PV) = rows
 have hl : rows.length = 3 := by rw [← hr]; rfl
 have d0 : List.getD rows (0 + (0 : Int).toNat) .nils = .agg [.int .i64 a1, .int .i64 b1] := by rw [← hr]; rfl
 have d1 : List.getD rows (0 + (1 : Int).toNat) .nils = .agg [.int .i64 a2, .int .i64 b2] := by rw [← hr]; rfl
 have d2 : List.getD rows (0 + (2 : Int).toNat) .nils = .agg [.int .i64 a3, .int .i64 b3] := by rw [← hr]; rfl
 have cw : ∀ (a b : Int) (P : Prop), asr (conf (.agg [.i .i64, .i .i64]) (.agg [.int .i64 a, .int .i64 b])) P = P := fun _ _ _ => rfl
 have c0 : ∀ a b : Int, intOfV (cellAt (.agg [.int .i64 a, .int .i64 b]) 0) = a := fun _ _ => rfl
 have c1 : ∀ a b : Int, intOfV (cellAt (.agg [.int .i64 a, .int .i64 b]) 1) = b := fun _ _ => rfl
 rw [L_audit_claimed_0_0]
 dsimp only [lt]
 simp (discharger := omega) only [hl, d0, cw, c0, c1, cbT, asT, e0, decide_true, asr_true, Bool.and_self]
 rw [pos_jn h1 k1]
 cases posR a1 b1 with
 | false => rfl
 | true =>
   rw [Bool.not_true, cbr_false, L_audit_claimed_0_0]
   dsimp only [lt]
   simp (discharger := omega) only [hl, d1, cw, c0, c1, cbT, asT, e1, decide_true, asr_true, Bool.and_self]
   rw [pos_jn h2 k2]
   cases posR a2 b2 with
   | false => rfl
   | true =>
     rw [Bool.not_true, cbr_false, L_audit_claimed_0_0]
     dsimp only [lt]
     simp (discharger := omega) only [hl, d2, cw, c0, c1, cbT, asT, e2, decide_true, asr_true, Bool.and_self]
     rw [pos_jn h3 k3]
     cases posR a3 b3 with
     | false => rfl
     | true =>
       rw [Bool.not_true, cbr_false, L_audit_claimed_0_0, cbF (by decide)]
       rfl
theorem awhole_eq (n : Int) (K : Int → Int → Prop) : w_audit_whole n K = K (n : Rat).num (n : Rat).den := rfl
theorem posR_rv {a b : Int} (h : posR a b = true) : RV a b ∧ 0 ≤ a := by
 unfold posR at h
 simpa using h
theorem small_int3 {n : Int} (h1 : -1000000000000000000 ≤ n) (h2 : n ≤ 1000000000000000000) : small (n : Rat) := ⟨h1, h2, by show ((1 : Nat) : Int) ≤ _; omega⟩
theorem two_test {n a b c d : Int} (hn : small (n : Rat)) (h : RV a b) (k : RV c d) (J : Bool → Prop) :
   w_audit_order a b c d (fun y => cbr (decide (y ≤ 0)) (w_audit_whole n (fun x z => w_audit_order c d x z (fun u => J (decide (u ≤ 0))))) (J false)) = J (twoP n a b c d) := by
 rw [aorder_rv h k, cmpQ_le]
 have hw : RV (n : Rat).num (n : Rat).den := hn.rv
 rw [awhole_eq, aorder_rv k hw, cmpQ_le, rt_self]
 unfold twoP
 rw [show decide (rt a b ≤ rt c d) = !decide (rt c d < rt a b) by rw [← decide_not]; simp [Rat.not_lt], show decide (rt c d ≤ (n : Rat)) = !decide ((n : Rat) < rt c d) by rw [← decide_not]; simp [Rat.not_lt]]
 cases decide (rt c d < rt a b) <;> rfl
theorem claimed_eq {n ag k an ad bn bd cn cd : Int} (h1 : I64 an) (h2 : I64 ad) (h3 : I64 bn) (h4 : I64 bd) (h5 : I64 cn) (h6 : I64 cd) (hn : small (n : Rat)) (K : Int → Int → Int → Int → Int → Int → Bool → Bool → Prop) :
   w_audit_claimed n ag k an ad bn bd cn cd K = if posR an ad && (posR bn bd && posR cn cd) then (if k = 1 then K an ad bn bd cn cd false (twoP n an ad bn bd) else if k = 2 then K an ad cn cd bn bd true (twoP n an ad cn cd) else K 0 0 0 0 0 0 false false) else K 0 0 0 0 0 0 false false := by
 have key : ∀ K, (if posR an ad && (posR bn bd && posR cn cd) then (if k = 1 then K an ad bn bd cn cd false (twoP n an ad bn bd) else if k = 2 then K an ad cn cd bn bd true (twoP n an ad cn cd) else K 0 0 0 0 0 0 false false) else K 0 0 0 0 0 0 false false) → w_audit_claimed n ag k an ad bn bd cn cd K := by
   intro K q
   unfold w_audit_claimed wv_audit_claimed
   refine asr_iff.2 ⟨by simp, 4, ?_⟩
   refine (claimed_loop h1 h2 h3 h4 h5 h6 ..).mpr ?_
   split at q
   · rename_i hp
     rw [if_pos hp]
     simp only [Bool.and_eq_true] at hp
     obtain ⟨p1, p2, p3⟩ := hp
     dsimp only [Go.Pf.jn]
     split at q
     · rename_i hk
       rw [ceT hk, two_test hn (posR_rv p1).1 (posR_rv p2).1 (fun b => K an ad bn bd cn cd false b)]
       exact q
     · rename_i hk
       rw [ceF hk]
       split at q
       · rename_i hk2
         rw [ceT hk2, two_test hn (posR_rv p1).1 (posR_rv p3).1 (fun b => K an ad cn cd bn bd true b)]
         exact q
       · rename_i hk2
         rw [ceF hk2]
         exact q
   · rename_i hp
     rw [if_neg hp]
     exact q
 by_cases hp : (posR an ad && (posR bn bd && posR cn cd)) = true
 · rw [if_pos hp]
   by_cases hk : k = 1
   · rw [if_pos hk]
     exact det_audit_claimed _ _ _ _ _ _ _ _ _ _ _ _ _ _ _ _ _ (fun K q => key K (by rw [if_pos hp, if_pos hk]; exact q)) K
   · rw [if_neg hk]
     by_cases hk2 : k = 2
     · rw [if_pos hk2]
       exact det_audit_claimed _ _ _ _ _ _ _ _ _ _ _ _ _ _ _ _ _ (fun K q => key K (by rw [if_pos hp, if_neg hk, if_pos hk2]; exact q)) K
     · rw [if_neg hk2]
       exact det_audit_claimed _ _ _ _ _ _ _ _ _ _ _ _ _ _ _ _ _ (fun K q => key K (by rw [if_pos hp, if_neg hk, if_neg hk2]; exact q)) K
 · rw [if_neg hp]
   exact det_audit_claimed _ _ _ _ _ _ _ _ _ _ _ _ _ _ _ _ _ (fun K q => key K (by rw [if_neg hp]; exact q)) K
structure Cm.ok (n : Int) (c : Cm) : Prop where
 f : small c.f
 t : small c.t
 v : small c.v
 f0 : 0 ≤ c.f
 v0 : 0 ≤ c.v
 ft : c.f ≤ c.t
 tn : c.t ≤ (n : Rat)
def Qy.q64 (q : Qy) : Prop := I64 q.an ∧ I64 q.ad ∧ I64 q.bn ∧ I64 q.bd ∧ I64 q.cn ∧ I64 q.cd
theorem rt_pos {a b : Int} (h : RV a b) : 0 ≤ rt a b ↔ 0 ≤ a := by
 obtain ⟨_, h2, _⟩ := rt_of h
 rw [← Rat.num_nonneg, h2]
theorem qOk_cm {n : Int} {q : Qy} (h : qOk n q = true) : (cmOf q).ok n := by
 unfold qOk at h
 simp only [Bool.and_eq_true] at h
 obtain ⟨h1, h2, h3, h4⟩ := h
 obtain ⟨r1, p1⟩ := posR_rv h1
 obtain ⟨r2, p2⟩ := posR_rv h2
 obtain ⟨r3, p3⟩ := posR_rv h3
 have s1 := (rt_of r1).1
 have s2 := (rt_of r2).1
 have s3 := (rt_of r3).1
 have q1 := (rt_pos r1).2 p1
 have q2 := (rt_pos r2).2 p2
 have q3 := (rt_pos r3).2 p3
 unfold cmOf
 by_cases hk : q.kind = 1
 · rw [if_pos hk] at h4 ⊢
   unfold twoP at h4
   simp only [Bool.and_eq_true, decide_eq_true_eq] at h4
   exact ⟨s1, s2, s3, q1, q3, h4.1, h4.2⟩
 · rw [if_neg hk] at h4 ⊢
   by_cases hk2 : q.kind = 2
   · rw [if_pos hk2] at h4
     unfold twoP at h4
     simp only [Bool.and_eq_true, decide_eq_true_eq] at h4
     exact ⟨s1, s3, s2, q1, q2, h4.1, h4.2⟩
   · rw [if_neg hk2] at h4; cases h4
theorem claimed_ok {n : Int} {q : Qy} (h64 : q.q64) (hn : small (n : Rat)) (h : qOk n q = true) (K : Int → Int → Int → Int → Int → Int → Bool → Bool → Prop) :
   w_audit_claimed n q.agent q.kind q.an q.ad q.bn q.bd q.cn q.cd K = K (cmOf q).f.num (cmOf q).f.den (cmOf q).t.num (cmOf q).t.den (cmOf q).v.num (cmOf q).v.den (cmOf q).m true := by
 obtain ⟨a1, a2, a3, a4, a5, a6⟩ := h64
 rw [claimed_eq a1 a2 a3 a4 a5 a6 hn]
 unfold qOk at h
 simp only [Bool.and_eq_true] at h
 obtain ⟨h1, h2, h3, h4⟩ := h
 obtain ⟨_, e1, e2⟩ := rt_of (posR_rv h1).1
 obtain ⟨_, e3, e4⟩ := rt_of (posR_rv h2).1
 obtain ⟨_, e5, e6⟩ := rt_of (posR_rv h3).1
 rw [if_pos (by rw [h1, h2, h3]; rfl)]
 unfold cmOf
 by_cases hk : q.kind = 1
 · rw [if_pos hk] at h4 ⊢
   rw [if_pos hk, h4]
   dsimp only
   rw [e1, e2, e3, e4, e5, e6]
 · rw [if_neg hk] at h4 ⊢
   rw [if_neg hk]
   by_cases hk2 : q.kind = 2
   · rw [if_pos hk2] at h4 ⊢
     rw [h4]
     dsimp only
     rw [e1, e2, e3, e4, e5, e6]
   · rw [if_neg hk2] at h4; cases h4
theorem claimed_no {n : Int} {q : Qy} (h64 : q.q64) (hn : small (n : Rat)) (h : qOk n q = false) {K : Int → Int → Int → Int → Int → Int → Bool → Bool → Prop} {K0 : Prop} (hK : ∀ a b c d e f g, K a b c d e f g false = K0) :
   w_audit_claimed n q.agent q.kind q.an q.ad q.bn q.bd q.cn q.cd K = K0 := by
 obtain ⟨a1, a2, a3, a4, a5, a6⟩ := h64
 rw [claimed_eq a1 a2 a3 a4 a5 a6 hn]
 unfold qOk at h
 split
 · rename_i hp
   simp only [Bool.and_eq_true] at hp
   obtain ⟨h1, h2, h3⟩ := hp
   rw [h1, h2, h3, Bool.true_and, Bool.true_and, Bool.true_and] at h
   split
   · rename_i hk; rw [if_pos hk] at h; rw [h]; exact hK ..
   · rename_i hk
     rw [if_neg hk] at h
     split
     · rename_i hk2; rw [if_pos hk2] at h; rw [h]; exact hK ..
     · exact hK ..
 · exact hK ..
end Go.Pf.Vc
namespace Go.Pf.Vc
open Go Go.Pf
def cms (l : List Cm) : List PV := l.map encCm
theorem cms_len (l : List Cm) : (cms l).length = l.length := List.length_map ..
theorem cms_at {l : List Cm} {i : Nat} (h : i < l.length) : List.getD (cms l) i .nils = encCm (l.getD i default) := by
 unfold cms
 rw [List.getD_eq_getElem?_getD, List.getD_eq_getElem?_getD, List.getElem?_map, List.getElem?_eq_getElem h]
 rfl
theorem asCm (c : Cm) (P : Prop) : asr (conf (.agg [.i .i64, .i .i64, .i .i64, .i .i64, .i .i64, .i .i64, .b]) (encCm c)) P = P := rfl
theorem encCm0 (c : Cm) : intOfV (cellAt (encCm c) 0) = c.f.num := rfl
theorem encCm1 (c : Cm) : intOfV (cellAt (encCm c) 1) = c.f.den := rfl
theorem encCm2 (c : Cm) : intOfV (cellAt (encCm c) 2) = c.t.num := rfl
theorem encCm3 (c : Cm) : intOfV (cellAt (encCm c) 3) = c.t.den := rfl
theorem encCm4 (c : Cm) : intOfV (cellAt (encCm c) 4) = c.v.num := rfl
theorem encCm5 (c : Cm) : intOfV (cellAt (encCm c) 5) = c.v.den := rfl
theorem encCm6 (c : Cm) : boolOfV (cellAt (encCm c) 6) = c.m := rfl
theorem cms_one (c : Cm) : ([.agg [.int .i64 c.f.num, .int .i64 c.f.den, .int .i64 c.t.num, .int .i64 c.t.den, .int .i64 c.v.num, .int .i64 c.v.den, .bool c.m]] : List PV) = cms [c] := rfl
theorem cms_app (a b : List Cm) : cms a ++ cms b = cms (a ++ b) := by unfold cms; rw [List.map_append]
theorem cms_take (l : List Cm) (n : Nat) : List.take n (cms l) = cms (l.take n) := by unfold cms; rw [List.map_take]
theorem encQ0 (q : Qy) : intOfV (cellAt (encQ q) 0) = q.agent := rfl
theorem encQ1 (q : Qy) : intOfV (cellAt (encQ q) 1) = q.kind := rfl
theorem encQ2 (q : Qy) : intOfV (cellAt (encQ q) 2) = q.an := rfl
theorem encQ3 (q : Qy) : intOfV (cellAt (encQ q) 3) = q.ad := rfl
theorem encQ4 (q : Qy) : intOfV (cellAt (encQ q) 4) = q.bn := rfl
theorem encQ5 (q : Qy) : intOfV (cellAt (encQ q) 5) = q.bd := rfl
theorem encQ6 (q : Qy) : intOfV (cellAt (encQ q) 6) = q.cn := rfl
theorem encQ7 (q : Qy) : intOfV (cellAt (encQ q) 7) = q.cd := rfl
theorem q64_at {log : List Qy} (h : ∀ q ∈ log, q.q64) {i : Nat} (hi : i < log.length) : (log.getD i default).q64 := by
 rw [List.getD_eq_getElem?_getD, List.getElem?_eq_getElem hi]
 exact h _ (List.getElem_mem hi)
theorem claims_loop {N : Int} (hN : small (N : Rat)) {log : List Qy} (h64 : ∀ q ∈ log, q.q64) (hl : log.length < 1000) {x0 : Int → List PV → Int → Int → Bool → Prop} {x1 : Int → Prop} {x2 : List PV → Int → List PV → Int → Int → Bool → Prop} {x3 : List PV → Int → Prop} {X : Prop} (hx3 : ∀ l, x3 l 8 = X) :
   ∀ (r i n : Nat) (acc : List Cm), i + r = log.length → r < n → acc.length ≤ i →
     L_audit_claims_0_1 w_audit_claimed x0 x1 x2 x3 n (cms acc) N (logs log) (log.length : Int) (i : Int) = if (log.drop i).all (qOk N) then x2 (cms (acc ++ (log.drop i).map cmOf)) N (logs log) (log.length : Int) (log.length : Int) false else X := by
 intro r
 induction r with
 | zero =>
   intro i n acc hi hn ha
   obtain ⟨n, rfl⟩ : ∃ m, n = m + 1 := ⟨n - 1, by omega⟩
   obtain rfl : i = log.length := by omega
   rw [L_audit_claims_0_1, cbF (by omega), List.drop_length]
   simp
 | succ r ih =>
   intro i n acc hi hn ha
   obtain ⟨n, rfl⟩ : ∃ m, n = m + 1 := ⟨n - 1, by omega⟩
   have hil : i < log.length := by omega
   have e1 := wib (n := (i : Int) + 1) (by omega) (by omega)
   have hd : log.drop i = log.getD i default :: log.drop (i + 1) := drop_cons default hil
   have hq := q64_at h64 hil
   generalize log.getD i default = q at hd hq
   have hq2 := logs_at hil
   rw [L_audit_claims_0_1, cbT (by omega)]
   dsimp only [lt]
   rw [logs_len, asT (by omega), asT (by omega), Int.toNat_natCast, hq2]
   have hge : log.getD i default = q := by
     have := congrArg List.head? hd
     rw [drop_cons default hil] at this
     simpa using this
   rw [hge, asQ, encQ0, encQ1, encQ2, encQ3, encQ4, encQ5, encQ6, encQ7, hd, List.all_cons]
   cases hk : qOk N q with
   | false =>
     rw [claimed_no hq hN hk (K0 := X) (fun a b c d e f g => by rw [Bool.not_false, cbr_true, hx3])]
     rfl
   | true =>
     rw [claimed_ok hq hN hk, Bool.not_true, cbr_false, cms_len, asE, asT (by omega), asNo (by omega), asE, asT (by show _ ≤ 35184372088832; omega), e1, cms_one, cms_app, asEE, asE, cast1, ih (i + 1) n _ (by omega) (by omega) (by simp; omega)]
     simp [List.append_assoc]
def claimsE (n : Int) (log : List Qy) : Int := if n < 1 ∨ n > 1000 then 2 else if log.length > 40 then 4 else if log.all (qOk n) then 0 else 8
theorem claims_eq {N : Int} {log : List Qy} (h64 : ∀ q ∈ log, q.q64) (hl : log.length < 1000) (K : List PV → Int → Prop) :
   w_audit_claims N (logs log) K = K (if claimsE N log = 0 then cms (log.map cmOf) else []) (claimsE N log) := by
 refine det_audit_claims _ _ _ _ (fun K k => ?_) K
 unfold w_audit_claims wv_audit_claims
 dsimp only [Go.Pf.jn]
 rw [logs_len]
 by_cases h1 : N < 1
 · have e : claimsE N log = 2 := by unfold claimsE; rw [if_pos (.inl h1)]
   rw [e] at k
   rw [cbT h1, cbr_true]; exact k
 · rw [cbF h1]
   by_cases h2 : N > 1000
   · have e : claimsE N log = 2 := by unfold claimsE; rw [if_pos (.inr h2)]
     rw [e] at k
     rw [decide_eq_true h2, cbr_true]; exact k
   · have e : claimsE N log = if log.length > 40 then 4 else if log.all (qOk N) then 0 else 8 := by unfold claimsE; rw [if_neg (by omega)]
     rw [e] at k
     clear e
     rw [decide_eq_false h2, cbr_false]
     by_cases h3 : log.length > 40
     · rw [if_pos h3] at k
       rw [cbT (by omega)]; exact k
     · rw [if_neg h3] at k
       rw [cbF (by omega)]
       have hN : small (N : Rat) := small_int3 (by omega) (by omega)
       refine ⟨log.length + 1, ?_⟩
       cases log with
       | nil =>
         rw [L_audit_claims_0_0, cbF (by simp)]
         exact k
       | cons q t =>
         have hq := h64 q List.mem_cons_self
         have e1 := wib (n := (0 : Int) + 1) (by omega) (by omega)
         have hat : List.getD (logs (q :: t)) ((0 : Int).toNat) .nils = encQ q := rfl
         rw [L_audit_claims_0_0, cbT (by simp only [List.length_cons]; omega)]
         dsimp only [lt]
         rw [logs_len, asT (by omega), asT (by simp only [List.length_cons]; omega), hat, asQ, encQ0, encQ1, encQ2, encQ3, encQ4, encQ5, encQ6, encQ7]
         rw [List.all_cons] at k
         cases hk : qOk N q with
         | false =>
           rw [hk] at k
           rw [claimed_no hq hN hk (K0 := K [] 8) (fun a b c d e f g => by rw [Bool.not_false, cbr_true])]
           exact k
         | true =>
           rw [hk, Bool.true_and] at k
           rw [claimed_ok hq hN hk, Bool.not_true, cbr_false, e1, cms_one]
           refine asr_iff.2 ⟨by simp [cms], ?_⟩
           refine (claims_loop (log := q :: t) hN h64 hl (X := K [] 8) (fun _ => rfl) t.length 1 _ [cmOf q] (by simp; omega) (by simp) (by simp)).mpr ?_
           simp only [List.drop_succ_cons, List.drop_zero]
           split
           · rename_i ht
             rw [if_pos ht] at k
             rw [asTr, cms_len, asT (by omega), ← cms_len, List.take_length]
             exact k
           · rename_i ht
             rw [if_neg ht] at k
             exact k
theorem claimsE_zero {N : Int} {log : List Qy} (h : claimsE N log = 0) : 1 ≤ N ∧ N ≤ 1000 ∧ log.length ≤ 40 ∧ log.all (qOk N) = true := by
 unfold claimsE at h
 split at h
 · cases h
 · split at h
   · cases h
   · split at h
     · rename_i h1 h2 h3; exact ⟨by omega, by omega, by omega, h3⟩
     · cases h
theorem claimsE_ok {N : Int} {log : List Qy} (h : claimsE N log = 0) : ∀ c ∈ log.map cmOf, c.ok N := by
 obtain ⟨_, _, _, h4⟩ := claimsE_zero h
 intro c hc
 obtain ⟨q, hq, rfl⟩ := List.mem_map.1 hc
 exact qOk_cm (List.all_eq_true.1 h4 q hq)
end Go.Pf.Vc
namespace Go.Pf.Vc
open Go Go.Pf Go.Sort
def dedR : Rat → List Rat → List Rat
 | _, [] => []
 | p, x :: r => if x = p then dedR p r else x :: dedR x r
def compR : List Rat → List Rat
 | [] => []
 | x :: r => x :: dedR x r
theorem dedR_len : ∀ (p : Rat) (r : List Rat), (dedR p r).length ≤ r.length
 | _, [] => Nat.le_refl _
 | p, x :: r => by
   unfold dedR
   split
   · have := dedR_len p r; simp only [List.length_cons]; omega
   · have := dedR_len x r; simp only [List.length_cons]; omega
theorem dedR_is : ∀ (p : Rat) (r : List Rat), (p :: r).Pairwise (· ≤ ·) → (∀ z ∈ dedR p r, p < z) ∧ incrR (dedR p r) ∧ ∀ z, z ∈ p :: dedR p r ↔ z ∈ p :: r
 | p, [], _ => ⟨fun z hz => by simp [dedR] at hz, trivial, fun z => Iff.rfl⟩
 | p, x :: r, h => by
   rw [List.pairwise_cons] at h
   obtain ⟨h1, h2⟩ := h
   have hpx := h1 x List.mem_cons_self
   unfold dedR
   by_cases e : x = p
   · rw [if_pos e]
     subst e
     obtain ⟨i1, i2, i3⟩ := dedR_is x r h2
     refine ⟨i1, i2, fun z => ?_⟩
     rw [i3 z]
     simp
   · rw [if_neg e]
     obtain ⟨i1, i2, i3⟩ := dedR_is x r h2
     have hlt : p < x := by grind
     refine ⟨fun z hz => ?_, ⟨i1, i2⟩, fun z => ?_⟩
     · rcases List.mem_cons.1 hz with rfl | hz
       · exact hlt
       · have := i1 z hz; grind
     · rw [List.mem_cons, i3 z, List.mem_cons (a := z) (b := p)]
theorem compR_is {l : List Rat} (h : l.Pairwise (· ≤ ·)) : incrR (compR l) ∧ ∀ z, z ∈ compR l ↔ z ∈ l := by
 cases l with
 | nil => exact ⟨trivial, fun z => Iff.rfl⟩
 | cons x r =>
   obtain ⟨h1, h2, h3⟩ := dedR_is x r h
   exact ⟨⟨h1, h2⟩, h3⟩
theorem incr_unique : ∀ {a b : List Rat}, incrR a → incrR b → (∀ z, z ∈ a ↔ z ∈ b) → a = b
 | [], [], _, _, _ => rfl
 | [], y :: b, _, _, h => by have := (h y).2 List.mem_cons_self; cases this
 | x :: a, [], _, _, h => by have := (h x).1 List.mem_cons_self; cases this
 | x :: a, y :: b, h1, h2, h => by
   have e : x = y := by
     rcases List.mem_cons.1 ((h x).1 List.mem_cons_self) with e | hx
     · exact e
     · rcases List.mem_cons.1 ((h y).2 List.mem_cons_self) with e | hy
       · exact e.symm
       · have := h2.1 x hx
         have := h1.1 y hy
         grind
   subst e
   rw [incr_unique h1.2 h2.2 fun z => ?_]
   constructor
   · intro hz
     rcases List.mem_cons.1 ((h z).1 (List.mem_cons_of_mem _ hz)) with e | hz2
     · have := h1.1 z hz; subst e; exact absurd this Rat.lt_irrefl
     · exact hz2
   · intro hz
     rcases List.mem_cons.1 ((h z).2 (List.mem_cons_of_mem _ hz)) with e | hz2
     · have := h2.1 z hz; subst e; exact absurd this Rat.lt_irrefl
     · exact hz2
theorem take_set_snoc {l : List Rat} {k : Nat} {a : Rat} (h : k < l.length) : (l.set k a).take (k + 1) = l.take k ++ [a] := by
 apply List.ext_getElem?
 intro i
 rw [List.getElem?_take, List.getElem?_set]
 by_cases h1 : i < k
 · rw [if_pos (by omega), if_neg (by omega), List.getElem?_append_left (by simp; omega), List.getElem?_take, if_pos h1]
 · by_cases h2 : i = k
   · subst h2
     rw [if_pos (by omega), if_pos rfl, if_pos h, List.getElem?_append_right (by rw [List.length_take]; omega), List.length_take, Nat.min_eq_left (by omega), Nat.sub_self]
     rfl
   · rw [if_neg (by omega), List.getElem?_append_right (by rw [List.length_take]; omega)]
     rw [List.getElem?_eq_none]
     rw [List.length_take, List.length_singleton]; omega
theorem wibN {n : Nat} (h : n ≤ 9223372036854775807) : IntKind.i64.wrap (n : Int) = (n : Int) := wib (by omega) (by omega)
theorem copy_loop {orig : List Rat} (hl : orig.length < 1000000) {k0 : Nat} {a0 : T_audit_whole} {x : List PV → Nat → Nat → Int → Nat → Nat → Nat → Int → Bool → Prop} :
   ∀ (r j n : Nat) (cur : List Rat) (k : Nat), k0 + j + r = orig.length → 1 ≤ j → r < n → cur.length = orig.length → k0 ≤ k → k + 1 ≤ k0 + j → (∀ i, k0 + j ≤ i + 1 → cur.getD i 0 = orig.getD i 0) →
     ∃ cur' : List Rat, cur'.length = orig.length ∧ cur'.take (k + (dedR (orig.getD (k0 + j - 1) 0) (orig.drop (k0 + j))).length) = cur.take k ++ dedR (orig.getD (k0 + j - 1) 0) (orig.drop (k0 + j)) ∧
       L_audit_pointsOf_2_0 a0 x n (rts cur) orig.length orig.length (k : Int) k0 (orig.length - k0) orig.length (j : Int) = x (rts cur') orig.length orig.length ((k + (dedR (orig.getD (k0 + j - 1) 0) (orig.drop (k0 + j))).length : Nat) : Int) k0 (orig.length - k0) orig.length ((orig.length - k0 : Nat) : Int) false := by
 intro r
 induction r with
 | zero =>
   intro j n cur k hj h1 hn hc hk0 hk hr
   obtain ⟨n, rfl⟩ : ∃ m, n = m + 1 := ⟨n - 1, by omega⟩
   have e : orig.drop (k0 + j) = [] := List.drop_eq_nil_of_le (by omega)
   rw [e]
   refine ⟨cur, hc, by simp [dedR], ?_⟩
   rw [L_audit_pointsOf_2_0, cbF (by omega)]
   simp only [dedR, List.length_nil, Nat.add_zero]
   rw [show orig.length - k0 = j by omega]
 | succ r ih =>
   intro j n cur k hj h1 hn hc hk0 hk hr
   obtain ⟨n, rfl⟩ : ∃ m, n = m + 1 := ⟨n - 1, by omega⟩
   have hil : k0 + j < orig.length := by omega
   have hd : orig.drop (k0 + j) = orig.getD (k0 + j) 0 :: orig.drop (k0 + j + 1) := drop_cons 0 hil
   have e1 := wib (n := (j : Int) - 1) (by omega) (by omega)
   have e2 := wib (n := (j : Int) + 1) (by omega) (by omega)
   have e3 := wib (n := (k : Int) + 1) (by omega) (by omega)
   have e4 : (j : Int) - 1 = ((j - 1 : Nat) : Int) := by omega
   rw [e4] at e1
   have g1 := hr (k0 + j) (by omega)
   have g2 := hr (k0 + (j - 1)) (by omega)
   rw [L_audit_pointsOf_2_0]
   dsimp only [lt, Go.Pf.jn]
   simp (discharger := omega) only [rts_len, hc, cbT, asT, Int.toNat_natCast, Nat.zero_add, rts_at, asW, encW0, encW1, ratEq, e4, encW_is, rts_set, cast1, wibN, asTr]
   rw [g1, g2, show k0 + (j - 1) = k0 + j - 1 by omega, hd]
   by_cases h : orig.getD (k0 + j) 0 = orig.getD (k0 + j - 1) 0
   · have hD : dedR (orig.getD (k0 + j - 1) 0) (orig.getD (k0 + j) 0 :: orig.drop (k0 + j + 1)) = dedR (orig.getD (k0 + (j + 1) - 1) 0) (orig.drop (k0 + (j + 1))) := by
       rw [dedR, if_pos h, ← h]
       rfl
     obtain ⟨cur', c1, c2, c3⟩ := ih (j + 1) n cur k (by omega) (by omega) (by omega) hc hk0 (by omega) (fun i hi => hr i (by omega))
     rw [hD]
     refine ⟨cur', c1, c2, ?_⟩
     rw [decide_eq_true h, Bool.not_true, cbr_false, c3]
   · have hD : dedR (orig.getD (k0 + j - 1) 0) (orig.getD (k0 + j) 0 :: orig.drop (k0 + j + 1)) = orig.getD (k0 + j) 0 :: dedR (orig.getD (k0 + (j + 1) - 1) 0) (orig.drop (k0 + (j + 1))) := by
       rw [dedR, if_neg h]
       rfl
     obtain ⟨cur', c1, c2, c3⟩ := ih (j + 1) n (cur.set k (orig.getD (k0 + j) 0)) (k + 1) (by omega) (by omega) (by omega) (by simp [hc]) (by omega) (by omega) (fun i hi => by
       rw [List.getD_eq_getElem?_getD, List.getElem?_set, if_neg (by omega), ← List.getD_eq_getElem?_getD]
       exact hr i (by omega))
     rw [hD]
     refine ⟨cur', c1, ?_, ?_⟩
     · rw [List.length_cons, show k + ((dedR (orig.getD (k0 + (j + 1) - 1) 0) (orig.drop (k0 + (j + 1)))).length + 1) = k + 1 + (dedR (orig.getD (k0 + (j + 1) - 1) 0) (orig.drop (k0 + (j + 1)))).length by omega, c2, take_set_snoc (by omega), List.append_assoc]
       rfl
     · rw [decide_eq_false h, Bool.not_false, cbr_true, c3, List.length_cons, show k + ((dedR (orig.getD (k0 + (j + 1) - 1) 0) (orig.drop (k0 + (j + 1)))).length + 1) = k + 1 + (dedR (orig.getD (k0 + (j + 1) - 1) 0) (orig.drop (k0 + (j + 1)))).length by omega]
theorem comp_loop {l : List Rat} (hl : l.length < 1000000) {a0 : T_audit_whole} {x0 : List PV → Nat → Nat → Int → Bool → Prop} {x1 : List PV → Nat → Nat → Prop} {J : List PV → Nat → Nat → Prop} (h0 : ∀ a b c i d, x0 a b c i d = J a b c) (h1 : ∀ a b c, x1 a b c = J a b c) :
   ∀ (r k n : Nat), k + r = l.length → 1 ≤ k → r < n → (∀ L : List PV, L.length = l.length → List.take (k + (dedR (l.getD (k - 1) 0) (l.drop k)).length) L = rts (l.take k ++ dedR (l.getD (k - 1) 0) (l.drop k)) → J L (k + (dedR (l.getD (k - 1) 0) (l.drop k)).length) l.length) →
     L_audit_pointsOf_1_0 a0 x0 x1 n (rts l) l.length l.length (k : Int) := by
 intro r
 induction r with
 | zero =>
   intro k n hk hk1 hn q
   obtain ⟨n, rfl⟩ : ∃ m, n = m + 1 := ⟨n - 1, by omega⟩
   rw [L_audit_pointsOf_1_0, cbF (by omega), h0]
   have e : l.drop k = [] := List.drop_eq_nil_of_le (by omega)
   rw [e] at q
   simp only [dedR, List.length_nil, Nat.add_zero, List.append_nil] at q
   have := q (rts l) (rts_len l) (rts_take l k)
   rw [show k = l.length by omega] at this
   exact this
 | succ r ih =>
   intro k n hk hk1 hn q
   obtain ⟨n, rfl⟩ : ∃ m, n = m + 1 := ⟨n - 1, by omega⟩
   have hil : k < l.length := by omega
   have hd : l.drop k = l.getD k 0 :: l.drop (k + 1) := drop_cons 0 hil
   have e1 := wib (n := (k : Int) - 1) (by omega) (by omega)
   have e2 := wib (n := (k : Int) + 1) (by omega) (by omega)
   have e4 : (k : Int) - 1 = ((k - 1 : Nat) : Int) := by omega
   rw [e4] at e1
   rw [L_audit_pointsOf_1_0]
   dsimp only [lt]
   simp (discharger := omega) only [rts_len, cbT, asT, Int.toNat_natCast, Nat.zero_add, rts_at, asW, encW0, encW1, ratEq, e4, cast1, wibN, asTr]
   by_cases h : l.getD k 0 = l.getD (k - 1) 0
   · rw [cbT h]
     refine asr_iff.2 ⟨by simp, l.length + 1, ?_⟩
     obtain ⟨cur', c1, c2, c3⟩ := copy_loop (a0 := a0) hl (k0 := k) (x := fun yl91 yn92 yn93 yi94 _ _ _ _ _ => (Go.Pf.jn (fun (yj101 : List PV → Prop) =>
       (asr (decide ((0 : Int) ≤ yi94))
       (asr (decide (yi94 ≤ ((yn92 : Nat) : Int)))
       (asr ((decide (((yn92 : Nat) : Int) ≤ ((yn92 : Nat) : Int))) || (decide (((yn92 : Nat) : Int) ≤ ((yn92 : Nat) : Int))))
       (cbr (decide (((((yn92 : Nat) : Int) - yi94).toNat) = 0))
       (yj101 yl91)
       (asr (decide ((List.length yl91) = yn93))
       (asr (decide (((yi94.toNat) + ((((yn92 : Nat) : Int) - yi94).toNat)) ≤ yn93))
       (yj101 ((List.take (yi94.toNat) yl91) ++ ((List.replicate ((((yn92 : Nat) : Int) - yi94).toNat) ((.agg [(.int .i64 (0)), (.int .i64 (0))]) : PV)) ++ (List.drop ((yi94.toNat) + ((((yn92 : Nat) : Int) - yi94).toNat)) yl91)))))))))))
       (fun yl100 => (asr (decide ((0 : Int) ≤ yi94))
       (asr ((decide (yi94 ≤ ((yn92 : Nat) : Int))) || (decide (yi94 ≤ ((yn92 : Nat) : Int))))
       (x1 yl100 ((yi94 - (0 : Int)).toNat) yn93)))))) (l.length - k - 1) 1 (l.length + 1) l k (by omega) (by omega) (by omega) rfl (by omega) (by omega) (fun i hi => rfl)
     have ed : dedR (l.getD (k - 1) 0) (l.drop k) = dedR (l.getD (k + 1 - 1) 0) (l.drop (k + 1)) := by
       rw [hd, dedR, if_pos h, ← h]
       rfl
     rw [ed] at q
     have eN : (((l.length : Nat) : Int) - (k : Int)).toNat = l.length - k := by omega
     rw [eN, show ((1 : Nat) : Int) = 1 from rfl] at *
     refine c3.mpr ?_
     have hD := dedR_len (l.getD (k + 1 - 1) 0) (l.drop (k + 1))
     rw [List.length_drop] at hD
     generalize dedR (l.getD (k + 1 - 1) 0) (l.drop (k + 1)) = D at *
     dsimp only [Go.Pf.jn]
     rw [asT (by omega), asT (by omega), decide_eq_true (Int.le_refl _), Bool.true_or, asr_true, cbF (by omega), rts_len, c1, asE]
     rw [asT (by omega), asT (by omega), decide_eq_true (show (((k + D.length : Nat) : Nat) : Int) ≤ (l.length : Int) by omega), Bool.true_or, asr_true, h1]
     have e5 : (((k + D.length : Nat) : Nat) : Int) - 0 = ((k + D.length : Nat) : Int) := by omega
     rw [e5, Int.toNat_natCast]
     refine q _ ?_ ?_
     · simp only [List.length_append, List.length_take, List.length_replicate, List.length_drop, rts_len, c1]
       omega
     · rw [List.take_append_of_le_length (by rw [List.length_take, rts_len]; omega), List.take_take, Nat.min_self, rts_take, c2]
   · rw [cbF h]
     have ed : dedR (l.getD (k - 1) 0) (l.drop k) = l.getD k 0 :: dedR (l.getD (k + 1 - 1) 0) (l.drop (k + 1)) := by
       rw [hd, dedR, if_neg h]
       rfl
     refine ih (k + 1) n (by omega) (by omega) (by omega) fun L hL hT => ?_
     rw [ed] at q
     have e6 : k + (l.getD k 0 :: dedR (l.getD (k + 1 - 1) 0) (l.drop (k + 1))).length = k + 1 + (dedR (l.getD (k + 1 - 1) 0) (l.drop (k + 1))).length := by simp only [List.length_cons]; omega
     have e7 : l.take k ++ l.getD k 0 :: dedR (l.getD (k + 1 - 1) 0) (l.drop (k + 1)) = l.take (k + 1) ++ dedR (l.getD (k + 1 - 1) 0) (l.drop (k + 1)) := by
       rw [show l.take (k + 1) = l.take k ++ [l.getD k 0] by
         rw [List.take_add_one, List.getD_eq_getElem?_getD, List.getElem?_eq_getElem hil]
         rfl]
       simp
     rw [e6, e7] at q
     exact q L hL hT
end Go.Pf.Vc
namespace Go.Pf.Vc
open Go Go.Pf Go.Sort
theorem rtCmp_lt {x y : PV} (hx : rtGood x = true) (hy : rtGood y = true) : rtCmp x y < 0 ↔ ratOf x < ratOf y := by
 unfold rtGood at hx hy
 split at hx
 · split at hy
   · simp only [rtCmp, ratOf]
     exact cmpI_lt (rvB_iff.1 hx) (rvB_iff.1 hy)
   · cases hy
 · cases hx
theorem El_goodW {n g : Nat} (x : (rtSrt n g).s.El) : rtGood x.1 = true := by
 have := x.2
 simp only [Srt.gd, Bool.and_eq_true] at this
 exact this.2
theorem rt_swo (n g : Nat) : SWO (fun x y : (rtSrt n g).s.El => decide ((rtSrt n g).cf x y < 0)) where
 irrefl x := by
   have := rtCmp_lt (El_goodW x) (El_goodW x)
   show decide (rtCmp x.1 x.1 < 0) = false
   rw [decide_eq_false_iff_not, this]
   exact Rat.lt_irrefl
 trans x y z h1 h2 := by
   have h1 : decide (rtCmp x.1 y.1 < 0) = true := h1
   have h2 : decide (rtCmp y.1 z.1 < 0) = true := h2
   show decide (rtCmp x.1 z.1 < 0) = true
   rw [decide_eq_true_eq, rtCmp_lt (El_goodW _) (El_goodW _)] at *
   grind
 ntrans x y z h1 h2 := by
   have h1 : decide (rtCmp x.1 y.1 < 0) = false := h1
   have h2 : decide (rtCmp y.1 z.1 < 0) = false := h2
   show decide (rtCmp x.1 z.1 < 0) = false
   rw [decide_eq_false_iff_not, rtCmp_lt (El_goodW _) (El_goodW _)] at *
   grind
theorem gd_encW (n g : Nat) {q : Rat} (h : small q) : (rtSrt n g).s.gd (encW q) = true := by
 have h1 := h.i1
 have h2 := h.i2
 have e1 : IntKind.i64.min = -9223372036854775808 := by decide
 have e2 : IntKind.i64.max = 9223372036854775807 := by decide
 simp only [Srt.gd, rtSrt, okI, encW, okL, rtGood, Bool.and_eq_true, decide_eq_true_eq, e1, e2]
 unfold I64 at h1 h2
 exact ⟨⟨trivial, h1.1, h1.2, trivial, h2.1, h2.2, trivial⟩, rvB_iff.2 h.rv⟩
def decW : PV → Rat
 | .agg [.int _ a, .int _ b] => rt a b
 | _ => 0
theorem decW_enc (q : Rat) : decW (encW q) = q := rt_self q
theorem ratOf_enc (q : Rat) : ratOf (encW q) = q := rt_self q
theorem sorted_rt (n g : Nat) {l : List Rat} (h : ∀ s ∈ l, small s) : ∃ l' : List Rat, l'.Perm l ∧ l'.Pairwise (· ≤ ·) ∧ Srt.sorted (rtSrt n g).s (rtSrt n g).srt (rts l) = rts l' := by
 obtain ⟨d, hd⟩ := rows_some (s := (rtSrt n g).s) (l := rts l) fun x hx => by
   obtain ⟨s, hs, rfl⟩ := List.mem_map.1 hx
   exact gd_encW n g (h s hs)
 obtain ⟨d', h1, h2, h3⟩ := (rtSrt n g).sorted_is (rt_swo n g) hd
 have hv := Srt.rows?_val hd
 have hp : (d'.map (·.1)).Perm (rts l) := by rw [← hv]; exact h1.map _
 have hm : ∀ x ∈ d'.map (·.1), ∃ s ∈ l, encW s = x := fun x hx => List.mem_map.1 (hp.mem_iff.1 hx)
 refine ⟨(d'.map (·.1)).map decW, ?_, ?_, ?_⟩
 · have this : (List.map decW (d'.map (·.1))).Perm (List.map decW (l.map encW)) := hp.map decW
   have e : List.map decW (l.map encW) = l := by rw [List.map_map, show decW ∘ encW = id from funext decW_enc, List.map_id]
   rw [e] at this
   exact this
 · rw [List.map_map, List.pairwise_map]
   refine h2.imp_of_mem fun {x y} hx hy hxy => ?_
   have hxy : ¬ rtCmp y.1 x.1 < 0 := hxy
   rw [rtCmp_lt (El_goodW _) (El_goodW _)] at hxy
   obtain ⟨s, _, es⟩ := hm x.1 (List.mem_map_of_mem hx)
   obtain ⟨t, _, et⟩ := hm y.1 (List.mem_map_of_mem hy)
   show decW x.1 ≤ decW y.1
   rw [← es, ← et] at hxy ⊢
   rw [ratOf_enc, ratOf_enc] at hxy
   rw [decW_enc, decW_enc]
   grind
 · rw [h3]
   have key : ∀ (xs : List PV), (∀ x ∈ xs, ∃ s ∈ l, encW s = x) → (xs.map decW).map encW = xs := by
     intro xs
     induction xs with
     | nil => intro _; rfl
     | cons x r ih =>
       intro h
       obtain ⟨s, _, es⟩ := h x List.mem_cons_self
       rw [List.map_cons, List.map_cons, ih fun y hy => h y (List.mem_cons_of_mem _ hy), ← es, decW_enc]
   exact (key _ hm).symm
def Cm.rs (c : Cm) : RS := (c.f, c.t)
def ptsC (N : Int) (L : List Cm) : List Rat := endsR (L.map Cm.rs) [0, (N : Rat)]
def flatC (L : List Cm) : List Rat := L.flatMap fun c => [c.f, c.t]
theorem endsR_mem : ∀ (a : List RS) (out : List Rat) (z : Rat), z ∈ endsR a out ↔ z ∈ out ∨ ∃ s ∈ a, z = s.1 ∨ z = s.2
 | [], out, z => by simp [endsR]
 | s :: a, out, z => by
   show z ∈ endsR a (insR s.2 (insR s.1 out)) ↔ _
   rw [endsR_mem a, insR_mem, insR_mem]
   constructor
   · rintro ((h | h | h) | ⟨t, h1, h2⟩)
     · exact .inr ⟨s, List.mem_cons_self, .inr h⟩
     · exact .inr ⟨s, List.mem_cons_self, .inl h⟩
     · exact .inl h
     · exact .inr ⟨t, List.mem_cons_of_mem _ h1, h2⟩
   · rintro (h | ⟨t, h1, h2⟩)
     · exact .inl (.inr (.inr h))
     · rcases List.mem_cons.1 h1 with rfl | h1
       · rcases h2 with h2 | h2
         · exact .inl (.inr (.inl h2))
         · exact .inl (.inl h2)
       · exact .inr ⟨t, h1, h2⟩
end Go.Pf.Vc
