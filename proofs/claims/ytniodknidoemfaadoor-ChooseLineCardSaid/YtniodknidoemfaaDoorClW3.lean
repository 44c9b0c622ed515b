/- Part 3 of what the statement rests on: a verified evaluator over pure values, the conditions of the program's functions, and their plain laws. -/
import Derived.Test.YtniodknidoemfaaDoorClW2
namespace Go.Pf.Vc
open Go Go.Pf
set_option maxRecDepth 100000
def R_ask_Check_0 (a0 : T_cake_Check) (Q : Ex → Frm → Hp → Prop) (n : Nat) (F : Frm) (H : Hp) : Prop := D_ask_Check_0 F H (fun l0 l1 l2 i3 i4 => L_ask_Check_0_0 a0 (fun i0 => Q .ret [(2, .v (.int .i64 i0))] []) (fun l0 l1 l2 i3 i4 b5 => Q (.exit 0) [(1, .box (.agg [(.data l0), (.data l1)])), (23, .v (.data l2)), (24, .v (.int .i64 i3)), (25, .v (.int .i64 i4)), (26, .v (.bool b5))] []) n l0 l1 l2 i3 i4)
def R_ask_Check_1 (a0 : T_cake_Check) (Q : Ex → Frm → Hp → Prop) (n : Nat) (F : Frm) (H : Hp) : Prop := D_ask_Check_1 F H (fun l0 l1 l2 i3 i4 => L_ask_Check_1_0 a0 (fun i0 => Q .ret [(2, .v (.int .i64 i0))] []) (fun l0 l1 l2 i3 i4 b5 => Q (.exit 2) [(1, .box (.agg [(.data l0), (.data l1)])), (36, .v (.data l2)), (37, .v (.int .i64 i3)), (38, .v (.int .i64 i4)), (39, .v (.bool b5))] []) n l0 l1 l2 i3 i4)
def lp_ask_Check (a0 : T_cake_Check) : LP := fun id F H Q =>
 bif Nat.beq id 12157600 then D_ask_Check_0 F H (fun l0 l1 l2 i3 i4 => ∃ n : Nat, L_ask_Check_0_0 a0 (fun i0 => Q .ret [(2, .v (.int .i64 i0))] []) (fun l0 l1 l2 i3 i4 b5 => Q (.exit 0) [(1, .box (.agg [(.data l0), (.data l1)])), (23, .v (.data l2)), (24, .v (.int .i64 i3)), (25, .v (.int .i64 i4)), (26, .v (.bool b5))] []) n l0 l1 l2 i3 i4) else
 bif Nat.beq id 12157601 then D_ask_Check_1 F H (fun l0 l1 l2 i3 i4 => ∃ n : Nat, L_ask_Check_1_0 a0 (fun i0 => Q .ret [(2, .v (.int .i64 i0))] []) (fun l0 l1 l2 i3 i4 b5 => Q (.exit 2) [(1, .box (.agg [(.data l0), (.data l1)])), (36, .v (.data l2)), (37, .v (.int .i64 i3)), (38, .v (.int .i64 i4)), (39, .v (.bool b5))] []) n l0 l1 l2 i3 i4) else
 False
def S0_ask_Check (a0 : T_cake_Check) : SE := ⟨E, lookS [(n_cake_Check, pw_cake_Check a0)], lookI [], lp_ask_Check a0⟩
theorem se0_ask_Check : SEOk (S0_ask_Check w_cake_Check) := seOk_of ⟨ok_cake_Check, trivial⟩ trivial
theorem body_ask_Check_0_0 (a0 Q n l0 l1 l2 i3 i4) : WC E (callW (S0_ask_Check a0) 5) (lp_ask_Check a0) b_12157600 [(1, .box (.agg [(.data l0), (.data l1)])), (23, .v (.data l2)), (24, .v (.int .i64 i3)), (25, .v (.int .i64 i4))] [] (fun x F' H' => match x with | .norm => R_ask_Check_0 a0 Q n F' H' | .exit i => Q (.exit i) F' H' | .ret => Q .ret F' H') = L_ask_Check_0_0 a0 (fun i0 => Q .ret [(2, .v (.int .i64 i0))] []) (fun l0 l1 l2 i3 i4 b5 => Q (.exit 0) [(1, .box (.agg [(.data l0), (.data l1)])), (23, .v (.data l2)), (24, .v (.int .i64 i3)), (25, .v (.int .i64 i4)), (26, .v (.bool b5))] []) (n + 1) l0 l1 l2 i3 i4 := by kernel_rfl
theorem lpb_ask_Check_0 : LpOk E (lp_ask_Check w_cake_Check) b_12157600 := (LpOk_no (by kernel_rfl))
theorem loop_ask_Check_0 : ∀ F H Q, lp_ask_Check w_cake_Check 12157600 F H Q → LoopT E b_12157600 F H Q := by
  intro F H Q h
  have go := LoopT.intro (callW_ok se0_ask_Check 5) lpb_ask_Check_0 (R_ask_Check_0 w_cake_Check Q) (by
    intro F H h
    unfold R_ask_Check_0 D_ask_Check_0 at h
    split at h
    · exact h
    · exact h) (by
    intro n F H h
    unfold R_ask_Check_0 D_ask_Check_0 at h
    split at h
    · exact (body_ask_Check_0_0 ..).mpr h
    · exact h.elim)
  have h : D_ask_Check_0 F H _ := h
  unfold D_ask_Check_0 at h
  split at h
  · obtain ⟨n, h⟩ := h; exact go n _ _ h
  · exact h.elim
theorem body_ask_Check_1_0 (a0 Q n l0 l1 l2 i3 i4) : WC E (callW (S0_ask_Check a0) 5) (lp_ask_Check a0) b_12157601 [(1, .box (.agg [(.data l0), (.data l1)])), (36, .v (.data l2)), (37, .v (.int .i64 i3)), (38, .v (.int .i64 i4))] [] (fun x F' H' => match x with | .norm => R_ask_Check_1 a0 Q n F' H' | .exit i => Q (.exit i) F' H' | .ret => Q .ret F' H') = L_ask_Check_1_0 a0 (fun i0 => Q .ret [(2, .v (.int .i64 i0))] []) (fun l0 l1 l2 i3 i4 b5 => Q (.exit 2) [(1, .box (.agg [(.data l0), (.data l1)])), (36, .v (.data l2)), (37, .v (.int .i64 i3)), (38, .v (.int .i64 i4)), (39, .v (.bool b5))] []) (n + 1) l0 l1 l2 i3 i4 := by kernel_rfl
theorem lpb_ask_Check_1 : LpOk E (lp_ask_Check w_cake_Check) b_12157601 := (LpOk_no (by kernel_rfl))
theorem loop_ask_Check_1 : ∀ F H Q, lp_ask_Check w_cake_Check 12157601 F H Q → LoopT E b_12157601 F H Q := by
  intro F H Q h
  have go := LoopT.intro (callW_ok se0_ask_Check 5) lpb_ask_Check_1 (R_ask_Check_1 w_cake_Check Q) (by
    intro F H h
    unfold R_ask_Check_1 D_ask_Check_1 at h
    split at h
    · exact h
    · exact h) (by
    intro n F H h
    unfold R_ask_Check_1 D_ask_Check_1 at h
    split at h
    · exact (body_ask_Check_1_0 ..).mpr h
    · exact h.elim)
  have h : D_ask_Check_1 F H _ := h
  unfold D_ask_Check_1 at h
  split at h
  · obtain ⟨n, h⟩ := h; exact go n _ _ h
  · exact h.elim
theorem eq_ask_Check (a0 p0 p1 K) : WP (S0_ask_Check a0) 6 t_ask_Check [(.agg [(.data p0), (.data p1)])] K = wv_ask_Check a0 p0 p1 (fun r0 => K (.int .i64 r0)) := by kernel_rfl
theorem ok_ask_Check : OkF E wp_ask_Check n_ask_Check := by
  intro as K h
  unfold wp_ask_Check pw_ask_Check at h
  split at h
  · exact WP_ok se0_ask_Check (LpOk_by (l := [(12157600, b_12157600), (12157601, b_12157601)]) ⟨loop_ask_Check_0, loop_ask_Check_1, trivial⟩ (by kernel_rfl)) (by kernel_rfl) (by kernel_rfl) (fun _ => baseC_none (by kernel_rfl) _) ((eq_ask_Check ..).mpr h)
  · exact h.elim
abbrev T_ask_copied : Type := List PV → (List PV → Prop) → Prop
mutual
def L_ask_copied_0_0 (a0 : T_s_Clone_int_int) (x0 : List PV → List PV → Int → Int → Bool → Prop) (x1 : List PV → Int → Int → Bool → Prop) : Nat → List PV → Int → Int → Prop
 | 0, _, _, _ => False
 | n + 1, l0, i1, i2 =>
 (cbr (decide (i2 < i1))
 (asr (decide ((0 : Int) ≤ i2))
 (asr (decide (i2 < (((List.length l0) : Nat) : Int)))
 (asr (conf (.agg [.i .i64, .d, .d]) (List.getD l0 (i2.toNat) .nils))
 (a0 (datOfV (cellAt (List.getD l0 (i2.toNat) .nils) 1)) (fun yl0 => 
 (a0 (datOfV (cellAt (List.getD l0 (i2.toNat) .nils) 2)) (fun yl1 => 
 (asr (decide ((List.length ([(.agg [(.int .i64 (intOfV (cellAt (List.getD l0 (i2.toNat) .nils) 0))), (.data yl0), (.data yl1)])] : List PV)) = List.length ([(.agg [(.int .i64 (intOfV (cellAt (List.getD l0 (i2.toNat) .nils) 0))), (.data yl0), (.data yl1)])] : List PV)) && decide ((List.length ([(.agg [(.int .i64 (intOfV (cellAt (List.getD l0 (i2.toNat) .nils) 0))), (.data yl0), (.data yl1)])] : List PV)) = List.length ([(.agg [(.int .i64 (intOfV (cellAt (List.getD l0 (i2.toNat) .nils) 0))), (.data yl0), (.data yl1)])] : List PV)))
 (L_ask_copied_0_1 a0 x0 x1 n ([(.agg [(.int .i64 (intOfV (cellAt (List.getD l0 (i2.toNat) .nils) 0))), (.data yl0), (.data yl1)])] : List PV) l0 i1 (IntKind.i64.wrap (i2 + (1 : Int))))))))))))
 (x1 l0 i1 i2 false))
def L_ask_copied_0_1 (a0 : T_s_Clone_int_int) (x0 : List PV → List PV → Int → Int → Bool → Prop) (x1 : List PV → Int → Int → Bool → Prop) : Nat → List PV → List PV → Int → Int → Prop
 | 0, _, _, _, _ => False
 | n + 1, l0, l3, i4, i5 =>
 (cbr (decide (i5 < i4))
 (asr (decide ((0 : Int) ≤ i5))
 (asr (decide (i5 < (((List.length l3) : Nat) : Int)))
 (asr (conf (.agg [.i .i64, .d, .d]) (List.getD l3 (i5.toNat) .nils))
 (a0 (datOfV (cellAt (List.getD l3 (i5.toNat) .nils) 1)) (fun yl2 => 
 (a0 (datOfV (cellAt (List.getD l3 (i5.toNat) .nils) 2)) (fun yl3 => 
 (asr (decide ((List.length l0) = (List.length l0)))
 (asr (decide ((0 + (List.length l0)) ≤ (List.length l0)))
 (asr (!(decide (((0 + (List.length l0)) + 1) ≤ (List.length l0))))
 (asr (decide ((List.length l0) = (List.length l0)))
 (asr (decide ((((List.length l0) + 1) + 64) * (56 + 1) ≤ room))
 (asr (decide ((List.length (l0 ++ ([(.agg [(.int .i64 (intOfV (cellAt (List.getD l3 (i5.toNat) .nils) 0))), (.data yl2), (.data yl3)])] : List PV))) = List.length (l0 ++ ([(.agg [(.int .i64 (intOfV (cellAt (List.getD l3 (i5.toNat) .nils) 0))), (.data yl2), (.data yl3)])] : List PV))) && decide ((List.length (l0 ++ ([(.agg [(.int .i64 (intOfV (cellAt (List.getD l3 (i5.toNat) .nils) 0))), (.data yl2), (.data yl3)])] : List PV))) = List.length (l0 ++ ([(.agg [(.int .i64 (intOfV (cellAt (List.getD l3 (i5.toNat) .nils) 0))), (.data yl2), (.data yl3)])] : List PV))))
 (L_ask_copied_0_1 a0 x0 x1 n (l0 ++ ([(.agg [(.int .i64 (intOfV (cellAt (List.getD l3 (i5.toNat) .nils) 0))), (.data yl2), (.data yl3)])] : List PV)) l3 i4 (IntKind.i64.wrap (i5 + (1 : Int)))))))))))))))))
 (x0 l0 l3 i4 i5 false))
end
def wv_ask_copied (a0 : T_s_Clone_int_int) (p0 : List PV) (K : List PV → Prop) : Prop :=
 (∃ n : Nat, L_ask_copied_0_0 a0
 (fun yl4 _ _ _ _ => (asr (decide ((List.length yl4) = (List.length yl4)))
 (asr (decide ((0 + (List.length yl4)) ≤ (List.length yl4)))
 (K (List.take (List.length yl4) yl4)))))
 (fun _ _ _ _ => (K ([] : List PV)))
 n p0 (((List.length p0) : Nat) : Int) (0 : Int))
def w_ask_copied (p0 : List PV) (K : List PV → Prop) : Prop := wv_ask_copied w_s_Clone_int_int p0 K
def pw_ask_copied (w : T_ask_copied) (as : List PV) (K : PV → Prop) : Prop :=
 match as with
 | [(.data p0)] => w p0 (fun r0 => K (.data r0))
 | _ => False
def wp_ask_copied (as : List PV) (K : PV → Prop) : Prop := pw_ask_copied w_ask_copied as K
def D_ask_copied_0 (F : Frm) (H : Hp) (A0 : List PV → Int → Int → Prop) (A1 : List PV → List PV → Int → Int → Prop) : Prop :=
 match F, H with
 | [(3, .v .nils), (6, .v (.data l0)), (7, .v (.int .i64 i1)), (8, .v (.int .i64 i2))], [] => (A0 l0 i1 i2)
 | [(3, .v (.own 0 0 t1 t2 none)), (6, .v (.data l3)), (7, .v (.int .i64 i4)), (8, .v (.int .i64 i5))], [⟨false, true, 3, l0⟩] => asr (decide (t1 = List.length l0) && decide (t2 = List.length l0)) (A1 l0 l3 i4 i5)
 | _, _ => False
def R_ask_copied_0 (a0 : T_s_Clone_int_int) (Q : Ex → Frm → Hp → Prop) (n : Nat) (F : Frm) (H : Hp) : Prop := D_ask_copied_0 F H (fun l0 i1 i2 => L_ask_copied_0_0 a0 (fun l0 l3 i4 i5 b6 => Q (.exit 0) [(3, .v (.own 0 0 (List.length l0) (List.length l0) none)), (6, .v (.data l3)), (7, .v (.int .i64 i4)), (8, .v (.int .i64 i5)), (9, .v (.bool b6))] [⟨false, true, 3, l0⟩]) (fun l0 i1 i2 b3 => Q (.exit 0) [(3, .v .nils), (6, .v (.data l0)), (7, .v (.int .i64 i1)), (8, .v (.int .i64 i2)), (9, .v (.bool b3))] []) n l0 i1 i2) (fun l0 l3 i4 i5 => L_ask_copied_0_1 a0 (fun l0 l3 i4 i5 b6 => Q (.exit 0) [(3, .v (.own 0 0 (List.length l0) (List.length l0) none)), (6, .v (.data l3)), (7, .v (.int .i64 i4)), (8, .v (.int .i64 i5)), (9, .v (.bool b6))] [⟨false, true, 3, l0⟩]) (fun l0 i1 i2 b3 => Q (.exit 0) [(3, .v .nils), (6, .v (.data l0)), (7, .v (.int .i64 i1)), (8, .v (.int .i64 i2)), (9, .v (.bool b3))] []) n l0 l3 i4 i5)
def lp_ask_copied (a0 : T_s_Clone_int_int) : LP := fun id F H Q =>
 bif Nat.beq id 94933800 then D_ask_copied_0 F H (fun l0 i1 i2 => ∃ n : Nat, L_ask_copied_0_0 a0 (fun l0 l3 i4 i5 b6 => Q (.exit 0) [(3, .v (.own 0 0 (List.length l0) (List.length l0) none)), (6, .v (.data l3)), (7, .v (.int .i64 i4)), (8, .v (.int .i64 i5)), (9, .v (.bool b6))] [⟨false, true, 3, l0⟩]) (fun l0 i1 i2 b3 => Q (.exit 0) [(3, .v .nils), (6, .v (.data l0)), (7, .v (.int .i64 i1)), (8, .v (.int .i64 i2)), (9, .v (.bool b3))] []) n l0 i1 i2) (fun l0 l3 i4 i5 => ∃ n : Nat, L_ask_copied_0_1 a0 (fun l0 l3 i4 i5 b6 => Q (.exit 0) [(3, .v (.own 0 0 (List.length l0) (List.length l0) none)), (6, .v (.data l3)), (7, .v (.int .i64 i4)), (8, .v (.int .i64 i5)), (9, .v (.bool b6))] [⟨false, true, 3, l0⟩]) (fun l0 i1 i2 b3 => Q (.exit 0) [(3, .v .nils), (6, .v (.data l0)), (7, .v (.int .i64 i1)), (8, .v (.int .i64 i2)), (9, .v (.bool b3))] []) n l0 l3 i4 i5) else
 False
def S0_ask_copied (a0 : T_s_Clone_int_int) : SE := ⟨E, lookS [(n_s_Clone_int_int, pw_s_Clone_int_int a0)], lookI [], lp_ask_copied a0⟩
theorem se0_ask_copied : SEOk (S0_ask_copied w_s_Clone_int_int) := seOk_of ⟨ok_s_Clone_int_int, trivial⟩ trivial
theorem body_ask_copied_0_0 (a0 Q n l0 i1 i2) : WC E (callW (S0_ask_copied a0) 5) (lp_ask_copied a0) b_94933800 [(3, .v .nils), (6, .v (.data l0)), (7, .v (.int .i64 i1)), (8, .v (.int .i64 i2))] [] (fun x F' H' => match x with | .norm => R_ask_copied_0 a0 Q n F' H' | .exit i => Q (.exit i) F' H' | .ret => Q .ret F' H') = L_ask_copied_0_0 a0 (fun l0 l3 i4 i5 b6 => Q (.exit 0) [(3, .v (.own 0 0 (List.length l0) (List.length l0) none)), (6, .v (.data l3)), (7, .v (.int .i64 i4)), (8, .v (.int .i64 i5)), (9, .v (.bool b6))] [⟨false, true, 3, l0⟩]) (fun l0 i1 i2 b3 => Q (.exit 0) [(3, .v .nils), (6, .v (.data l0)), (7, .v (.int .i64 i1)), (8, .v (.int .i64 i2)), (9, .v (.bool b3))] []) (n + 1) l0 i1 i2 := by kernel_rfl
theorem body_ask_copied_0_1 (a0 Q n l0 l3 i4 i5) : WC E (callW (S0_ask_copied a0) 5) (lp_ask_copied a0) b_94933800 [(3, .v (.own 0 0 (List.length l0) (List.length l0) none)), (6, .v (.data l3)), (7, .v (.int .i64 i4)), (8, .v (.int .i64 i5))] [⟨false, true, 3, l0⟩] (fun x F' H' => match x with | .norm => R_ask_copied_0 a0 Q n F' H' | .exit i => Q (.exit i) F' H' | .ret => Q .ret F' H') = L_ask_copied_0_1 a0 (fun l0 l3 i4 i5 b6 => Q (.exit 0) [(3, .v (.own 0 0 (List.length l0) (List.length l0) none)), (6, .v (.data l3)), (7, .v (.int .i64 i4)), (8, .v (.int .i64 i5)), (9, .v (.bool b6))] [⟨false, true, 3, l0⟩]) (fun l0 i1 i2 b3 => Q (.exit 0) [(3, .v .nils), (6, .v (.data l0)), (7, .v (.int .i64 i1)), (8, .v (.int .i64 i2)), (9, .v (.bool b3))] []) (n + 1) l0 l3 i4 i5 := by kernel_rfl
theorem lpb_ask_copied_0 : LpOk E (lp_ask_copied w_s_Clone_int_int) b_94933800 := (LpOk_no (by kernel_rfl))
theorem loop_ask_copied_0 : ∀ F H Q, lp_ask_copied w_s_Clone_int_int 94933800 F H Q → LoopT E b_94933800 F H Q := by
  intro F H Q h
  have go := LoopT.intro (callW_ok se0_ask_copied 5) lpb_ask_copied_0 (R_ask_copied_0 w_s_Clone_int_int Q) (by
    intro F H h
    unfold R_ask_copied_0 D_ask_copied_0 at h
    split at h
    · exact h
    · obtain ⟨hg, k⟩ := asr_iff.1 h
      clear h
      have h := k
      clear k
      try simp only [Bool.and_eq_true, decide_eq_true_eq] at hg
      obtain ⟨g0, g1⟩ := hg; subst g0; subst g1; exact h
    · exact h) (by
    intro n F H h
    unfold R_ask_copied_0 D_ask_copied_0 at h
    split at h
    · exact (body_ask_copied_0_0 ..).mpr h
    · obtain ⟨hg, k⟩ := asr_iff.1 h
      clear h
      have h := k
      clear k
      try simp only [Bool.and_eq_true, decide_eq_true_eq] at hg
      obtain ⟨g0, g1⟩ := hg; subst g0; subst g1; exact (body_ask_copied_0_1 ..).mpr h
    · exact h.elim)
  have h : D_ask_copied_0 F H _ _ := h
  unfold D_ask_copied_0 at h
  split at h
  · obtain ⟨n, h⟩ := h; exact go n _ _ h
  · obtain ⟨hg, n, h⟩ := asr_iff.1 h; exact go n _ _ (asr_iff.2 ⟨hg, h⟩)
  · exact h.elim
theorem eq_ask_copied (a0 p0 K) : WP (S0_ask_copied a0) 6 t_ask_copied [(.data p0)] K = wv_ask_copied a0 p0 (fun r0 => K (.data r0)) := by kernel_rfl
theorem ok_ask_copied : OkF E wp_ask_copied n_ask_copied := by
  intro as K h
  unfold wp_ask_copied pw_ask_copied at h
  split at h
  · exact WP_ok se0_ask_copied (LpOk_by (l := [(94933800, b_94933800)]) ⟨loop_ask_copied_0, trivial⟩ (by kernel_rfl)) (by kernel_rfl) (by kernel_rfl) (fun _ => baseC_none (by kernel_rfl) _) ((eq_ask_copied ..).mpr h)
  · exact h.elim
abbrev T_ask_Open : Type := List PV → (List PV → List PV → Int → Prop) → Prop
def wv_ask_Open (a0 : T_ask_Check) (a1 : T_ask_copied) (p0 : List PV) (K : List PV → List PV → Int → Prop) : Prop :=
 (a0 p0 ([] : List PV) (fun yi0 => 
 (cbr (yi0 != (0 : Int))
 (K ([] : List PV) ([] : List PV) yi0)
 (a1 p0 (fun yl1 => 
 (K yl1 ([] : List PV) (0 : Int)))))))
def w_ask_Open (p0 : List PV) (K : List PV → List PV → Int → Prop) : Prop := wv_ask_Open w_ask_Check w_ask_copied p0 K
def pw_ask_Open (w : T_ask_Open) (as : List PV) (K : PV → Prop) : Prop :=
 match as with
 | [(.data p0)] => w p0 (fun r0 r1 r2 => K (.tup [(.agg [(.data r0), (.data r1)]), (.int .i64 r2)]))
 | _ => False
def wp_ask_Open (as : List PV) (K : PV → Prop) : Prop := pw_ask_Open w_ask_Open as K
def lp_ask_Open (_ : T_ask_Check) (_ : T_ask_copied) : LP := fun _ _ _ _ =>
 False
def S0_ask_Open (a0 : T_ask_Check) (a1 : T_ask_copied) : SE := ⟨E, lookS [(n_ask_Check, pw_ask_Check a0), (n_ask_copied, pw_ask_copied a1)], lookI [], lp_ask_Open a0 a1⟩
theorem se0_ask_Open : SEOk (S0_ask_Open w_ask_Check w_ask_copied) := seOk_of ⟨ok_ask_Check, ok_ask_copied, trivial⟩ trivial
theorem eq_ask_Open (a0 a1 p0 K) : WP (S0_ask_Open a0 a1) 6 t_ask_Open [(.data p0)] K = wv_ask_Open a0 a1 p0 (fun r0 r1 r2 => K (.tup [(.agg [(.data r0), (.data r1)]), (.int .i64 r2)])) := by kernel_rfl
theorem ok_ask_Open : OkF E wp_ask_Open n_ask_Open := by
  intro as K h
  unfold wp_ask_Open pw_ask_Open at h
  split at h
  · exact WP_ok se0_ask_Open (LpOk_no (by kernel_rfl)) (by kernel_rfl) (by kernel_rfl) (fun _ => baseC_none (by kernel_rfl) _) ((eq_ask_Open ..).mpr h)
  · exact h.elim
abbrev T_ask_office_mark : Type := List PV → List PV → Int → Int → Int → Int → Int → (Int → Int → Int → Prop) → Prop
def wv_ask_office_mark (a0 : T_cake_Mark) (p0 _ : List PV) (p2 p3 p4 p5 p6 : Int) (K : Int → Int → Int → Prop) : Prop :=
 (asr (decide ((0 : Int) ≤ p2))
 (asr (decide (p2 < (((List.length p0) : Nat) : Int)))
 (asr (conf (.agg [.i .i64, .d, .d]) (List.getD p0 (p2.toNat) .nils))
 (a0 (intOfV (cellAt (List.getD p0 (p2.toNat) .nils) 0)) (datOfV (cellAt (List.getD p0 (p2.toNat) .nils) 1)) (datOfV (cellAt (List.getD p0 (p2.toNat) .nils) 2)) p3 p4 p5 p6 (fun yi0 yi1 yi2 => 
 (K yi0 yi1 yi2))))))
def w_ask_office_mark (p0 p1 : List PV) (p2 p3 p4 p5 p6 : Int) (K : Int → Int → Int → Prop) : Prop := wv_ask_office_mark w_cake_Mark p0 p1 p2 p3 p4 p5 p6 K
def pw_ask_office_mark (w : T_ask_office_mark) (as : List PV) (K : PV → Prop) : Prop :=
 match as with
 | [(.agg [(.data p0), (.data p1)]), (.int .i64 p2), (.agg [(.int .i64 p3), (.int .i64 p4)]), (.agg [(.int .i64 p5), (.int .i64 p6)])] => w p0 p1 p2 p3 p4 p5 p6 (fun r0 r1 r2 => K (.tup [(.agg [(.int .i64 r0), (.int .i64 r1)]), (.int .i64 r2)]))
 | _ => False
def wp_ask_office_mark (as : List PV) (K : PV → Prop) : Prop := pw_ask_office_mark w_ask_office_mark as K
def lp_ask_office_mark (_ : T_cake_Mark) : LP := fun _ _ _ _ =>
 False
def S0_ask_office_mark (a0 : T_cake_Mark) : SE := ⟨E, lookS [(n_cake_Mark, pw_cake_Mark a0)], lookI [], lp_ask_office_mark a0⟩
theorem se0_ask_office_mark : SEOk (S0_ask_office_mark w_cake_Mark) := seOk_of ⟨ok_cake_Mark, trivial⟩ trivial
theorem eq_ask_office_mark (a0 p0 p1 p2 p3 p4 p5 p6 K) : WP (S0_ask_office_mark a0) 6 t_ask_office_mark [(.agg [(.data p0), (.data p1)]), (.int .i64 p2), (.agg [(.int .i64 p3), (.int .i64 p4)]), (.agg [(.int .i64 p5), (.int .i64 p6)])] K = wv_ask_office_mark a0 p0 p1 p2 p3 p4 p5 p6 (fun r0 r1 r2 => K (.tup [(.agg [(.int .i64 r0), (.int .i64 r1)]), (.int .i64 r2)])) := by kernel_rfl
theorem ok_ask_office_mark : OkF E wp_ask_office_mark n_ask_office_mark := by
  intro as K h
  unfold wp_ask_office_mark pw_ask_office_mark at h
  split at h
  · exact WP_ok se0_ask_office_mark (LpOk_no (by kernel_rfl)) (by kernel_rfl) (by kernel_rfl) (fun _ => baseC_none (by kernel_rfl) _) ((eq_ask_office_mark ..).mpr h)
  · exact h.elim
abbrev T_ask_office_has : Type := List PV → List PV → Int → (Bool → Prop) → Prop
def wv_ask_office_has (p0 _ : List PV) (p2 : Int) (K : Bool → Prop) : Prop :=
 (cbr (decide (p2 ≥ (0 : Int)))
 (K (decide (p2 < (((List.length p0) : Nat) : Int))))
 (K false))
def w_ask_office_has (p0 p1 : List PV) (p2 : Int) (K : Bool → Prop) : Prop := wv_ask_office_has p0 p1 p2 K
def pw_ask_office_has (w : T_ask_office_has) (as : List PV) (K : PV → Prop) : Prop :=
 match as with
 | [(.agg [(.data p0), (.data p1)]), (.int .i64 p2)] => w p0 p1 p2 (fun r0 => K (.bool r0))
 | _ => False
def wp_ask_office_has (as : List PV) (K : PV → Prop) : Prop := pw_ask_office_has w_ask_office_has as K
def lp_ask_office_has : LP := fun _ _ _ _ =>
 False
def S0_ask_office_has : SE := ⟨E, lookS [], lookI [], lp_ask_office_has⟩
theorem se0_ask_office_has : SEOk (S0_ask_office_has) := seOk_of trivial trivial
theorem eq_ask_office_has ( p0 p1 p2 K) : WP (S0_ask_office_has) 6 t_ask_office_has [(.agg [(.data p0), (.data p1)]), (.int .i64 p2)] K = wv_ask_office_has p0 p1 p2 (fun r0 => K (.bool r0)) := by kernel_rfl
theorem ok_ask_office_has : OkF E wp_ask_office_has n_ask_office_has := by
  intro as K h
  unfold wp_ask_office_has pw_ask_office_has at h
  split at h
  · exact WP_ok se0_ask_office_has (LpOk_no (by kernel_rfl)) (by kernel_rfl) (by kernel_rfl) (fun _ => baseC_none (by kernel_rfl) _) ((eq_ask_office_has ..).mpr h)
  · exact h.elim
abbrev T_ask_Mark : Type := List PV → List PV → Int → Int → Int → Int → Int → (List PV → List PV → Int → Int → Int → Prop) → Prop
def wv_ask_Mark (a0 : T_ask_Check) (a1 : T_ask_office_has) (a2 : T_ask_office_mark) (a3 : T_ask_copied) (p0 p1 : List PV) (p2 p3 p4 p5 p6 : Int) (K : List PV → List PV → Int → Int → Int → Prop) : Prop :=
 (a0 p0 p1 (fun yi0 => 
 (cbr (yi0 != (0 : Int))
 (K ([] : List PV) ([] : List PV) (0 : Int) (0 : Int) yi0)
 (a1 p0 p1 p2 (fun yb1 => 
 (cbr (!yb1)
 (K ([] : List PV) ([] : List PV) (0 : Int) (0 : Int) (2 : Int))
 (a2 p0 p1 p2 p3 p4 p5 p6 (fun yi2 yi3 yi4 => 
 (cbr (yi4 != (0 : Int))
 (K ([] : List PV) ([] : List PV) (0 : Int) (0 : Int) yi4)
 (cbr (decide ((((List.length p1) : Nat) : Int) ≥ (2000 : Int)))
 (K ([] : List PV) ([] : List PV) (0 : Int) (0 : Int) (4 : Int))
 (asr (decide ((0 : Int) ≤ (IntKind.i64.wrap ((((List.length p1) : Nat) : Int) + (1 : Int)))))
 (asr (decide ((((IntKind.i64.wrap ((((List.length p1) : Nat) : Int) + (1 : Int))).toNat) + 64) * (64 + 1) ≤ room))
 (a3 p0 (fun yl5 => 
 (asr (headOk 8 p1)
 (asr (decide ((List.length (List.replicate ((IntKind.i64.wrap ((((List.length p1) : Nat) : Int) + (1 : Int))).toNat) ((.agg [(.int .i64 (0)), (.int .u8 (0)), (.int .i64 (0)), (.int .i64 (0)), (.int .i64 (0)), (.int .i64 (0)), (.int .i64 (0)), (.int .i64 (0))]) : PV))) = ((IntKind.i64.wrap ((((List.length p1) : Nat) : Int) + (1 : Int))).toNat)))
 (asr (decide (0 ≤ ((IntKind.i64.wrap ((((List.length p1) : Nat) : Int) + (1 : Int))).toNat)))
 (cbr (List.isEmpty p1)
 (asr (decide ((List.length (List.replicate ((IntKind.i64.wrap ((((List.length p1) : Nat) : Int) + (1 : Int))).toNat) ((.agg [(.int .i64 (0)), (.int .u8 (0)), (.int .i64 (0)), (.int .i64 (0)), (.int .i64 (0)), (.int .i64 (0)), (.int .i64 (0)), (.int .i64 (0))]) : PV))) = ((IntKind.i64.wrap ((((List.length p1) : Nat) : Int) + (1 : Int))).toNat)))
 (asr (decide (0 ≤ ((IntKind.i64.wrap ((((List.length p1) : Nat) : Int) + (1 : Int))).toNat)))
 (asr (decide (1 ≤ ((IntKind.i64.wrap ((((List.length p1) : Nat) : Int) + (1 : Int))).toNat)))
 (asr (decide ((List.length (([(.agg [(.int .i64 p2), (.int .u8 (2 : Int)), (.int .i64 p3), (.int .i64 p4), (.int .i64 p5), (.int .i64 p6), (.int .i64 yi2), (.int .i64 yi3)])] : List PV) ++ (List.drop 1 (List.replicate ((IntKind.i64.wrap ((((List.length p1) : Nat) : Int) + (1 : Int))).toNat) ((.agg [(.int .i64 (0)), (.int .u8 (0)), (.int .i64 (0)), (.int .i64 (0)), (.int .i64 (0)), (.int .i64 (0)), (.int .i64 (0)), (.int .i64 (0))]) : PV))))) = ((IntKind.i64.wrap ((((List.length p1) : Nat) : Int) + (1 : Int))).toNat)))
 (asr (decide (1 ≤ ((IntKind.i64.wrap ((((List.length p1) : Nat) : Int) + (1 : Int))).toNat)))
 (K yl5 (List.take 1 (([(.agg [(.int .i64 p2), (.int .u8 (2 : Int)), (.int .i64 p3), (.int .i64 p4), (.int .i64 p5), (.int .i64 p6), (.int .i64 yi2), (.int .i64 yi3)])] : List PV) ++ (List.drop 1 (List.replicate ((IntKind.i64.wrap ((((List.length p1) : Nat) : Int) + (1 : Int))).toNat) ((.agg [(.int .i64 (0)), (.int .u8 (0)), (.int .i64 (0)), (.int .i64 (0)), (.int .i64 (0)), (.int .i64 (0)), (.int .i64 (0)), (.int .i64 (0))]) : PV))))) yi2 yi3 (0 : Int)))))))
 (asr (decide ((0 + (List.length p1)) ≤ ((IntKind.i64.wrap ((((List.length p1) : Nat) : Int) + (1 : Int))).toNat)))
 (asr (decide ((List.length (p1 ++ (List.drop (0 + (List.length p1)) (List.replicate ((IntKind.i64.wrap ((((List.length p1) : Nat) : Int) + (1 : Int))).toNat) ((.agg [(.int .i64 (0)), (.int .u8 (0)), (.int .i64 (0)), (.int .i64 (0)), (.int .i64 (0)), (.int .i64 (0)), (.int .i64 (0)), (.int .i64 (0))]) : PV))))) = ((IntKind.i64.wrap ((((List.length p1) : Nat) : Int) + (1 : Int))).toNat)))
 (asr (decide ((0 + (0 + (List.length p1))) ≤ ((IntKind.i64.wrap ((((List.length p1) : Nat) : Int) + (1 : Int))).toNat)))
 (asr (decide (((0 + (List.length p1)) + 1) ≤ ((IntKind.i64.wrap ((((List.length p1) : Nat) : Int) + (1 : Int))).toNat)))
 (asr (decide ((List.length ((List.take (0 + (0 + (List.length p1))) (p1 ++ (List.drop (0 + (List.length p1)) (List.replicate ((IntKind.i64.wrap ((((List.length p1) : Nat) : Int) + (1 : Int))).toNat) ((.agg [(.int .i64 (0)), (.int .u8 (0)), (.int .i64 (0)), (.int .i64 (0)), (.int .i64 (0)), (.int .i64 (0)), (.int .i64 (0)), (.int .i64 (0))]) : PV))))) ++ (([(.agg [(.int .i64 p2), (.int .u8 (2 : Int)), (.int .i64 p3), (.int .i64 p4), (.int .i64 p5), (.int .i64 p6), (.int .i64 yi2), (.int .i64 yi3)])] : List PV) ++ (List.drop ((0 + (0 + (List.length p1))) + 1) (p1 ++ (List.drop (0 + (List.length p1)) (List.replicate ((IntKind.i64.wrap ((((List.length p1) : Nat) : Int) + (1 : Int))).toNat) ((.agg [(.int .i64 (0)), (.int .u8 (0)), (.int .i64 (0)), (.int .i64 (0)), (.int .i64 (0)), (.int .i64 (0)), (.int .i64 (0)), (.int .i64 (0))]) : PV)))))))) = ((IntKind.i64.wrap ((((List.length p1) : Nat) : Int) + (1 : Int))).toNat)))
 (asr (decide ((0 + ((0 + (List.length p1)) + 1)) ≤ ((IntKind.i64.wrap ((((List.length p1) : Nat) : Int) + (1 : Int))).toNat)))
 (K yl5 (List.take ((0 + (List.length p1)) + 1) ((List.take (0 + (0 + (List.length p1))) (p1 ++ (List.drop (0 + (List.length p1)) (List.replicate ((IntKind.i64.wrap ((((List.length p1) : Nat) : Int) + (1 : Int))).toNat) ((.agg [(.int .i64 (0)), (.int .u8 (0)), (.int .i64 (0)), (.int .i64 (0)), (.int .i64 (0)), (.int .i64 (0)), (.int .i64 (0)), (.int .i64 (0))]) : PV))))) ++ (([(.agg [(.int .i64 p2), (.int .u8 (2 : Int)), (.int .i64 p3), (.int .i64 p4), (.int .i64 p5), (.int .i64 p6), (.int .i64 yi2), (.int .i64 yi3)])] : List PV) ++ (List.drop ((0 + (0 + (List.length p1))) + 1) (p1 ++ (List.drop (0 + (List.length p1)) (List.replicate ((IntKind.i64.wrap ((((List.length p1) : Nat) : Int) + (1 : Int))).toNat) ((.agg [(.int .i64 (0)), (.int .u8 (0)), (.int .i64 (0)), (.int .i64 (0)), (.int .i64 (0)), (.int .i64 (0)), (.int .i64 (0)), (.int .i64 (0))]) : PV)))))))) yi2 yi3 (0 : Int))))))))))))))))))))))))))
def w_ask_Mark (p0 p1 : List PV) (p2 p3 p4 p5 p6 : Int) (K : List PV → List PV → Int → Int → Int → Prop) : Prop := wv_ask_Mark w_ask_Check w_ask_office_has w_ask_office_mark w_ask_copied p0 p1 p2 p3 p4 p5 p6 K
def pw_ask_Mark (w : T_ask_Mark) (as : List PV) (K : PV → Prop) : Prop :=
 match as with
 | [(.agg [(.data p0), (.data p1)]), (.int .i64 p2), (.agg [(.int .i64 p3), (.int .i64 p4)]), (.agg [(.int .i64 p5), (.int .i64 p6)])] => w p0 p1 p2 p3 p4 p5 p6 (fun r0 r1 r2 r3 r4 => K (.tup [(.agg [(.data r0), (.data r1)]), (.agg [(.int .i64 r2), (.int .i64 r3)]), (.int .i64 r4)]))
 | _ => False
def wp_ask_Mark (as : List PV) (K : PV → Prop) : Prop := pw_ask_Mark w_ask_Mark as K
def lp_ask_Mark (_ : T_ask_Check) (_ : T_ask_office_has) (_ : T_ask_office_mark) (_ : T_ask_copied) : LP := fun _ _ _ _ =>
 False
def S0_ask_Mark (a0 : T_ask_Check) (a1 : T_ask_office_has) (a2 : T_ask_office_mark) (a3 : T_ask_copied) : SE := ⟨E, lookS [(n_ask_Check, pw_ask_Check a0), (n_ask_office_has, pw_ask_office_has a1), (n_ask_office_mark, pw_ask_office_mark a2), (n_ask_copied, pw_ask_copied a3)], lookI [(n_ask_office_ask, t_ask_office_ask)], lp_ask_Mark a0 a1 a2 a3⟩
theorem se0_ask_Mark : SEOk (S0_ask_Mark w_ask_Check w_ask_office_has w_ask_office_mark w_ask_copied) := seOk_of ⟨ok_ask_Check, ok_ask_office_has, ok_ask_office_mark, ok_ask_copied, trivial⟩ ⟨⟨by kernel_rfl, by kernel_rfl, rfl, fun as => baseC_none (by kernel_rfl) as, (LpOk_no (by kernel_rfl))⟩, trivial⟩
theorem eq_ask_Mark (a0 a1 a2 a3 p0 p1 p2 p3 p4 p5 p6 K) : WP (S0_ask_Mark a0 a1 a2 a3) 6 t_ask_Mark [(.agg [(.data p0), (.data p1)]), (.int .i64 p2), (.agg [(.int .i64 p3), (.int .i64 p4)]), (.agg [(.int .i64 p5), (.int .i64 p6)])] K = wv_ask_Mark a0 a1 a2 a3 p0 p1 p2 p3 p4 p5 p6 (fun r0 r1 r2 r3 r4 => K (.tup [(.agg [(.data r0), (.data r1)]), (.agg [(.int .i64 r2), (.int .i64 r3)]), (.int .i64 r4)])) := by kernel_rfl
theorem ok_ask_Mark : OkF E wp_ask_Mark n_ask_Mark := by
  intro as K h
  unfold wp_ask_Mark pw_ask_Mark at h
  split at h
  · exact WP_ok se0_ask_Mark (LpOk_no (by kernel_rfl)) (by kernel_rfl) (by kernel_rfl) (fun _ => baseC_none (by kernel_rfl) _) ((eq_ask_Mark ..).mpr h)
  · exact h.elim
abbrev T_ask_office_value : Type := List PV → List PV → Int → Int → Int → Int → Int → (Int → Int → Int → Prop) → Prop
def wv_ask_office_value (a0 : T_cake_Value) (p0 _ : List PV) (p2 p3 p4 p5 p6 : Int) (K : Int → Int → Int → Prop) : Prop :=
 (asr (decide ((0 : Int) ≤ p2))
 (asr (decide (p2 < (((List.length p0) : Nat) : Int)))
 (asr (conf (.agg [.i .i64, .d, .d]) (List.getD p0 (p2.toNat) .nils))
 (a0 (intOfV (cellAt (List.getD p0 (p2.toNat) .nils) 0)) (datOfV (cellAt (List.getD p0 (p2.toNat) .nils) 1)) (datOfV (cellAt (List.getD p0 (p2.toNat) .nils) 2)) p3 p4 p5 p6 (fun yi0 yi1 yi2 => 
 (K yi0 yi1 yi2))))))
def w_ask_office_value (p0 p1 : List PV) (p2 p3 p4 p5 p6 : Int) (K : Int → Int → Int → Prop) : Prop := wv_ask_office_value w_cake_Value p0 p1 p2 p3 p4 p5 p6 K
def pw_ask_office_value (w : T_ask_office_value) (as : List PV) (K : PV → Prop) : Prop :=
 match as with
 | [(.agg [(.data p0), (.data p1)]), (.int .i64 p2), (.agg [(.int .i64 p3), (.int .i64 p4)]), (.agg [(.int .i64 p5), (.int .i64 p6)])] => w p0 p1 p2 p3 p4 p5 p6 (fun r0 r1 r2 => K (.tup [(.agg [(.int .i64 r0), (.int .i64 r1)]), (.int .i64 r2)]))
 | _ => False
def wp_ask_office_value (as : List PV) (K : PV → Prop) : Prop := pw_ask_office_value w_ask_office_value as K
def lp_ask_office_value (_ : T_cake_Value) : LP := fun _ _ _ _ =>
 False
def S0_ask_office_value (a0 : T_cake_Value) : SE := ⟨E, lookS [(n_cake_Value, pw_cake_Value a0)], lookI [], lp_ask_office_value a0⟩
theorem se0_ask_office_value : SEOk (S0_ask_office_value w_cake_Value) := seOk_of ⟨ok_cake_Value, trivial⟩ trivial
theorem eq_ask_office_value (a0 p0 p1 p2 p3 p4 p5 p6 K) : WP (S0_ask_office_value a0) 6 t_ask_office_value [(.agg [(.data p0), (.data p1)]), (.int .i64 p2), (.agg [(.int .i64 p3), (.int .i64 p4)]), (.agg [(.int .i64 p5), (.int .i64 p6)])] K = wv_ask_office_value a0 p0 p1 p2 p3 p4 p5 p6 (fun r0 r1 r2 => K (.tup [(.agg [(.int .i64 r0), (.int .i64 r1)]), (.int .i64 r2)])) := by kernel_rfl
theorem ok_ask_office_value : OkF E wp_ask_office_value n_ask_office_value := by
  intro as K h
  unfold wp_ask_office_value pw_ask_office_value at h
  split at h
  · exact WP_ok se0_ask_office_value (LpOk_no (by kernel_rfl)) (by kernel_rfl) (by kernel_rfl) (fun _ => baseC_none (by kernel_rfl) _) ((eq_ask_office_value ..).mpr h)
  · exact h.elim
abbrev T_ask_Value : Type := List PV → List PV → Int → Int → Int → Int → Int → (List PV → List PV → Int → Int → Int → Prop) → Prop
def wv_ask_Value (a0 : T_ask_Check) (a1 : T_ask_office_has) (a2 : T_ask_office_value) (a3 : T_ask_copied) (p0 p1 : List PV) (p2 p3 p4 p5 p6 : Int) (K : List PV → List PV → Int → Int → Int → Prop) : Prop :=
 (a0 p0 p1 (fun yi0 => 
 (cbr (yi0 != (0 : Int))
 (K ([] : List PV) ([] : List PV) (0 : Int) (0 : Int) yi0)
 (a1 p0 p1 p2 (fun yb1 => 
 (cbr (!yb1)
 (K ([] : List PV) ([] : List PV) (0 : Int) (0 : Int) (2 : Int))
 (a2 p0 p1 p2 p3 p4 p5 p6 (fun yi2 yi3 yi4 => 
 (cbr (yi4 != (0 : Int))
 (K ([] : List PV) ([] : List PV) (0 : Int) (0 : Int) yi4)
 (cbr (decide ((((List.length p1) : Nat) : Int) ≥ (2000 : Int)))
 (K ([] : List PV) ([] : List PV) (0 : Int) (0 : Int) (4 : Int))
 (asr (decide ((0 : Int) ≤ (IntKind.i64.wrap ((((List.length p1) : Nat) : Int) + (1 : Int)))))
 (asr (decide ((((IntKind.i64.wrap ((((List.length p1) : Nat) : Int) + (1 : Int))).toNat) + 64) * (64 + 1) ≤ room))
 (a3 p0 (fun yl5 => 
 (asr (headOk 8 p1)
 (asr (decide ((List.length (List.replicate ((IntKind.i64.wrap ((((List.length p1) : Nat) : Int) + (1 : Int))).toNat) ((.agg [(.int .i64 (0)), (.int .u8 (0)), (.int .i64 (0)), (.int .i64 (0)), (.int .i64 (0)), (.int .i64 (0)), (.int .i64 (0)), (.int .i64 (0))]) : PV))) = ((IntKind.i64.wrap ((((List.length p1) : Nat) : Int) + (1 : Int))).toNat)))
 (asr (decide (0 ≤ ((IntKind.i64.wrap ((((List.length p1) : Nat) : Int) + (1 : Int))).toNat)))
 (cbr (List.isEmpty p1)
 (asr (decide ((List.length (List.replicate ((IntKind.i64.wrap ((((List.length p1) : Nat) : Int) + (1 : Int))).toNat) ((.agg [(.int .i64 (0)), (.int .u8 (0)), (.int .i64 (0)), (.int .i64 (0)), (.int .i64 (0)), (.int .i64 (0)), (.int .i64 (0)), (.int .i64 (0))]) : PV))) = ((IntKind.i64.wrap ((((List.length p1) : Nat) : Int) + (1 : Int))).toNat)))
 (asr (decide (0 ≤ ((IntKind.i64.wrap ((((List.length p1) : Nat) : Int) + (1 : Int))).toNat)))
 (asr (decide (1 ≤ ((IntKind.i64.wrap ((((List.length p1) : Nat) : Int) + (1 : Int))).toNat)))
 (asr (decide ((List.length (([(.agg [(.int .i64 p2), (.int .u8 (1 : Int)), (.int .i64 p3), (.int .i64 p4), (.int .i64 p5), (.int .i64 p6), (.int .i64 yi2), (.int .i64 yi3)])] : List PV) ++ (List.drop 1 (List.replicate ((IntKind.i64.wrap ((((List.length p1) : Nat) : Int) + (1 : Int))).toNat) ((.agg [(.int .i64 (0)), (.int .u8 (0)), (.int .i64 (0)), (.int .i64 (0)), (.int .i64 (0)), (.int .i64 (0)), (.int .i64 (0)), (.int .i64 (0))]) : PV))))) = ((IntKind.i64.wrap ((((List.length p1) : Nat) : Int) + (1 : Int))).toNat)))
 (asr (decide (1 ≤ ((IntKind.i64.wrap ((((List.length p1) : Nat) : Int) + (1 : Int))).toNat)))
 (K yl5 (List.take 1 (([(.agg [(.int .i64 p2), (.int .u8 (1 : Int)), (.int .i64 p3), (.int .i64 p4), (.int .i64 p5), (.int .i64 p6), (.int .i64 yi2), (.int .i64 yi3)])] : List PV) ++ (List.drop 1 (List.replicate ((IntKind.i64.wrap ((((List.length p1) : Nat) : Int) + (1 : Int))).toNat) ((.agg [(.int .i64 (0)), (.int .u8 (0)), (.int .i64 (0)), (.int .i64 (0)), (.int .i64 (0)), (.int .i64 (0)), (.int .i64 (0)), (.int .i64 (0))]) : PV))))) yi2 yi3 (0 : Int)))))))
 (asr (decide ((0 + (List.length p1)) ≤ ((IntKind.i64.wrap ((((List.length p1) : Nat) : Int) + (1 : Int))).toNat)))
 (asr (decide ((List.length (p1 ++ (List.drop (0 + (List.length p1)) (List.replicate ((IntKind.i64.wrap ((((List.length p1) : Nat) : Int) + (1 : Int))).toNat) ((.agg [(.int .i64 (0)), (.int .u8 (0)), (.int .i64 (0)), (.int .i64 (0)), (.int .i64 (0)), (.int .i64 (0)), (.int .i64 (0)), (.int .i64 (0))]) : PV))))) = ((IntKind.i64.wrap ((((List.length p1) : Nat) : Int) + (1 : Int))).toNat)))
 (asr (decide ((0 + (0 + (List.length p1))) ≤ ((IntKind.i64.wrap ((((List.length p1) : Nat) : Int) + (1 : Int))).toNat)))
 (asr (decide (((0 + (List.length p1)) + 1) ≤ ((IntKind.i64.wrap ((((List.length p1) : Nat) : Int) + (1 : Int))).toNat)))
 (asr (decide ((List.length ((List.take (0 + (0 + (List.length p1))) (p1 ++ (List.drop (0 + (List.length p1)) (List.replicate ((IntKind.i64.wrap ((((List.length p1) : Nat) : Int) + (1 : Int))).toNat) ((.agg [(.int .i64 (0)), (.int .u8 (0)), (.int .i64 (0)), (.int .i64 (0)), (.int .i64 (0)), (.int .i64 (0)), (.int .i64 (0)), (.int .i64 (0))]) : PV))))) ++ (([(.agg [(.int .i64 p2), (.int .u8 (1 : Int)), (.int .i64 p3), (.int .i64 p4), (.int .i64 p5), (.int .i64 p6), (.int .i64 yi2), (.int .i64 yi3)])] : List PV) ++ (List.drop ((0 + (0 + (List.length p1))) + 1) (p1 ++ (List.drop (0 + (List.length p1)) (List.replicate ((IntKind.i64.wrap ((((List.length p1) : Nat) : Int) + (1 : Int))).toNat) ((.agg [(.int .i64 (0)), (.int .u8 (0)), (.int .i64 (0)), (.int .i64 (0)), (.int .i64 (0)), (.int .i64 (0)), (.int .i64 (0)), (.int .i64 (0))]) : PV)))))))) = ((IntKind.i64.wrap ((((List.length p1) : Nat) : Int) + (1 : Int))).toNat)))
 (asr (decide ((0 + ((0 + (List.length p1)) + 1)) ≤ ((IntKind.i64.wrap ((((List.length p1) : Nat) : Int) + (1 : Int))).toNat)))
 (K yl5 (List.take ((0 + (List.length p1)) + 1) ((List.take (0 + (0 + (List.length p1))) (p1 ++ (List.drop (0 + (List.length p1)) (List.replicate ((IntKind.i64.wrap ((((List.length p1) : Nat) : Int) + (1 : Int))).toNat) ((.agg [(.int .i64 (0)), (.int .u8 (0)), (.int .i64 (0)), (.int .i64 (0)), (.int .i64 (0)), (.int .i64 (0)), (.int .i64 (0)), (.int .i64 (0))]) : PV))))) ++ (([(.agg [(.int .i64 p2), (.int .u8 (1 : Int)), (.int .i64 p3), (.int .i64 p4), (.int .i64 p5), (.int .i64 p6), (.int .i64 yi2), (.int .i64 yi3)])] : List PV) ++ (List.drop ((0 + (0 + (List.length p1))) + 1) (p1 ++ (List.drop (0 + (List.length p1)) (List.replicate ((IntKind.i64.wrap ((((List.length p1) : Nat) : Int) + (1 : Int))).toNat) ((.agg [(.int .i64 (0)), (.int .u8 (0)), (.int .i64 (0)), (.int .i64 (0)), (.int .i64 (0)), (.int .i64 (0)), (.int .i64 (0)), (.int .i64 (0))]) : PV)))))))) yi2 yi3 (0 : Int))))))))))))))))))))))))))
def w_ask_Value (p0 p1 : List PV) (p2 p3 p4 p5 p6 : Int) (K : List PV → List PV → Int → Int → Int → Prop) : Prop := wv_ask_Value w_ask_Check w_ask_office_has w_ask_office_value w_ask_copied p0 p1 p2 p3 p4 p5 p6 K
def pw_ask_Value (w : T_ask_Value) (as : List PV) (K : PV → Prop) : Prop :=
 match as with
 | [(.agg [(.data p0), (.data p1)]), (.int .i64 p2), (.agg [(.int .i64 p3), (.int .i64 p4)]), (.agg [(.int .i64 p5), (.int .i64 p6)])] => w p0 p1 p2 p3 p4 p5 p6 (fun r0 r1 r2 r3 r4 => K (.tup [(.agg [(.data r0), (.data r1)]), (.agg [(.int .i64 r2), (.int .i64 r3)]), (.int .i64 r4)]))
 | _ => False
def wp_ask_Value (as : List PV) (K : PV → Prop) : Prop := pw_ask_Value w_ask_Value as K
def lp_ask_Value (_ : T_ask_Check) (_ : T_ask_office_has) (_ : T_ask_office_value) (_ : T_ask_copied) : LP := fun _ _ _ _ =>
 False
def S0_ask_Value (a0 : T_ask_Check) (a1 : T_ask_office_has) (a2 : T_ask_office_value) (a3 : T_ask_copied) : SE := ⟨E, lookS [(n_ask_Check, pw_ask_Check a0), (n_ask_office_has, pw_ask_office_has a1), (n_ask_office_value, pw_ask_office_value a2), (n_ask_copied, pw_ask_copied a3)], lookI [(n_ask_office_ask, t_ask_office_ask)], lp_ask_Value a0 a1 a2 a3⟩
theorem se0_ask_Value : SEOk (S0_ask_Value w_ask_Check w_ask_office_has w_ask_office_value w_ask_copied) := seOk_of ⟨ok_ask_Check, ok_ask_office_has, ok_ask_office_value, ok_ask_copied, trivial⟩ ⟨⟨by kernel_rfl, by kernel_rfl, rfl, fun as => baseC_none (by kernel_rfl) as, (LpOk_no (by kernel_rfl))⟩, trivial⟩
theorem eq_ask_Value (a0 a1 a2 a3 p0 p1 p2 p3 p4 p5 p6 K) : WP (S0_ask_Value a0 a1 a2 a3) 6 t_ask_Value [(.agg [(.data p0), (.data p1)]), (.int .i64 p2), (.agg [(.int .i64 p3), (.int .i64 p4)]), (.agg [(.int .i64 p5), (.int .i64 p6)])] K = wv_ask_Value a0 a1 a2 a3 p0 p1 p2 p3 p4 p5 p6 (fun r0 r1 r2 r3 r4 => K (.tup [(.agg [(.data r0), (.data r1)]), (.agg [(.int .i64 r2), (.int .i64 r3)]), (.int .i64 r4)])) := by kernel_rfl
theorem ok_ask_Value : OkF E wp_ask_Value n_ask_Value := by
  intro as K h
  unfold wp_ask_Value pw_ask_Value at h
  split at h
  · exact WP_ok se0_ask_Value (LpOk_no (by kernel_rfl)) (by kernel_rfl) (by kernel_rfl) (fun _ => baseC_none (by kernel_rfl) _) ((eq_ask_Value ..).mpr h)
  · exact h.elim
end Go.Pf.Vc
namespace Go.Pf.Vc
open Go Go.Pf
set_option linter.unusedVariables false
theorem det_ask_Check (p0 : List PV) (p1 : List PV) (r0 : Int) (h : ∀ K : Int → Prop, K r0 → w_ask_Check p0 p1 K) (K : Int → Prop) : w_ask_Check p0 p1 K = K r0 :=
 propext ⟨fun k => detC ok_ask_Check (as := [(.agg [(.data p0), (.data p1)])]) (x := (.int .i64 r0)) (fun K' k' => h (fun r0 => K' (.int .i64 r0)) k') (K := fun x => match x with | (.int .i64 r0) => K r0 | _ => False) k, h K⟩
theorem det_ask_copied (p0 : List PV) (r0 : List PV) (h : ∀ K : List PV → Prop, K r0 → w_ask_copied p0 K) (K : List PV → Prop) : w_ask_copied p0 K = K r0 :=
 propext ⟨fun k => detC ok_ask_copied (as := [(.data p0)]) (x := (.data r0)) (fun K' k' => h (fun r0 => K' (.data r0)) k') (K := fun x => match x with | (.data r0) => K r0 | _ => False) k, h K⟩
theorem det_ask_Mark (p0 : List PV) (p1 : List PV) (p2 : Int) (p3 : Int) (p4 : Int) (p5 : Int) (p6 : Int) (r0 : List PV) (r1 : List PV) (r2 : Int) (r3 : Int) (r4 : Int) (h : ∀ K : List PV → List PV → Int → Int → Int → Prop, K r0 r1 r2 r3 r4 → w_ask_Mark p0 p1 p2 p3 p4 p5 p6 K) (K : List PV → List PV → Int → Int → Int → Prop) : w_ask_Mark p0 p1 p2 p3 p4 p5 p6 K = K r0 r1 r2 r3 r4 :=
 propext ⟨fun k => detC ok_ask_Mark (as := [(.agg [(.data p0), (.data p1)]), (.int .i64 p2), (.agg [(.int .i64 p3), (.int .i64 p4)]), (.agg [(.int .i64 p5), (.int .i64 p6)])]) (x := (.tup [(.agg [(.data r0), (.data r1)]), (.agg [(.int .i64 r2), (.int .i64 r3)]), (.int .i64 r4)])) (fun K' k' => h (fun r0 r1 r2 r3 r4 => K' (.tup [(.agg [(.data r0), (.data r1)]), (.agg [(.int .i64 r2), (.int .i64 r3)]), (.int .i64 r4)])) k') (K := fun x => match x with | (.tup [(.agg [(.data r0), (.data r1)]), (.agg [(.int .i64 r2), (.int .i64 r3)]), (.int .i64 r4)]) => K r0 r1 r2 r3 r4 | _ => False) k, h K⟩
theorem det_ask_Value (p0 : List PV) (p1 : List PV) (p2 : Int) (p3 : Int) (p4 : Int) (p5 : Int) (p6 : Int) (r0 : List PV) (r1 : List PV) (r2 : Int) (r3 : Int) (r4 : Int) (h : ∀ K : List PV → List PV → Int → Int → Int → Prop, K r0 r1 r2 r3 r4 → w_ask_Value p0 p1 p2 p3 p4 p5 p6 K) (K : List PV → List PV → Int → Int → Int → Prop) : w_ask_Value p0 p1 p2 p3 p4 p5 p6 K = K r0 r1 r2 r3 r4 :=
 propext ⟨fun k => detC ok_ask_Value (as := [(.agg [(.data p0), (.data p1)]), (.int .i64 p2), (.agg [(.int .i64 p3), (.int .i64 p4)]), (.agg [(.int .i64 p5), (.int .i64 p6)])]) (x := (.tup [(.agg [(.data r0), (.data r1)]), (.agg [(.int .i64 r2), (.int .i64 r3)]), (.int .i64 r4)])) (fun K' k' => h (fun r0 r1 r2 r3 r4 => K' (.tup [(.agg [(.data r0), (.data r1)]), (.agg [(.int .i64 r2), (.int .i64 r3)]), (.int .i64 r4)])) k') (K := fun x => match x with | (.tup [(.agg [(.data r0), (.data r1)]), (.agg [(.int .i64 r2), (.int .i64 r3)]), (.int .i64 r4)]) => K r0 r1 r2 r3 r4 | _ => False) k, h K⟩
end Go.Pf.Vc
namespace Go.Pf.Vc
open Go Go.Pf
set_option maxRecDepth 100000
abbrev T_r01_Of : Type := Int → (Int → Int → Prop) → Prop
def wv_r01_Of (p0 : Int) (K : Int → Int → Prop) : Prop :=
 (K p0 (1 : Int))
def w_r01_Of (p0 : Int) (K : Int → Int → Prop) : Prop := wv_r01_Of p0 K
def pw_r01_Of (w : T_r01_Of) (as : List PV) (K : PV → Prop) : Prop :=
 match as with
 | [(.int .i64 p0)] => w p0 (fun r0 r1 => K (.agg [(.int .i64 r0), (.int .i64 r1)]))
 | _ => False
def wp_r01_Of (as : List PV) (K : PV → Prop) : Prop := pw_r01_Of w_r01_Of as K
def lp_r01_Of : LP := fun _ _ _ _ =>
 False
def S0_r01_Of : SE := ⟨E, lookS [], lookI [], lp_r01_Of⟩
theorem se0_r01_Of : SEOk (S0_r01_Of) := seOk_of trivial trivial
theorem eq_r01_Of ( p0 K) : WP (S0_r01_Of) 6 t_r01_Of [(.int .i64 p0)] K = wv_r01_Of p0 (fun r0 r1 => K (.agg [(.int .i64 r0), (.int .i64 r1)])) := by kernel_rfl
theorem ok_r01_Of : OkF E wp_r01_Of n_r01_Of := by
  intro as K h
  unfold wp_r01_Of pw_r01_Of at h
  split at h
  · exact WP_ok se0_r01_Of (LpOk_no (by kernel_rfl)) (by kernel_rfl) (by kernel_rfl) (fun _ => baseC_none (by kernel_rfl) _) ((eq_r01_Of ..).mpr h)
  · exact h.elim
end Go.Pf.Vc
namespace Go.Pf.Vc
open Go Go.Pf
set_option maxRecDepth 100000
abbrev T_r02_Great : Type := Int → List PV → List PV → (Bool → Prop) → Prop
def wv_r02_Great (_ : Int) (p1 p2 : List PV) (K : Bool → Prop) : Prop :=
 (cbr (decide ((((List.length p1) : Nat) : Int) > (60 : Int)))
 (K true)
 (K (decide ((((List.length p2) : Nat) : Int) > (60 : Int)))))
def w_r02_Great (p0 : Int) (p1 p2 : List PV) (K : Bool → Prop) : Prop := wv_r02_Great p0 p1 p2 K
def pw_r02_Great (w : T_r02_Great) (as : List PV) (K : PV → Prop) : Prop :=
 match as with
 | [(.agg [(.int .i64 p0), (.data p1), (.data p2)])] => w p0 p1 p2 (fun r0 => K (.bool r0))
 | _ => False
def wp_r02_Great (as : List PV) (K : PV → Prop) : Prop := pw_r02_Great w_r02_Great as K
def lp_r02_Great : LP := fun _ _ _ _ =>
 False
def S0_r02_Great : SE := ⟨E, lookS [], lookI [], lp_r02_Great⟩
theorem se0_r02_Great : SEOk (S0_r02_Great) := seOk_of trivial trivial
theorem eq_r02_Great ( p0 p1 p2 K) : WP (S0_r02_Great) 6 t_r02_Great [(.agg [(.int .i64 p0), (.data p1), (.data p2)])] K = wv_r02_Great p0 p1 p2 (fun r0 => K (.bool r0)) := by kernel_rfl
theorem ok_r02_Great : OkF E wp_r02_Great n_r02_Great := by
  intro as K h
  unfold wp_r02_Great pw_r02_Great at h
  split at h
  · exact WP_ok se0_r02_Great (LpOk_no (by kernel_rfl)) (by kernel_rfl) (by kernel_rfl) (fun _ => baseC_none (by kernel_rfl) _) ((eq_r02_Great ..).mpr h)
  · exact h.elim
abbrev T_r02_Check : Type := Int → List PV → List PV → (Int → Prop) → Prop
def L_r02_Check_0_0 (x0 : Int → Prop) (x1 : Int → List PV → List PV → Bool → Int → Bool → Prop) : Nat → Int → List PV → List PV → Bool → Int → Prop
 | 0, _, _, _, _, _ => False
 | n + 1, i0, l1, l2, b3, i4 =>
 (cbr (decide (i4 < (((List.length l2) : Nat) : Int)))
 (asr (decide ((0 : Int) ≤ (IntKind.i64.wrap (i4 + (1 : Int)))))
 (asr (decide ((IntKind.i64.wrap (i4 + (1 : Int))) < (((List.length l1) : Nat) : Int)))
 (asr (conf (.one (.i .i64)) (List.getD l1 ((IntKind.i64.wrap (i4 + (1 : Int))).toNat) .nils))
 (asr (decide ((0 : Int) ≤ i4))
 (asr (decide (i4 < (((List.length l1) : Nat) : Int)))
 (asr (conf (.one (.i .i64)) (List.getD l1 (i4.toNat) .nils))
 (cbr (decide ((intOfV (List.getD l1 ((IntKind.i64.wrap (i4 + (1 : Int))).toNat) .nils)) ≤ (intOfV (List.getD l1 (i4.toNat) .nils))))
 (x0 (8 : Int))
 (asr (decide ((0 : Int) ≤ i4))
 (asr (decide (i4 < (((List.length l2) : Nat) : Int)))
 (asr (conf (.one (.i .i64)) (List.getD l2 (i4.toNat) .nils))
 (cbr (decide ((intOfV (List.getD l2 (i4.toNat) .nils)) < (0 : Int)))
 (x0 (8 : Int))
 (asr (decide ((0 : Int) ≤ i4))
 (asr (decide (i4 < (((List.length l2) : Nat) : Int)))
 (asr (conf (.one (.i .i64)) (List.getD l2 (i4.toNat) .nils))
 (cbr (decide ((intOfV (List.getD l2 (i4.toNat) .nils)) > (12 : Int)))
 (x0 (8 : Int))
 (cbr b3
 (L_r02_Check_0_0 x0 x1 n i0 l1 l2 true (IntKind.i64.wrap (i4 + (1 : Int))))
 (asr (decide ((0 : Int) ≤ i4))
 (asr (decide (i4 < (((List.length l2) : Nat) : Int)))
 (asr (conf (.one (.i .i64)) (List.getD l2 (i4.toNat) .nils))
 (L_r02_Check_0_0 x0 x1 n i0 l1 l2 (decide ((intOfV (List.getD l2 (i4.toNat) .nils)) > (0 : Int))) (IntKind.i64.wrap (i4 + (1 : Int)))))))))))))))))))))))
 (x1 i0 l1 l2 b3 i4 false))
def wv_r02_Check (p0 : Int) (p1 p2 : List PV) (K : Int → Prop) : Prop :=
 (cbr (decide (p0 > (1000 : Int)))
 (K (4 : Int))
 (cbr (decide ((((List.length p1) : Nat) : Int) > (40 : Int)))
 (K (4 : Int))
 (cbr (decide (p0 < (1 : Int)))
 (K (8 : Int))
 (cbr (decide ((((List.length p1) : Nat) : Int) < (2 : Int)))
 (K (8 : Int))
 (cbr ((((List.length p2) : Nat) : Int) != (IntKind.i64.wrap ((((List.length p1) : Nat) : Int) - (1 : Int))))
 (K (8 : Int))
 (asr (decide ((0 : Int) < (((List.length p1) : Nat) : Int)))
 (asr (conf (.one (.i .i64)) (List.getD p1 0 .nils))
 (cbr ((intOfV (List.getD p1 0 .nils)) != (0 : Int))
 (K (8 : Int))
 (asr (decide ((0 : Int) ≤ (IntKind.i64.wrap ((((List.length p1) : Nat) : Int) - (1 : Int)))))
 (asr (decide ((IntKind.i64.wrap ((((List.length p1) : Nat) : Int) - (1 : Int))) < (((List.length p1) : Nat) : Int)))
 (asr (conf (.one (.i .i64)) (List.getD p1 ((IntKind.i64.wrap ((((List.length p1) : Nat) : Int) - (1 : Int))).toNat) .nils))
 (cbr ((intOfV (List.getD p1 ((IntKind.i64.wrap ((((List.length p1) : Nat) : Int) - (1 : Int))).toNat) .nils)) != p0)
 (K (8 : Int))
 (∃ n : Nat, L_r02_Check_0_0
 (fun yi0 => (K yi0))
 (fun _ _ _ yb4 _ _ => (cbr (!yb4)
 (K (8 : Int))
 (K (0 : Int))))
 n p0 p1 p2 false (0 : Int))))))))))))))
def w_r02_Check (p0 : Int) (p1 p2 : List PV) (K : Int → Prop) : Prop := wv_r02_Check p0 p1 p2 K
def pw_r02_Check (w : T_r02_Check) (as : List PV) (K : PV → Prop) : Prop :=
 match as with
 | [(.agg [(.int .i64 p0), (.data p1), (.data p2)])] => w p0 p1 p2 (fun r0 => K (.int .i64 r0))
 | _ => False
def wp_r02_Check (as : List PV) (K : PV → Prop) : Prop := pw_r02_Check w_r02_Check as K
def D_r02_Check_0 (F : Frm) (H : Hp) (A0 : Int → List PV → List PV → Bool → Int → Prop) : Prop :=
 match F, H with
 | [(1, .box (.agg [(.int .i64 i0), (.data l1), (.data l2)])), (3, .v (.bool b3)), (4, .v (.int .i64 i4))], [] => (A0 i0 l1 l2 b3 i4)
 | _, _ => False
def R_r02_Check_0 (Q : Ex → Frm → Hp → Prop) (n : Nat) (F : Frm) (H : Hp) : Prop := D_r02_Check_0 F H (fun i0 l1 l2 b3 i4 => L_r02_Check_0_0 (fun i0 => Q .ret [(2, .v (.int .i64 i0))] []) (fun i0 l1 l2 b3 i4 b5 => Q (.exit 0) [(1, .box (.agg [(.int .i64 i0), (.data l1), (.data l2)])), (3, .v (.bool b3)), (4, .v (.int .i64 i4)), (57, .v (.bool b5))] []) n i0 l1 l2 b3 i4)
def lp_r02_Check : LP := fun id F H Q =>
 bif Nat.beq id 94526800 then D_r02_Check_0 F H (fun i0 l1 l2 b3 i4 => ∃ n : Nat, L_r02_Check_0_0 (fun i0 => Q .ret [(2, .v (.int .i64 i0))] []) (fun i0 l1 l2 b3 i4 b5 => Q (.exit 0) [(1, .box (.agg [(.int .i64 i0), (.data l1), (.data l2)])), (3, .v (.bool b3)), (4, .v (.int .i64 i4)), (57, .v (.bool b5))] []) n i0 l1 l2 b3 i4) else
 False
def S0_r02_Check : SE := ⟨E, lookS [], lookI [], lp_r02_Check⟩
theorem se0_r02_Check : SEOk (S0_r02_Check) := seOk_of trivial trivial
theorem body_r02_Check_0_0 ( Q n i0 l1 l2 b3 i4) : WC E (callW (S0_r02_Check) 5) (lp_r02_Check) b_94526800 [(1, .box (.agg [(.int .i64 i0), (.data l1), (.data l2)])), (3, .v (.bool b3)), (4, .v (.int .i64 i4))] [] (fun x F' H' => match x with | .norm => R_r02_Check_0 Q n F' H' | .exit i => Q (.exit i) F' H' | .ret => Q .ret F' H') = L_r02_Check_0_0 (fun i0 => Q .ret [(2, .v (.int .i64 i0))] []) (fun i0 l1 l2 b3 i4 b5 => Q (.exit 0) [(1, .box (.agg [(.int .i64 i0), (.data l1), (.data l2)])), (3, .v (.bool b3)), (4, .v (.int .i64 i4)), (57, .v (.bool b5))] []) (n + 1) i0 l1 l2 b3 i4 := by kernel_rfl
theorem lpb_r02_Check_0 : LpOk E (lp_r02_Check) b_94526800 := (LpOk_no (by kernel_rfl))
theorem loop_r02_Check_0 : ∀ F H Q, lp_r02_Check 94526800 F H Q → LoopT E b_94526800 F H Q := by
  intro F H Q h
  have go := LoopT.intro (callW_ok se0_r02_Check 5) lpb_r02_Check_0 (R_r02_Check_0 Q) (by
    intro F H h
    unfold R_r02_Check_0 D_r02_Check_0 at h
    split at h
    · exact h
    · exact h) (by
    intro n F H h
    unfold R_r02_Check_0 D_r02_Check_0 at h
    split at h
    · exact (body_r02_Check_0_0 ..).mpr h
    · exact h.elim)
  have h : D_r02_Check_0 F H _ := h
  unfold D_r02_Check_0 at h
  split at h
  · obtain ⟨n, h⟩ := h; exact go n _ _ h
  · exact h.elim
theorem eq_r02_Check ( p0 p1 p2 K) : WP (S0_r02_Check) 6 t_r02_Check [(.agg [(.int .i64 p0), (.data p1), (.data p2)])] K = wv_r02_Check p0 p1 p2 (fun r0 => K (.int .i64 r0)) := by kernel_rfl
theorem ok_r02_Check : OkF E wp_r02_Check n_r02_Check := by
  intro as K h
  unfold wp_r02_Check pw_r02_Check at h
  split at h
  · exact WP_ok se0_r02_Check (LpOk_by (l := [(94526800, b_94526800)]) ⟨loop_r02_Check_0, trivial⟩ (by kernel_rfl)) (by kernel_rfl) (by kernel_rfl) (fun _ => baseC_none (by kernel_rfl) _) ((eq_r02_Check ..).mpr h)
  · exact h.elim
abbrev T_r02_Same : Type := Int → List PV → List PV → Int → List PV → List PV → (Bool → Prop) → Prop
def L_r02_Same_0_0 (x12537700_0 : Bool → Prop) (x12537700_1 : Int → List PV → List PV → Int → List PV → List PV → Int → Bool → Prop) : Nat → Int → List PV → List PV → Int → List PV → List PV → Int → Prop
 | 0, _, _, _, _, _, _, _ => False
 | n12537700 + 1, i0, l1, l2, i3, l4, l5, i6 =>
 (cbr (decide (i6 < (((List.length l1) : Nat) : Int)))
 (asr (decide ((0 : Int) ≤ i6))
 (asr (decide (i6 < (((List.length l1) : Nat) : Int)))
 (asr (conf (.one (.i .i64)) (List.getD l1 (i6.toNat) .nils))
 (asr (decide ((0 : Int) ≤ i6))
 (asr (decide (i6 < (((List.length l4) : Nat) : Int)))
 (asr (conf (.one (.i .i64)) (List.getD l4 (i6.toNat) .nils))
 (cbr ((intOfV (List.getD l1 (i6.toNat) .nils)) != (intOfV (List.getD l4 (i6.toNat) .nils)))
 (x12537700_0 false)
 (L_r02_Same_0_0 x12537700_0 x12537700_1 n12537700 i0 l1 l2 i3 l4 l5 (IntKind.i64.wrap (i6 + (1 : Int)))))))))))
 (x12537700_1 i0 l1 l2 i3 l4 l5 i6 false))
def L_r02_Same_1_0 (x12537701_0 : Bool → Prop) (x12537701_1 : Int → List PV → List PV → Int → List PV → List PV → Int → Bool → Prop) : Nat → Int → List PV → List PV → Int → List PV → List PV → Int → Prop
 | 0, _, _, _, _, _, _, _ => False
 | n12537701 + 1, i0, l1, l2, i3, l4, l5, i6 =>
 (cbr (decide (i6 < (((List.length l2) : Nat) : Int)))
 (asr (decide ((0 : Int) ≤ i6))
 (asr (decide (i6 < (((List.length l2) : Nat) : Int)))
 (asr (conf (.one (.i .i64)) (List.getD l2 (i6.toNat) .nils))
 (asr (decide ((0 : Int) ≤ i6))
 (asr (decide (i6 < (((List.length l5) : Nat) : Int)))
 (asr (conf (.one (.i .i64)) (List.getD l5 (i6.toNat) .nils))
 (cbr ((intOfV (List.getD l2 (i6.toNat) .nils)) != (intOfV (List.getD l5 (i6.toNat) .nils)))
 (x12537701_0 false)
 (L_r02_Same_1_0 x12537701_0 x12537701_1 n12537701 i0 l1 l2 i3 l4 l5 (IntKind.i64.wrap (i6 + (1 : Int)))))))))))
 (x12537701_1 i0 l1 l2 i3 l4 l5 i6 false))
def wv_r02_Same (p0 : Int) (p1 p2 : List PV) (p3 : Int) (p4 p5 : List PV) (K : Bool → Prop) : Prop :=
 (cbr (p0 != p3)
 (K false)
 (cbr ((((List.length p1) : Nat) : Int) != (((List.length p4) : Nat) : Int))
 (K false)
 (cbr ((((List.length p2) : Nat) : Int) != (((List.length p5) : Nat) : Int))
 (K false)
 (∃ n12537700 : Nat, L_r02_Same_0_0
 (fun yb0 => (K yb0))
 (fun yi1 yl2 yl3 yi4 yl5 yl6 _ _ => (∃ n12537701 : Nat, L_r02_Same_1_0
 (fun yb9 => (K yb9))
 (fun _ _ _ _ _ _ _ _ => (K true))
 n12537701 yi1 yl2 yl3 yi4 yl5 yl6 (0 : Int)))
 n12537700 p0 p1 p2 p3 p4 p5 (0 : Int)))))
def w_r02_Same (p0 : Int) (p1 p2 : List PV) (p3 : Int) (p4 p5 : List PV) (K : Bool → Prop) : Prop := wv_r02_Same p0 p1 p2 p3 p4 p5 K
def pw_r02_Same (w : T_r02_Same) (as : List PV) (K : PV → Prop) : Prop :=
 match as with
 | [(.agg [(.int .i64 p0), (.data p1), (.data p2)]), (.agg [(.int .i64 p3), (.data p4), (.data p5)])] => w p0 p1 p2 p3 p4 p5 (fun r0 => K (.bool r0))
 | _ => False
def wp_r02_Same (as : List PV) (K : PV → Prop) : Prop := pw_r02_Same w_r02_Same as K
def D_r02_Same_0 (F : Frm) (H : Hp) (A0 : Int → List PV → List PV → Int → List PV → List PV → Int → Prop) : Prop :=
 match F, H with
 | [(2, .box (.agg [(.int .i64 i0), (.data l1), (.data l2)])), (3, .box (.agg [(.int .i64 i3), (.data l4), (.data l5)])), (5, .v (.int .i64 i6))], [] => (A0 i0 l1 l2 i3 l4 l5 i6)
 | _, _ => False
def D_r02_Same_1 (F : Frm) (H : Hp) (A0 : Int → List PV → List PV → Int → List PV → List PV → Int → Prop) : Prop :=
 match F, H with
 | [(2, .box (.agg [(.int .i64 i0), (.data l1), (.data l2)])), (3, .box (.agg [(.int .i64 i3), (.data l4), (.data l5)])), (6, .v (.int .i64 i6))], [] => (A0 i0 l1 l2 i3 l4 l5 i6)
 | _, _ => False
def R_r02_Same_0 (Q : Ex → Frm → Hp → Prop) (n : Nat) (F : Frm) (H : Hp) : Prop := D_r02_Same_0 F H (fun i0 l1 l2 i3 l4 l5 i6 => L_r02_Same_0_0 (fun b0 => Q .ret [(4, .v (.bool b0))] []) (fun i0 l1 l2 i3 l4 l5 i6 b7 => Q (.exit 0) [(2, .box (.agg [(.int .i64 i0), (.data l1), (.data l2)])), (3, .box (.agg [(.int .i64 i3), (.data l4), (.data l5)])), (5, .v (.int .i64 i6)), (34, .v (.bool b7))] []) n i0 l1 l2 i3 l4 l5 i6)
def R_r02_Same_1 (Q : Ex → Frm → Hp → Prop) (n : Nat) (F : Frm) (H : Hp) : Prop := D_r02_Same_1 F H (fun i0 l1 l2 i3 l4 l5 i6 => L_r02_Same_1_0 (fun b0 => Q .ret [(4, .v (.bool b0))] []) (fun i0 l1 l2 i3 l4 l5 i6 b7 => Q (.exit 2) [(2, .box (.agg [(.int .i64 i0), (.data l1), (.data l2)])), (3, .box (.agg [(.int .i64 i3), (.data l4), (.data l5)])), (6, .v (.int .i64 i6)), (52, .v (.bool b7))] []) n i0 l1 l2 i3 l4 l5 i6)
def lp_r02_Same : LP := fun id F H Q =>
 bif Nat.beq id 12537700 then D_r02_Same_0 F H (fun i0 l1 l2 i3 l4 l5 i6 => ∃ n : Nat, L_r02_Same_0_0 (fun b0 => Q .ret [(4, .v (.bool b0))] []) (fun i0 l1 l2 i3 l4 l5 i6 b7 => Q (.exit 0) [(2, .box (.agg [(.int .i64 i0), (.data l1), (.data l2)])), (3, .box (.agg [(.int .i64 i3), (.data l4), (.data l5)])), (5, .v (.int .i64 i6)), (34, .v (.bool b7))] []) n i0 l1 l2 i3 l4 l5 i6) else
 bif Nat.beq id 12537701 then D_r02_Same_1 F H (fun i0 l1 l2 i3 l4 l5 i6 => ∃ n : Nat, L_r02_Same_1_0 (fun b0 => Q .ret [(4, .v (.bool b0))] []) (fun i0 l1 l2 i3 l4 l5 i6 b7 => Q (.exit 2) [(2, .box (.agg [(.int .i64 i0), (.data l1), (.data l2)])), (3, .box (.agg [(.int .i64 i3), (.data l4), (.data l5)])), (6, .v (.int .i64 i6)), (52, .v (.bool b7))] []) n i0 l1 l2 i3 l4 l5 i6) else
 False
def S0_r02_Same : SE := ⟨E, lookS [], lookI [], lp_r02_Same⟩
theorem se0_r02_Same : SEOk (S0_r02_Same) := seOk_of trivial trivial
theorem body_r02_Same_0_0 ( Q n i0 l1 l2 i3 l4 l5 i6) : WC E (callW (S0_r02_Same) 5) (lp_r02_Same) b_12537700 [(2, .box (.agg [(.int .i64 i0), (.data l1), (.data l2)])), (3, .box (.agg [(.int .i64 i3), (.data l4), (.data l5)])), (5, .v (.int .i64 i6))] [] (fun x F' H' => match x with | .norm => R_r02_Same_0 Q n F' H' | .exit i => Q (.exit i) F' H' | .ret => Q .ret F' H') = L_r02_Same_0_0 (fun b0 => Q .ret [(4, .v (.bool b0))] []) (fun i0 l1 l2 i3 l4 l5 i6 b7 => Q (.exit 0) [(2, .box (.agg [(.int .i64 i0), (.data l1), (.data l2)])), (3, .box (.agg [(.int .i64 i3), (.data l4), (.data l5)])), (5, .v (.int .i64 i6)), (34, .v (.bool b7))] []) (n + 1) i0 l1 l2 i3 l4 l5 i6 := by kernel_rfl
theorem lpb_r02_Same_0 : LpOk E (lp_r02_Same) b_12537700 := (LpOk_no (by kernel_rfl))
theorem loop_r02_Same_0 : ∀ F H Q, lp_r02_Same 12537700 F H Q → LoopT E b_12537700 F H Q := by
  intro F H Q h
  have go := LoopT.intro (callW_ok se0_r02_Same 5) lpb_r02_Same_0 (R_r02_Same_0 Q) (by
    intro F H h
    unfold R_r02_Same_0 D_r02_Same_0 at h
    split at h
    · exact h
    · exact h) (by
    intro n F H h
    unfold R_r02_Same_0 D_r02_Same_0 at h
    split at h
    · exact (body_r02_Same_0_0 ..).mpr h
    · exact h.elim)
  have h : D_r02_Same_0 F H _ := h
  unfold D_r02_Same_0 at h
  split at h
  · obtain ⟨n, h⟩ := h; exact go n _ _ h
  · exact h.elim
theorem body_r02_Same_1_0 ( Q n i0 l1 l2 i3 l4 l5 i6) : WC E (callW (S0_r02_Same) 5) (lp_r02_Same) b_12537701 [(2, .box (.agg [(.int .i64 i0), (.data l1), (.data l2)])), (3, .box (.agg [(.int .i64 i3), (.data l4), (.data l5)])), (6, .v (.int .i64 i6))] [] (fun x F' H' => match x with | .norm => R_r02_Same_1 Q n F' H' | .exit i => Q (.exit i) F' H' | .ret => Q .ret F' H') = L_r02_Same_1_0 (fun b0 => Q .ret [(4, .v (.bool b0))] []) (fun i0 l1 l2 i3 l4 l5 i6 b7 => Q (.exit 2) [(2, .box (.agg [(.int .i64 i0), (.data l1), (.data l2)])), (3, .box (.agg [(.int .i64 i3), (.data l4), (.data l5)])), (6, .v (.int .i64 i6)), (52, .v (.bool b7))] []) (n + 1) i0 l1 l2 i3 l4 l5 i6 := by kernel_rfl
theorem lpb_r02_Same_1 : LpOk E (lp_r02_Same) b_12537701 := (LpOk_no (by kernel_rfl))
theorem loop_r02_Same_1 : ∀ F H Q, lp_r02_Same 12537701 F H Q → LoopT E b_12537701 F H Q := by
  intro F H Q h
  have go := LoopT.intro (callW_ok se0_r02_Same 5) lpb_r02_Same_1 (R_r02_Same_1 Q) (by
    intro F H h
    unfold R_r02_Same_1 D_r02_Same_1 at h
    split at h
    · exact h
    · exact h) (by
    intro n F H h
    unfold R_r02_Same_1 D_r02_Same_1 at h
    split at h
    · exact (body_r02_Same_1_0 ..).mpr h
    · exact h.elim)
  have h : D_r02_Same_1 F H _ := h
  unfold D_r02_Same_1 at h
  split at h
  · obtain ⟨n, h⟩ := h; exact go n _ _ h
  · exact h.elim
theorem eq_r02_Same ( p0 p1 p2 p3 p4 p5 K) : WP (S0_r02_Same) 6 t_r02_Same [(.agg [(.int .i64 p0), (.data p1), (.data p2)]), (.agg [(.int .i64 p3), (.data p4), (.data p5)])] K = wv_r02_Same p0 p1 p2 p3 p4 p5 (fun r0 => K (.bool r0)) := by kernel_rfl
theorem ok_r02_Same : OkF E wp_r02_Same n_r02_Same := by
  intro as K h
  unfold wp_r02_Same pw_r02_Same at h
  split at h
  · exact WP_ok se0_r02_Same (LpOk_by (l := [(12537700, b_12537700), (12537701, b_12537701)]) ⟨loop_r02_Same_0, loop_r02_Same_1, trivial⟩ (by kernel_rfl)) (by kernel_rfl) (by kernel_rfl) (fun _ => baseC_none (by kernel_rfl) _) ((eq_r02_Same ..).mpr h)
  · exact h.elim
end Go.Pf.Vc
namespace Go.Pf.Vc
open Go Go.Pf
set_option linter.unusedVariables false
theorem det_r02_Check (p0 : Int) (p1 : List PV) (p2 : List PV) (r0 : Int) (h : ∀ K : Int → Prop, K r0 → w_r02_Check p0 p1 p2 K) (K : Int → Prop) : w_r02_Check p0 p1 p2 K = K r0 :=
 propext ⟨fun k => detC ok_r02_Check (as := [(.agg [(.int .i64 p0), (.data p1), (.data p2)])]) (x := (.int .i64 r0)) (fun K' k' => h (fun r0 => K' (.int .i64 r0)) k') (K := fun x => match x with | (.int .i64 r0) => K r0 | _ => False) k, h K⟩
theorem det_r02_Same (p0 : Int) (p1 : List PV) (p2 : List PV) (p3 : Int) (p4 : List PV) (p5 : List PV) (r0 : Bool) (h : ∀ K : Bool → Prop, K r0 → w_r02_Same p0 p1 p2 p3 p4 p5 K) (K : Bool → Prop) : w_r02_Same p0 p1 p2 p3 p4 p5 K = K r0 :=
 propext ⟨fun k => detC ok_r02_Same (as := [(.agg [(.int .i64 p0), (.data p1), (.data p2)]), (.agg [(.int .i64 p3), (.data p4), (.data p5)])]) (x := (.bool r0)) (fun K' k' => h (fun r0 => K' (.bool r0)) k') (K := fun x => match x with | (.bool r0) => K r0 | _ => False) k, h K⟩
end Go.Pf.Vc
namespace Go.Pf.Vc
open Go Go.Pf
set_option maxRecDepth 100000
abbrev T_r04_GreatCakes : Type := List PV → (Bool → Prop) → Prop
def L_r04_GreatCakes_0_0 (a0 : T_r02_Great) (x0 : Bool → Prop) (x1 : List PV → Int → Bool → Prop) : Nat → List PV → Int → Prop
 | 0, _, _ => False
 | n + 1, l0, i1 =>
 (cbr (decide (i1 < (((List.length l0) : Nat) : Int)))
 (asr (decide ((0 : Int) ≤ i1))
 (asr (decide (i1 < (((List.length l0) : Nat) : Int)))
 (asr (conf (.agg [.i .i64, .d, .d]) (List.getD l0 (i1.toNat) .nils))
 (a0 (intOfV (cellAt (List.getD l0 (i1.toNat) .nils) 0)) (datOfV (cellAt (List.getD l0 (i1.toNat) .nils) 1)) (datOfV (cellAt (List.getD l0 (i1.toNat) .nils) 2)) (fun yb0 => 
 (cbr yb0
 (x0 true)
 (L_r04_GreatCakes_0_0 a0 x0 x1 n l0 (IntKind.i64.wrap (i1 + (1 : Int))))))))))
 (x1 l0 i1 false))
def wv_r04_GreatCakes (a0 : T_r02_Great) (p0 : List PV) (K : Bool → Prop) : Prop :=
 (∃ n : Nat, L_r04_GreatCakes_0_0 a0
 (fun yb1 => (K yb1))
 (fun yl2 _ _ => (K (decide ((((List.length yl2) : Nat) : Int) > (10 : Int)))))
 n p0 (0 : Int))
def w_r04_GreatCakes (p0 : List PV) (K : Bool → Prop) : Prop := wv_r04_GreatCakes w_r02_Great p0 K
def pw_r04_GreatCakes (w : T_r04_GreatCakes) (as : List PV) (K : PV → Prop) : Prop :=
 match as with
 | [(.data p0)] => w p0 (fun r0 => K (.bool r0))
 | _ => False
def wp_r04_GreatCakes (as : List PV) (K : PV → Prop) : Prop := pw_r04_GreatCakes w_r04_GreatCakes as K
def D_r04_GreatCakes_0 (F : Frm) (H : Hp) (A0 : List PV → Int → Prop) : Prop :=
 match F, H with
 | [(0, .v (.data l0)), (3, .v (.int .i64 i1))], [] => (A0 l0 i1)
 | _, _ => False
def R_r04_GreatCakes_0 (a0 : T_r02_Great) (Q : Ex → Frm → Hp → Prop) (n : Nat) (F : Frm) (H : Hp) : Prop := D_r04_GreatCakes_0 F H (fun l0 i1 => L_r04_GreatCakes_0_0 a0 (fun b0 => Q .ret [(2, .v (.bool b0))] []) (fun l0 i1 b2 => Q (.exit 0) [(0, .v (.data l0)), (3, .v (.int .i64 i1)), (7, .v (.bool b2))] []) n l0 i1)
def lp_r04_GreatCakes (a0 : T_r02_Great) : LP := fun id F H Q =>
 bif Nat.beq id 4277600 then D_r04_GreatCakes_0 F H (fun l0 i1 => ∃ n : Nat, L_r04_GreatCakes_0_0 a0 (fun b0 => Q .ret [(2, .v (.bool b0))] []) (fun l0 i1 b2 => Q (.exit 0) [(0, .v (.data l0)), (3, .v (.int .i64 i1)), (7, .v (.bool b2))] []) n l0 i1) else
 False
def S0_r04_GreatCakes (a0 : T_r02_Great) : SE := ⟨E, lookS [(n_r02_Great, pw_r02_Great a0)], lookI [], lp_r04_GreatCakes a0⟩
theorem se0_r04_GreatCakes : SEOk (S0_r04_GreatCakes w_r02_Great) := seOk_of ⟨ok_r02_Great, trivial⟩ trivial
theorem body_r04_GreatCakes_0_0 (a0 Q n l0 i1) : WC E (callW (S0_r04_GreatCakes a0) 5) (lp_r04_GreatCakes a0) b_4277600 [(0, .v (.data l0)), (3, .v (.int .i64 i1))] [] (fun x F' H' => match x with | .norm => R_r04_GreatCakes_0 a0 Q n F' H' | .exit i => Q (.exit i) F' H' | .ret => Q .ret F' H') = L_r04_GreatCakes_0_0 a0 (fun b0 => Q .ret [(2, .v (.bool b0))] []) (fun l0 i1 b2 => Q (.exit 0) [(0, .v (.data l0)), (3, .v (.int .i64 i1)), (7, .v (.bool b2))] []) (n + 1) l0 i1 := by kernel_rfl
theorem lpb_r04_GreatCakes_0 : LpOk E (lp_r04_GreatCakes w_r02_Great) b_4277600 := (LpOk_no (by kernel_rfl))
theorem loop_r04_GreatCakes_0 : ∀ F H Q, lp_r04_GreatCakes w_r02_Great 4277600 F H Q → LoopT E b_4277600 F H Q := by
  intro F H Q h
  have go := LoopT.intro (callW_ok se0_r04_GreatCakes 5) lpb_r04_GreatCakes_0 (R_r04_GreatCakes_0 w_r02_Great Q) (by
    intro F H h
    unfold R_r04_GreatCakes_0 D_r04_GreatCakes_0 at h
    split at h
    · exact h
    · exact h) (by
    intro n F H h
    unfold R_r04_GreatCakes_0 D_r04_GreatCakes_0 at h
    split at h
    · exact (body_r04_GreatCakes_0_0 ..).mpr h
    · exact h.elim)
  have h : D_r04_GreatCakes_0 F H _ := h
  unfold D_r04_GreatCakes_0 at h
  split at h
  · obtain ⟨n, h⟩ := h; exact go n _ _ h
  · exact h.elim
theorem eq_r04_GreatCakes (a0 p0 K) : WP (S0_r04_GreatCakes a0) 6 t_r04_GreatCakes [(.data p0)] K = wv_r04_GreatCakes a0 p0 (fun r0 => K (.bool r0)) := by kernel_rfl
theorem ok_r04_GreatCakes : OkF E wp_r04_GreatCakes n_r04_GreatCakes := by
  intro as K h
  unfold wp_r04_GreatCakes pw_r04_GreatCakes at h
  split at h
  · exact WP_ok se0_r04_GreatCakes (LpOk_by (l := [(4277600, b_4277600)]) ⟨loop_r04_GreatCakes_0, trivial⟩ (by kernel_rfl)) (by kernel_rfl) (by kernel_rfl) (fun _ => baseC_none (by kernel_rfl) _) ((eq_r04_GreatCakes ..).mpr h)
  · exact h.elim
abbrev T_r04_Check : Type := List PV → List PV → (Int → Prop) → Prop
def L_r04_Check_0_0 (a0 : T_r02_Check) (x6981300_0 : Int → Prop) (x6981300_1 : List PV → List PV → Int → Bool → Prop) : Nat → List PV → List PV → Int → Prop
 | 0, _, _, _ => False
 | n6981300 + 1, l0, l1, i2 =>
 (cbr (decide (i2 < (((List.length l0) : Nat) : Int)))
 (asr (decide ((0 : Int) ≤ i2))
 (asr (decide (i2 < (((List.length l0) : Nat) : Int)))
 (asr (conf (.agg [.i .i64, .d, .d]) (List.getD l0 (i2.toNat) .nils))
 (a0 (intOfV (cellAt (List.getD l0 (i2.toNat) .nils) 0)) (datOfV (cellAt (List.getD l0 (i2.toNat) .nils) 1)) (datOfV (cellAt (List.getD l0 (i2.toNat) .nils) 2)) (fun yi0 => 
 (cbr (yi0 != (0 : Int))
 (asr (decide ((0 : Int) ≤ i2))
 (asr (decide (i2 < (((List.length l0) : Nat) : Int)))
 (asr (conf (.agg [.i .i64, .d, .d]) (List.getD l0 (i2.toNat) .nils))
 (a0 (intOfV (cellAt (List.getD l0 (i2.toNat) .nils) 0)) (datOfV (cellAt (List.getD l0 (i2.toNat) .nils) 1)) (datOfV (cellAt (List.getD l0 (i2.toNat) .nils) 2)) (fun yi1 => 
 (x6981300_0 yi1))))))
 (L_r04_Check_0_0 a0 x6981300_0 x6981300_1 n6981300 l0 l1 (IntKind.i64.wrap (i2 + (1 : Int))))))))))
 (x6981300_1 l0 l1 i2 false))
def L_r04_Check_1_0 (a0 : T_r02_Check) (x6981301_0 : Int → Prop) (x6981301_1 : List PV → List PV → Int → Bool → Prop) : Nat → List PV → List PV → Int → Prop
 | 0, _, _, _ => False
 | n6981301 + 1, l0, l1, i2 =>
 (cbr (decide (i2 < (((List.length l0) : Nat) : Int)))
 (asr (decide ((0 : Int) ≤ i2))
 (asr (decide (i2 < (((List.length l0) : Nat) : Int)))
 (asr (conf (.agg [.i .i64, .d, .d]) (List.getD l0 (i2.toNat) .nils))
 (asr (decide ((0 : Int) < (((List.length l0) : Nat) : Int)))
 (asr (conf (.agg [.i .i64, .d, .d]) (List.getD l0 0 .nils))
 (cbr ((intOfV (cellAt (List.getD l0 (i2.toNat) .nils) 0)) != (intOfV (cellAt (List.getD l0 0 .nils) 0)))
 (x6981301_0 (8 : Int))
 (L_r04_Check_1_0 a0 x6981301_0 x6981301_1 n6981301 l0 l1 (IntKind.i64.wrap (i2 + (1 : Int))))))))))
 (x6981301_1 l0 l1 i2 false))
def wv_r04_Check (a0 : T_r02_Check) (p0 p1 : List PV) (K : Int → Prop) : Prop :=
 (cbr (decide ((((List.length p0) : Nat) : Int) > (6 : Int)))
 (K (4 : Int))
 (cbr (decide ((((List.length p1) : Nat) : Int) > (2000 : Int)))
 (K (4 : Int))
 (cbr ((((List.length p0) : Nat) : Int) == (0 : Int))
 (K (8 : Int))
 (∃ n6981300 : Nat, L_r04_Check_0_0 a0
 (fun yi2 => (K yi2))
 (fun yl3 yl4 _ _ => (∃ n6981301 : Nat, L_r04_Check_1_0 a0
 (fun yi7 => (K yi7))
 (fun _ _ _ _ => (K (0 : Int)))
 n6981301 yl3 yl4 (0 : Int)))
 n6981300 p0 p1 (0 : Int)))))
def w_r04_Check (p0 p1 : List PV) (K : Int → Prop) : Prop := wv_r04_Check w_r02_Check p0 p1 K
def pw_r04_Check (w : T_r04_Check) (as : List PV) (K : PV → Prop) : Prop :=
 match as with
 | [(.agg [(.data p0), (.data p1)])] => w p0 p1 (fun r0 => K (.int .i64 r0))
 | _ => False
def wp_r04_Check (as : List PV) (K : PV → Prop) : Prop := pw_r04_Check w_r04_Check as K
def D_r04_Check_0 (F : Frm) (H : Hp) (A0 : List PV → List PV → Int → Prop) : Prop :=
 match F, H with
 | [(1, .box (.agg [(.data l0), (.data l1)])), (3, .v (.int .i64 i2))], [] => (A0 l0 l1 i2)
 | _, _ => False
def D_r04_Check_1 (F : Frm) (H : Hp) (A0 : List PV → List PV → Int → Prop) : Prop :=
 match F, H with
 | [(1, .box (.agg [(.data l0), (.data l1)])), (4, .v (.int .i64 i2))], [] => (A0 l0 l1 i2)
 | _, _ => False
def R_r04_Check_0 (a0 : T_r02_Check) (Q : Ex → Frm → Hp → Prop) (n : Nat) (F : Frm) (H : Hp) : Prop := D_r04_Check_0 F H (fun l0 l1 i2 => L_r04_Check_0_0 a0 (fun i0 => Q .ret [(2, .v (.int .i64 i0))] []) (fun l0 l1 i2 b3 => Q (.exit 0) [(1, .box (.agg [(.data l0), (.data l1)])), (3, .v (.int .i64 i2)), (23, .v (.bool b3))] []) n l0 l1 i2)
def R_r04_Check_1 (a0 : T_r02_Check) (Q : Ex → Frm → Hp → Prop) (n : Nat) (F : Frm) (H : Hp) : Prop := D_r04_Check_1 F H (fun l0 l1 i2 => L_r04_Check_1_0 a0 (fun i0 => Q .ret [(2, .v (.int .i64 i0))] []) (fun l0 l1 i2 b3 => Q (.exit 2) [(1, .box (.agg [(.data l0), (.data l1)])), (4, .v (.int .i64 i2)), (43, .v (.bool b3))] []) n l0 l1 i2)
def lp_r04_Check (a0 : T_r02_Check) : LP := fun id F H Q =>
 bif Nat.beq id 6981300 then D_r04_Check_0 F H (fun l0 l1 i2 => ∃ n : Nat, L_r04_Check_0_0 a0 (fun i0 => Q .ret [(2, .v (.int .i64 i0))] []) (fun l0 l1 i2 b3 => Q (.exit 0) [(1, .box (.agg [(.data l0), (.data l1)])), (3, .v (.int .i64 i2)), (23, .v (.bool b3))] []) n l0 l1 i2) else
 bif Nat.beq id 6981301 then D_r04_Check_1 F H (fun l0 l1 i2 => ∃ n : Nat, L_r04_Check_1_0 a0 (fun i0 => Q .ret [(2, .v (.int .i64 i0))] []) (fun l0 l1 i2 b3 => Q (.exit 2) [(1, .box (.agg [(.data l0), (.data l1)])), (4, .v (.int .i64 i2)), (43, .v (.bool b3))] []) n l0 l1 i2) else
 False
def S0_r04_Check (a0 : T_r02_Check) : SE := ⟨E, lookS [(n_r02_Check, pw_r02_Check a0)], lookI [], lp_r04_Check a0⟩
theorem se0_r04_Check : SEOk (S0_r04_Check w_r02_Check) := seOk_of ⟨ok_r02_Check, trivial⟩ trivial
theorem body_r04_Check_0_0 (a0 Q n l0 l1 i2) : WC E (callW (S0_r04_Check a0) 5) (lp_r04_Check a0) b_6981300 [(1, .box (.agg [(.data l0), (.data l1)])), (3, .v (.int .i64 i2))] [] (fun x F' H' => match x with | .norm => R_r04_Check_0 a0 Q n F' H' | .exit i => Q (.exit i) F' H' | .ret => Q .ret F' H') = L_r04_Check_0_0 a0 (fun i0 => Q .ret [(2, .v (.int .i64 i0))] []) (fun l0 l1 i2 b3 => Q (.exit 0) [(1, .box (.agg [(.data l0), (.data l1)])), (3, .v (.int .i64 i2)), (23, .v (.bool b3))] []) (n + 1) l0 l1 i2 := by kernel_rfl
theorem lpb_r04_Check_0 : LpOk E (lp_r04_Check w_r02_Check) b_6981300 := (LpOk_no (by kernel_rfl))
theorem loop_r04_Check_0 : ∀ F H Q, lp_r04_Check w_r02_Check 6981300 F H Q → LoopT E b_6981300 F H Q := by
  intro F H Q h
  have go := LoopT.intro (callW_ok se0_r04_Check 5) lpb_r04_Check_0 (R_r04_Check_0 w_r02_Check Q) (by
    intro F H h
    unfold R_r04_Check_0 D_r04_Check_0 at h
    split at h
    · exact h
    · exact h) (by
    intro n F H h
    unfold R_r04_Check_0 D_r04_Check_0 at h
    split at h
    · exact (body_r04_Check_0_0 ..).mpr h
    · exact h.elim)
  have h : D_r04_Check_0 F H _ := h
  unfold D_r04_Check_0 at h
  split at h
  · obtain ⟨n, h⟩ := h; exact go n _ _ h
  · exact h.elim
theorem body_r04_Check_1_0 (a0 Q n l0 l1 i2) : WC E (callW (S0_r04_Check a0) 5) (lp_r04_Check a0) b_6981301 [(1, .box (.agg [(.data l0), (.data l1)])), (4, .v (.int .i64 i2))] [] (fun x F' H' => match x with | .norm => R_r04_Check_1 a0 Q n F' H' | .exit i => Q (.exit i) F' H' | .ret => Q .ret F' H') = L_r04_Check_1_0 a0 (fun i0 => Q .ret [(2, .v (.int .i64 i0))] []) (fun l0 l1 i2 b3 => Q (.exit 2) [(1, .box (.agg [(.data l0), (.data l1)])), (4, .v (.int .i64 i2)), (43, .v (.bool b3))] []) (n + 1) l0 l1 i2 := by kernel_rfl
theorem lpb_r04_Check_1 : LpOk E (lp_r04_Check w_r02_Check) b_6981301 := (LpOk_no (by kernel_rfl))
theorem loop_r04_Check_1 : ∀ F H Q, lp_r04_Check w_r02_Check 6981301 F H Q → LoopT E b_6981301 F H Q := by
  intro F H Q h
  have go := LoopT.intro (callW_ok se0_r04_Check 5) lpb_r04_Check_1 (R_r04_Check_1 w_r02_Check Q) (by
    intro F H h
    unfold R_r04_Check_1 D_r04_Check_1 at h
    split at h
    · exact h
    · exact h) (by
    intro n F H h
    unfold R_r04_Check_1 D_r04_Check_1 at h
    split at h
    · exact (body_r04_Check_1_0 ..).mpr h
    · exact h.elim)
  have h : D_r04_Check_1 F H _ := h
  unfold D_r04_Check_1 at h
  split at h
  · obtain ⟨n, h⟩ := h; exact go n _ _ h
  · exact h.elim
theorem eq_r04_Check (a0 p0 p1 K) : WP (S0_r04_Check a0) 6 t_r04_Check [(.agg [(.data p0), (.data p1)])] K = wv_r04_Check a0 p0 p1 (fun r0 => K (.int .i64 r0)) := by kernel_rfl
theorem ok_r04_Check : OkF E wp_r04_Check n_r04_Check := by
  intro as K h
  unfold wp_r04_Check pw_r04_Check at h
  split at h
  · exact WP_ok se0_r04_Check (LpOk_by (l := [(6981300, b_6981300), (6981301, b_6981301)]) ⟨loop_r04_Check_0, loop_r04_Check_1, trivial⟩ (by kernel_rfl)) (by kernel_rfl) (by kernel_rfl) (fun _ => baseC_none (by kernel_rfl) _) ((eq_r04_Check ..).mpr h)
  · exact h.elim
abbrev T_r04_SameCakes : Type := List PV → List PV → (Bool → Prop) → Prop
def L_r04_SameCakes_0_0 (a0 : T_r02_Same) (x0 : Bool → Prop) (x1 : List PV → List PV → Int → Bool → Prop) : Nat → List PV → List PV → Int → Prop
 | 0, _, _, _ => False
 | n + 1, l0, l1, i2 =>
 (cbr (decide (i2 < (((List.length l0) : Nat) : Int)))
 (asr (decide ((0 : Int) ≤ i2))
 (asr (decide (i2 < (((List.length l0) : Nat) : Int)))
 (asr (conf (.agg [.i .i64, .d, .d]) (List.getD l0 (i2.toNat) .nils))
 (asr (decide ((0 : Int) ≤ i2))
 (asr (decide (i2 < (((List.length l1) : Nat) : Int)))
 (asr (conf (.agg [.i .i64, .d, .d]) (List.getD l1 (i2.toNat) .nils))
 (a0 (intOfV (cellAt (List.getD l0 (i2.toNat) .nils) 0)) (datOfV (cellAt (List.getD l0 (i2.toNat) .nils) 1)) (datOfV (cellAt (List.getD l0 (i2.toNat) .nils) 2)) (intOfV (cellAt (List.getD l1 (i2.toNat) .nils) 0)) (datOfV (cellAt (List.getD l1 (i2.toNat) .nils) 1)) (datOfV (cellAt (List.getD l1 (i2.toNat) .nils) 2)) (fun yb0 => 
 (cbr (!yb0)
 (x0 false)
 (L_r04_SameCakes_0_0 a0 x0 x1 n l0 l1 (IntKind.i64.wrap (i2 + (1 : Int)))))))))))))
 (x1 l0 l1 i2 false))
def wv_r04_SameCakes (a0 : T_r02_Same) (p0 p1 : List PV) (K : Bool → Prop) : Prop :=
 (cbr ((((List.length p0) : Nat) : Int) != (((List.length p1) : Nat) : Int))
 (K false)
 (∃ n : Nat, L_r04_SameCakes_0_0 a0
 (fun yb1 => (K yb1))
 (fun _ _ _ _ => (K true))
 n p0 p1 (0 : Int)))
def w_r04_SameCakes (p0 p1 : List PV) (K : Bool → Prop) : Prop := wv_r04_SameCakes w_r02_Same p0 p1 K
def pw_r04_SameCakes (w : T_r04_SameCakes) (as : List PV) (K : PV → Prop) : Prop :=
 match as with
 | [(.data p0), (.data p1)] => w p0 p1 (fun r0 => K (.bool r0))
 | _ => False
def wp_r04_SameCakes (as : List PV) (K : PV → Prop) : Prop := pw_r04_SameCakes w_r04_SameCakes as K
def D_r04_SameCakes_0 (F : Frm) (H : Hp) (A0 : List PV → List PV → Int → Prop) : Prop :=
 match F, H with
 | [(0, .v (.data l0)), (1, .v (.data l1)), (5, .v (.int .i64 i2))], [] => (A0 l0 l1 i2)
 | _, _ => False
def R_r04_SameCakes_0 (a0 : T_r02_Same) (Q : Ex → Frm → Hp → Prop) (n : Nat) (F : Frm) (H : Hp) : Prop := D_r04_SameCakes_0 F H (fun l0 l1 i2 => L_r04_SameCakes_0_0 a0 (fun b0 => Q .ret [(4, .v (.bool b0))] []) (fun l0 l1 i2 b3 => Q (.exit 0) [(0, .v (.data l0)), (1, .v (.data l1)), (5, .v (.int .i64 i2)), (14, .v (.bool b3))] []) n l0 l1 i2)
def lp_r04_SameCakes (a0 : T_r02_Same) : LP := fun id F H Q =>
 bif Nat.beq id 41322700 then D_r04_SameCakes_0 F H (fun l0 l1 i2 => ∃ n : Nat, L_r04_SameCakes_0_0 a0 (fun b0 => Q .ret [(4, .v (.bool b0))] []) (fun l0 l1 i2 b3 => Q (.exit 0) [(0, .v (.data l0)), (1, .v (.data l1)), (5, .v (.int .i64 i2)), (14, .v (.bool b3))] []) n l0 l1 i2) else
 False
def S0_r04_SameCakes (a0 : T_r02_Same) : SE := ⟨E, lookS [(n_r02_Same, pw_r02_Same a0)], lookI [], lp_r04_SameCakes a0⟩
theorem se0_r04_SameCakes : SEOk (S0_r04_SameCakes w_r02_Same) := seOk_of ⟨ok_r02_Same, trivial⟩ trivial
theorem body_r04_SameCakes_0_0 (a0 Q n l0 l1 i2) : WC E (callW (S0_r04_SameCakes a0) 5) (lp_r04_SameCakes a0) b_41322700 [(0, .v (.data l0)), (1, .v (.data l1)), (5, .v (.int .i64 i2))] [] (fun x F' H' => match x with | .norm => R_r04_SameCakes_0 a0 Q n F' H' | .exit i => Q (.exit i) F' H' | .ret => Q .ret F' H') = L_r04_SameCakes_0_0 a0 (fun b0 => Q .ret [(4, .v (.bool b0))] []) (fun l0 l1 i2 b3 => Q (.exit 0) [(0, .v (.data l0)), (1, .v (.data l1)), (5, .v (.int .i64 i2)), (14, .v (.bool b3))] []) (n + 1) l0 l1 i2 := by kernel_rfl
theorem lpb_r04_SameCakes_0 : LpOk E (lp_r04_SameCakes w_r02_Same) b_41322700 := (LpOk_no (by kernel_rfl))
theorem loop_r04_SameCakes_0 : ∀ F H Q, lp_r04_SameCakes w_r02_Same 41322700 F H Q → LoopT E b_41322700 F H Q := by
  intro F H Q h
  have go := LoopT.intro (callW_ok se0_r04_SameCakes 5) lpb_r04_SameCakes_0 (R_r04_SameCakes_0 w_r02_Same Q) (by
    intro F H h
    unfold R_r04_SameCakes_0 D_r04_SameCakes_0 at h
    split at h
    · exact h
    · exact h) (by
    intro n F H h
    unfold R_r04_SameCakes_0 D_r04_SameCakes_0 at h
    split at h
    · exact (body_r04_SameCakes_0_0 ..).mpr h
    · exact h.elim)
  have h : D_r04_SameCakes_0 F H _ := h
  unfold D_r04_SameCakes_0 at h
  split at h
  · obtain ⟨n, h⟩ := h; exact go n _ _ h
  · exact h.elim
theorem eq_r04_SameCakes (a0 p0 p1 K) : WP (S0_r04_SameCakes a0) 6 t_r04_SameCakes [(.data p0), (.data p1)] K = wv_r04_SameCakes a0 p0 p1 (fun r0 => K (.bool r0)) := by kernel_rfl
theorem ok_r04_SameCakes : OkF E wp_r04_SameCakes n_r04_SameCakes := by
  intro as K h
  unfold wp_r04_SameCakes pw_r04_SameCakes at h
  split at h
  · exact WP_ok se0_r04_SameCakes (LpOk_by (l := [(41322700, b_41322700)]) ⟨loop_r04_SameCakes_0, trivial⟩ (by kernel_rfl)) (by kernel_rfl) (by kernel_rfl) (fun _ => baseC_none (by kernel_rfl) _) ((eq_r04_SameCakes ..).mpr h)
  · exact h.elim
abbrev T_r04_SameLogs : Type := List PV → List PV → (Bool → Prop) → Prop
def L_r04_SameLogs_0_0 (x0 : Bool → Prop) (x1 : List PV → List PV → Int → Bool → Prop) : Nat → List PV → List PV → Int → Prop
 | 0, _, _, _ => False
 | n + 1, l0, l1, i2 =>
 (cbr (decide (i2 < (((List.length l0) : Nat) : Int)))
 (asr (decide ((0 : Int) ≤ i2))
 (asr (decide (i2 < (((List.length l0) : Nat) : Int)))
 (asr (conf (.agg [.i .i64, .i .u8, .i .i64, .i .i64, .i .i64, .i .i64, .i .i64, .i .i64]) (List.getD l0 (i2.toNat) .nils))
 (asr (decide ((0 : Int) ≤ i2))
 (asr (decide (i2 < (((List.length l1) : Nat) : Int)))
 (asr (conf (.agg [.i .i64, .i .u8, .i .i64, .i .i64, .i .i64, .i .i64, .i .i64, .i .i64]) (List.getD l1 (i2.toNat) .nils))
 (cbr (!(((intOfV (cellAt (List.getD l0 (i2.toNat) .nils) 0)) == (intOfV (cellAt (List.getD l1 (i2.toNat) .nils) 0))) && (((intOfV (cellAt (List.getD l0 (i2.toNat) .nils) 1)) == (intOfV (cellAt (List.getD l1 (i2.toNat) .nils) 1))) && (((intOfV (cellAt (List.getD l0 (i2.toNat) .nils) 2)) == (intOfV (cellAt (List.getD l1 (i2.toNat) .nils) 2))) && (((intOfV (cellAt (List.getD l0 (i2.toNat) .nils) 3)) == (intOfV (cellAt (List.getD l1 (i2.toNat) .nils) 3))) && (((intOfV (cellAt (List.getD l0 (i2.toNat) .nils) 4)) == (intOfV (cellAt (List.getD l1 (i2.toNat) .nils) 4))) && (((intOfV (cellAt (List.getD l0 (i2.toNat) .nils) 5)) == (intOfV (cellAt (List.getD l1 (i2.toNat) .nils) 5))) && (((intOfV (cellAt (List.getD l0 (i2.toNat) .nils) 6)) == (intOfV (cellAt (List.getD l1 (i2.toNat) .nils) 6))) && (((intOfV (cellAt (List.getD l0 (i2.toNat) .nils) 7)) == (intOfV (cellAt (List.getD l1 (i2.toNat) .nils) 7))) && true)))))))))
 (x0 false)
 (L_r04_SameLogs_0_0 x0 x1 n l0 l1 (IntKind.i64.wrap (i2 + (1 : Int)))))))))))
 (x1 l0 l1 i2 false))
def wv_r04_SameLogs (p0 p1 : List PV) (K : Bool → Prop) : Prop :=
 (cbr ((((List.length p0) : Nat) : Int) != (((List.length p1) : Nat) : Int))
 (K false)
 (∃ n : Nat, L_r04_SameLogs_0_0
 (fun yb0 => (K yb0))
 (fun _ _ _ _ => (K true))
 n p0 p1 (0 : Int)))
def w_r04_SameLogs (p0 p1 : List PV) (K : Bool → Prop) : Prop := wv_r04_SameLogs p0 p1 K
def pw_r04_SameLogs (w : T_r04_SameLogs) (as : List PV) (K : PV → Prop) : Prop :=
 match as with
 | [(.data p0), (.data p1)] => w p0 p1 (fun r0 => K (.bool r0))
 | _ => False
def wp_r04_SameLogs (as : List PV) (K : PV → Prop) : Prop := pw_r04_SameLogs w_r04_SameLogs as K
def D_r04_SameLogs_0 (F : Frm) (H : Hp) (A0 : List PV → List PV → Int → Prop) : Prop :=
 match F, H with
 | [(0, .v (.data l0)), (1, .v (.data l1)), (5, .v (.int .i64 i2))], [] => (A0 l0 l1 i2)
 | _, _ => False
def R_r04_SameLogs_0 (Q : Ex → Frm → Hp → Prop) (n : Nat) (F : Frm) (H : Hp) : Prop := D_r04_SameLogs_0 F H (fun l0 l1 i2 => L_r04_SameLogs_0_0 (fun b0 => Q .ret [(4, .v (.bool b0))] []) (fun l0 l1 i2 b3 => Q (.exit 0) [(0, .v (.data l0)), (1, .v (.data l1)), (5, .v (.int .i64 i2)), (14, .v (.bool b3))] []) n l0 l1 i2)
def lp_r04_SameLogs : LP := fun id F H Q =>
 bif Nat.beq id 11728400 then D_r04_SameLogs_0 F H (fun l0 l1 i2 => ∃ n : Nat, L_r04_SameLogs_0_0 (fun b0 => Q .ret [(4, .v (.bool b0))] []) (fun l0 l1 i2 b3 => Q (.exit 0) [(0, .v (.data l0)), (1, .v (.data l1)), (5, .v (.int .i64 i2)), (14, .v (.bool b3))] []) n l0 l1 i2) else
 False
def S0_r04_SameLogs : SE := ⟨E, lookS [], lookI [], lp_r04_SameLogs⟩
theorem se0_r04_SameLogs : SEOk (S0_r04_SameLogs) := seOk_of trivial trivial
theorem body_r04_SameLogs_0_0 ( Q n l0 l1 i2) : WC E (callW (S0_r04_SameLogs) 5) (lp_r04_SameLogs) b_11728400 [(0, .v (.data l0)), (1, .v (.data l1)), (5, .v (.int .i64 i2))] [] (fun x F' H' => match x with | .norm => R_r04_SameLogs_0 Q n F' H' | .exit i => Q (.exit i) F' H' | .ret => Q .ret F' H') = L_r04_SameLogs_0_0 (fun b0 => Q .ret [(4, .v (.bool b0))] []) (fun l0 l1 i2 b3 => Q (.exit 0) [(0, .v (.data l0)), (1, .v (.data l1)), (5, .v (.int .i64 i2)), (14, .v (.bool b3))] []) (n + 1) l0 l1 i2 := by kernel_rfl
theorem lpb_r04_SameLogs_0 : LpOk E (lp_r04_SameLogs) b_11728400 := (LpOk_no (by kernel_rfl))
theorem loop_r04_SameLogs_0 : ∀ F H Q, lp_r04_SameLogs 11728400 F H Q → LoopT E b_11728400 F H Q := by
  intro F H Q h
  have go := LoopT.intro (callW_ok se0_r04_SameLogs 5) lpb_r04_SameLogs_0 (R_r04_SameLogs_0 Q) (by
    intro F H h
    unfold R_r04_SameLogs_0 D_r04_SameLogs_0 at h
    split at h
    · exact h
    · exact h) (by
    intro n F H h
    unfold R_r04_SameLogs_0 D_r04_SameLogs_0 at h
    split at h
    · exact (body_r04_SameLogs_0_0 ..).mpr h
    · exact h.elim)
  have h : D_r04_SameLogs_0 F H _ := h
  unfold D_r04_SameLogs_0 at h
  split at h
  · obtain ⟨n, h⟩ := h; exact go n _ _ h
  · exact h.elim
theorem eq_r04_SameLogs ( p0 p1 K) : WP (S0_r04_SameLogs) 6 t_r04_SameLogs [(.data p0), (.data p1)] K = wv_r04_SameLogs p0 p1 (fun r0 => K (.bool r0)) := by kernel_rfl
theorem ok_r04_SameLogs : OkF E wp_r04_SameLogs n_r04_SameLogs := by
  intro as K h
  unfold wp_r04_SameLogs pw_r04_SameLogs at h
  split at h
  · exact WP_ok se0_r04_SameLogs (LpOk_by (l := [(11728400, b_11728400)]) ⟨loop_r04_SameLogs_0, trivial⟩ (by kernel_rfl)) (by kernel_rfl) (by kernel_rfl) (fun _ => baseC_none (by kernel_rfl) _) ((eq_r04_SameLogs ..).mpr h)
  · exact h.elim
end Go.Pf.Vc
namespace Go.Pf.Vc
open Go Go.Pf
set_option linter.unusedVariables false
theorem det_r04_GreatCakes (p0 : List PV) (r0 : Bool) (h : ∀ K : Bool → Prop, K r0 → w_r04_GreatCakes p0 K) (K : Bool → Prop) : w_r04_GreatCakes p0 K = K r0 :=
 propext ⟨fun k => detC ok_r04_GreatCakes (as := [(.data p0)]) (x := (.bool r0)) (fun K' k' => h (fun r0 => K' (.bool r0)) k') (K := fun x => match x with | (.bool r0) => K r0 | _ => False) k, h K⟩
theorem det_r04_Check (p0 : List PV) (p1 : List PV) (r0 : Int) (h : ∀ K : Int → Prop, K r0 → w_r04_Check p0 p1 K) (K : Int → Prop) : w_r04_Check p0 p1 K = K r0 :=
 propext ⟨fun k => detC ok_r04_Check (as := [(.agg [(.data p0), (.data p1)])]) (x := (.int .i64 r0)) (fun K' k' => h (fun r0 => K' (.int .i64 r0)) k') (K := fun x => match x with | (.int .i64 r0) => K r0 | _ => False) k, h K⟩
theorem det_r04_SameCakes (p0 : List PV) (p1 : List PV) (r0 : Bool) (h : ∀ K : Bool → Prop, K r0 → w_r04_SameCakes p0 p1 K) (K : Bool → Prop) : w_r04_SameCakes p0 p1 K = K r0 :=
 propext ⟨fun k => detC ok_r04_SameCakes (as := [(.data p0), (.data p1)]) (x := (.bool r0)) (fun K' k' => h (fun r0 => K' (.bool r0)) k') (K := fun x => match x with | (.bool r0) => K r0 | _ => False) k, h K⟩
theorem det_r04_SameLogs (p0 : List PV) (p1 : List PV) (r0 : Bool) (h : ∀ K : Bool → Prop, K r0 → w_r04_SameLogs p0 p1 K) (K : Bool → Prop) : w_r04_SameLogs p0 p1 K = K r0 :=
 propext ⟨fun k => detC ok_r04_SameLogs (as := [(.data p0), (.data p1)]) (x := (.bool r0)) (fun K' k' => h (fun r0 => K' (.bool r0)) k') (K := fun x => match x with | (.bool r0) => K r0 | _ => False) k, h K⟩
end Go.Pf.Vc
namespace Go.Pf.Vc
open Go Go.Pf
set_option maxRecDepth 100000
abbrev T_r03_Same : Type := List PV → List PV → (Bool → Prop) → Prop
def L_r03_Same_0_0 (x0 : Bool → Prop) (x1 : List PV → List PV → Int → Bool → Prop) : Nat → List PV → List PV → Int → Prop
 | 0, _, _, _ => False
 | n + 1, l0, l1, i2 =>
 (cbr (decide (i2 < (((List.length l0) : Nat) : Int)))
 (asr (decide ((0 : Int) ≤ i2))
 (asr (decide (i2 < (((List.length l0) : Nat) : Int)))
 (asr (conf (.agg [.i .i64, .i .i64, .i .i64, .i .i64]) (List.getD l0 (i2.toNat) .nils))
 (asr (decide ((0 : Int) ≤ i2))
 (asr (decide (i2 < (((List.length l1) : Nat) : Int)))
 (asr (conf (.agg [.i .i64, .i .i64, .i .i64, .i .i64]) (List.getD l1 (i2.toNat) .nils))
 (cbr (!(((intOfV (cellAt (List.getD l0 (i2.toNat) .nils) 0)) == (intOfV (cellAt (List.getD l1 (i2.toNat) .nils) 0))) && (((intOfV (cellAt (List.getD l0 (i2.toNat) .nils) 1)) == (intOfV (cellAt (List.getD l1 (i2.toNat) .nils) 1))) && (((intOfV (cellAt (List.getD l0 (i2.toNat) .nils) 2)) == (intOfV (cellAt (List.getD l1 (i2.toNat) .nils) 2))) && (((intOfV (cellAt (List.getD l0 (i2.toNat) .nils) 3)) == (intOfV (cellAt (List.getD l1 (i2.toNat) .nils) 3))) && true)))))
 (x0 false)
 (L_r03_Same_0_0 x0 x1 n l0 l1 (IntKind.i64.wrap (i2 + (1 : Int)))))))))))
 (x1 l0 l1 i2 false))
def wv_r03_Same (p0 p1 : List PV) (K : Bool → Prop) : Prop :=
 (cbr ((((List.length p0) : Nat) : Int) != (((List.length p1) : Nat) : Int))
 (K false)
 (∃ n : Nat, L_r03_Same_0_0
 (fun yb0 => (K yb0))
 (fun _ _ _ _ => (K true))
 n p0 p1 (0 : Int)))
def w_r03_Same (p0 p1 : List PV) (K : Bool → Prop) : Prop := wv_r03_Same p0 p1 K
def pw_r03_Same (w : T_r03_Same) (as : List PV) (K : PV → Prop) : Prop :=
 match as with
 | [(.data p0), (.data p1)] => w p0 p1 (fun r0 => K (.bool r0))
 | _ => False
def wp_r03_Same (as : List PV) (K : PV → Prop) : Prop := pw_r03_Same w_r03_Same as K
def D_r03_Same_0 (F : Frm) (H : Hp) (A0 : List PV → List PV → Int → Prop) : Prop :=
 match F, H with
 | [(0, .v (.data l0)), (1, .v (.data l1)), (5, .v (.int .i64 i2))], [] => (A0 l0 l1 i2)
 | _, _ => False
def R_r03_Same_0 (Q : Ex → Frm → Hp → Prop) (n : Nat) (F : Frm) (H : Hp) : Prop := D_r03_Same_0 F H (fun l0 l1 i2 => L_r03_Same_0_0 (fun b0 => Q .ret [(4, .v (.bool b0))] []) (fun l0 l1 i2 b3 => Q (.exit 0) [(0, .v (.data l0)), (1, .v (.data l1)), (5, .v (.int .i64 i2)), (14, .v (.bool b3))] []) n l0 l1 i2)
def lp_r03_Same : LP := fun id F H Q =>
 bif Nat.beq id 27088800 then D_r03_Same_0 F H (fun l0 l1 i2 => ∃ n : Nat, L_r03_Same_0_0 (fun b0 => Q .ret [(4, .v (.bool b0))] []) (fun l0 l1 i2 b3 => Q (.exit 0) [(0, .v (.data l0)), (1, .v (.data l1)), (5, .v (.int .i64 i2)), (14, .v (.bool b3))] []) n l0 l1 i2) else
 False
def S0_r03_Same : SE := ⟨E, lookS [], lookI [], lp_r03_Same⟩
theorem se0_r03_Same : SEOk (S0_r03_Same) := seOk_of trivial trivial
theorem body_r03_Same_0_0 ( Q n l0 l1 i2) : WC E (callW (S0_r03_Same) 5) (lp_r03_Same) b_27088800 [(0, .v (.data l0)), (1, .v (.data l1)), (5, .v (.int .i64 i2))] [] (fun x F' H' => match x with | .norm => R_r03_Same_0 Q n F' H' | .exit i => Q (.exit i) F' H' | .ret => Q .ret F' H') = L_r03_Same_0_0 (fun b0 => Q .ret [(4, .v (.bool b0))] []) (fun l0 l1 i2 b3 => Q (.exit 0) [(0, .v (.data l0)), (1, .v (.data l1)), (5, .v (.int .i64 i2)), (14, .v (.bool b3))] []) (n + 1) l0 l1 i2 := by kernel_rfl
theorem lpb_r03_Same_0 : LpOk E (lp_r03_Same) b_27088800 := (LpOk_no (by kernel_rfl))
theorem loop_r03_Same_0 : ∀ F H Q, lp_r03_Same 27088800 F H Q → LoopT E b_27088800 F H Q := by
  intro F H Q h
  have go := LoopT.intro (callW_ok se0_r03_Same 5) lpb_r03_Same_0 (R_r03_Same_0 Q) (by
    intro F H h
    unfold R_r03_Same_0 D_r03_Same_0 at h
    split at h
    · exact h
    · exact h) (by
    intro n F H h
    unfold R_r03_Same_0 D_r03_Same_0 at h
    split at h
    · exact (body_r03_Same_0_0 ..).mpr h
    · exact h.elim)
  have h : D_r03_Same_0 F H _ := h
  unfold D_r03_Same_0 at h
  split at h
  · obtain ⟨n, h⟩ := h; exact go n _ _ h
  · exact h.elim
theorem eq_r03_Same ( p0 p1 K) : WP (S0_r03_Same) 6 t_r03_Same [(.data p0), (.data p1)] K = wv_r03_Same p0 p1 (fun r0 => K (.bool r0)) := by kernel_rfl
theorem ok_r03_Same : OkF E wp_r03_Same n_r03_Same := by
  intro as K h
  unfold wp_r03_Same pw_r03_Same at h
  split at h
  · exact WP_ok se0_r03_Same (LpOk_by (l := [(27088800, b_27088800)]) ⟨loop_r03_Same_0, trivial⟩ (by kernel_rfl)) (by kernel_rfl) (by kernel_rfl) (fun _ => baseC_none (by kernel_rfl) _) ((eq_r03_Same ..).mpr h)
  · exact h.elim
abbrev T_r06_Same : Type := List PV → List PV → (Bool → Prop) → Prop
def L_r06_Same_0_0 (a0 : T_r03_Same) (x0 : Bool → Prop) (x1 : List PV → List PV → Int → Bool → Prop) : Nat → List PV → List PV → Int → Prop
 | 0, _, _, _ => False
 | n + 1, l0, l1, i2 =>
 (cbr (decide (i2 < (((List.length l0) : Nat) : Int)))
 (asr (decide ((0 : Int) ≤ i2))
 (asr (decide (i2 < (((List.length l0) : Nat) : Int)))
 (asr (conf (.one (.d)) (List.getD l0 (i2.toNat) .nils))
 (asr (decide ((0 : Int) ≤ i2))
 (asr (decide (i2 < (((List.length l1) : Nat) : Int)))
 (asr (conf (.one (.d)) (List.getD l1 (i2.toNat) .nils))
 (a0 (datOfV (List.getD l0 (i2.toNat) .nils)) (datOfV (List.getD l1 (i2.toNat) .nils)) (fun yb0 => 
 (cbr (!yb0)
 (x0 false)
 (L_r06_Same_0_0 a0 x0 x1 n l0 l1 (IntKind.i64.wrap (i2 + (1 : Int)))))))))))))
 (x1 l0 l1 i2 false))
def wv_r06_Same (a0 : T_r03_Same) (p0 p1 : List PV) (K : Bool → Prop) : Prop :=
 (cbr ((((List.length p0) : Nat) : Int) != (((List.length p1) : Nat) : Int))
 (K false)
 (∃ n : Nat, L_r06_Same_0_0 a0
 (fun yb1 => (K yb1))
 (fun _ _ _ _ => (K true))
 n p0 p1 (0 : Int)))
def w_r06_Same (p0 p1 : List PV) (K : Bool → Prop) : Prop := wv_r06_Same w_r03_Same p0 p1 K
def pw_r06_Same (w : T_r06_Same) (as : List PV) (K : PV → Prop) : Prop :=
 match as with
 | [(.agg [(.data p0)]), (.agg [(.data p1)])] => w p0 p1 (fun r0 => K (.bool r0))
 | _ => False
def wp_r06_Same (as : List PV) (K : PV → Prop) : Prop := pw_r06_Same w_r06_Same as K
def D_r06_Same_0 (F : Frm) (H : Hp) (A0 : List PV → List PV → Int → Prop) : Prop :=
 match F, H with
 | [(2, .box (.agg [(.data l0)])), (3, .box (.agg [(.data l1)])), (5, .v (.int .i64 i2))], [] => (A0 l0 l1 i2)
 | _, _ => False
def R_r06_Same_0 (a0 : T_r03_Same) (Q : Ex → Frm → Hp → Prop) (n : Nat) (F : Frm) (H : Hp) : Prop := D_r06_Same_0 F H (fun l0 l1 i2 => L_r06_Same_0_0 a0 (fun b0 => Q .ret [(4, .v (.bool b0))] []) (fun l0 l1 i2 b3 => Q (.exit 0) [(2, .box (.agg [(.data l0)])), (3, .box (.agg [(.data l1)])), (5, .v (.int .i64 i2)), (17, .v (.bool b3))] []) n l0 l1 i2)
def lp_r06_Same (a0 : T_r03_Same) : LP := fun id F H Q =>
 bif Nat.beq id 70742100 then D_r06_Same_0 F H (fun l0 l1 i2 => ∃ n : Nat, L_r06_Same_0_0 a0 (fun b0 => Q .ret [(4, .v (.bool b0))] []) (fun l0 l1 i2 b3 => Q (.exit 0) [(2, .box (.agg [(.data l0)])), (3, .box (.agg [(.data l1)])), (5, .v (.int .i64 i2)), (17, .v (.bool b3))] []) n l0 l1 i2) else
 False
def S0_r06_Same (a0 : T_r03_Same) : SE := ⟨E, lookS [(n_r03_Same, pw_r03_Same a0)], lookI [], lp_r06_Same a0⟩
theorem se0_r06_Same : SEOk (S0_r06_Same w_r03_Same) := seOk_of ⟨ok_r03_Same, trivial⟩ trivial
theorem body_r06_Same_0_0 (a0 Q n l0 l1 i2) : WC E (callW (S0_r06_Same a0) 5) (lp_r06_Same a0) b_70742100 [(2, .box (.agg [(.data l0)])), (3, .box (.agg [(.data l1)])), (5, .v (.int .i64 i2))] [] (fun x F' H' => match x with | .norm => R_r06_Same_0 a0 Q n F' H' | .exit i => Q (.exit i) F' H' | .ret => Q .ret F' H') = L_r06_Same_0_0 a0 (fun b0 => Q .ret [(4, .v (.bool b0))] []) (fun l0 l1 i2 b3 => Q (.exit 0) [(2, .box (.agg [(.data l0)])), (3, .box (.agg [(.data l1)])), (5, .v (.int .i64 i2)), (17, .v (.bool b3))] []) (n + 1) l0 l1 i2 := by kernel_rfl
theorem lpb_r06_Same_0 : LpOk E (lp_r06_Same w_r03_Same) b_70742100 := (LpOk_no (by kernel_rfl))
theorem loop_r06_Same_0 : ∀ F H Q, lp_r06_Same w_r03_Same 70742100 F H Q → LoopT E b_70742100 F H Q := by
  intro F H Q h
  have go := LoopT.intro (callW_ok se0_r06_Same 5) lpb_r06_Same_0 (R_r06_Same_0 w_r03_Same Q) (by
    intro F H h
    unfold R_r06_Same_0 D_r06_Same_0 at h
    split at h
    · exact h
    · exact h) (by
    intro n F H h
    unfold R_r06_Same_0 D_r06_Same_0 at h
    split at h
    · exact (body_r06_Same_0_0 ..).mpr h
    · exact h.elim)
  have h : D_r06_Same_0 F H _ := h
  unfold D_r06_Same_0 at h
  split at h
  · obtain ⟨n, h⟩ := h; exact go n _ _ h
  · exact h.elim
theorem eq_r06_Same (a0 p0 p1 K) : WP (S0_r06_Same a0) 6 t_r06_Same [(.agg [(.data p0)]), (.agg [(.data p1)])] K = wv_r06_Same a0 p0 p1 (fun r0 => K (.bool r0)) := by kernel_rfl
theorem ok_r06_Same : OkF E wp_r06_Same n_r06_Same := by
  intro as K h
  unfold wp_r06_Same pw_r06_Same at h
  split at h
  · exact WP_ok se0_r06_Same (LpOk_by (l := [(70742100, b_70742100)]) ⟨loop_r06_Same_0, trivial⟩ (by kernel_rfl)) (by kernel_rfl) (by kernel_rfl) (fun _ => baseC_none (by kernel_rfl) _) ((eq_r06_Same ..).mpr h)
  · exact h.elim
end Go.Pf.Vc
namespace Go.Pf.Vc
open Go Go.Pf
set_option linter.unusedVariables false
theorem det_r03_Same (p0 : List PV) (p1 : List PV) (r0 : Bool) (h : ∀ K : Bool → Prop, K r0 → w_r03_Same p0 p1 K) (K : Bool → Prop) : w_r03_Same p0 p1 K = K r0 :=
 propext ⟨fun k => detC ok_r03_Same (as := [(.data p0), (.data p1)]) (x := (.bool r0)) (fun K' k' => h (fun r0 => K' (.bool r0)) k') (K := fun x => match x with | (.bool r0) => K r0 | _ => False) k, h K⟩
theorem det_r06_Same (p0 : List PV) (p1 : List PV) (r0 : Bool) (h : ∀ K : Bool → Prop, K r0 → w_r06_Same p0 p1 K) (K : Bool → Prop) : w_r06_Same p0 p1 K = K r0 :=
 propext ⟨fun k => detC ok_r06_Same (as := [(.agg [(.data p0)]), (.agg [(.data p1)])]) (x := (.bool r0)) (fun K' k' => h (fun r0 => K' (.bool r0)) k') (K := fun x => match x with | (.bool r0) => K r0 | _ => False) k, h K⟩
end Go.Pf.Vc
namespace Go.Pf.Vc
open Go Go.Pf
set_option maxRecDepth 100000
abbrev T_choose_Start : Type := List PV → Int → (List PV → List PV → Int → Int → Int → Int → Bool → Int → Prop) → Prop
def wv_choose_Start (a0 : T_ask_Open) (p0 : List PV) (p1 : Int) (K : List PV → List PV → Int → Int → Int → Int → Bool → Int → Prop) : Prop :=
 (a0 p0 (fun yl0 yl1 yi2 => 
 (cbr (yi2 != (0 : Int))
 (K ([] : List PV) ([] : List PV) (0 : Int) (0 : Int) (0 : Int) (0 : Int) false yi2)
 (cbr ((((List.length p0) : Nat) : Int) != (2 : Int))
 (K ([] : List PV) ([] : List PV) (0 : Int) (0 : Int) (0 : Int) (0 : Int) false (2 : Int))
 (cbr (decide (p1 < (0 : Int)))
 (K ([] : List PV) ([] : List PV) (0 : Int) (0 : Int) (0 : Int) (0 : Int) false (2 : Int))
 (cbr (decide (p1 > (1 : Int)))
 (K ([] : List PV) ([] : List PV) (0 : Int) (0 : Int) (0 : Int) (0 : Int) false (2 : Int))
 (K yl0 yl1 p1 (0 : Int) (0 : Int) (1 : Int) false (0 : Int))))))))
def w_choose_Start (p0 : List PV) (p1 : Int) (K : List PV → List PV → Int → Int → Int → Int → Bool → Int → Prop) : Prop := wv_choose_Start w_ask_Open p0 p1 K
def pw_choose_Start (w : T_choose_Start) (as : List PV) (K : PV → Prop) : Prop :=
 match as with
 | [(.data p0), (.int .i64 p1)] => w p0 p1 (fun r0 r1 r2 r3 r4 r5 r6 r7 => K (.tup [(.agg [(.data r0), (.data r1), (.int .i64 r2), (.int .i64 r3), (.int .i64 r4), (.int .i64 r5), (.bool r6)]), (.int .i64 r7)]))
 | _ => False
def wp_choose_Start (as : List PV) (K : PV → Prop) : Prop := pw_choose_Start w_choose_Start as K
def lp_choose_Start (_ : T_ask_Open) : LP := fun _ _ _ _ =>
 False
def S0_choose_Start (a0 : T_ask_Open) : SE := ⟨E, lookS [(n_ask_Open, pw_ask_Open a0)], lookI [], lp_choose_Start a0⟩
theorem se0_choose_Start : SEOk (S0_choose_Start w_ask_Open) := seOk_of ⟨ok_ask_Open, trivial⟩ trivial
theorem eq_choose_Start (a0 p0 p1 K) : WP (S0_choose_Start a0) 6 t_choose_Start [(.data p0), (.int .i64 p1)] K = wv_choose_Start a0 p0 p1 (fun r0 r1 r2 r3 r4 r5 r6 r7 => K (.tup [(.agg [(.data r0), (.data r1), (.int .i64 r2), (.int .i64 r3), (.int .i64 r4), (.int .i64 r5), (.bool r6)]), (.int .i64 r7)])) := by kernel_rfl
theorem ok_choose_Start : OkF E wp_choose_Start n_choose_Start := by
  intro as K h
  unfold wp_choose_Start pw_choose_Start at h
  split at h
  · exact WP_ok se0_choose_Start (LpOk_no (by kernel_rfl)) (by kernel_rfl) (by kernel_rfl) (fun _ => baseC_none (by kernel_rfl) _) ((eq_choose_Start ..).mpr h)
  · exact h.elim
abbrev T_choose_half : Type := Int → List PV → List PV → (Int → Int → Prop) → Prop
def wv_choose_half (a0 : T_cake_Total) (a1 : T_ratio_Make) (p0 : Int) (p1 p2 : List PV) (K : Int → Int → Prop) : Prop :=
 (a0 p0 p1 p2 (fun yi0 _ => 
 (a1 yi0 (2 : Int) (fun yi2 yi3 _ => 
 (K yi2 yi3)))))
def w_choose_half (p0 : Int) (p1 p2 : List PV) (K : Int → Int → Prop) : Prop := wv_choose_half w_cake_Total w_ratio_Make p0 p1 p2 K
def pw_choose_half (w : T_choose_half) (as : List PV) (K : PV → Prop) : Prop :=
 match as with
 | [(.agg [(.int .i64 p0), (.data p1), (.data p2)])] => w p0 p1 p2 (fun r0 r1 => K (.agg [(.int .i64 r0), (.int .i64 r1)]))
 | _ => False
def wp_choose_half (as : List PV) (K : PV → Prop) : Prop := pw_choose_half w_choose_half as K
def lp_choose_half (_ : T_cake_Total) (_ : T_ratio_Make) : LP := fun _ _ _ _ =>
 False
def S0_choose_half (a0 : T_cake_Total) (a1 : T_ratio_Make) : SE := ⟨E, lookS [(n_cake_Total, pw_cake_Total a0), (n_ratio_Make, pw_ratio_Make a1)], lookI [], lp_choose_half a0 a1⟩
theorem se0_choose_half : SEOk (S0_choose_half w_cake_Total w_ratio_Make) := seOk_of ⟨ok_cake_Total, ok_ratio_Make, trivial⟩ trivial
theorem eq_choose_half (a0 a1 p0 p1 p2 K) : WP (S0_choose_half a0 a1) 6 t_choose_half [(.agg [(.int .i64 p0), (.data p1), (.data p2)])] K = wv_choose_half a0 a1 p0 p1 p2 (fun r0 r1 => K (.agg [(.int .i64 r0), (.int .i64 r1)])) := by kernel_rfl
theorem ok_choose_half : OkF E wp_choose_half n_choose_half := by
  intro as K h
  unfold wp_choose_half pw_choose_half at h
  split at h
  · exact WP_ok se0_choose_half (LpOk_no (by kernel_rfl)) (by kernel_rfl) (by kernel_rfl) (fun _ => baseC_none (by kernel_rfl) _) ((eq_choose_half ..).mpr h)
  · exact h.elim
abbrev T_choose_step : Type := List PV → List PV → Int → Int → Int → Int → Bool → (List PV → List PV → Int → Int → Int → Int → Bool → Prop) → Prop
def wv_choose_step (a0 : T_choose_half) (a1 : T_ask_Mark) (a2 : T_ask_Value) (a3 : T_ratio_Cmp) (p0 p1 : List PV) (p2 p3 p4 p5 : Int) (p6 : Bool) (K : List PV → List PV → Int → Int → Int → Int → Bool → Prop) : Prop :=
 (cbr (p3 == (0 : Int))
 (asr (decide ((0 : Int) ≤ p2))
 (asr (decide (p2 < (((List.length p0) : Nat) : Int)))
 (asr (conf (.agg [.i .i64, .d, .d]) (List.getD p0 (p2.toNat) .nils))
 (a0 (intOfV (cellAt (List.getD p0 (p2.toNat) .nils) 0)) (datOfV (cellAt (List.getD p0 (p2.toNat) .nils) 1)) (datOfV (cellAt (List.getD p0 (p2.toNat) .nils) 2)) (fun yi0 yi1 => 
 (a1 p0 p1 p2 (0 : Int) (1 : Int) yi0 yi1 (fun yl2 yl3 yi4 yi5 _ => 
 (K yl2 yl3 p2 (1 : Int) yi4 yi5 p6))))))))
 (a2 p0 p1 (IntKind.i64.wrap ((1 : Int) - p2)) (0 : Int) (1 : Int) p4 p5 (fun yl7 yl8 yi9 yi10 _ => 
 (asr (decide ((0 : Int) ≤ (IntKind.i64.wrap ((1 : Int) - p2))))
 (asr (decide ((IntKind.i64.wrap ((1 : Int) - p2)) < (((List.length p0) : Nat) : Int)))
 (asr (conf (.agg [.i .i64, .d, .d]) (List.getD p0 ((IntKind.i64.wrap ((1 : Int) - p2)).toNat) .nils))
 (a0 (intOfV (cellAt (List.getD p0 ((IntKind.i64.wrap ((1 : Int) - p2)).toNat) .nils) 0)) (datOfV (cellAt (List.getD p0 ((IntKind.i64.wrap ((1 : Int) - p2)).toNat) .nils) 1)) (datOfV (cellAt (List.getD p0 ((IntKind.i64.wrap ((1 : Int) - p2)).toNat) .nils) 2)) (fun yi12 yi13 => 
 (a3 yi9 yi10 yi12 yi13 (fun yi14 _ => 
 (K yl7 yl8 p2 (2 : Int) p4 p5 (decide (yi14 ≥ (0 : Int))))))))))))))
def w_choose_step (p0 p1 : List PV) (p2 p3 p4 p5 : Int) (p6 : Bool) (K : List PV → List PV → Int → Int → Int → Int → Bool → Prop) : Prop := wv_choose_step w_choose_half w_ask_Mark w_ask_Value w_ratio_Cmp p0 p1 p2 p3 p4 p5 p6 K
def pw_choose_step (w : T_choose_step) (as : List PV) (K : PV → Prop) : Prop :=
 match as with
 | [(.agg [(.data p0), (.data p1), (.int .i64 p2), (.int .i64 p3), (.int .i64 p4), (.int .i64 p5), (.bool p6)])] => w p0 p1 p2 p3 p4 p5 p6 (fun r0 r1 r2 r3 r4 r5 r6 => K (.agg [(.data r0), (.data r1), (.int .i64 r2), (.int .i64 r3), (.int .i64 r4), (.int .i64 r5), (.bool r6)]))
 | _ => False
def wp_choose_step (as : List PV) (K : PV → Prop) : Prop := pw_choose_step w_choose_step as K
def lp_choose_step (_ : T_choose_half) (_ : T_ask_Mark) (_ : T_ask_Value) (_ : T_ratio_Cmp) : LP := fun _ _ _ _ =>
 False
def S0_choose_step (a0 : T_choose_half) (a1 : T_ask_Mark) (a2 : T_ask_Value) (a3 : T_ratio_Cmp) : SE := ⟨E, lookS [(n_choose_half, pw_choose_half a0), (n_ask_Mark, pw_ask_Mark a1), (n_ask_Value, pw_ask_Value a2), (n_ratio_Cmp, pw_ratio_Cmp a3)], lookI [], lp_choose_step a0 a1 a2 a3⟩
theorem se0_choose_step : SEOk (S0_choose_step w_choose_half w_ask_Mark w_ask_Value w_ratio_Cmp) := seOk_of ⟨ok_choose_half, ok_ask_Mark, ok_ask_Value, ok_ratio_Cmp, trivial⟩ trivial
theorem eq_choose_step (a0 a1 a2 a3 p0 p1 p2 p3 p4 p5 p6 K) : WP (S0_choose_step a0 a1 a2 a3) 6 t_choose_step [(.agg [(.data p0), (.data p1), (.int .i64 p2), (.int .i64 p3), (.int .i64 p4), (.int .i64 p5), (.bool p6)])] K = wv_choose_step a0 a1 a2 a3 p0 p1 p2 p3 p4 p5 p6 (fun r0 r1 r2 r3 r4 r5 r6 => K (.agg [(.data r0), (.data r1), (.int .i64 r2), (.int .i64 r3), (.int .i64 r4), (.int .i64 r5), (.bool r6)])) := by kernel_rfl
theorem ok_choose_step : OkF E wp_choose_step n_choose_step := by
  intro as K h
  unfold wp_choose_step pw_choose_step at h
  split at h
  · exact WP_ok se0_choose_step (LpOk_no (by kernel_rfl)) (by kernel_rfl) (by kernel_rfl) (fun _ => baseC_none (by kernel_rfl) _) ((eq_choose_step ..).mpr h)
  · exact h.elim
abbrev T_choose_Check : Type := List PV → List PV → Int → Int → Int → Int → Bool → (Int → Prop) → Prop
mutual
def L_choose_Check_0_0 (a0 : T_ask_Check) (a1 : T_choose_Start) (a2 : T_choose_step) (a3 : T_s_Equal_api_Query_api_Query) (x0 : List PV → List PV → Int → Int → Int → Int → Bool → List PV → List PV → Int → Int → Int → Int → Bool → Bool → Prop) : Nat → List PV → List PV → Int → Int → Int → Int → Bool → List PV → List PV → Int → Int → Int → Int → Bool → Int → Bool → Prop
 | 0, _, _, _, _, _, _, _, _, _, _, _, _, _, _, _, _ => False
 | n + 1, l0, l1, i2, i3, i4, i5, b6, l7, l8, i9, i10, i11, i12, b13, _, _ =>
 (cbr (decide (i10 < (if (2 : Int) < i3 then (2 : Int) else i3)))
 (a2 l7 l8 i9 i10 i11 i12 b13 (fun yl9 yl10 yi11 yi12 yi13 yi14 yb15 => 
 (L_choose_Check_0_1 a0 a1 a2 a3 x0 n l0 l1 i2 i3 i4 i5 b6 yl9 yl10 yi11 yi12 yi13 yi14 yb15)))
 (x0 l0 l1 i2 i3 i4 i5 b6 l7 l8 i9 i10 i11 i12 b13 false))
def L_choose_Check_0_1 (a0 : T_ask_Check) (a1 : T_choose_Start) (a2 : T_choose_step) (a3 : T_s_Equal_api_Query_api_Query) (x0 : List PV → List PV → Int → Int → Int → Int → Bool → List PV → List PV → Int → Int → Int → Int → Bool → Bool → Prop) : Nat → List PV → List PV → Int → Int → Int → Int → Bool → List PV → List PV → Int → Int → Int → Int → Bool → Prop
 | 0, _, _, _, _, _, _, _, _, _, _, _, _, _, _ => False
 | n + 1, l0, l1, i2, i3, i4, i5, b6, l7, l8, i9, i10, i11, i12, b13 =>
 (cbr (decide (i10 < (if (2 : Int) < i3 then (2 : Int) else i3)))
 (a2 l7 l8 i9 i10 i11 i12 b13 (fun yl16 yl17 yi18 yi19 yi20 yi21 yb22 => 
 (L_choose_Check_0_1 a0 a1 a2 a3 x0 n l0 l1 i2 i3 i4 i5 b6 yl16 yl17 yi18 yi19 yi20 yi21 yb22)))
 (x0 l0 l1 i2 i3 i4 i5 b6 l7 l8 i9 i10 i11 i12 b13 false))
end
def wv_choose_Check (a0 : T_ask_Check) (a1 : T_choose_Start) (a2 : T_choose_step) (a3 : T_s_Equal_api_Query_api_Query) (p0 p1 : List PV) (p2 p3 p4 p5 : Int) (p6 : Bool) (K : Int → Prop) : Prop :=
 (a0 p0 p1 (fun yi0 => 
 (cbr (yi0 != (0 : Int))
 (K yi0)
 (a1 p0 p2 (fun yl1 yl2 yi3 yi4 yi5 yi6 yb7 yi8 => 
 (cbr (yi8 != (0 : Int))
 (K yi8)
 (∃ n : Nat, L_choose_Check_0_0 a0 a1 a2 a3
 (fun _ yl24 _ yi26 yi27 yi28 yb29 _ yl31 _ yi33 yi34 yi35 yb36 _ => (cbr (yi33 != yi26)
 (K (8 : Int))
 (cbr (!((yi34 == yi27) && ((yi35 == yi28) && true)))
 (K (8 : Int))
 (cbr (yb36 != yb29)
 (K (8 : Int))
 (a3 yl31 yl24 (fun yb38 => 
 (cbr (!yb38)
 (K (8 : Int))
 (K (0 : Int)))))))))
 n p0 p1 p2 p3 p4 p5 p6 yl1 yl2 yi3 yi4 yi5 yi6 yb7 yi8 false)))))))
def w_choose_Check (p0 p1 : List PV) (p2 p3 p4 p5 : Int) (p6 : Bool) (K : Int → Prop) : Prop := wv_choose_Check w_ask_Check w_choose_Start w_choose_step w_s_Equal_api_Query_api_Query p0 p1 p2 p3 p4 p5 p6 K
def pw_choose_Check (w : T_choose_Check) (as : List PV) (K : PV → Prop) : Prop :=
 match as with
 | [(.agg [(.data p0), (.data p1), (.int .i64 p2), (.int .i64 p3), (.int .i64 p4), (.int .i64 p5), (.bool p6)])] => w p0 p1 p2 p3 p4 p5 p6 (fun r0 => K (.int .i64 r0))
 | _ => False
def wp_choose_Check (as : List PV) (K : PV → Prop) : Prop := pw_choose_Check w_choose_Check as K
def D_choose_Check_0 (F : Frm) (H : Hp) (A0 : List PV → List PV → Int → Int → Int → Int → Bool → List PV → List PV → Int → Int → Int → Int → Bool → Int → Bool → Prop) (A1 : List PV → List PV → Int → Int → Int → Int → Bool → List PV → List PV → Int → Int → Int → Int → Bool → Prop) : Prop :=
 match F, H with
 | [(1, .box (.agg [(.data l0), (.data l1), (.int .i64 i2), (.int .i64 i3), (.int .i64 i4), (.int .i64 i5), (.bool b6)])), (4, .box (.agg [(.data l7), (.data l8), (.int .i64 i9), (.int .i64 i10), (.int .i64 i11), (.int .i64 i12), (.bool b13)])), (5, .v (.int .i64 i14)), (22, .v (.bool b15))], [] => (A0 l0 l1 i2 i3 i4 i5 b6 l7 l8 i9 i10 i11 i12 b13 i14 b15)
 | [(1, .box (.agg [(.data l0), (.data l1), (.int .i64 i2), (.int .i64 i3), (.int .i64 i4), (.int .i64 i5), (.bool b6)])), (4, .box (.agg [(.data l7), (.data l8), (.int .i64 i9), (.int .i64 i10), (.int .i64 i11), (.int .i64 i12), (.bool b13)]))], [] => (A1 l0 l1 i2 i3 i4 i5 b6 l7 l8 i9 i10 i11 i12 b13)
 | _, _ => False
def R_choose_Check_0 (a0 : T_ask_Check) (a1 : T_choose_Start) (a2 : T_choose_step) (a3 : T_s_Equal_api_Query_api_Query) (Q : Ex → Frm → Hp → Prop) (n : Nat) (F : Frm) (H : Hp) : Prop := D_choose_Check_0 F H (fun l0 l1 i2 i3 i4 i5 b6 l7 l8 i9 i10 i11 i12 b13 i14 b15 => L_choose_Check_0_0 a0 a1 a2 a3 (fun l0 l1 i2 i3 i4 i5 b6 l7 l8 i9 i10 i11 i12 b13 b14 => Q (.exit 0) [(1, .box (.agg [(.data l0), (.data l1), (.int .i64 i2), (.int .i64 i3), (.int .i64 i4), (.int .i64 i5), (.bool b6)])), (4, .box (.agg [(.data l7), (.data l8), (.int .i64 i9), (.int .i64 i10), (.int .i64 i11), (.int .i64 i12), (.bool b13)])), (29, .v (.bool b14))] []) n l0 l1 i2 i3 i4 i5 b6 l7 l8 i9 i10 i11 i12 b13 i14 b15) (fun l0 l1 i2 i3 i4 i5 b6 l7 l8 i9 i10 i11 i12 b13 => L_choose_Check_0_1 a0 a1 a2 a3 (fun l0 l1 i2 i3 i4 i5 b6 l7 l8 i9 i10 i11 i12 b13 b14 => Q (.exit 0) [(1, .box (.agg [(.data l0), (.data l1), (.int .i64 i2), (.int .i64 i3), (.int .i64 i4), (.int .i64 i5), (.bool b6)])), (4, .box (.agg [(.data l7), (.data l8), (.int .i64 i9), (.int .i64 i10), (.int .i64 i11), (.int .i64 i12), (.bool b13)])), (29, .v (.bool b14))] []) n l0 l1 i2 i3 i4 i5 b6 l7 l8 i9 i10 i11 i12 b13)
def lp_choose_Check (a0 : T_ask_Check) (a1 : T_choose_Start) (a2 : T_choose_step) (a3 : T_s_Equal_api_Query_api_Query) : LP := fun id F H Q =>
 bif Nat.beq id 87884100 then D_choose_Check_0 F H (fun l0 l1 i2 i3 i4 i5 b6 l7 l8 i9 i10 i11 i12 b13 i14 b15 => ∃ n : Nat, L_choose_Check_0_0 a0 a1 a2 a3 (fun l0 l1 i2 i3 i4 i5 b6 l7 l8 i9 i10 i11 i12 b13 b14 => Q (.exit 0) [(1, .box (.agg [(.data l0), (.data l1), (.int .i64 i2), (.int .i64 i3), (.int .i64 i4), (.int .i64 i5), (.bool b6)])), (4, .box (.agg [(.data l7), (.data l8), (.int .i64 i9), (.int .i64 i10), (.int .i64 i11), (.int .i64 i12), (.bool b13)])), (29, .v (.bool b14))] []) n l0 l1 i2 i3 i4 i5 b6 l7 l8 i9 i10 i11 i12 b13 i14 b15) (fun l0 l1 i2 i3 i4 i5 b6 l7 l8 i9 i10 i11 i12 b13 => ∃ n : Nat, L_choose_Check_0_1 a0 a1 a2 a3 (fun l0 l1 i2 i3 i4 i5 b6 l7 l8 i9 i10 i11 i12 b13 b14 => Q (.exit 0) [(1, .box (.agg [(.data l0), (.data l1), (.int .i64 i2), (.int .i64 i3), (.int .i64 i4), (.int .i64 i5), (.bool b6)])), (4, .box (.agg [(.data l7), (.data l8), (.int .i64 i9), (.int .i64 i10), (.int .i64 i11), (.int .i64 i12), (.bool b13)])), (29, .v (.bool b14))] []) n l0 l1 i2 i3 i4 i5 b6 l7 l8 i9 i10 i11 i12 b13) else
 False
def S0_choose_Check (a0 : T_ask_Check) (a1 : T_choose_Start) (a2 : T_choose_step) (a3 : T_s_Equal_api_Query_api_Query) : SE := ⟨E, lookS [(n_ask_Check, pw_ask_Check a0), (n_choose_Start, pw_choose_Start a1), (n_choose_step, pw_choose_step a2), (n_s_Equal_api_Query_api_Query, pw_s_Equal_api_Query_api_Query a3)], lookI [], lp_choose_Check a0 a1 a2 a3⟩
theorem se0_choose_Check : SEOk (S0_choose_Check w_ask_Check w_choose_Start w_choose_step w_s_Equal_api_Query_api_Query) := seOk_of ⟨ok_ask_Check, ok_choose_Start, ok_choose_step, ok_s_Equal_api_Query_api_Query, trivial⟩ trivial
theorem body_choose_Check_0_0 (a0 a1 a2 a3 Q n l0 l1 i2 i3 i4 i5 b6 l7 l8 i9 i10 i11 i12 b13 i14 b15) : WC E (callW (S0_choose_Check a0 a1 a2 a3) 5) (lp_choose_Check a0 a1 a2 a3) b_87884100 [(1, .box (.agg [(.data l0), (.data l1), (.int .i64 i2), (.int .i64 i3), (.int .i64 i4), (.int .i64 i5), (.bool b6)])), (4, .box (.agg [(.data l7), (.data l8), (.int .i64 i9), (.int .i64 i10), (.int .i64 i11), (.int .i64 i12), (.bool b13)])), (5, .v (.int .i64 i14)), (22, .v (.bool b15))] [] (fun x F' H' => match x with | .norm => R_choose_Check_0 a0 a1 a2 a3 Q n F' H' | .exit i => Q (.exit i) F' H' | .ret => Q .ret F' H') = L_choose_Check_0_0 a0 a1 a2 a3 (fun l0 l1 i2 i3 i4 i5 b6 l7 l8 i9 i10 i11 i12 b13 b14 => Q (.exit 0) [(1, .box (.agg [(.data l0), (.data l1), (.int .i64 i2), (.int .i64 i3), (.int .i64 i4), (.int .i64 i5), (.bool b6)])), (4, .box (.agg [(.data l7), (.data l8), (.int .i64 i9), (.int .i64 i10), (.int .i64 i11), (.int .i64 i12), (.bool b13)])), (29, .v (.bool b14))] []) (n + 1) l0 l1 i2 i3 i4 i5 b6 l7 l8 i9 i10 i11 i12 b13 i14 b15 := by kernel_rfl
theorem body_choose_Check_0_1 (a0 a1 a2 a3 Q n l0 l1 i2 i3 i4 i5 b6 l7 l8 i9 i10 i11 i12 b13) : WC E (callW (S0_choose_Check a0 a1 a2 a3) 5) (lp_choose_Check a0 a1 a2 a3) b_87884100 [(1, .box (.agg [(.data l0), (.data l1), (.int .i64 i2), (.int .i64 i3), (.int .i64 i4), (.int .i64 i5), (.bool b6)])), (4, .box (.agg [(.data l7), (.data l8), (.int .i64 i9), (.int .i64 i10), (.int .i64 i11), (.int .i64 i12), (.bool b13)]))] [] (fun x F' H' => match x with | .norm => R_choose_Check_0 a0 a1 a2 a3 Q n F' H' | .exit i => Q (.exit i) F' H' | .ret => Q .ret F' H') = L_choose_Check_0_1 a0 a1 a2 a3 (fun l0 l1 i2 i3 i4 i5 b6 l7 l8 i9 i10 i11 i12 b13 b14 => Q (.exit 0) [(1, .box (.agg [(.data l0), (.data l1), (.int .i64 i2), (.int .i64 i3), (.int .i64 i4), (.int .i64 i5), (.bool b6)])), (4, .box (.agg [(.data l7), (.data l8), (.int .i64 i9), (.int .i64 i10), (.int .i64 i11), (.int .i64 i12), (.bool b13)])), (29, .v (.bool b14))] []) (n + 1) l0 l1 i2 i3 i4 i5 b6 l7 l8 i9 i10 i11 i12 b13 := by kernel_rfl
theorem lpb_choose_Check_0 : LpOk E (lp_choose_Check w_ask_Check w_choose_Start w_choose_step w_s_Equal_api_Query_api_Query) b_87884100 := (LpOk_no (by kernel_rfl))
theorem loop_choose_Check_0 : ∀ F H Q, lp_choose_Check w_ask_Check w_choose_Start w_choose_step w_s_Equal_api_Query_api_Query 87884100 F H Q → LoopT E b_87884100 F H Q := by
  intro F H Q h
  have go := LoopT.intro (callW_ok se0_choose_Check 5) lpb_choose_Check_0 (R_choose_Check_0 w_ask_Check w_choose_Start w_choose_step w_s_Equal_api_Query_api_Query Q) (by
    intro F H h
    unfold R_choose_Check_0 D_choose_Check_0 at h
    split at h
    · exact h
    · exact h
    · exact h) (by
    intro n F H h
    unfold R_choose_Check_0 D_choose_Check_0 at h
    split at h
    · exact (body_choose_Check_0_0 ..).mpr h
    · exact (body_choose_Check_0_1 ..).mpr h
    · exact h.elim)
  have h : D_choose_Check_0 F H _ _ := h
  unfold D_choose_Check_0 at h
  split at h
  · obtain ⟨n, h⟩ := h; exact go n _ _ h
  · obtain ⟨n, h⟩ := h; exact go n _ _ h
  · exact h.elim
theorem eq_choose_Check (a0 a1 a2 a3 p0 p1 p2 p3 p4 p5 p6 K) : WP (S0_choose_Check a0 a1 a2 a3) 6 t_choose_Check [(.agg [(.data p0), (.data p1), (.int .i64 p2), (.int .i64 p3), (.int .i64 p4), (.int .i64 p5), (.bool p6)])] K = wv_choose_Check a0 a1 a2 a3 p0 p1 p2 p3 p4 p5 p6 (fun r0 => K (.int .i64 r0)) := by kernel_rfl
theorem ok_choose_Check : OkF E wp_choose_Check n_choose_Check := by
  intro as K h
  unfold wp_choose_Check pw_choose_Check at h
  split at h
  · exact WP_ok se0_choose_Check (LpOk_by (l := [(87884100, b_87884100)]) ⟨loop_choose_Check_0, trivial⟩ (by kernel_rfl)) (by kernel_rfl) (by kernel_rfl) (fun _ => baseC_none (by kernel_rfl) _) ((eq_choose_Check ..).mpr h)
  · exact h.elim
abbrev T_choose_Division : Type := List PV → List PV → Int → Int → Int → Int → Bool → (List PV → Int → Prop) → Prop
def wv_choose_Division (a0 : T_choose_Check) (p0 p1 : List PV) (p2 p3 p4 p5 : Int) (p6 : Bool) (K : List PV → Int → Prop) : Prop :=
 (a0 p0 p1 p2 p3 p4 p5 p6 (fun yi0 => 
 (cbr (yi0 != (0 : Int))
 (K ([] : List PV) yi0)
 (cbr (decide (p3 < (2 : Int)))
 (K ([] : List PV) (36 : Int))
 (cbr p6
 (asr (decide ((0 : Int) ≤ (IntKind.i64.wrap ((1 : Int) - p2))))
 (asr (decide ((IntKind.i64.wrap ((1 : Int) - p2)) < (2 : Int)))
 (asr (decide ((0 + ((IntKind.i64.wrap ((1 : Int) - p2)).toNat)) < 2))
 (asr (conf (.one (.d)) (List.getD ([(.data ([] : List PV)), (.data ([] : List PV))] : List PV) (0 + ((IntKind.i64.wrap ((1 : Int) - p2)).toNat)) .nils))
 (asr (decide ((0 : Int) < (((List.length p0) : Nat) : Int)))
 (asr (conf (.agg [.i .i64, .d, .d]) (List.getD p0 0 .nils))
 (asr (decide ((0 : Int) ≤ (IntKind.i64.wrap ((1 : Int) - (IntKind.i64.wrap ((1 : Int) - p2))))))
 (asr (decide ((IntKind.i64.wrap ((1 : Int) - (IntKind.i64.wrap ((1 : Int) - p2)))) < (2 : Int)))
 (asr (decide ((List.length (List.set ([(.data ([] : List PV)), (.data ([] : List PV))] : List PV) (0 + ((IntKind.i64.wrap ((1 : Int) - p2)).toNat)) (.data ([(.agg [(.int .i64 (0 : Int)), (.int .i64 (1 : Int)), (.int .i64 p4), (.int .i64 p5)])] : List PV)))) = 2))
 (asr (decide ((0 + ((IntKind.i64.wrap ((1 : Int) - (IntKind.i64.wrap ((1 : Int) - p2)))).toNat)) < (List.length (List.set ([(.data ([] : List PV)), (.data ([] : List PV))] : List PV) (0 + ((IntKind.i64.wrap ((1 : Int) - p2)).toNat)) (.data ([(.agg [(.int .i64 (0 : Int)), (.int .i64 (1 : Int)), (.int .i64 p4), (.int .i64 p5)])] : List PV))))))
 (asr (conf (.one (.d)) (List.getD (List.set ([(.data ([] : List PV)), (.data ([] : List PV))] : List PV) (0 + ((IntKind.i64.wrap ((1 : Int) - p2)).toNat)) (.data ([(.agg [(.int .i64 (0 : Int)), (.int .i64 (1 : Int)), (.int .i64 p4), (.int .i64 p5)])] : List PV))) (0 + ((IntKind.i64.wrap ((1 : Int) - (IntKind.i64.wrap ((1 : Int) - p2)))).toNat)) .nils))
 (asr (decide ((List.length (List.set (List.set ([(.data ([] : List PV)), (.data ([] : List PV))] : List PV) (0 + ((IntKind.i64.wrap ((1 : Int) - p2)).toNat)) (.data ([(.agg [(.int .i64 (0 : Int)), (.int .i64 (1 : Int)), (.int .i64 p4), (.int .i64 p5)])] : List PV))) (0 + ((IntKind.i64.wrap ((1 : Int) - (IntKind.i64.wrap ((1 : Int) - p2)))).toNat)) (.data ([(.agg [(.int .i64 p4), (.int .i64 p5), (.int .i64 (intOfV (cellAt (List.getD p0 0 .nils) 0))), (.int .i64 (1 : Int))])] : List PV)))) = 2))
 (K (List.take 2 (List.set (List.set ([(.data ([] : List PV)), (.data ([] : List PV))] : List PV) (0 + ((IntKind.i64.wrap ((1 : Int) - p2)).toNat)) (.data ([(.agg [(.int .i64 (0 : Int)), (.int .i64 (1 : Int)), (.int .i64 p4), (.int .i64 p5)])] : List PV))) (0 + ((IntKind.i64.wrap ((1 : Int) - (IntKind.i64.wrap ((1 : Int) - p2)))).toNat)) (.data ([(.agg [(.int .i64 p4), (.int .i64 p5), (.int .i64 (intOfV (cellAt (List.getD p0 0 .nils) 0))), (.int .i64 (1 : Int))])] : List PV)))) (0 : Int))))))))))))))
 (asr (decide ((0 : Int) ≤ p2))
 (asr (decide (p2 < (2 : Int)))
 (asr (decide ((0 + (p2.toNat)) < 2))
 (asr (conf (.one (.d)) (List.getD ([(.data ([] : List PV)), (.data ([] : List PV))] : List PV) (0 + (p2.toNat)) .nils))
 (asr (decide ((0 : Int) < (((List.length p0) : Nat) : Int)))
 (asr (conf (.agg [.i .i64, .d, .d]) (List.getD p0 0 .nils))
 (asr (decide ((0 : Int) ≤ (IntKind.i64.wrap ((1 : Int) - p2))))
 (asr (decide ((IntKind.i64.wrap ((1 : Int) - p2)) < (2 : Int)))
 (asr (decide ((List.length (List.set ([(.data ([] : List PV)), (.data ([] : List PV))] : List PV) (0 + (p2.toNat)) (.data ([(.agg [(.int .i64 (0 : Int)), (.int .i64 (1 : Int)), (.int .i64 p4), (.int .i64 p5)])] : List PV)))) = 2))
 (asr (decide ((0 + ((IntKind.i64.wrap ((1 : Int) - p2)).toNat)) < (List.length (List.set ([(.data ([] : List PV)), (.data ([] : List PV))] : List PV) (0 + (p2.toNat)) (.data ([(.agg [(.int .i64 (0 : Int)), (.int .i64 (1 : Int)), (.int .i64 p4), (.int .i64 p5)])] : List PV))))))
 (asr (conf (.one (.d)) (List.getD (List.set ([(.data ([] : List PV)), (.data ([] : List PV))] : List PV) (0 + (p2.toNat)) (.data ([(.agg [(.int .i64 (0 : Int)), (.int .i64 (1 : Int)), (.int .i64 p4), (.int .i64 p5)])] : List PV))) (0 + ((IntKind.i64.wrap ((1 : Int) - p2)).toNat)) .nils))
 (asr (decide ((List.length (List.set (List.set ([(.data ([] : List PV)), (.data ([] : List PV))] : List PV) (0 + (p2.toNat)) (.data ([(.agg [(.int .i64 (0 : Int)), (.int .i64 (1 : Int)), (.int .i64 p4), (.int .i64 p5)])] : List PV))) (0 + ((IntKind.i64.wrap ((1 : Int) - p2)).toNat)) (.data ([(.agg [(.int .i64 p4), (.int .i64 p5), (.int .i64 (intOfV (cellAt (List.getD p0 0 .nils) 0))), (.int .i64 (1 : Int))])] : List PV)))) = 2))
 (K (List.take 2 (List.set (List.set ([(.data ([] : List PV)), (.data ([] : List PV))] : List PV) (0 + (p2.toNat)) (.data ([(.agg [(.int .i64 (0 : Int)), (.int .i64 (1 : Int)), (.int .i64 p4), (.int .i64 p5)])] : List PV))) (0 + ((IntKind.i64.wrap ((1 : Int) - p2)).toNat)) (.data ([(.agg [(.int .i64 p4), (.int .i64 p5), (.int .i64 (intOfV (cellAt (List.getD p0 0 .nils) 0))), (.int .i64 (1 : Int))])] : List PV)))) (0 : Int)))))))))))))))))))
def w_choose_Division (p0 p1 : List PV) (p2 p3 p4 p5 : Int) (p6 : Bool) (K : List PV → Int → Prop) : Prop := wv_choose_Division w_choose_Check p0 p1 p2 p3 p4 p5 p6 K
def pw_choose_Division (w : T_choose_Division) (as : List PV) (K : PV → Prop) : Prop :=
 match as with
 | [(.agg [(.data p0), (.data p1), (.int .i64 p2), (.int .i64 p3), (.int .i64 p4), (.int .i64 p5), (.bool p6)])] => w p0 p1 p2 p3 p4 p5 p6 (fun r0 r1 => K (.tup [(.agg [(.data r0)]), (.int .i64 r1)]))
 | _ => False
def wp_choose_Division (as : List PV) (K : PV → Prop) : Prop := pw_choose_Division w_choose_Division as K
def lp_choose_Division (_ : T_choose_Check) : LP := fun _ _ _ _ =>
 False
def S0_choose_Division (a0 : T_choose_Check) : SE := ⟨E, lookS [(n_choose_Check, pw_choose_Check a0)], lookI [], lp_choose_Division a0⟩
theorem se0_choose_Division : SEOk (S0_choose_Division w_choose_Check) := seOk_of ⟨ok_choose_Check, trivial⟩ trivial
theorem eq_choose_Division (a0 p0 p1 p2 p3 p4 p5 p6 K) : WP (S0_choose_Division a0) 6 t_choose_Division [(.agg [(.data p0), (.data p1), (.int .i64 p2), (.int .i64 p3), (.int .i64 p4), (.int .i64 p5), (.bool p6)])] K = wv_choose_Division a0 p0 p1 p2 p3 p4 p5 p6 (fun r0 r1 => K (.tup [(.agg [(.data r0)]), (.int .i64 r1)])) := by kernel_rfl
theorem ok_choose_Division : OkF E wp_choose_Division n_choose_Division := by
  intro as K h
  unfold wp_choose_Division pw_choose_Division at h
  split at h
  · exact WP_ok se0_choose_Division (LpOk_no (by kernel_rfl)) (by kernel_rfl) (by kernel_rfl) (fun _ => baseC_none (by kernel_rfl) _) ((eq_choose_Division ..).mpr h)
  · exact h.elim
abbrev T_choose_Run : Type := List PV → Int → (List PV → List PV → Int → Prop) → Prop
def wv_choose_Run (a0 : T_choose_Start) (a1 : T_choose_step) (a2 : T_choose_Division) (p0 : List PV) (p1 : Int) (K : List PV → List PV → Int → Prop) : Prop :=
 (a0 p0 p1 (fun yl0 yl1 yi2 yi3 yi4 yi5 yb6 yi7 => 
 (cbr (yi7 != (0 : Int))
 (K ([] : List PV) ([] : List PV) yi7)
 (a1 yl0 yl1 yi2 yi3 yi4 yi5 yb6 (fun yl8 yl9 yi10 yi11 yi12 yi13 yb14 => 
 (a1 yl8 yl9 yi10 yi11 yi12 yi13 yb14 (fun yl15 yl16 yi17 yi18 yi19 yi20 yb21 => 
 (a2 yl15 yl16 yi17 yi18 yi19 yi20 yb21 (fun yl22 yi23 => 
 (K yl22 yl16 yi23))))))))))
def w_choose_Run (p0 : List PV) (p1 : Int) (K : List PV → List PV → Int → Prop) : Prop := wv_choose_Run w_choose_Start w_choose_step w_choose_Division p0 p1 K
def pw_choose_Run (w : T_choose_Run) (as : List PV) (K : PV → Prop) : Prop :=
 match as with
 | [(.data p0), (.int .i64 p1)] => w p0 p1 (fun r0 r1 r2 => K (.tup [(.agg [(.data r0)]), (.data r1), (.int .i64 r2)]))
 | _ => False
def wp_choose_Run (as : List PV) (K : PV → Prop) : Prop := pw_choose_Run w_choose_Run as K
def lp_choose_Run (_ : T_choose_Start) (_ : T_choose_step) (_ : T_choose_Division) : LP := fun _ _ _ _ =>
 False
def S0_choose_Run (a0 : T_choose_Start) (a1 : T_choose_step) (a2 : T_choose_Division) : SE := ⟨E, lookS [(n_choose_Start, pw_choose_Start a0), (n_choose_step, pw_choose_step a1), (n_choose_Division, pw_choose_Division a2)], lookI [], lp_choose_Run a0 a1 a2⟩
theorem se0_choose_Run : SEOk (S0_choose_Run w_choose_Start w_choose_step w_choose_Division) := seOk_of ⟨ok_choose_Start, ok_choose_step, ok_choose_Division, trivial⟩ trivial
theorem eq_choose_Run (a0 a1 a2 p0 p1 K) : WP (S0_choose_Run a0 a1 a2) 6 t_choose_Run [(.data p0), (.int .i64 p1)] K = wv_choose_Run a0 a1 a2 p0 p1 (fun r0 r1 r2 => K (.tup [(.agg [(.data r0)]), (.data r1), (.int .i64 r2)])) := by kernel_rfl
theorem ok_choose_Run : OkF E wp_choose_Run n_choose_Run := by
  intro as K h
  unfold wp_choose_Run pw_choose_Run at h
  split at h
  · exact WP_ok se0_choose_Run (LpOk_no (by kernel_rfl)) (by kernel_rfl) (by kernel_rfl) (fun _ => baseC_none (by kernel_rfl) _) ((eq_choose_Run ..).mpr h)
  · exact h.elim
abbrev T_choose_Next : Type := List PV → List PV → Int → Int → Int → Int → Bool → (List PV → List PV → Int → Int → Int → Int → Bool → Int → Prop) → Prop
def wv_choose_Next (a0 : T_choose_Check) (a1 : T_choose_step) (p0 p1 : List PV) (p2 p3 p4 p5 : Int) (p6 : Bool) (K : List PV → List PV → Int → Int → Int → Int → Bool → Int → Prop) : Prop :=
 (a0 p0 p1 p2 p3 p4 p5 p6 (fun yi0 => 
 (cbr (yi0 != (0 : Int))
 (K ([] : List PV) ([] : List PV) (0 : Int) (0 : Int) (0 : Int) (0 : Int) false yi0)
 (cbr (p3 == (2 : Int))
 (K ([] : List PV) ([] : List PV) (0 : Int) (0 : Int) (0 : Int) (0 : Int) false (36 : Int))
 (a1 p0 p1 p2 p3 p4 p5 p6 (fun yl1 yl2 yi3 yi4 yi5 yi6 yb7 => 
 (K yl1 yl2 yi3 yi4 yi5 yi6 yb7 (0 : Int))))))))
def w_choose_Next (p0 p1 : List PV) (p2 p3 p4 p5 : Int) (p6 : Bool) (K : List PV → List PV → Int → Int → Int → Int → Bool → Int → Prop) : Prop := wv_choose_Next w_choose_Check w_choose_step p0 p1 p2 p3 p4 p5 p6 K
def pw_choose_Next (w : T_choose_Next) (as : List PV) (K : PV → Prop) : Prop :=
 match as with
 | [(.agg [(.data p0), (.data p1), (.int .i64 p2), (.int .i64 p3), (.int .i64 p4), (.int .i64 p5), (.bool p6)])] => w p0 p1 p2 p3 p4 p5 p6 (fun r0 r1 r2 r3 r4 r5 r6 r7 => K (.tup [(.agg [(.data r0), (.data r1), (.int .i64 r2), (.int .i64 r3), (.int .i64 r4), (.int .i64 r5), (.bool r6)]), (.int .i64 r7)]))
 | _ => False
def wp_choose_Next (as : List PV) (K : PV → Prop) : Prop := pw_choose_Next w_choose_Next as K
def lp_choose_Next (_ : T_choose_Check) (_ : T_choose_step) : LP := fun _ _ _ _ =>
 False
def S0_choose_Next (a0 : T_choose_Check) (a1 : T_choose_step) : SE := ⟨E, lookS [(n_choose_Check, pw_choose_Check a0), (n_choose_step, pw_choose_step a1)], lookI [], lp_choose_Next a0 a1⟩
theorem se0_choose_Next : SEOk (S0_choose_Next w_choose_Check w_choose_step) := seOk_of ⟨ok_choose_Check, ok_choose_step, trivial⟩ trivial
theorem eq_choose_Next (a0 a1 p0 p1 p2 p3 p4 p5 p6 K) : WP (S0_choose_Next a0 a1) 6 t_choose_Next [(.agg [(.data p0), (.data p1), (.int .i64 p2), (.int .i64 p3), (.int .i64 p4), (.int .i64 p5), (.bool p6)])] K = wv_choose_Next a0 a1 p0 p1 p2 p3 p4 p5 p6 (fun r0 r1 r2 r3 r4 r5 r6 r7 => K (.tup [(.agg [(.data r0), (.data r1), (.int .i64 r2), (.int .i64 r3), (.int .i64 r4), (.int .i64 r5), (.bool r6)]), (.int .i64 r7)])) := by kernel_rfl
theorem ok_choose_Next : OkF E wp_choose_Next n_choose_Next := by
  intro as K h
  unfold wp_choose_Next pw_choose_Next at h
  split at h
  · exact WP_ok se0_choose_Next (LpOk_no (by kernel_rfl)) (by kernel_rfl) (by kernel_rfl) (fun _ => baseC_none (by kernel_rfl) _) ((eq_choose_Next ..).mpr h)
  · exact h.elim
end Go.Pf.Vc
namespace Go.Pf.Vc
open Go Go.Pf
set_option linter.unusedVariables false
theorem det_choose_Check (p0 : List PV) (p1 : List PV) (p2 : Int) (p3 : Int) (p4 : Int) (p5 : Int) (p6 : Bool) (r0 : Int) (h : ∀ K : Int → Prop, K r0 → w_choose_Check p0 p1 p2 p3 p4 p5 p6 K) (K : Int → Prop) : w_choose_Check p0 p1 p2 p3 p4 p5 p6 K = K r0 :=
 propext ⟨fun k => detC ok_choose_Check (as := [(.agg [(.data p0), (.data p1), (.int .i64 p2), (.int .i64 p3), (.int .i64 p4), (.int .i64 p5), (.bool p6)])]) (x := (.int .i64 r0)) (fun K' k' => h (fun r0 => K' (.int .i64 r0)) k') (K := fun x => match x with | (.int .i64 r0) => K r0 | _ => False) k, h K⟩
end Go.Pf.Vc
namespace Go.Pf.Vc
open Go Go.Pf
set_option maxRecDepth 100000
abbrev T_r07_Cakes : Type := List PV → Int → (Int → Prop) → Prop
def wv_r07_Cakes (a0 : T_r04_Check) (p0 : List PV) (p1 : Int) (K : Int → Prop) : Prop :=
 (a0 p0 ([] : List PV) (fun yi0 => 
 (cbr (yi0 != (0 : Int))
 (K yi0)
 (cbr ((((List.length p0) : Nat) : Int) != (2 : Int))
 (K (2 : Int))
 (cbr (decide (p1 < (0 : Int)))
 (K (2 : Int))
 (cbr (decide (p1 > (1 : Int)))
 (K (2 : Int))
 (K (0 : Int))))))))
def w_r07_Cakes (p0 : List PV) (p1 : Int) (K : Int → Prop) : Prop := wv_r07_Cakes w_r04_Check p0 p1 K
def pw_r07_Cakes (w : T_r07_Cakes) (as : List PV) (K : PV → Prop) : Prop :=
 match as with
 | [(.data p0), (.int .i64 p1)] => w p0 p1 (fun r0 => K (.int .i64 r0))
 | _ => False
def wp_r07_Cakes (as : List PV) (K : PV → Prop) : Prop := pw_r07_Cakes w_r07_Cakes as K
def lp_r07_Cakes (_ : T_r04_Check) : LP := fun _ _ _ _ =>
 False
def S0_r07_Cakes (a0 : T_r04_Check) : SE := ⟨E, lookS [(n_r04_Check, pw_r04_Check a0)], lookI [], lp_r07_Cakes a0⟩
theorem se0_r07_Cakes : SEOk (S0_r07_Cakes w_r04_Check) := seOk_of ⟨ok_r04_Check, trivial⟩ trivial
theorem eq_r07_Cakes (a0 p0 p1 K) : WP (S0_r07_Cakes a0) 6 t_r07_Cakes [(.data p0), (.int .i64 p1)] K = wv_r07_Cakes a0 p0 p1 (fun r0 => K (.int .i64 r0)) := by kernel_rfl
theorem ok_r07_Cakes : OkF E wp_r07_Cakes n_r07_Cakes := by
  intro as K h
  unfold wp_r07_Cakes pw_r07_Cakes at h
  split at h
  · exact WP_ok se0_r07_Cakes (LpOk_no (by kernel_rfl)) (by kernel_rfl) (by kernel_rfl) (fun _ => baseC_none (by kernel_rfl) _) ((eq_r07_Cakes ..).mpr h)
  · exact h.elim
end Go.Pf.Vc
namespace Go.Pf.Vc
open Go Go.Pf
set_option maxRecDepth 100000
abbrev T_l07_fit : Type := List PV → Int → (Bool → Prop) → Prop
def wv_l07_fit (a0 : T_r04_GreatCakes) (a1 : T_r07_Cakes) (p0 : List PV) (p1 : Int) (K : Bool → Prop) : Prop :=
 (a0 p0 (fun yb0 => 
 (cbr (!yb0)
 (a1 p0 p1 (fun yi1 => 
 (K (yi1 == (0 : Int)))))
 (K false))))
def w_l07_fit (p0 : List PV) (p1 : Int) (K : Bool → Prop) : Prop := wv_l07_fit w_r04_GreatCakes w_r07_Cakes p0 p1 K
def pw_l07_fit (w : T_l07_fit) (as : List PV) (K : PV → Prop) : Prop :=
 match as with
 | [(.data p0), (.int .i64 p1)] => w p0 p1 (fun r0 => K (.bool r0))
 | _ => False
def wp_l07_fit (as : List PV) (K : PV → Prop) : Prop := pw_l07_fit w_l07_fit as K
def lp_l07_fit (_ : T_r04_GreatCakes) (_ : T_r07_Cakes) : LP := fun _ _ _ _ =>
 False
def S0_l07_fit (a0 : T_r04_GreatCakes) (a1 : T_r07_Cakes) : SE := ⟨E, lookS [(n_r04_GreatCakes, pw_r04_GreatCakes a0), (n_r07_Cakes, pw_r07_Cakes a1)], lookI [], lp_l07_fit a0 a1⟩
theorem se0_l07_fit : SEOk (S0_l07_fit w_r04_GreatCakes w_r07_Cakes) := seOk_of ⟨ok_r04_GreatCakes, ok_r07_Cakes, trivial⟩ trivial
theorem eq_l07_fit (a0 a1 p0 p1 K) : WP (S0_l07_fit a0 a1) 6 t_l07_fit [(.data p0), (.int .i64 p1)] K = wv_l07_fit a0 a1 p0 p1 (fun r0 => K (.bool r0)) := by kernel_rfl
theorem ok_l07_fit : OkF E wp_l07_fit n_l07_fit := by
  intro as K h
  unfold wp_l07_fit pw_l07_fit at h
  split at h
  · exact WP_ok se0_l07_fit (LpOk_no (by kernel_rfl)) (by kernel_rfl) (by kernel_rfl) (fun _ => baseC_none (by kernel_rfl) _) ((eq_l07_fit ..).mpr h)
  · exact h.elim
abbrev T_l07_two : Type := (List PV → Prop) → Prop
def wv_l07_two (K : List PV → Prop) : Prop :=
 (K ([(.agg [(.int .i64 (2 : Int)), (.data ([(.int .i64 (0 : Int)), (.int .i64 (2 : Int))] : List PV)), (.data ([(.int .i64 (1 : Int))] : List PV))]), (.agg [(.int .i64 (2 : Int)), (.data ([(.int .i64 (0 : Int)), (.int .i64 (1 : Int)), (.int .i64 (2 : Int))] : List PV)), (.data ([(.int .i64 (3 : Int)), (.int .i64 (1 : Int))] : List PV))])] : List PV))
def w_l07_two (K : List PV → Prop) : Prop := wv_l07_two  K
def pw_l07_two (w : T_l07_two) (as : List PV) (K : PV → Prop) : Prop :=
 match as with
 | [] => w  (fun r0 => K (.data r0))
 | _ => False
def wp_l07_two (as : List PV) (K : PV → Prop) : Prop := pw_l07_two w_l07_two as K
def lp_l07_two : LP := fun _ _ _ _ =>
 False
def S0_l07_two : SE := ⟨E, lookS [], lookI [], lp_l07_two⟩
theorem se0_l07_two : SEOk (S0_l07_two) := seOk_of trivial trivial
theorem eq_l07_two ( K) : WP (S0_l07_two) 6 t_l07_two [] K = wv_l07_two  (fun r0 => K (.data r0)) := by kernel_rfl
theorem ok_l07_two : OkF E wp_l07_two n_l07_two := by
  intro as K h
  unfold wp_l07_two pw_l07_two at h
  split at h
  · exact WP_ok se0_l07_two (LpOk_no (by kernel_rfl)) (by kernel_rfl) (by kernel_rfl) (fun _ => baseC_none (by kernel_rfl) _) ((eq_l07_two ..).mpr h)
  · exact h.elim
abbrev T_l07_piece : Type := Int → Int → Int → Int → (List PV → Prop) → Prop
def wv_l07_piece (p0 p1 p2 p3 : Int) (K : List PV → Prop) : Prop :=
 (K ([(.agg [(.int .i64 p0), (.int .i64 p1), (.int .i64 p2), (.int .i64 p3)])] : List PV))
def w_l07_piece (p0 p1 p2 p3 : Int) (K : List PV → Prop) : Prop := wv_l07_piece p0 p1 p2 p3 K
def pw_l07_piece (w : T_l07_piece) (as : List PV) (K : PV → Prop) : Prop :=
 match as with
 | [(.agg [(.int .i64 p0), (.int .i64 p1)]), (.agg [(.int .i64 p2), (.int .i64 p3)])] => w p0 p1 p2 p3 (fun r0 => K (.data r0))
 | _ => False
def wp_l07_piece (as : List PV) (K : PV → Prop) : Prop := pw_l07_piece w_l07_piece as K
def lp_l07_piece : LP := fun _ _ _ _ =>
 False
def S0_l07_piece : SE := ⟨E, lookS [], lookI [], lp_l07_piece⟩
theorem se0_l07_piece : SEOk (S0_l07_piece) := seOk_of trivial trivial
theorem eq_l07_piece ( p0 p1 p2 p3 K) : WP (S0_l07_piece) 6 t_l07_piece [(.agg [(.int .i64 p0), (.int .i64 p1)]), (.agg [(.int .i64 p2), (.int .i64 p3)])] K = wv_l07_piece p0 p1 p2 p3 (fun r0 => K (.data r0)) := by kernel_rfl
theorem ok_l07_piece : OkF E wp_l07_piece n_l07_piece := by
  intro as K h
  unfold wp_l07_piece pw_l07_piece at h
  split at h
  · exact WP_ok se0_l07_piece (LpOk_no (by kernel_rfl)) (by kernel_rfl) (by kernel_rfl) (fun _ => baseC_none (by kernel_rfl) _) ((eq_l07_piece ..).mpr h)
  · exact h.elim
abbrev T_l07_alive : Type := (Bool → Prop) → Prop
def wv_l07_alive (a0 : T_r01_Of) (a1 : T_l07_two) (a2 : T_choose_Run) (a3 : T_l07_piece) (a4 : T_r06_Same) (K : Bool → Prop) : Prop :=
 (a0 (0 : Int) (fun yi0 yi1 => 
 (a0 (1 : Int) (fun yi2 yi3 => 
 (a0 (2 : Int) (fun yi4 yi5 => 
 (a1  (fun yl6 => 
 (a2 yl6 (0 : Int) (fun yl7 _ yi9 => 
 (a1  (fun yl10 => 
 (a2 yl10 (1 : Int) (fun yl11 yl12 yi13 => 
 (cbr (yi9 == (0 : Int))
 (a3 yi2 yi3 yi4 yi5 (fun yl14 => 
 (a3 yi0 yi1 yi2 yi3 (fun yl15 => 
 (a4 yl7 ([(.data yl14), (.data yl15)] : List PV) (fun yb16 => 
 (cbr yb16
 (cbr (yi13 == (0 : Int))
 (cbr ((((List.length yl12) : Nat) : Int) == (2 : Int))
 (a3 (2 : Int) (3 : Int) yi4 yi5 (fun yl17 => 
 (a3 yi0 yi1 (2 : Int) (3 : Int) (fun yl18 => 
 (a4 yl11 ([(.data yl17), (.data yl18)] : List PV) (fun yb19 => 
 (K yb19)))))))
 (K false))
 (K false))
 (K false))))))))
 (K false))))))))))))))))
def w_l07_alive (K : Bool → Prop) : Prop := wv_l07_alive w_r01_Of w_l07_two w_choose_Run w_l07_piece w_r06_Same  K
def pw_l07_alive (w : T_l07_alive) (as : List PV) (K : PV → Prop) : Prop :=
 match as with
 | [] => w  (fun r0 => K (.bool r0))
 | _ => False
def wp_l07_alive (as : List PV) (K : PV → Prop) : Prop := pw_l07_alive w_l07_alive as K
def lp_l07_alive (_ : T_r01_Of) (_ : T_l07_two) (_ : T_choose_Run) (_ : T_l07_piece) (_ : T_r06_Same) : LP := fun _ _ _ _ =>
 False
def S0_l07_alive (a0 : T_r01_Of) (a1 : T_l07_two) (a2 : T_choose_Run) (a3 : T_l07_piece) (a4 : T_r06_Same) : SE := ⟨E, lookS [(n_r01_Of, pw_r01_Of a0), (n_l07_two, pw_l07_two a1), (n_choose_Run, pw_choose_Run a2), (n_l07_piece, pw_l07_piece a3), (n_r06_Same, pw_r06_Same a4)], lookI [], lp_l07_alive a0 a1 a2 a3 a4⟩
theorem se0_l07_alive : SEOk (S0_l07_alive w_r01_Of w_l07_two w_choose_Run w_l07_piece w_r06_Same) := seOk_of ⟨ok_r01_Of, ok_l07_two, ok_choose_Run, ok_l07_piece, ok_r06_Same, trivial⟩ trivial
theorem eq_l07_alive (a0 a1 a2 a3 a4 K) : WP (S0_l07_alive a0 a1 a2 a3 a4) 6 t_l07_alive [] K = wv_l07_alive a0 a1 a2 a3 a4  (fun r0 => K (.bool r0)) := by kernel_rfl
theorem ok_l07_alive : OkF E wp_l07_alive n_l07_alive := by
  intro as K h
  unfold wp_l07_alive pw_l07_alive at h
  split at h
  · exact WP_ok se0_l07_alive (LpOk_no (by kernel_rfl)) (by kernel_rfl) (by kernel_rfl) (fun _ => baseC_none (by kernel_rfl) _) ((eq_l07_alive ..).mpr h)
  · exact h.elim
abbrev T_l07_ChooseLine : Type := List PV → Int → (Bool → Prop) → Prop
def L_l07_ChooseLine_0_0 (a0 : T_l07_fit) (a1 : T_l07_alive) (a2 : T_choose_Start) (a3 : T_choose_Run) (a4 : T_r04_SameCakes) (a5 : T_choose_Check) (a6 : T_choose_Next) (a7 : T_r04_SameLogs) (a8 : T_choose_Division) (a9 : T_r06_Same) (x0 : Bool → Prop) (x1 : Int → List PV → List PV → Int → Int → Int → Int → Bool → List PV → List PV → Int → Bool → Prop) : Nat → Int → List PV → List PV → Int → Int → Int → Int → Bool → List PV → List PV → Int → Prop
 | 0, _, _, _, _, _, _, _, _, _, _, _ => False
 | n + 1, i0, l1, l2, i3, i4, i5, i6, b7, l8, l9, i10 =>
 (cbr (decide (i10 < (2 : Int)))
 (cbr (i4 != i10)
 (x0 false)
 (cbr ((((List.length l2) : Nat) : Int) != i10)
 (x0 false)
 (a5 l1 l2 i3 i4 i5 i6 b7 (fun yi14 => 
 (cbr (yi14 != (0 : Int))
 (x0 false)
 (a6 l1 l2 i3 i4 i5 i6 b7 (fun yl15 yl16 yi17 yi18 yi19 yi20 yb21 yi22 => 
 (cbr (yi22 != (0 : Int))
 (x0 false)
 (cbr ((((List.length yl16) : Nat) : Int) != (IntKind.i64.wrap (i10 + (1 : Int))))
 (x0 false)
 (asr (decide ((0 : Int) ≤ i10))
 (asr (decide (i10 ≤ (((List.length yl16) : Nat) : Int)))
 (a7 (List.take (i10.toNat) yl16) l2 (fun yb23 => 
 (cbr (!yb23)
 (x0 false)
 (cbr (yi17 != i0)
 (x0 false)
 (L_l07_ChooseLine_0_0 a0 a1 a2 a3 a4 a5 a6 a7 a8 a9 x0 x1 n i0 yl15 yl16 yi17 yi18 yi19 yi20 yb21 l8 l9 (IntKind.i64.wrap (i10 + (1 : Int)))))))))))))))))))
 (x1 i0 l1 l2 i3 i4 i5 i6 b7 l8 l9 i10 false))
def wv_l07_ChooseLine (a0 : T_l07_fit) (a1 : T_l07_alive) (a2 : T_choose_Start) (a3 : T_choose_Run) (a4 : T_r04_SameCakes) (a5 : T_choose_Check) (a6 : T_choose_Next) (a7 : T_r04_SameLogs) (a8 : T_choose_Division) (a9 : T_r06_Same) (p0 : List PV) (p1 : Int) (K : Bool → Prop) : Prop :=
 (a0 p0 p1 (fun yb0 => 
 (cbr (!yb0)
 (a1  (fun yb1 => 
 (K yb1)))
 (a2 p0 p1 (fun yl2 yl3 yi4 yi5 yi6 yi7 yb8 yi9 => 
 (a3 p0 p1 (fun yl10 yl11 yi12 => 
 (cbr (yi9 != (0 : Int))
 (K false)
 (cbr (yi12 != (0 : Int))
 (K false)
 (cbr (yi4 != p1)
 (K false)
 (a4 yl2 p0 (fun yb13 => 
 (cbr (!yb13)
 (K false)
 (∃ n : Nat, L_l07_ChooseLine_0_0 a0 a1 a2 a3 a4 a5 a6 a7 a8 a9
 (fun yb24 => (K yb24))
 (fun _ yl26 yl27 yi28 yi29 yi30 yi31 yb32 yl33 yl34 _ _ => (a8 yl26 yl27 yi28 yi29 yi30 yi31 yb32 (fun yl37 yi38 => 
 (a6 yl26 yl27 yi28 yi29 yi30 yi31 yb32 (fun _ _ _ _ _ _ _ yi46 => 
 (cbr (yi29 == (2 : Int))
 (a5 yl26 yl27 yi28 yi29 yi30 yi31 yb32 (fun yi47 => 
 (cbr (yi47 == (0 : Int))
 (cbr (yi38 == (0 : Int))
 (cbr (yi46 == (36 : Int))
 (a9 yl37 yl33 (fun yb48 => 
 (cbr yb48
 (a7 yl27 yl34 (fun yb49 => 
 (cbr yb49
 (a1  (fun yb50 => 
 (K yb50)))
 (K false))))
 (K false))))
 (K false))
 (K false))
 (K false))))
 (K false)))))))
 n p1 yl2 yl3 yi4 yi5 yi6 yi7 yb8 yl10 yl11 (0 : Int)))))))))))))))
def w_l07_ChooseLine (p0 : List PV) (p1 : Int) (K : Bool → Prop) : Prop := wv_l07_ChooseLine w_l07_fit w_l07_alive w_choose_Start w_choose_Run w_r04_SameCakes w_choose_Check w_choose_Next w_r04_SameLogs w_choose_Division w_r06_Same p0 p1 K
def pw_l07_ChooseLine (w : T_l07_ChooseLine) (as : List PV) (K : PV → Prop) : Prop :=
 match as with
 | [(.data p0), (.int .i64 p1)] => w p0 p1 (fun r0 => K (.bool r0))
 | _ => False
def wp_l07_ChooseLine (as : List PV) (K : PV → Prop) : Prop := pw_l07_ChooseLine w_l07_ChooseLine as K
def D_l07_ChooseLine_0 (F : Frm) (H : Hp) (A0 : Int → List PV → List PV → Int → Int → Int → Int → Bool → List PV → List PV → Int → Prop) : Prop :=
 match F, H with
 | [(1, .v (.int .i64 i0)), (5, .box (.agg [(.data l1), (.data l2), (.int .i64 i3), (.int .i64 i4), (.int .i64 i5), (.int .i64 i6), (.bool b7)])), (7, .box (.agg [(.data l8)])), (8, .v (.data l9)), (10, .v (.int .i64 i10))], [] => (A0 i0 l1 l2 i3 i4 i5 i6 b7 l8 l9 i10)
 | _, _ => False
def R_l07_ChooseLine_0 (a0 : T_l07_fit) (a1 : T_l07_alive) (a2 : T_choose_Start) (a3 : T_choose_Run) (a4 : T_r04_SameCakes) (a5 : T_choose_Check) (a6 : T_choose_Next) (a7 : T_r04_SameLogs) (a8 : T_choose_Division) (a9 : T_r06_Same) (Q : Ex → Frm → Hp → Prop) (n : Nat) (F : Frm) (H : Hp) : Prop := D_l07_ChooseLine_0 F H (fun i0 l1 l2 i3 i4 i5 i6 b7 l8 l9 i10 => L_l07_ChooseLine_0_0 a0 a1 a2 a3 a4 a5 a6 a7 a8 a9 (fun b0 => Q .ret [(4, .v (.bool b0))] []) (fun i0 l1 l2 i3 i4 i5 i6 b7 l8 l9 i10 b11 => Q (.exit 0) [(1, .v (.int .i64 i0)), (5, .box (.agg [(.data l1), (.data l2), (.int .i64 i3), (.int .i64 i4), (.int .i64 i5), (.int .i64 i6), (.bool b7)])), (7, .box (.agg [(.data l8)])), (8, .v (.data l9)), (10, .v (.int .i64 i10)), (56, .v (.bool b11))] []) n i0 l1 l2 i3 i4 i5 i6 b7 l8 l9 i10)
def lp_l07_ChooseLine (a0 : T_l07_fit) (a1 : T_l07_alive) (a2 : T_choose_Start) (a3 : T_choose_Run) (a4 : T_r04_SameCakes) (a5 : T_choose_Check) (a6 : T_choose_Next) (a7 : T_r04_SameLogs) (a8 : T_choose_Division) (a9 : T_r06_Same) : LP := fun id F H Q =>
 bif Nat.beq id 69689200 then D_l07_ChooseLine_0 F H (fun i0 l1 l2 i3 i4 i5 i6 b7 l8 l9 i10 => ∃ n : Nat, L_l07_ChooseLine_0_0 a0 a1 a2 a3 a4 a5 a6 a7 a8 a9 (fun b0 => Q .ret [(4, .v (.bool b0))] []) (fun i0 l1 l2 i3 i4 i5 i6 b7 l8 l9 i10 b11 => Q (.exit 0) [(1, .v (.int .i64 i0)), (5, .box (.agg [(.data l1), (.data l2), (.int .i64 i3), (.int .i64 i4), (.int .i64 i5), (.int .i64 i6), (.bool b7)])), (7, .box (.agg [(.data l8)])), (8, .v (.data l9)), (10, .v (.int .i64 i10)), (56, .v (.bool b11))] []) n i0 l1 l2 i3 i4 i5 i6 b7 l8 l9 i10) else
 False
def S0_l07_ChooseLine (a0 : T_l07_fit) (a1 : T_l07_alive) (a2 : T_choose_Start) (a3 : T_choose_Run) (a4 : T_r04_SameCakes) (a5 : T_choose_Check) (a6 : T_choose_Next) (a7 : T_r04_SameLogs) (a8 : T_choose_Division) (a9 : T_r06_Same) : SE := ⟨E, lookS [(n_l07_fit, pw_l07_fit a0), (n_l07_alive, pw_l07_alive a1), (n_choose_Start, pw_choose_Start a2), (n_choose_Run, pw_choose_Run a3), (n_r04_SameCakes, pw_r04_SameCakes a4), (n_choose_Check, pw_choose_Check a5), (n_choose_Next, pw_choose_Next a6), (n_r04_SameLogs, pw_r04_SameLogs a7), (n_choose_Division, pw_choose_Division a8), (n_r06_Same, pw_r06_Same a9)], lookI [], lp_l07_ChooseLine a0 a1 a2 a3 a4 a5 a6 a7 a8 a9⟩
theorem se0_l07_ChooseLine : SEOk (S0_l07_ChooseLine w_l07_fit w_l07_alive w_choose_Start w_choose_Run w_r04_SameCakes w_choose_Check w_choose_Next w_r04_SameLogs w_choose_Division w_r06_Same) := seOk_of ⟨ok_l07_fit, ok_l07_alive, ok_choose_Start, ok_choose_Run, ok_r04_SameCakes, ok_choose_Check, ok_choose_Next, ok_r04_SameLogs, ok_choose_Division, ok_r06_Same, trivial⟩ trivial
theorem body_l07_ChooseLine_0_0 (a0 a1 a2 a3 a4 a5 a6 a7 a8 a9 Q n i0 l1 l2 i3 i4 i5 i6 b7 l8 l9 i10) : WC E (callW (S0_l07_ChooseLine a0 a1 a2 a3 a4 a5 a6 a7 a8 a9) 5) (lp_l07_ChooseLine a0 a1 a2 a3 a4 a5 a6 a7 a8 a9) b_69689200 [(1, .v (.int .i64 i0)), (5, .box (.agg [(.data l1), (.data l2), (.int .i64 i3), (.int .i64 i4), (.int .i64 i5), (.int .i64 i6), (.bool b7)])), (7, .box (.agg [(.data l8)])), (8, .v (.data l9)), (10, .v (.int .i64 i10))] [] (fun x F' H' => match x with | .norm => R_l07_ChooseLine_0 a0 a1 a2 a3 a4 a5 a6 a7 a8 a9 Q n F' H' | .exit i => Q (.exit i) F' H' | .ret => Q .ret F' H') = L_l07_ChooseLine_0_0 a0 a1 a2 a3 a4 a5 a6 a7 a8 a9 (fun b0 => Q .ret [(4, .v (.bool b0))] []) (fun i0 l1 l2 i3 i4 i5 i6 b7 l8 l9 i10 b11 => Q (.exit 0) [(1, .v (.int .i64 i0)), (5, .box (.agg [(.data l1), (.data l2), (.int .i64 i3), (.int .i64 i4), (.int .i64 i5), (.int .i64 i6), (.bool b7)])), (7, .box (.agg [(.data l8)])), (8, .v (.data l9)), (10, .v (.int .i64 i10)), (56, .v (.bool b11))] []) (n + 1) i0 l1 l2 i3 i4 i5 i6 b7 l8 l9 i10 := by kernel_rfl
theorem lpb_l07_ChooseLine_0 : LpOk E (lp_l07_ChooseLine w_l07_fit w_l07_alive w_choose_Start w_choose_Run w_r04_SameCakes w_choose_Check w_choose_Next w_r04_SameLogs w_choose_Division w_r06_Same) b_69689200 := (LpOk_no (by kernel_rfl))
theorem loop_l07_ChooseLine_0 : ∀ F H Q, lp_l07_ChooseLine w_l07_fit w_l07_alive w_choose_Start w_choose_Run w_r04_SameCakes w_choose_Check w_choose_Next w_r04_SameLogs w_choose_Division w_r06_Same 69689200 F H Q → LoopT E b_69689200 F H Q := by
  intro F H Q h
  have go := LoopT.intro (callW_ok se0_l07_ChooseLine 5) lpb_l07_ChooseLine_0 (R_l07_ChooseLine_0 w_l07_fit w_l07_alive w_choose_Start w_choose_Run w_r04_SameCakes w_choose_Check w_choose_Next w_r04_SameLogs w_choose_Division w_r06_Same Q) (by
    intro F H h
    unfold R_l07_ChooseLine_0 D_l07_ChooseLine_0 at h
    split at h
    · exact h
    · exact h) (by
    intro n F H h
    unfold R_l07_ChooseLine_0 D_l07_ChooseLine_0 at h
    split at h
    · exact (body_l07_ChooseLine_0_0 ..).mpr h
    · exact h.elim)
  have h : D_l07_ChooseLine_0 F H _ := h
  unfold D_l07_ChooseLine_0 at h
  split at h
  · obtain ⟨n, h⟩ := h; exact go n _ _ h
  · exact h.elim
theorem eq_l07_ChooseLine (a0 a1 a2 a3 a4 a5 a6 a7 a8 a9 p0 p1 K) : WP (S0_l07_ChooseLine a0 a1 a2 a3 a4 a5 a6 a7 a8 a9) 6 t_l07_ChooseLine [(.data p0), (.int .i64 p1)] K = wv_l07_ChooseLine a0 a1 a2 a3 a4 a5 a6 a7 a8 a9 p0 p1 (fun r0 => K (.bool r0)) := by kernel_rfl
theorem ok_l07_ChooseLine : OkF E wp_l07_ChooseLine n_l07_ChooseLine := by
  intro as K h
  unfold wp_l07_ChooseLine pw_l07_ChooseLine at h
  split at h
  · exact WP_ok se0_l07_ChooseLine (LpOk_by (l := [(69689200, b_69689200)]) ⟨loop_l07_ChooseLine_0, trivial⟩ (by kernel_rfl)) (by kernel_rfl) (by kernel_rfl) (fun _ => baseC_none (by kernel_rfl) _) ((eq_l07_ChooseLine ..).mpr h)
  · exact h.elim
end Go.Pf.Vc
namespace Go.Pf.Vc
open Go Go.Pf
def I64 (n : Int) : Prop := -9223372036854775808 ≤ n ∧ n ≤ 9223372036854775807
def U64 (n : Int) : Prop := 0 ≤ n ∧ n ≤ 18446744073709551615
theorem wu64' (n : Int) : IntKind.u64.wrap n = n % 18446744073709551616 := by
  simp only [IntKind.wrap, IntKind.signed, IntKind.bits, Bool.false_and, Bool.false_eq_true, if_false]
  rfl
theorem wi64' (n : Int) : IntKind.i64.wrap n = if n % 18446744073709551616 ≥ 9223372036854775808 then n % 18446744073709551616 - 18446744073709551616 else n % 18446744073709551616 := by
  have e1 : (2 : Int) ^ 64 = 18446744073709551616 := rfl
  have e2 : (2 : Int) ^ (64 - 1) = 9223372036854775808 := rfl
  simp only [IntKind.wrap, IntKind.signed, IntKind.bits, Bool.true_and, e1, e2]
  by_cases h : n % 18446744073709551616 ≥ 9223372036854775808 <;> simp [h]
theorem wu64 {n : Int} (h : U64 n) : IntKind.u64.wrap n = n := by
  unfold U64 at h
  rw [wu64']
  omega
theorem wi64 {n : Int} (h : I64 n) : IntKind.i64.wrap n = n := by
  unfold I64 at h
  rw [wi64']
  split <;> omega
theorem cbr_true {x y : Prop} : cbr true x y = x := rfl
theorem cbr_false {x y : Prop} : cbr false x y = y := rfl
theorem asr_true {x : Prop} : asr true x = x := rfl
theorem size_eq {p : Int} (h : I64 p) (K : Int → Prop) : w_ratio_size p K = K (p.natAbs : Int) := by
  unfold I64 at h
  unfold w_ratio_size wv_ratio_size
  by_cases hp : p < 0
  · have e : IntKind.u64.wrap ((0 : Int) - IntKind.u64.wrap p) = (p.natAbs : Int) := by
      rw [wu64', wu64']
      omega
    rw [decide_eq_true hp, cbr_true, e]
  · rw [decide_eq_false hp, cbr_false, wu64 ⟨by omega, by omega⟩]
    congr 1
    omega
theorem gcd_loop (x : Int → Int → Bool → Prop) : ∀ (n a b : Nat), b < n → L_ratio_gcd_0_0 x n (a : Int) (b : Int) = x ((Nat.gcd a b : Nat) : Int) 0 false
  | 0, a, b, h => by omega
  | n + 1, a, b, h => by
    unfold L_ratio_gcd_0_0
    by_cases hb : b = 0
    · subst hb
      simp [cbr]
    · have h1 : (b : Int) > 0 := by omega
      have h2 : ¬ ((b : Int) = 0) := by omega
      rw [decide_eq_true h1, cbr_true, decide_eq_false h2, Bool.not_false, asr_true]
      have e : Int.tmod (a : Int) (b : Int) = ((a % b : Nat) : Int) := by rw [Int.tmod_eq_emod_of_nonneg (by omega)]; omega
      rw [e, gcd_loop x n b (a % b) (by have := Nat.mod_lt a (show b > 0 by omega); omega)]
      rw [Nat.gcd_comm a b, Nat.gcd_rec b a, Nat.gcd_comm]
theorem gcd_of (a b : Nat) (K : Int → Prop) (h : K ((Nat.gcd a b : Nat) : Int)) : w_ratio_gcd (a : Int) (b : Int) K := by
  unfold w_ratio_gcd wv_ratio_gcd
  exact ⟨b + 1, by rw [gcd_loop _ (b + 1) a b (by omega)]; exact h⟩
def RV (n d : Int) : Prop := 1 ≤ d ∧ d ≤ 1000000000000000000 ∧ -1000000000000000000 ≤ n ∧ n ≤ 1000000000000000000 ∧ Nat.gcd n.natAbs d.natAbs = 1
instance (n d : Int) : Decidable (RV n d) := by unfold RV; infer_instance
def chk (n d : Int) : Int := if RV n d then 0 else 8
theorem Check_of {n d : Int} (hn : I64 n) (hd : I64 d) {K : Int → Prop} (h : K (chk n d)) : w_ratio_Check n d K := by
  unfold w_ratio_Check wv_ratio_Check
  by_cases h1 : d < 1
  · have e : chk n d = 8 := if_neg fun h => by have := h.1; omega
    rw [decide_eq_true h1, cbr_true, ← e]; exact h
  · have hd' := hd; have hn' := hn
    unfold I64 at hd' hn'
    have ed : IntKind.u64.wrap d = ((d.natAbs : Nat) : Int) := by rw [wu64 ⟨by omega, by omega⟩]; omega
    rw [decide_eq_false h1, cbr_false, size_eq hn, ed]
    by_cases h2 : ((if ((d.natAbs : Nat) : Int) > ((n.natAbs : Nat) : Int) then ((d.natAbs : Nat) : Int) else ((n.natAbs : Nat) : Int)) > 1000000000000000000)
    · have e : chk n d = 8 := if_neg fun h => by
        obtain ⟨a1, a2, a3, a4, _⟩ := h
        revert h2; split <;> omega
      rw [decide_eq_true h2, cbr_true, ← e]; exact h
    · rw [decide_eq_false h2, cbr_false, size_eq hn]
      refine gcd_of _ _ _ ?_
      have h3 : 0 < Nat.gcd n.natAbs d.natAbs := Nat.gcd_pos_of_pos_right _ (by omega)
      have h4 : d ≤ 1000000000000000000 ∧ -1000000000000000000 ≤ n ∧ n ≤ 1000000000000000000 := by
        revert h2; split <;> omega
      by_cases h5 : ((Nat.gcd n.natAbs d.natAbs : Nat) : Int) > 1
      · have e : chk n d = 8 := if_neg fun h => by have := h.2.2.2.2; omega
        rw [decide_eq_true h5, cbr_true, ← e]; exact h
      · have e : chk n d = 0 := if_pos ⟨by omega, h4.1, h4.2.1, h4.2.2, by omega⟩
        rw [decide_eq_false h5, cbr_false, ← e]; exact h
end Go.Pf.Vc
namespace Go.Pf.Vc
open Go Go.Pf
theorem mask32 {p : Int} (h : U64 p) : IntKind.u64.wrap (BitVec.ofInt IntKind.u64.bits p &&& BitVec.ofInt IntKind.u64.bits (4294967295 : Int)).toNat = p % 4294967296 := by
  unfold U64 at h
  have e1 : (BitVec.ofInt 64 p).toNat = p.toNat := by
    rw [BitVec.toNat_ofInt]; omega
  have e2 : (BitVec.ofInt 64 (4294967295 : Int)).toNat = 4294967295 := rfl
  have e3 : (BitVec.ofInt IntKind.u64.bits p &&& BitVec.ofInt IntKind.u64.bits (4294967295 : Int)).toNat = p.toNat % 4294967296 := by
    show (BitVec.ofInt 64 p &&& BitVec.ofInt 64 (4294967295 : Int)).toNat = _
    rw [BitVec.toNat_and, e1, e2]
    exact Nat.and_two_pow_sub_one_eq_mod p.toNat 32
  rw [e3, wu64']
  omega
theorem fdiv32 (p : Int) : Int.fdiv p 4294967296 = p / 4294967296 := by
  rw [Int.fdiv_eq_ediv_of_nonneg _ (by omega)]
theorem Mul64_eq {a b : Int} (ha : U64 a) (hb : U64 b) (K : Int → Int → Prop) : w_m_Mul64 a b K = K (a * b / 18446744073709551616) (a * b % 18446744073709551616) := by
  unfold w_m_Mul64 wv_m_Mul64
  simp only [fdiv32]
  rw [mask32 ha, mask32 hb]
  unfold U64 at ha hb
  have ha' := ha; have hb' := hb
  obtain ⟨x1, hx1⟩ : ∃ x, x = a / 4294967296 := ⟨_, rfl⟩
  obtain ⟨x0, hx0⟩ : ∃ x, x = a % 4294967296 := ⟨_, rfl⟩
  obtain ⟨y1, hy1⟩ : ∃ x, x = b / 4294967296 := ⟨_, rfl⟩
  obtain ⟨y0, hy0⟩ : ∃ x, x = b % 4294967296 := ⟨_, rfl⟩
  rw [← hx1, ← hx0, ← hy1, ← hy0]
  have b1 : 0 ≤ x1 ∧ x1 ≤ 4294967295 := by omega
  have b2 : 0 ≤ x0 ∧ x0 ≤ 4294967295 := by omega
  have b3 : 0 ≤ y1 ∧ y1 ≤ 4294967295 := by omega
  have b4 : 0 ≤ y0 ∧ y0 ≤ 4294967295 := by omega
  have pb : ∀ x y : Int, 0 ≤ x ∧ x ≤ 4294967295 → 0 ≤ y ∧ y ≤ 4294967295 → 0 ≤ x * y ∧ x * y ≤ 18446744065119617025 := by
    intro x y hx hy
    refine ⟨Int.mul_nonneg hx.1 hy.1, ?_⟩
    have := Int.mul_le_mul hx.2 hy.2 hy.1 (by omega : (0 : Int) ≤ 4294967295)
    omega
  have p1 := pb x1 y1 b1 b3
  have p2 := pb x1 y0 b1 b4
  have p3 := pb x0 y1 b2 b3
  have p4 := pb x0 y0 b2 b4
  have ea : a = x1 * 4294967296 + x0 := by omega
  have eb : b = y1 * 4294967296 + y0 := by omega
  have eab : a * b = x1 * y1 * 18446744073709551616 + x1 * y0 * 4294967296 + x0 * y1 * 4294967296 + x0 * y0 := by
    rw [ea, eb]; grind
  obtain ⟨P, hP⟩ : ∃ x, x = x1 * y1 := ⟨_, rfl⟩
  obtain ⟨Q, hQ⟩ : ∃ x, x = x1 * y0 := ⟨_, rfl⟩
  obtain ⟨R, hR⟩ : ∃ x, x = x0 * y1 := ⟨_, rfl⟩
  obtain ⟨S, hS⟩ : ∃ x, x = x0 * y0 := ⟨_, rfl⟩
  rw [← hP] at p1; rw [← hQ] at p2; rw [← hR] at p3; rw [← hS] at p4
  rw [← hP, ← hQ, ← hR, ← hS] at eab ⊢
  have w1 : IntKind.u64.wrap S = S := wu64 ⟨by omega, by omega⟩
  have w2 : IntKind.u64.wrap Q = Q := wu64 ⟨by omega, by omega⟩
  have w3 : IntKind.u64.wrap R = R := wu64 ⟨by omega, by omega⟩
  have w4 : IntKind.u64.wrap P = P := wu64 ⟨by omega, by omega⟩
  rw [w1, w2, w3, w4]
  have w5 : IntKind.u64.wrap (Q + S / 4294967296) = Q + S / 4294967296 := wu64 ⟨by omega, by omega⟩
  rw [w5, mask32 ⟨by omega, by omega⟩]
  have w6 : IntKind.u64.wrap ((Q + S / 4294967296) % 4294967296 + R) = (Q + S / 4294967296) % 4294967296 + R := wu64 ⟨by omega, by omega⟩
  rw [w6]
  have w7 : IntKind.u64.wrap (P + (Q + S / 4294967296) / 4294967296) = P + (Q + S / 4294967296) / 4294967296 := by
    have : a * b / 18446744073709551616 ≤ 18446744073709551615 := by
      have h1 : a * b ≤ 18446744073709551615 * 18446744073709551615 := by
        have := Int.mul_le_mul ha'.2 hb'.2 hb'.1 (by omega : (0 : Int) ≤ 18446744073709551615)
        exact this
      omega
    exact wu64 ⟨by omega, by omega⟩
  rw [w7]
  have hab : a * b ≤ 18446744073709551615 * 18446744073709551615 := Int.mul_le_mul ha'.2 hb'.2 hb'.1 (by omega : (0 : Int) ≤ 18446744073709551615)
  rw [eab] at hab ⊢
  rw [wu64', wu64']
  congr 1
  omega
theorem Or2_of {a b : Int} {K : Int → Prop} (h : K (if a = 0 then b else a)) : w_cmp_Or_api_Errno [.int .i64 a, .int .i64 b] K := by
  unfold w_cmp_Or_api_Errno wv_cmp_Or_api_Errno
  refine ⟨3, ?_⟩
  have e1 : IntKind.i64.wrap 1 = 1 := by decide
  have e2 : IntKind.i64.wrap 2 = 2 := by decide
  by_cases ha : a = 0
  · by_cases hb : b = 0
    · simp [L_cmp_Or_api_Errno_0_0, cbr_true, cbr_false, asr_true, conf, confC, intOfV, e1, e2, ha, hb] at h ⊢; exact h
    · have e3 : (b != 0) = true := by simpa using hb
      simp [L_cmp_Or_api_Errno_0_0, cbr_true, cbr_false, asr_true, conf, confC, intOfV, e1, e2, ha, e3] at h ⊢; exact h
  · have e3 : (a != 0) = true := by simpa using ha
    simp [L_cmp_Or_api_Errno_0_0, cbr_true, cbr_false, asr_true, conf, confC, intOfV, e1, e2, ha, e3] at h ⊢; exact h
def chk2 (a b c d : Int) : Int := if chk a b = 0 then chk c d else chk a b
theorem check_of {a b c d : Int} (ha : I64 a) (hb : I64 b) (hc : I64 c) (hd : I64 d) {K : Int → Prop} (h : K (chk2 a b c d)) : w_ratio_check a b c d K := by
  unfold w_ratio_check wv_ratio_check
  exact Check_of ha hb (Check_of hc hd (Or2_of h))
end Go.Pf.Vc
namespace Go.Pf.Vc
open Go Go.Pf
def cmp3 (a b : Int) : Int := if a < b then -1 else if a > b then 1 else 0
theorem Compare_i_eq (a b : Int) (K : Int → Prop) : w_cmp_Compare_int64 a b K = K (cmp3 a b) := by
  unfold w_cmp_Compare_int64 wv_cmp_Compare_int64
  simp only [w_cmp_isNaN_int64, wv_cmp_isNaN_int64, bne_self_eq_false, cbr_false, cmp3]
  by_cases h : a < b
  · simp [h, cbr_true]
  · by_cases h2 : a > b
    · simp [h, h2, cbr_true, cbr_false]
    · simp [h, h2, cbr_false]
theorem Compare_u_eq (a b : Int) (K : Int → Prop) : w_cmp_Compare_uint64 a b K = K (cmp3 a b) := by
  unfold w_cmp_Compare_uint64 wv_cmp_Compare_uint64
  simp only [w_cmp_isNaN_uint64, wv_cmp_isNaN_uint64, bne_self_eq_false, cbr_false, cmp3]
  by_cases h : a < b
  · simp [h, cbr_true]
  · by_cases h2 : a > b
    · simp [h, h2, cbr_true, cbr_false]
    · simp [h, h2, cbr_false]
theorem Or2i_of {a b : Int} {K : Int → Prop} (h : K (if a = 0 then b else a)) : w_cmp_Or_int [.int .i64 a, .int .i64 b] K := by
  unfold w_cmp_Or_int wv_cmp_Or_int
  refine ⟨3, ?_⟩
  have e1 : IntKind.i64.wrap 1 = 1 := by decide
  have e2 : IntKind.i64.wrap 2 = 2 := by decide
  by_cases ha : a = 0
  · by_cases hb : b = 0
    · simp [L_cmp_Or_int_0_0, cbr_true, cbr_false, asr_true, conf, confC, intOfV, e1, e2, ha, hb] at h ⊢; exact h
    · have e3 : (b != 0) = true := by simpa using hb
      simp [L_cmp_Or_int_0_0, cbr_true, cbr_false, asr_true, conf, confC, intOfV, e1, e2, ha, e3] at h ⊢; exact h
  · have e3 : (a != 0) = true := by simpa using ha
    simp [L_cmp_Or_int_0_0, cbr_true, cbr_false, asr_true, conf, confC, intOfV, e1, e2, ha, e3] at h ⊢; exact h
theorem I64.of {n : Int} (h1 : -1000000000000000000 ≤ n) (h2 : n ≤ 1000000000000000000) : I64 n := ⟨by omega, by omega⟩
theorem chk2_zero {a b c d : Int} : chk2 a b c d = 0 ↔ RV a b ∧ RV c d := by
  unfold chk2 chk
  by_cases h1 : RV a b <;> by_cases h2 : RV c d <;> simp [h1, h2]
def cmpR (a b c d : Int) : Int := cmp3 (a * d) (c * b)
theorem cmp3_wide {x y : Int} (_ : 0 ≤ x) (_ : 0 ≤ y) : (if cmp3 (x / 18446744073709551616) (y / 18446744073709551616) = 0 then cmp3 (x % 18446744073709551616) (y % 18446744073709551616) else cmp3 (x / 18446744073709551616) (y / 18446744073709551616)) = cmp3 x y := by
  unfold cmp3
  split <;> rename_i h <;> revert h <;> repeat' split <;> intro h <;> omega
theorem U64.abs {n : Int} (h : I64 n) : U64 ((n.natAbs : Nat) : Int) := by unfold I64 at h; unfold U64; omega
theorem Cmp_of {a b c d : Int} (ha : I64 a) (hb : I64 b) (hc : I64 c) (hd : I64 d) {K : Int → Int → Prop} (h : K (if chk2 a b c d = 0 then cmpR a b c d else 0) (chk2 a b c d)) : w_ratio_Cmp a b c d K := by
  unfold w_ratio_Cmp wv_ratio_Cmp
  refine check_of ha hb hc hd ?_
  by_cases hk : chk2 a b c d = 0
  · rw [if_pos hk] at h
    rw [hk] at h ⊢
    obtain ⟨⟨b1, b2, a1, a2, _⟩, d1, d2, c1, c2, _⟩ := chk2_zero.1 hk
    simp only [bne_self_eq_false, cbr_false]
    by_cases hs : decide (a < 0) = decide (c < 0)
    · have e : (decide (a < 0) != decide (c < 0)) = false := by rw [hs]; simp
      rw [e, cbr_false, size_eq ha, wu64 ⟨by omega, by omega⟩, Mul64_eq (U64.abs ha) ⟨by omega, by omega⟩, size_eq hc, wu64 ⟨by omega, by omega⟩, Mul64_eq (U64.abs hc) ⟨by omega, by omega⟩, Compare_u_eq, Compare_u_eq]
      refine Or2i_of ?_
      have p1 : 0 ≤ ((a.natAbs : Nat) : Int) * d := Int.mul_nonneg (by omega) (by omega)
      have p2 : 0 ≤ ((c.natAbs : Nat) : Int) * b := Int.mul_nonneg (by omega) (by omega)
      rw [cmp3_wide p1 p2]
      by_cases hneg : a < 0
      · have hcn : c < 0 := by simpa [hneg] using hs.symm
        rw [decide_eq_true hneg, cbr_true]
        have e1 : ((a.natAbs : Nat) : Int) * d = -(a * d) := by
          rw [show ((a.natAbs : Nat) : Int) = -a by omega, Int.neg_mul]
        have e2 : ((c.natAbs : Nat) : Int) * b = -(c * b) := by
          rw [show ((c.natAbs : Nat) : Int) = -c by omega, Int.neg_mul]
        have e3 : IntKind.i64.wrap (0 - cmp3 (((a.natAbs : Nat) : Int) * d) (((c.natAbs : Nat) : Int) * b)) = cmpR a b c d := by
          rw [e1, e2]
          unfold cmpR cmp3
          rw [wi64 (by unfold I64; repeat' split <;> omega)]
          repeat' split <;> omega
        rw [e3]; exact h
      · have hcn : ¬ c < 0 := by simpa [hneg] using hs.symm
        rw [decide_eq_false hneg, cbr_false, show ((a.natAbs : Nat) : Int) = a by omega, show ((c.natAbs : Nat) : Int) = c by omega]
        exact h
    · have e : (decide (a < 0) != decide (c < 0)) = true := by simpa using hs
      rw [e, cbr_true, Compare_i_eq]
      have e2 : cmp3 a c = cmpR a b c d := by
        unfold cmpR cmp3
        by_cases hneg : a < 0
        · have hcn : ¬ c < 0 := by intro hcn; simp [hneg, hcn] at hs
          have q1 : a * d < 0 := Int.mul_neg_of_neg_of_pos hneg (by omega)
          have q2 : 0 ≤ c * b := Int.mul_nonneg (by omega) (by omega)
          rw [if_pos (by omega), if_pos (by omega)]
        · have hcn : c < 0 := by
            by_cases hcn : c < 0
            · exact hcn
            · simp [hneg, hcn] at hs
          have q1 : c * b < 0 := Int.mul_neg_of_neg_of_pos hcn (by omega)
          have q2 : 0 ≤ a * d := Int.mul_nonneg (by omega) (by omega)
          rw [if_neg (by omega), if_pos (by omega), if_neg (by omega), if_pos (by omega)]
      rw [e2]; exact h
  · rw [if_neg hk] at h
    have e : (chk2 a b c d != 0) = true := by simpa using hk
    rw [e, cbr_true]; exact h
end Go.Pf.Vc
namespace Go.Pf.Vc
open Go Go.Pf
def blen (x : Nat) : Nat := if x = 0 then 0 else x.log2 + 1
theorem blen_lt (x : Nat) : x < 2 ^ blen x := by
  unfold blen
  split
  · rename_i h; subst h; decide
  · exact Nat.lt_log2_self
theorem blen_le {x : Nat} (h : x ≠ 0) : 2 ^ (blen x - 1) ≤ x := by
  unfold blen
  rw [if_neg h]
  exact Nat.log2_self_le h
theorem blen_of {x m : Nat} (h1 : 2 ^ m ≤ x) (h2 : x < 2 ^ (m + 1)) : blen x = m + 1 := by
  have hx : x ≠ 0 := by have := Nat.two_pow_pos m; omega
  unfold blen
  rw [if_neg hx]
  congr 1
  have a := Nat.log2_self_le hx
  have b := Nat.lt_log2_self (n := x)
  have c1 : ¬ (x.log2 < m) := fun h => by
    have := Nat.pow_le_pow_right (show 0 < 2 by omega) (show x.log2 + 1 ≤ m by omega)
    omega
  have c2 : ¬ (m < x.log2) := fun h => by
    have := Nat.pow_le_pow_right (show 0 < 2 by omega) (show m + 1 ≤ x.log2 by omega)
    omega
  omega
theorem blen_div {x k : Nat} (h : 2 ^ k ≤ x) : blen x = k + blen (x / 2 ^ k) := by
  have hp := Nat.two_pow_pos k
  have hq : x / 2 ^ k ≠ 0 := by
    have := Nat.div_pos h hp
    omega
  have h1 := blen_le hq
  have h2 := blen_lt (x / 2 ^ k)
  obtain ⟨m, hm⟩ : ∃ m, blen (x / 2 ^ k) = m + 1 := ⟨blen (x / 2 ^ k) - 1, by
    have : blen (x / 2 ^ k) ≠ 0 := by unfold blen; rw [if_neg hq]; omega
    omega⟩
  rw [hm] at h1 h2 ⊢
  rw [Nat.add_sub_cancel] at h1
  have := blen_of (x := x) (m := k + m) (by
      rw [Nat.pow_add]
      calc 2 ^ k * 2 ^ m ≤ 2 ^ k * (x / 2 ^ k) := Nat.mul_le_mul_left _ h1
        _ ≤ x := Nat.mul_div_le _ _) (by
      rw [show k + m + 1 = k + (m + 1) by omega, Nat.pow_add]
      rw [Nat.mul_comm]
      exact (Nat.div_lt_iff_lt_mul hp).1 h2)
  omega
theorem tab_eq : ∀ x : Nat, x < 256 → intOfV (List.getD len8tab x .nils) = (blen x : Int) := by decide +kernel
theorem wu8 {n : Int} (h0 : 0 ≤ n) (h1 : n < 256) : IntKind.u8.wrap n = n := by
  have e1 : (2 : Int) ^ 8 = 256 := rfl
  simp only [IntKind.wrap, IntKind.signed, IntKind.bits, Bool.false_and, Bool.false_eq_true, if_false, e1]
  omega
theorem look_eq {n : Int} (h0 : 0 ≤ n) (h1 : n < 256) : intOfV (List.getD len8tab (IntKind.u8.wrap n).toNat .nils) = (blen n.toNat : Int) := by
  rw [wu8 h0 h1]
  exact tab_eq n.toNat (by omega)
theorem blen8 {n : Nat} (h : n < 256) : blen n ≤ 8 := by
  by_cases h0 : n = 0
  · subst h0; decide
  · have := blen_le h0
    have h2 : blen n - 1 < 8 := by
      refine Nat.lt_of_not_le fun hc => ?_
      have := Nat.pow_le_pow_right (show 0 < 2 by omega) hc
      omega
    omega
theorem leaf8 {n k : Int} (h0 : 0 ≤ n) (h1 : n < 256) (hk : 0 ≤ k ∧ k ≤ 56) {m : Int} (hm : m = k + blen n.toNat) {K : Int → Prop} (h : K m) :
    asr (decide ((0 : Int) ≤ (IntKind.u8.wrap n))) (asr (decide ((IntKind.u8.wrap n) < (256 : Int))) (K (IntKind.i64.wrap (k + (IntKind.i64.wrap (intOfV (List.getD len8tab ((IntKind.u8.wrap n).toNat) .nils))))))) := by
  have hb := blen8 (n := n.toNat) (by omega)
  have e1 : IntKind.i64.wrap (blen n.toNat : Int) = blen n.toNat := wi64 (by unfold I64; omega)
  have e2 : IntKind.i64.wrap (k + blen n.toNat : Int) = k + blen n.toNat := wi64 (by unfold I64; omega)
  rw [look_eq h0 h1, wu8 h0 h1, decide_eq_true h0, asr_true, decide_eq_true h1, asr_true, e1, e2, ← hm]
  exact h
theorem fdivn (p q : Int) (hq : 0 ≤ q) : Int.fdiv p q = p / q := Int.fdiv_eq_ediv_of_nonneg _ hq
theorem Len64_of {p : Int} (hp : U64 p) {K : Int → Prop} (h : K (blen p.toNat : Int)) : w_m_Len64 p K := by
  unfold U64 at hp
  unfold w_m_Len64 wv_m_Len64
  simp only [fdivn _ 4294967296 (by omega), fdivn _ 65536 (by omega), fdivn _ 256 (by omega)]
  have key : ∀ (k : Nat) (q : Int), 2 ^ k ≤ p.toNat → q = p / (2 ^ k : Nat) → (blen p.toNat : Int) = k + blen q.toNat := by
    intro k q hk hq
    have e : q.toNat = p.toNat / 2 ^ k := by
      rw [hq]
      obtain ⟨m, rfl⟩ : ∃ m : Nat, p = m := ⟨p.toNat, by omega⟩
      rw [← Int.natCast_ediv, Int.toNat_natCast, Int.toNat_natCast]
    rw [e]
    have := blen_div hk
    omega
  by_cases h1 : p ≥ 4294967296
  · rw [decide_eq_true h1, cbr_true]
    by_cases h2 : p / 4294967296 ≥ 65536
    · rw [decide_eq_true h2, cbr_true]
      by_cases h3 : p / 4294967296 / 65536 ≥ 256
      · rw [decide_eq_true h3, cbr_true]
        exact leaf8 (by omega) (by omega) (by omega) (key 56 _ (by omega) (by omega)) h
      · rw [decide_eq_false h3, cbr_false]
        exact leaf8 (by omega) (by omega) (by omega) (key 48 _ (by omega) (by omega)) h
    · rw [decide_eq_false h2, cbr_false]
      by_cases h3 : p / 4294967296 ≥ 256
      · rw [decide_eq_true h3, cbr_true]
        exact leaf8 (by omega) (by omega) (by omega) (key 40 _ (by omega) (by omega)) h
      · rw [decide_eq_false h3, cbr_false]
        exact leaf8 (by omega) (by omega) (by omega) (key 32 _ (by omega) (by omega)) h
  · rw [decide_eq_false h1, cbr_false]
    by_cases h2 : p ≥ 65536
    · rw [decide_eq_true h2, cbr_true]
      by_cases h3 : p / 65536 ≥ 256
      · rw [decide_eq_true h3, cbr_true]
        exact leaf8 (by omega) (by omega) (by omega) (key 24 _ (by omega) (by omega)) h
      · rw [decide_eq_false h3, cbr_false]
        exact leaf8 (by omega) (by omega) (by omega) (key 16 _ (by omega) (by omega)) h
    · rw [decide_eq_false h2, cbr_false]
      by_cases h3 : p ≥ 256
      · rw [decide_eq_true h3, cbr_true]
        exact leaf8 (by omega) (by omega) (by omega) (key 8 _ (by omega) (by omega)) h
      · rw [decide_eq_false h3, cbr_false]
        exact leaf8 (by omega) (by omega) (by omega) (by simp) h
theorem LeadingZeros64_of {p : Int} (hp : U64 p) {K : Int → Prop} (h : K (64 - blen p.toNat : Int)) : w_m_LeadingZeros64 p K := by
  unfold w_m_LeadingZeros64 wv_m_LeadingZeros64
  refine Len64_of hp ?_
  have hb : blen p.toNat ≤ 64 := by
    unfold U64 at hp
    by_cases h0 : p.toNat = 0
    · rw [h0]; decide
    · have := blen_le h0
      have h2 : blen p.toNat - 1 < 64 := by
        refine Nat.lt_of_not_le fun hc => ?_
        have := Nat.pow_le_pow_right (show 0 < 2 by omega) hc
        omega
      omega
  rw [wi64 (by unfold I64; omega)]
  exact h
end Go.Pf.Vc
namespace Go.Pf.Vc
open Go Go.Pf
structure DI (y yn1 yn0 u un q r : Int) : Prop where
  hy : y = yn1 * 4294967296 + yn0
  h1 : 2147483648 ≤ yn1 ∧ yn1 ≤ 4294967295
  h0 : 0 ≤ yn0 ∧ yn0 ≤ 4294967295
  hn : 0 ≤ un ∧ un ≤ 4294967295
  hu : q * yn1 + r = u
  hq : 0 ≤ q ∧ q ≤ 4294967297
  hr : 0 ≤ r ∧ r ≤ 4294967295
  hlt : u < y
  hU : u * 4294967296 + un < (q + 1) * y
def DG (y u un q : Int) : Prop := 0 ≤ q ∧ q ≤ 4294967295 ∧ q * y ≤ u * 4294967296 + un ∧ u * 4294967296 + un < (q + 1) * y
theorem DI.step {y yn1 yn0 u un q r : Int} (h : DI y yn1 yn0 u un q r) {A B C : Prop}
    (hA : DG y u un (q - 1) → 0 ≤ q - 1 → q - 1 ≤ 4294967296 → A)
    (hB : DI y yn1 yn0 u un (q - 1) (r + yn1) → B)
    (hC : DG y u un q → C) :
    cbr (decide (q ≥ (4294967296 : Int)))
      (cbr (decide ((IntKind.u64.wrap (r + yn1)) ≥ (4294967296 : Int))) A B)
      (cbr (decide ((IntKind.u64.wrap (q * yn0)) > (IntKind.u64.wrap ((IntKind.u64.wrap ((4294967296 : Int) * r)) + un))))
        (cbr (decide ((IntKind.u64.wrap (r + yn1)) ≥ (4294967296 : Int))) A B) C) := by
  have h' := h
  obtain ⟨hy, h1, h0, hn, hu, hq, hr, hlt, hU⟩ := h
  have e1 : IntKind.u64.wrap (r + yn1) = r + yn1 := wu64 ⟨by omega, by omega⟩
  have eq1 : q * y = q * yn1 * 4294967296 + q * yn0 := by rw [hy]; grind
  have eq2 : (q - 1) * y = q * y - y := by grind
  have eq3 : (q - 1) * yn1 = q * yn1 - yn1 := by grind
  have eq4 : (q - 1 + 1) * y = q * y := by grind
  have eq5 : (q - 1) * yn0 = q * yn0 - yn0 := by grind
  have big : u * 4294967296 + un < q * y → cbr (decide ((IntKind.u64.wrap (r + yn1)) ≥ (4294967296 : Int))) A B := by
    intro hb
    have q1 : 0 ≤ q - 1 := by
      refine Int.not_lt.1 fun hc => ?_
      have hq0 : q = 0 := by omega
      subst hq0
      simp at hb hu
      omega
    rw [e1]
    by_cases hc : r + yn1 ≥ 4294967296
    · rw [decide_eq_true hc, cbr_true]
      have hp : (q - 1) * yn0 ≤ 4294967296 * 4294967295 := Int.mul_le_mul (by omega) h0.2 h0.1 (by omega)
      have hle : (q - 1) * y ≤ u * 4294967296 + un := by
        have : (q - 1) * y = (q - 1) * yn1 * 4294967296 + (q - 1) * yn0 := by rw [hy]; grind
        omega
      have hlt32 : q - 1 ≤ 4294967295 := by
        refine Int.not_lt.1 fun hc => ?_
        have : 4294967296 * y ≤ (q - 1) * y := Int.mul_le_mul_of_nonneg_right (by omega) (by omega)
        omega
      exact hA ⟨q1, hlt32, hle, by rw [eq4]; exact hb⟩ q1 (by omega)
    · rw [decide_eq_false hc, cbr_false]
      exact hB ⟨hy, h1, h0, hn, by rw [eq3]; omega, ⟨q1, by omega⟩, ⟨by omega, by omega⟩, hlt, by rw [eq4]; exact hb⟩
  by_cases ha : q ≥ 4294967296
  · rw [decide_eq_true ha, cbr_true]
    refine big ?_
    have : 4294967296 * y ≤ q * y := Int.mul_le_mul_of_nonneg_right (by omega) (by omega)
    omega
  · rw [decide_eq_false ha, cbr_false]
    have hp : q * yn0 ≤ 4294967295 * 4294967295 := Int.mul_le_mul (by omega) h0.2 h0.1 (by omega)
    have hp0 : 0 ≤ q * yn0 := Int.mul_nonneg hq.1 h0.1
    have w1 : IntKind.u64.wrap (q * yn0) = q * yn0 := wu64 ⟨hp0, by omega⟩
    have w2 : IntKind.u64.wrap ((4294967296 : Int) * r) = 4294967296 * r := wu64 ⟨by omega, by omega⟩
    have w3 : IntKind.u64.wrap ((4294967296 : Int) * r + un) = 4294967296 * r + un := wu64 ⟨by omega, by omega⟩
    rw [w1, w2, w3]
    by_cases hb : q * yn0 > 4294967296 * r + un
    · rw [decide_eq_true hb, cbr_true]
      exact big (by omega)
    · rw [decide_eq_false hb, cbr_false]
      exact hC ⟨hq.1, by omega, by omega, hU⟩
theorem L0_of (W : Int → (Int → Prop) → Prop) {y yn1 yn0 u un : Int} (s v un0 : Int) {x0 x1 : Int → Int → Int → Int → Int → Int → Int → Int → Int → Bool → Prop}
    (hx : ∀ q r b, DG y u un q → x0 y s yn1 yn0 v un un0 q r b) (hx1 : ∀ q r b, DG y u un q → x1 y s yn1 yn0 v un un0 q r b) :
    ∀ (n : Nat) (q r : Int) (b : Bool), DI y yn1 yn0 u un q r → 4294967296 ≤ r + n * 2147483648 → L_m_Div64_0_1 W x0 x1 (n + 1) y s yn1 yn0 v un un0 q r b := by
  intro n
  induction n with
  | zero =>
    intro q r b h hn
    have := h.hr.2
    exact absurd hn (by omega)
  | succ n ih =>
    intro q r b h hn
    unfold L_m_Div64_0_1
    refine h.step (fun g a1 a2 => ?_) (fun g => ?_) (fun g => hx1 _ _ _ g)
    · rw [wu64 (n := q - 1) ⟨by omega, by omega⟩]
      exact hx _ _ _ g
    · have e1 : IntKind.u64.wrap (q - 1) = q - 1 := wu64 ⟨g.hq.1, by have := g.hq.2; omega⟩
      have e2 : IntKind.u64.wrap (r + yn1) = r + yn1 := wu64 ⟨g.hr.1, by have := g.hr.2; omega⟩
      rw [e1, e2]
      exact ih _ _ _ g (by have := h.h1.1; omega)
theorem L1_of (W : Int → (Int → Prop) → Prop) {y yn1 yn0 u un : Int} (s q1 v : Int) {x0 x1 : Int → Int → Int → Int → Int → Int → Int → Int → Int → Bool → Prop}
    (hx : ∀ q r b, DG y u un q → x0 y s yn1 yn0 un q1 r v q b) (hx1 : ∀ q r b, DG y u un q → x1 y s yn1 yn0 un q1 r v q b) :
    ∀ (n : Nat) (q r : Int) (b : Bool), DI y yn1 yn0 u un q r → 4294967296 ≤ r + n * 2147483648 → L_m_Div64_1_1 W x0 x1 (n + 1) y s yn1 yn0 un q1 r v q b := by
  intro n
  induction n with
  | zero =>
    intro q r b h hn
    have := h.hr.2
    exact absurd hn (by omega)
  | succ n ih =>
    intro q r b h hn
    unfold L_m_Div64_1_1
    refine h.step (fun g a1 a2 => ?_) (fun g => ?_) (fun g => hx1 _ _ _ g)
    · rw [wu64 (n := q - 1) ⟨by omega, by omega⟩]
      exact hx _ _ _ g
    · have e1 : IntKind.u64.wrap (q - 1) = q - 1 := wu64 ⟨g.hq.1, by have := g.hq.2; omega⟩
      have e2 : IntKind.u64.wrap (r + yn1) = r + yn1 := wu64 ⟨g.hr.1, by have := g.hr.2; omega⟩
      rw [e1, e2]
      exact ih _ _ _ g (by have := h.h1.1; omega)
theorem L0_of' (W : Int → (Int → Prop) → Prop) {y yn1 yn0 u un : Int} (s v un0 : Int) {x0 x1 : Int → Int → Int → Int → Int → Int → Int → Int → Int → Bool → Prop}
    (hx : ∀ q r b, DG y u un q → x0 y s yn1 yn0 v un un0 q r b) (hx1 : ∀ q r b, DG y u un q → x1 y s yn1 yn0 v un un0 q r b) (q r : Int) (h : DI y yn1 yn0 u un q r) : L_m_Div64_0_0 W x0 x1 3 y s yn1 yn0 v un un0 q r := by
  have := L0_of W s v un0 hx hx1 2 q r true h (by have := h.hr.1; omega)
  unfold L_m_Div64_0_1 at this
  unfold L_m_Div64_0_0
  exact this
theorem L1_of' (W : Int → (Int → Prop) → Prop) {y yn1 yn0 u un : Int} (s q1 v : Int) {x0 x1 : Int → Int → Int → Int → Int → Int → Int → Int → Int → Bool → Prop}
    (hx : ∀ q r b, DG y u un q → x0 y s yn1 yn0 un q1 r v q b) (hx1 : ∀ q r b, DG y u un q → x1 y s yn1 yn0 un q1 r v q b) (q r : Int) (h : DI y yn1 yn0 u un q r) : L_m_Div64_1_0 W x0 x1 3 y s yn1 yn0 un q1 r v q := by
  have := L1_of W s q1 v hx hx1 2 q r true h (by have := h.hr.1; omega)
  unfold L_m_Div64_1_1 at this
  unfold L_m_Div64_1_0
  exact this
end Go.Pf.Vc
namespace Go.Pf.Vc
open Go Go.Pf
theorem DI.init {y yn1 yn0 u un : Int} (hy : y = yn1 * 4294967296 + yn0) (h1 : 2147483648 ≤ yn1 ∧ yn1 ≤ 4294967295) (h0 : 0 ≤ yn0 ∧ yn0 ≤ 4294967295) (hn : 0 ≤ un ∧ un ≤ 4294967295)
    (hu : 0 ≤ u) (hlt : u < y) : DI y yn1 yn0 u un (u / yn1) (u - u / yn1 * yn1) := by
  have a1 := Int.mul_ediv_add_emod u yn1
  have a2 := Int.emod_nonneg u (show yn1 ≠ 0 by omega)
  have a3 := Int.emod_lt_of_pos u (show 0 < yn1 by omega)
  have a4 : u / yn1 * yn1 = yn1 * (u / yn1) := Int.mul_comm _ _
  have a5 : 0 ≤ u / yn1 := Int.ediv_nonneg hu (by omega)
  have a6 : u / yn1 ≤ 4294967297 := by
    refine Int.not_lt.1 fun hc => ?_
    have : yn1 * 4294967298 ≤ yn1 * (u / yn1) := Int.mul_le_mul_of_nonneg_left (by omega) (by omega)
    omega
  refine ⟨hy, h1, h0, hn, by omega, ⟨a5, a6⟩, ⟨by omega, by omega⟩, hlt, ?_⟩
  have e : (u / yn1 + 1) * y = yn1 * (u / yn1) * 4294967296 + yn1 * 4294967296 + (u / yn1 + 1) * yn0 := by
    obtain ⟨t, ht⟩ : ∃ t, t = u / yn1 := ⟨_, rfl⟩
    rw [← ht, hy]; grind
  have : 0 ≤ (u / yn1 + 1) * yn0 := Int.mul_nonneg (by omega) h0.1
  omega
theorem or_eq {a b : Int} {k : Nat} (ha : 0 ≤ a) (hb : 0 ≤ b ∧ b < 2 ^ k) (hab : a * 2 ^ k ≤ 18446744073709551615 ∧ b ≤ 18446744073709551615) (hs : a * 2 ^ k + b ≤ 18446744073709551615) :
    IntKind.u64.wrap (BitVec.ofInt IntKind.u64.bits (a * 2 ^ k) ||| BitVec.ofInt IntKind.u64.bits b).toNat = a * 2 ^ k + b := by
  obtain ⟨x, rfl⟩ : ∃ x : Nat, a = x := ⟨a.toNat, by omega⟩
  obtain ⟨z, rfl⟩ : ∃ z : Nat, b = z := ⟨b.toNat, by omega⟩
  have ec : ((x : Int) * 2 ^ k) = ((2 ^ k * x : Nat) : Int) := by push_cast; exact Int.mul_comm _ _
  rw [ec] at hab hs ⊢
  have hz : z < 2 ^ k := by have := hb.2; exact_mod_cast this
  have e : (BitVec.ofInt IntKind.u64.bits ((2 ^ k * x : Nat) : Int) ||| BitVec.ofInt IntKind.u64.bits (z : Int)).toNat = 2 ^ k * x + z := by
    show (BitVec.ofInt 64 ((2 ^ k * x : Nat) : Int) ||| BitVec.ofInt 64 (z : Int)).toNat = _
    rw [BitVec.toNat_or, BitVec.toNat_ofInt, BitVec.toNat_ofInt]
    have e1 : (((2 ^ k * x : Nat) : Int) % (2 ^ 64 : Nat)).toNat = 2 ^ k * x := by omega
    have e2 : ((z : Int) % (2 ^ 64 : Nat)).toNat = z := by omega
    rw [e1, e2, Nat.two_pow_add_eq_or_of_lt hz]
  rw [e, wu64 ⟨by omega, by omega⟩]
  push_cast; rfl
theorem rest_eq {u un q y : Int} (h0 : 0 ≤ u * 4294967296 + un - q * y) (h1 : u * 4294967296 + un - q * y ≤ 18446744073709551615) :
    IntKind.u64.wrap (IntKind.u64.wrap (IntKind.u64.wrap (u * 4294967296) + un) - IntKind.u64.wrap (q * y)) = u * 4294967296 + un - q * y := by
  simp only [wu64']
  omega
theorem tdivn {a b : Int} (h : 0 ≤ a) : Int.tdiv a b = a / b := Int.tdiv_eq_ediv_of_nonneg h
theorem tmodn {a b : Int} (h : 0 ≤ a) : Int.tmod a b = a % b := Int.tmod_eq_emod_of_nonneg h
theorem Div64_of {h l y : Int} (hh : U64 h) (hl : U64 l) (hy : U64 y) (hlt : h < y) {K : Int → Int → Prop}
    (k : K ((h * 18446744073709551616 + l) / y) ((h * 18446744073709551616 + l) % y)) : w_m_Div64 h l y K := by
  unfold U64 at hh hl hy
  unfold w_m_Div64 wv_m_Div64
  have b1 : (y == (0 : Int)) = false := beq_eq_false_iff_ne.2 (by omega)
  have b2 : decide (y ≤ h) = false := decide_eq_false (by omega)
  have b3 : (!(decide (y = (0 : Int)))) = true := by rw [decide_eq_false (by omega)]; rfl
  rw [b1, cbr_false, b2, cbr_false, b3]
  by_cases h0 : h = 0
  · subst h0
    have : ((0 : Int) == 0) = true := rfl
    rw [this, cbr_true, asr_true, asr_true, tdivn hl.1, tmodn hl.1]
    have e : (0 : Int) * 18446744073709551616 + l = l := by omega
    rw [e] at k
    have b4 : l / y ≤ l := Int.ediv_le_self _ hl.1
    rw [wu64 ⟨Int.ediv_nonneg hl.1 (by omega), by omega⟩]
    exact k
  · have b4 : (h == (0 : Int)) = false := beq_eq_false_iff_ne.2 h0
    rw [b4, cbr_false]
    refine LeadingZeros64_of ⟨by omega, by omega⟩ ?_
    have hyn : y.toNat ≠ 0 := by omega
    have c1 := blen_lt y.toNat
    have c2 := blen_le hyn
    have c3 : blen y.toNat ≤ 64 := by
      refine Nat.le_of_not_lt fun hc => ?_
      have := Nat.pow_le_pow_right (show 0 < 2 by omega) (show 64 ≤ blen y.toNat - 1 by omega)
      omega
    have c4 : 1 ≤ blen y.toNat := by
      refine Nat.le_of_not_lt fun hc => ?_
      have : blen y.toNat = 0 := by omega
      rw [this] at c1
      omega
    obtain ⟨m, hm⟩ : ∃ m, m = 64 - blen y.toNat := ⟨_, rfl⟩
    have es : (64 - (blen y.toNat : Int)) = (m : Int) := by omega
    rw [es]
    have m63 : m ≤ 63 := by omega
    have e1 : IntKind.u64.wrap (m : Int) = m := wu64 ⟨by omega, by omega⟩
    have e2 : IntKind.u64.wrap ((64 : Int) - m) = ((64 - m : Nat) : Int) := by
      rw [wu64 ⟨by omega, by omega⟩]; omega
    have e3 : min ((m : Int)).toNat IntKind.u64.bits = m := by
      show min ((m : Int)).toNat 64 = m
      rw [Int.toNat_natCast]; omega
    have e4 : min (((64 - m : Nat) : Int)).toNat IntKind.u64.bits = 64 - m := by
      show min (((64 - m : Nat) : Int)).toNat 64 = 64 - m
      rw [Int.toNat_natCast]; omega
    simp only [e1]
    rw [e2, e3, e4]
    have p64 : (2 : Int) ^ (64 - m) * 2 ^ m = 18446744073709551616 := by
      rw [← Int.pow_add, show 64 - m + m = 64 by omega]; rfl
    have p63 : (2 : Int) ^ (63 - m) * 2 ^ m = 9223372036854775808 := by
      rw [← Int.pow_add, show 63 - m + m = 63 by omega]; rfl
    have tp : (0 : Int) < 2 ^ m := Int.pow_pos (by omega)
    have tp' : (0 : Int) < 2 ^ (64 - m) := Int.pow_pos (by omega)
    have y1 : y < (2 : Int) ^ (64 - m) := by
      have : blen y.toNat = 64 - m := by omega
      rw [this] at c1
      have c1' : ((y.toNat : Nat) : Int) < ((2 ^ (64 - m) : Nat) : Int) := by exact_mod_cast c1
      push_cast at c1'
      omega
    have y2 : (2 : Int) ^ (63 - m) ≤ y := by
      have : blen y.toNat - 1 = 63 - m := by omega
      rw [this] at c2
      have c2' : ((2 ^ (63 - m) : Nat) : Int) ≤ ((y.toNat : Nat) : Int) := by exact_mod_cast c2
      push_cast at c2'
      omega
    have Y1 : y * 2 ^ m < 18446744073709551616 := by
      have := Int.mul_lt_mul_of_pos_right y1 tp
      omega
    have Y2 : 9223372036854775808 ≤ y * 2 ^ m := by
      have := Int.mul_le_mul_of_nonneg_right y2 (show (0 : Int) ≤ 2 ^ m by omega)
      omega
    have H1 : (h + 1) * 2 ^ m ≤ y * 2 ^ m := Int.mul_le_mul_of_nonneg_right (by omega) (by omega)
    have H2 : (h + 1) * 2 ^ m = h * 2 ^ m + 2 ^ m := by grind
    have H0 : 0 ≤ h * 2 ^ m := Int.mul_nonneg hh.1 (by omega)
    have fd : Int.fdiv l (2 ^ (64 - m)) = l / 2 ^ (64 - m) := fdivn _ _ (by omega)
    have L1 := Int.mul_ediv_add_emod l (2 ^ (64 - m))
    have L2 := Int.emod_nonneg l (show (2 : Int) ^ (64 - m) ≠ 0 by omega)
    have L3 := Int.emod_lt_of_pos l tp'
    have L4 : 0 ≤ l / 2 ^ (64 - m) := Int.ediv_nonneg hl.1 (by omega)
    have L5 : l / 2 ^ (64 - m) < 2 ^ m := by
      refine Int.ediv_lt_of_lt_mul tp' ?_
      rw [Int.mul_comm, p64]; omega
    have w1 : IntKind.u64.wrap (y * 2 ^ m) = y * 2 ^ m := wu64 ⟨by omega, by omega⟩
    have w2 : IntKind.u64.wrap (h * 2 ^ m) = h * 2 ^ m := wu64 ⟨by omega, by omega⟩
    have w3 : IntKind.u64.wrap (BitVec.ofInt IntKind.u64.bits (h * 2 ^ m) ||| BitVec.ofInt IntKind.u64.bits (l / 2 ^ (64 - m))).toNat = h * 2 ^ m + l / 2 ^ (64 - m) :=
      or_eq hh.1 ⟨L4, L5⟩ ⟨by omega, by omega⟩ (by omega)
    have w4 : IntKind.u64.wrap (l * 2 ^ m) = l % 2 ^ (64 - m) * 2 ^ m := by
      have e : l * 2 ^ m = (l / 2 ^ (64 - m)) * 18446744073709551616 + l % 2 ^ (64 - m) * 2 ^ m := by
        rw [← p64]
        obtain ⟨a, ha⟩ : ∃ a, a = l / 2 ^ (64 - m) := ⟨_, rfl⟩
        obtain ⟨b, hb⟩ : ∃ b, b = l % 2 ^ (64 - m) := ⟨_, rfl⟩
        obtain ⟨t, ht⟩ : ∃ t, t = (2 : Int) ^ m := ⟨_, rfl⟩
        obtain ⟨t', ht'⟩ : ∃ t, t = (2 : Int) ^ (64 - m) := ⟨_, rfl⟩
        rw [← ha, ← hb, ← ht'] at L1
        rw [← ha, ← hb, ← ht, ← ht']
        rw [← L1]; grind
      have e5 : l % 2 ^ (64 - m) * 2 ^ m < 18446744073709551616 := by
        rw [← p64]; exact Int.mul_lt_mul_of_pos_right L3 tp
      have e6 : 0 ≤ l % 2 ^ (64 - m) * 2 ^ m := Int.mul_nonneg L2 (by omega)
      rw [e, wu64']; omega
    have e5 : l % 2 ^ (64 - m) * 2 ^ m < 18446744073709551616 := by
      rw [← p64]; exact Int.mul_lt_mul_of_pos_right L3 tp
    have e6 : 0 ≤ l % 2 ^ (64 - m) * 2 ^ m := Int.mul_nonneg L2 (by omega)
    have eN : (h * 18446744073709551616 + l) * 2 ^ m = (h * 2 ^ m + l / 2 ^ (64 - m)) * 18446744073709551616 + l % 2 ^ (64 - m) * 2 ^ m := by
      rw [← p64]
      obtain ⟨a, ha⟩ : ∃ a, a = l / 2 ^ (64 - m) := ⟨_, rfl⟩
      obtain ⟨b, hb⟩ : ∃ b, b = l % 2 ^ (64 - m) := ⟨_, rfl⟩
      obtain ⟨t, ht⟩ : ∃ t, t = (2 : Int) ^ m := ⟨_, rfl⟩
      obtain ⟨t', ht'⟩ : ∃ t, t = (2 : Int) ^ (64 - m) := ⟨_, rfl⟩
      rw [← ha, ← hb, ← ht'] at L1
      rw [← ha, ← hb, ← ht, ← ht']
      rw [← L1]; grind
    have U1 : h * 2 ^ m + l / 2 ^ (64 - m) < y * 2 ^ m := by omega
    have U0 : 0 ≤ h * 2 ^ m + l / 2 ^ (64 - m) := by omega
    rw [fd, w1, w2, w3, w4]
    have b5 : (!(decide ((m : Int) < 0))) = true := by rw [decide_eq_false (by omega)]; rfl
    have b6 : (!(decide (((64 - m : Nat) : Int) < 0))) = true := by rw [decide_eq_false (by omega)]; rfl
    rw [b5, b6, asr_true, asr_true, asr_true, asr_true]
    generalize h * 2 ^ m + l / 2 ^ (64 - m) = u at *
    generalize hl0 : l % 2 ^ (64 - m) * 2 ^ m = v at *
    generalize hY : y * 2 ^ m = Y at *
    rw [fdivn Y _ (by omega), fdivn v _ (by omega), mask32 ⟨by omega, by omega⟩, mask32 ⟨by omega, by omega⟩, tdivn U0]
    have b7 : (!(decide (Y / 4294967296 = (0 : Int)))) = true := by rw [decide_eq_false (by omega)]; rfl
    rw [b7, asr_true]
    obtain ⟨yn1, hyn1⟩ : ∃ a, a = Y / 4294967296 := ⟨_, rfl⟩
    obtain ⟨yn0, hyn0⟩ : ∃ a, a = Y % 4294967296 := ⟨_, rfl⟩
    obtain ⟨un1, hun1⟩ : ∃ a, a = v / 4294967296 := ⟨_, rfl⟩
    obtain ⟨un0, hun0⟩ : ∃ a, a = v % 4294967296 := ⟨_, rfl⟩
    rw [← hyn1, ← hyn0, ← hun1, ← hun0]
    have d1 : 2147483648 ≤ yn1 ∧ yn1 ≤ 4294967295 := by omega
    have d0 : 0 ≤ yn0 ∧ yn0 ≤ 4294967295 := by omega
    have dn1 : 0 ≤ un1 ∧ un1 ≤ 4294967295 := by omega
    have dn0 : 0 ≤ un0 ∧ un0 ≤ 4294967295 := by omega
    have dY : Y = yn1 * 4294967296 + yn0 := by omega
    have g1 := DI.init dY d1 d0 dn1 U0 U1
    have x1 : IntKind.u64.wrap (u / yn1) = u / yn1 := wu64 ⟨g1.hq.1, by have := g1.hq.2; omega⟩
    have x2 : IntKind.u64.wrap (u - IntKind.u64.wrap (u / yn1 * yn1)) = u - u / yn1 * yn1 := by
      have r1 := g1.hr.1
      have r2 : 0 ≤ u / yn1 * yn1 := Int.mul_nonneg g1.hq.1 (by omega)
      have r3 := g1.hr.2
      rw [wu64 (n := u / yn1 * yn1) ⟨r2, by omega⟩, wu64 ⟨r1, by omega⟩]
    rw [x1, x2]
    have fin : ∀ q1 : Int, DG Y u un1 q1 → ∀ (un21 : Int), un21 = u * 4294967296 + un1 - q1 * Y → ∀ q0, DG Y un21 un0 q0 →
        K (IntKind.u64.wrap ((IntKind.u64.wrap (q1 * (4294967296 : Int))) + q0)) (Int.fdiv (IntKind.u64.wrap ((IntKind.u64.wrap ((IntKind.u64.wrap (un21 * (4294967296 : Int))) + un0)) - (IntKind.u64.wrap (q0 * Y)))) (2 ^ (min ((m : Int)).toNat IntKind.u64.bits))) := by
      intro q1 G1 un21 e21 q0 G0
      obtain ⟨a1, a2, a3, a4⟩ := G1
      obtain ⟨c1, c2, c3, c4⟩ := G0
      have s1 : (q1 + 1) * Y = q1 * Y + Y := by grind
      have s0 : (q0 + 1) * Y = q0 * Y + Y := by grind
      have w5 : IntKind.u64.wrap (q1 * 4294967296) = q1 * 4294967296 := wu64 ⟨by omega, by omega⟩
      have w6 : IntKind.u64.wrap (q1 * 4294967296 + q0) = q1 * 4294967296 + q0 := wu64 ⟨by omega, by omega⟩
      rw [rest_eq (by omega) (by omega), w5, w6, e3, fdivn _ _ (by omega)]
      have eT : un21 * 4294967296 + un0 - q0 * Y = (h * 18446744073709551616 + l - (q1 * 4294967296 + q0) * y) * 2 ^ m := by
        have f1 : (q1 * 4294967296 + q0) * Y = q1 * Y * 4294967296 + q0 * Y := by grind
        have f2 : (h * 18446744073709551616 + l - (q1 * 4294967296 + q0) * y) * 2 ^ m = (h * 18446744073709551616 + l) * 2 ^ m - (q1 * 4294967296 + q0) * Y := by
          rw [← hY, Int.sub_mul, Int.mul_assoc (q1 * 4294967296 + q0)]
        rw [f2, f1, eN]
        omega
      rw [eT, Int.mul_ediv_cancel _ (by omega)]
      have r0 : 0 ≤ h * 18446744073709551616 + l - (q1 * 4294967296 + q0) * y := by
        refine Int.not_lt.1 fun hc => ?_
        have := Int.mul_neg_of_neg_of_pos hc tp
        omega
      have r1 : h * 18446744073709551616 + l - (q1 * 4294967296 + q0) * y < y := by
        refine Int.not_le.1 fun hc => ?_
        have := Int.mul_le_mul_of_nonneg_right hc (show (0 : Int) ≤ 2 ^ m by omega)
        omega
      obtain ⟨Q, hQ⟩ : ∃ Q, Q = q1 * 4294967296 + q0 := ⟨_, rfl⟩
      rw [← hQ] at r0 r1 ⊢
      have z1 : (h * 18446744073709551616 + l) / y = Q := by
        have : h * 18446744073709551616 + l = (h * 18446744073709551616 + l - Q * y) + Q * y := by omega
        rw [this, Int.add_mul_ediv_right _ _ (by omega), Int.ediv_eq_zero_of_lt r0 r1]; omega
      have z2 : (h * 18446744073709551616 + l) % y = h * 18446744073709551616 + l - Q * y := by
        have := Int.mul_ediv_add_emod (h * 18446744073709551616 + l) y
        rw [z1, Int.mul_comm] at this
        omega
      rw [z1, z2] at k
      exact k
    have mid : ∀ q : Int, DG Y u un1 q → ∀ (X : Int → Int → Int → Int → Int → Int → Int → Int → Int → Bool → Prop), (∀ q0 r0 b0, DG Y (u * 4294967296 + un1 - q * Y) un0 q0 → X Y m yn1 yn0 un0 q r0 (u * 4294967296 + un1 - q * Y) q0 b0) →
        asr (!(decide (yn1 = (0 : Int)))) (∃ n : Nat, L_m_Div64_1_0 w_m_LeadingZeros64 X X n Y m yn1 yn0 un0 q ((IntKind.u64.wrap ((IntKind.u64.wrap ((IntKind.u64.wrap ((IntKind.u64.wrap (u * (4294967296 : Int))) + un1)) - (IntKind.u64.wrap (q * Y)))) - (IntKind.u64.wrap ((IntKind.u64.wrap (Int.tdiv (IntKind.u64.wrap ((IntKind.u64.wrap ((IntKind.u64.wrap (u * (4294967296 : Int))) + un1)) - (IntKind.u64.wrap (q * Y)))) yn1)) * yn1))))) (IntKind.u64.wrap ((IntKind.u64.wrap ((IntKind.u64.wrap (u * (4294967296 : Int))) + un1)) - (IntKind.u64.wrap (q * Y)))) (IntKind.u64.wrap (Int.tdiv (IntKind.u64.wrap ((IntKind.u64.wrap ((IntKind.u64.wrap (u * (4294967296 : Int))) + un1)) - (IntKind.u64.wrap (q * Y)))) yn1))) := by
      intro q G X hX
      obtain ⟨a1, a2, a3, a4⟩ := G
      have s1 : (q + 1) * Y = q * Y + Y := by grind
      have b8 : (!(decide (yn1 = (0 : Int)))) = true := by rw [decide_eq_false (by omega)]; rfl
      rw [b8, asr_true, rest_eq (by omega) (by omega), tdivn (by omega)]
      have g0 := DI.init dY d1 d0 dn0 (u := u * 4294967296 + un1 - q * Y) (by omega) (by omega)
      generalize u * 4294967296 + un1 - q * Y = u2 at *
      have x1 : IntKind.u64.wrap (u2 / yn1) = u2 / yn1 := wu64 ⟨g0.hq.1, by have := g0.hq.2; omega⟩
      have x2 : IntKind.u64.wrap (u2 - IntKind.u64.wrap (u2 / yn1 * yn1)) = u2 - u2 / yn1 * yn1 := by
        have r1 := g0.hr.1
        have r2 : 0 ≤ u2 / yn1 * yn1 := Int.mul_nonneg g0.hq.1 (by omega)
        have r3 := g0.hr.2
        have r4 := g0.hlt
        rw [wu64 (n := u2 / yn1 * yn1) ⟨r2, by omega⟩, wu64 ⟨r1, by omega⟩]
      rw [x1, x2]
      exact ⟨3, L1_of' _ _ _ _ (fun q0 r0 b0 g => hX q0 r0 b0 g) (fun q0 r0 b0 g => hX q0 r0 b0 g) _ _ g0⟩
    have leaf : ∀ {P : Prop}, P → asr (!(decide ((m : Int) < 0))) P := fun p => by rw [b5, asr_true]; exact p
    refine ⟨3, L0_of' _ _ _ _ (fun q r b G => ?_) (fun q r b G => ?_) _ _ g1⟩
    · exact mid q G _ (fun q0 r0 b0 G0 => leaf (fin q G _ rfl q0 G0))
    · exact mid q G _ (fun q0 r0 b0 G0 => leaf (fin q G _ rfl q0 G0))
end Go.Pf.Vc
namespace Go.Pf.Vc
open Go Go.Pf
theorem Rem64_of {h l y : Int} (hh : U64 h) (hl : U64 l) (hy : U64 y) (h0 : 0 < y) {K : Int → Prop}
    (k : K ((h * 18446744073709551616 + l) % y)) : w_m_Rem64 h l y K := by
  unfold w_m_Rem64 wv_m_Rem64
  have b3 : (!(decide (y = (0 : Int)))) = true := by rw [decide_eq_false (by omega)]; rfl
  have a1 := Int.emod_nonneg h (show y ≠ 0 by omega)
  have a2 := Int.emod_lt_of_pos h h0
  have hh' := hh
  unfold U64 at hh hy
  rw [b3, asr_true, tmodn hh.1]
  refine Div64_of ⟨a1, by omega⟩ hl ⟨by omega, by omega⟩ a2 ?_
  have e : (h % y * 18446744073709551616 + l) % y = (h * 18446744073709551616 + l) % y := by
    rw [Int.add_emod, Int.mul_emod, Int.emod_emod, ← Int.mul_emod, ← Int.add_emod]
  rw [e]
  exact k
def outS (s : Bool) (a b : Int) (K : Int → Int → Int → Prop) : Prop :=
  if a ≤ 1000000000000000000 ∧ b ≤ 1000000000000000000 then K (if s then -a else a) b 0 else K 0 0 16
theorem signed_eq {s : Bool} {a b : Int} (ha : 0 ≤ a) (hb : 0 ≤ b) (K : Int → Int → Int → Prop) : w_ratio_signed s a b K = outS s a b K := by
  unfold w_ratio_signed wv_ratio_signed outS
  by_cases h : a ≤ 1000000000000000000 ∧ b ≤ 1000000000000000000
  · have e : decide ((if b > a then b else a) > (1000000000000000000 : Int)) = false := by
      refine decide_eq_false ?_
      split <;> omega
    have w1 : IntKind.i64.wrap a = a := wi64 ⟨by omega, by omega⟩
    have w2 : IntKind.i64.wrap b = b := wi64 ⟨by omega, by omega⟩
    have w3 : IntKind.i64.wrap (0 - a) = -a := by rw [wi64 ⟨by omega, by omega⟩]; omega
    rw [e, cbr_false, if_pos h, w1, w2, w3]
    cases s
    · rfl
    · rfl
  · have e : decide ((if b > a then b else a) > (1000000000000000000 : Int)) = true := by
      refine decide_eq_true ?_
      split <;> omega
    rw [e, cbr_true, if_neg h]
theorem Make_of {n d : Int} (hn : I64 n) (hd : I64 d) {K : Int → Int → Int → Prop}
    (k : if d = 0 then K 0 0 18 else outS (decide (n < 0) != decide (d < 0)) ((n.natAbs / Nat.gcd n.natAbs d.natAbs : Nat) : Int) ((d.natAbs / Nat.gcd n.natAbs d.natAbs : Nat) : Int) K) : w_ratio_Make n d K := by
  unfold w_ratio_Make wv_ratio_Make
  by_cases h : d = 0
  · rw [if_pos h] at k
    have : (d == (0 : Int)) = true := beq_iff_eq.2 h
    rw [this, cbr_true]
    exact k
  · rw [if_neg h] at k
    have : (d == (0 : Int)) = false := beq_eq_false_iff_ne.2 h
    rw [this, cbr_false, size_eq hn, size_eq hd]
    refine gcd_of _ _ _ ?_
    have gp : 0 < Nat.gcd n.natAbs d.natAbs := Nat.gcd_pos_of_pos_right _ (by omega)
    have b3 : (!(decide (((Nat.gcd n.natAbs d.natAbs : Nat) : Int) = (0 : Int)))) = true := by rw [decide_eq_false (by omega)]; rfl
    unfold I64 at hn hd
    have u1 : n.natAbs / Nat.gcd n.natAbs d.natAbs ≤ n.natAbs := Nat.div_le_self _ _
    have u2 : d.natAbs / Nat.gcd n.natAbs d.natAbs ≤ d.natAbs := Nat.div_le_self _ _
    rw [b3, asr_true, asr_true, tdivn (by omega), tdivn (by omega), ← Int.natCast_ediv, ← Int.natCast_ediv]
    generalize n.natAbs / Nat.gcd n.natAbs d.natAbs = A at *
    generalize d.natAbs / Nat.gcd n.natAbs d.natAbs = B at *
    rw [wu64 (n := (A : Int)) ⟨by omega, by omega⟩, wu64 (n := (B : Int)) ⟨by omega, by omega⟩, signed_eq (by omega) (by omega)]
    exact k
end Go.Pf.Vc
namespace Go.Pf.Vc
open Go Go.Pf
def numM (a c : Int) (b d : Int) : Nat := (a.natAbs / Nat.gcd a.natAbs d.natAbs) * (c.natAbs / Nat.gcd c.natAbs b.natAbs)
def denM (a c : Int) (b d : Int) : Nat := (b.natAbs / Nat.gcd c.natAbs b.natAbs) * (d.natAbs / Nat.gcd a.natAbs d.natAbs)
theorem Mul_of {a b c d : Int} (ha : I64 a) (hb : I64 b) (hc : I64 c) (hd : I64 d) {K : Int → Int → Int → Prop}
    (k : if chk2 a b c d = 0 then outS (decide (a < 0) != decide (c < 0)) (numM a c b d) (denM a c b d) K else K 0 0 (chk2 a b c d)) : w_ratio_Mul a b c d K := by
  unfold w_ratio_Mul wv_ratio_Mul
  refine check_of ha hb hc hd ?_
  by_cases h : chk2 a b c d = 0
  · rw [if_pos h] at k
    have : (chk2 a b c d != (0 : Int)) = false := by rw [h]; rfl
    rw [this, cbr_false, size_eq ha, size_eq hc]
    obtain ⟨⟨b1, b2, a1, a2, _⟩, d1, d2, c1, c2, _⟩ := chk2_zero.1 h
    have wb : IntKind.u64.wrap b = ((b.natAbs : Nat) : Int) := by rw [wu64 ⟨by omega, by omega⟩]; omega
    have wd : IntKind.u64.wrap d = ((d.natAbs : Nat) : Int) := by rw [wu64 ⟨by omega, by omega⟩]; omega
    rw [wb, wd]
    refine gcd_of _ _ _ (gcd_of _ _ _ ?_)
    unfold numM denM at k
    have g1 : 0 < Nat.gcd a.natAbs d.natAbs := Nat.gcd_pos_of_pos_right _ (by omega)
    have g2 : 0 < Nat.gcd c.natAbs b.natAbs := Nat.gcd_pos_of_pos_right _ (by omega)
    obtain ⟨g3, h3⟩ : ∃ g, g = Nat.gcd a.natAbs d.natAbs := ⟨_, rfl⟩
    obtain ⟨g4, h4⟩ : ∃ g, g = Nat.gcd c.natAbs b.natAbs := ⟨_, rfl⟩
    rw [← h3, ← h4] at k ⊢
    rw [← h3] at g1; rw [← h4] at g2
    have n3 : (!(decide ((g3 : Int) = (0 : Int)))) = true := by rw [decide_eq_false (by omega)]; rfl
    have n4 : (!(decide ((g4 : Int) = (0 : Int)))) = true := by rw [decide_eq_false (by omega)]; rfl
    rw [n3, n4, asr_true, asr_true, tdivn (by omega), tdivn (by omega), tdivn (by omega), tdivn (by omega), ← Int.natCast_ediv, ← Int.natCast_ediv, ← Int.natCast_ediv, ← Int.natCast_ediv]
    have q1 : a.natAbs / g3 ≤ a.natAbs := Nat.div_le_self _ _
    have q2 : c.natAbs / g4 ≤ c.natAbs := Nat.div_le_self _ _
    have q3 : b.natAbs / g4 ≤ b.natAbs := Nat.div_le_self _ _
    have q4 : d.natAbs / g3 ≤ d.natAbs := Nat.div_le_self _ _
    generalize a.natAbs / g3 = A at *
    generalize c.natAbs / g4 = C at *
    generalize b.natAbs / g4 = B at *
    generalize d.natAbs / g3 = D at *
    rw [wu64 (n := (A : Int)) ⟨by omega, by omega⟩, wu64 (n := (C : Int)) ⟨by omega, by omega⟩, wu64 (n := (B : Int)) ⟨by omega, by omega⟩, wu64 (n := (D : Int)) ⟨by omega, by omega⟩,
      Mul64_eq ⟨by omega, by omega⟩ ⟨by omega, by omega⟩, asr_true, asr_true, Mul64_eq ⟨by omega, by omega⟩ ⟨by omega, by omega⟩]
    have m1 : A * C ≤ 1000000000000000000 * 1000000000000000000 := Nat.mul_le_mul (by omega) (by omega)
    have m2 : B * D ≤ 1000000000000000000 * 1000000000000000000 := Nat.mul_le_mul (by omega) (by omega)
    rw [← Int.natCast_mul, ← Int.natCast_mul]
    generalize A * C = M at *
    generalize B * D = N at *
    have wm : IntKind.u64.wrap ((M : Int) / 18446744073709551616 + (N : Int) / 18446744073709551616) = (M : Int) / 18446744073709551616 + (N : Int) / 18446744073709551616 := wu64 ⟨by omega, by omega⟩
    rw [wm]
    by_cases hb : (M : Int) / 18446744073709551616 + (N : Int) / 18446744073709551616 > 0
    · rw [decide_eq_true hb, cbr_true]
      unfold outS at k
      rw [if_neg (by omega)] at k
      exact k
    · rw [decide_eq_false hb, cbr_false]
      have eM : (M : Int) % 18446744073709551616 = M := by omega
      have eN : (N : Int) % 18446744073709551616 = N := by omega
      rw [eM, eN]
      by_cases h0 : (M : Int) > 0
      · rw [decide_eq_true h0, cbr_true, signed_eq (by omega) (by omega)]
        exact k
      · rw [decide_eq_false h0, cbr_false, signed_eq (by omega) (by omega)]
        have hz : M = 0 := by omega
        subst hz
        unfold outS at k ⊢
        by_cases hN : (N : Int) ≤ 1000000000000000000
        · rw [if_pos ⟨by omega, hN⟩] at k ⊢
          have e : (if (decide (a < 0) != decide (c < 0)) = true then -((0 : Nat) : Int) else ((0 : Nat) : Int)) = 0 := by split <;> rfl
          rw [e] at k
          exact k
        · rw [if_neg (by omega)] at k ⊢
          exact k
  · rw [if_neg h] at k
    have : (chk2 a b c d != (0 : Int)) = true := by rw [bne_iff_ne]; exact h
    rw [this, cbr_true]
    exact k
theorem RV.swap {c d : Int} (h : RV c d) (h0 : 0 < c) : RV d c := by
  obtain ⟨d1, d2, c1, c2, g⟩ := h
  exact ⟨by omega, c2, by omega, d2, by rw [Nat.gcd_comm]; exact g⟩
theorem RV.swapn {c d : Int} (h : RV c d) (h0 : c < 0) : RV (-d) (-c) := by
  obtain ⟨d1, d2, c1, c2, g⟩ := h
  exact ⟨by omega, by omega, by omega, by omega, by rw [Int.natAbs_neg, Int.natAbs_neg, Nat.gcd_comm]; exact g⟩
theorem Div_of {a b c d : Int} (ha : I64 a) (hb : I64 b) (hc : I64 c) (hd : I64 d) {K : Int → Int → Int → Prop}
    (k : if chk2 a b c d = 0 then (if c = 0 then K 0 0 18 else outS (decide (a < 0) != decide (c < 0)) (numM a d b c) (denM a d b c) K) else K 0 0 (chk2 a b c d)) : w_ratio_Div a b c d K := by
  unfold w_ratio_Div wv_ratio_Div
  refine check_of ha hb hc hd ?_
  by_cases h : chk2 a b c d = 0
  · rw [if_pos h] at k
    have : (chk2 a b c d != (0 : Int)) = false := by rw [h]; rfl
    rw [this, cbr_false]
    obtain ⟨hab, hcd⟩ := chk2_zero.1 h
    obtain ⟨d1, d2, c1, c2, _⟩ := id hcd
    by_cases h0 : c = 0
    · rw [if_pos h0] at k
      have : (c == (0 : Int)) = true := beq_iff_eq.2 h0
      rw [this, cbr_true]
      exact k
    · rw [if_neg h0] at k
      have : (c == (0 : Int)) = false := beq_eq_false_iff_ne.2 h0
      rw [this, cbr_false]
      by_cases hn : c < 0
      · rw [decide_eq_true hn] at k
        rw [decide_eq_true hn, cbr_true, wi64 (n := 0 - d) ⟨by omega, by omega⟩, wi64 (n := 0 - c) ⟨by omega, by omega⟩, Int.zero_sub, Int.zero_sub]
        have e : chk2 a b (-d) (-c) = 0 := chk2_zero.2 ⟨hab, hcd.swapn hn⟩
        refine Mul_of ha hb ⟨by omega, by omega⟩ ⟨by omega, by omega⟩ ?_
        rw [if_pos e, decide_eq_true (show -d < 0 by omega)]
        unfold numM denM at k ⊢
        rw [Int.natAbs_neg, Int.natAbs_neg]
        exact k
      · rw [decide_eq_false hn] at k
        rw [decide_eq_false hn, cbr_false]
        have e : chk2 a b d c = 0 := chk2_zero.2 ⟨hab, hcd.swap (by omega)⟩
        refine Mul_of ha hb hd hc ?_
        rw [if_pos e, decide_eq_false (show ¬ d < 0 by omega)]
        exact k
  · rw [if_neg h] at k
    have : (chk2 a b c d != (0 : Int)) = true := by rw [bne_iff_ne]; exact h
    rw [this, cbr_true]
    exact k
end Go.Pf.Vc
namespace Go.Pf.Vc
open Go Go.Pf
theorem tail_of {s : Bool} {hi lo p1 p3 : Int} {g : Nat} (hh : U64 hi) (hl : U64 lo) (hg : 0 < g) (g1 : (g : Int) ≤ 1000000000000000000)
    (h1 : 0 ≤ p1 ∧ p1 ≤ 1000000000000000000) (h3 : 0 ≤ p3 ∧ p3 ≤ 1000000000000000000) {K : Int → Int → Int → Prop}
    (k : outS s (((hi * 18446744073709551616 + lo).toNat / Nat.gcd (hi * 18446744073709551616 + lo).toNat g : Nat) : Int)
      (((p1.toNat / g) * (p3.toNat / Nat.gcd (hi * 18446744073709551616 + lo).toNat g) : Nat) : Int) K) :
    (w_m_Rem64 hi lo (g : Int) (fun (yi12 : Int) => 
 (w_ratio_gcd yi12 (g : Int) (fun (yi13 : Int) => 
 (cbr (decide (hi ≥ yi13))
 (K (0 : Int) (0 : Int) (16 : Int))
 (w_m_Div64 hi lo yi13 (fun (yi14 : Int) (_ : Int) => 
 (asr (!(decide ((g : Int) = (0 : Int))))
 (asr (!(decide (yi13 = (0 : Int))))
 (w_m_Mul64 (IntKind.u64.wrap (Int.tdiv (IntKind.u64.wrap p1) (g : Int))) (IntKind.u64.wrap (Int.tdiv (IntKind.u64.wrap p3) yi13)) (fun (yi16 : Int) (yi17 : Int) => 
 (cbr (decide (yi16 > (0 : Int)))
 (K (0 : Int) (0 : Int) (16 : Int))
 (w_ratio_signed s yi14 yi17 (fun (yi18 : Int) (yi19 : Int) (yi20 : Int) => 
 (K yi18 yi19 yi20))))))))))))))) := by
  unfold U64 at hh hl
  obtain ⟨X, hX⟩ : ∃ X : Nat, X = (hi * 18446744073709551616 + lo).toNat := ⟨_, rfl⟩
  have eX : hi * 18446744073709551616 + lo = (X : Int) := by omega
  rw [← hX] at k
  refine Rem64_of hh hl ⟨by omega, by omega⟩ (by omega) ?_
  rw [eX, ← Int.natCast_emod]
  refine gcd_of _ _ _ ?_
  have eg : Nat.gcd (X % g) g = Nat.gcd X g := by rw [Nat.gcd_comm, Nat.gcd_comm X, Nat.gcd_rec g X, Nat.gcd_comm]
  rw [eg]
  have gp : 0 < Nat.gcd X g := Nat.gcd_pos_of_pos_right _ hg
  have gl : Nat.gcd X g ≤ g := Nat.le_of_dvd hg (Nat.gcd_dvd_right _ _)
  generalize Nat.gcd X g = G at *
  by_cases hb : hi ≥ (G : Int)
  · rw [decide_eq_true hb, cbr_true]
    unfold outS at k
    have : 18446744073709551616 ≤ X / G := by
      rw [Nat.le_div_iff_mul_le gp]
      omega
    rw [if_neg (by omega)] at k
    exact k
  · rw [decide_eq_false hb, cbr_false]
    refine Div64_of hh hl ⟨by omega, by omega⟩ (by omega) ?_
    rw [eX]
    have n3 : (!(decide ((g : Int) = (0 : Int)))) = true := by rw [decide_eq_false (by omega)]; rfl
    have n4 : (!(decide ((G : Int) = (0 : Int)))) = true := by rw [decide_eq_false (by omega)]; rfl
    have e1 : IntKind.u64.wrap p1 = (p1.toNat : Int) := by rw [wu64 ⟨by omega, by omega⟩]; omega
    have e3 : IntKind.u64.wrap p3 = (p3.toNat : Int) := by rw [wu64 ⟨by omega, by omega⟩]; omega
    rw [n3, n4, asr_true, asr_true, e1, e3, tdivn (by omega), tdivn (by omega), ← Int.natCast_ediv, ← Int.natCast_ediv, ← Int.natCast_ediv]
    have q1 : p1.toNat / g ≤ p1.toNat := Nat.div_le_self _ _
    have q3 : p3.toNat / G ≤ p3.toNat := Nat.div_le_self _ _
    generalize p1.toNat / g = A at *
    generalize p3.toNat / G = B at *
    generalize X / G = N at *
    rw [wu64 (n := (A : Int)) ⟨by omega, by omega⟩, wu64 (n := (B : Int)) ⟨by omega, by omega⟩, Mul64_eq ⟨by omega, by omega⟩ ⟨by omega, by omega⟩, ← Int.natCast_mul]
    generalize A * B = D at *
    by_cases hd : ((D : Int) / 18446744073709551616) > 0
    · rw [decide_eq_true hd, cbr_true]
      unfold outS at k
      rw [if_neg (by omega)] at k
      exact k
    · rw [decide_eq_false hd, cbr_false]
      have eD : (D : Int) % 18446744073709551616 = D := by omega
      rw [eD, signed_eq (by omega) (by omega)]
      exact k
end Go.Pf.Vc
namespace Go.Pf.Vc
open Go Go.Pf
theorem Add64_of {p q c : Int} {K : Int → Int → Prop} (hc : c.toNat ≤ 1) (k : K (((p.toNat + q.toNat + c.toNat) % 18446744073709551616 : Nat) : Int) (((p.toNat + q.toNat + c.toNat) / 18446744073709551616 : Nat) : Int)) : w_m_Add64 p q c K := by
  unfold w_m_Add64
  rw [decide_eq_true hc, asr_true]
  exact k
theorem Sub64_of {p q c : Int} {K : Int → Int → Prop} (hc : c.toNat ≤ 1) (k : K (((p.toNat + 18446744073709551616 - q.toNat - c.toNat) % 18446744073709551616 : Nat) : Int) ((if q.toNat + c.toNat ≤ p.toNat then 0 else 1 : Nat) : Int)) : w_m_Sub64 p q c K := by
  unfold w_m_Sub64
  rw [decide_eq_true hc, asr_true]
  have e : (bif Nat.ble (q.toNat + c.toNat) p.toNat then 0 else 1 : Nat) = (if q.toNat + c.toNat ≤ p.toNat then 0 else 1 : Nat) := by
    by_cases h : q.toNat + c.toNat ≤ p.toNat
    · rw [if_pos h, show Nat.ble (q.toNat + c.toNat) p.toNat = true from Nat.ble_eq_true_of_le h]; rfl
    · rw [if_neg h]
      cases hb : Nat.ble (q.toNat + c.toNat) p.toNat
      · rfl
      · exact absurd (Nat.le_of_ble_eq_true hb) h
  rw [e]
  exact k
theorem add_wide {X Y : Int} (hx : 0 ≤ X) (hy : 0 ≤ Y) (hs : X + Y < 340282366920938463463374607431768211456) {F : Int → Int → Int → Int → Prop}
    (h : ∀ c1 c2, F ((X + Y) % 18446744073709551616) c1 ((X + Y) / 18446744073709551616) c2) :
    w_m_Add64 (X % 18446744073709551616) (Y % 18446744073709551616) 0 (fun lo c1 => w_m_Add64 (X / 18446744073709551616) (Y / 18446744073709551616) c1 (fun hi c2 => F lo c1 hi c2)) := by
  obtain ⟨x, rfl⟩ : ∃ x : Nat, X = x := ⟨X.toNat, by omega⟩
  obtain ⟨y, rfl⟩ : ∃ y : Nat, Y = y := ⟨Y.toNat, by omega⟩
  refine Add64_of (by decide) (Add64_of (by omega) ?_)
  have e1 : (((((x : Int) % 18446744073709551616).toNat + ((y : Int) % 18446744073709551616).toNat + (0 : Int).toNat) % 18446744073709551616 : Nat) : Int) = ((x : Int) + y) % 18446744073709551616 := by omega
  have e2 : (((((x : Int) / 18446744073709551616).toNat + ((y : Int) / 18446744073709551616).toNat + (((((x : Int) % 18446744073709551616).toNat + ((y : Int) % 18446744073709551616).toNat + (0 : Int).toNat) / 18446744073709551616 : Nat) : Int).toNat) % 18446744073709551616 : Nat) : Int) = ((x : Int) + y) / 18446744073709551616 := by omega
  rw [e1, e2]
  exact h _ _
theorem sub_wide {X Y : Int} (hy : 0 ≤ Y) (hxy : Y ≤ X) (hs : X < 340282366920938463463374607431768211456) {F : Int → Int → Int → Int → Prop}
    (h : ∀ c1 c2, F ((X - Y) % 18446744073709551616) c1 ((X - Y) / 18446744073709551616) c2) :
    w_m_Sub64 (X % 18446744073709551616) (Y % 18446744073709551616) 0 (fun lo c1 => w_m_Sub64 (X / 18446744073709551616) (Y / 18446744073709551616) c1 (fun hi c2 => F lo c1 hi c2)) := by
  obtain ⟨x, rfl⟩ : ∃ x : Nat, X = x := ⟨X.toNat, by omega⟩
  obtain ⟨y, rfl⟩ : ∃ y : Nat, Y = y := ⟨Y.toNat, by omega⟩
  refine Sub64_of (by decide) (Sub64_of (by split <;> omega) ?_)
  have e1 : (((((x : Int) % 18446744073709551616).toNat + 18446744073709551616 - ((y : Int) % 18446744073709551616).toNat - (0 : Int).toNat) % 18446744073709551616 : Nat) : Int) = ((x : Int) - y) % 18446744073709551616 := by omega
  rw [e1]
  by_cases hb : ((y : Int) % 18446744073709551616).toNat + (0 : Int).toNat ≤ ((x : Int) % 18446744073709551616).toNat
  · rw [if_pos hb]
    have e2 : (((((x : Int) / 18446744073709551616).toNat + 18446744073709551616 - ((y : Int) / 18446744073709551616).toNat - ((0 : Nat) : Int).toNat) % 18446744073709551616 : Nat) : Int) = ((x : Int) - y) / 18446744073709551616 := by omega
    rw [e2]
    exact h _ _
  · rw [if_neg hb]
    have e2 : (((((x : Int) / 18446744073709551616).toNat + 18446744073709551616 - ((y : Int) / 18446744073709551616).toNat - ((1 : Nat) : Int).toNat) % 18446744073709551616 : Nat) : Int) = ((x : Int) - y) / 18446744073709551616 := by omega
    rw [e2]
    exact h _ _
end Go.Pf.Vc
namespace Go.Pf.Vc
open Go Go.Pf
def outA (s : Bool) (Z p1 p3 : Int) (g : Nat) (K : Int → Int → Int → Prop) : Prop :=
  if Z = 0 then K 0 1 0 else outS s ((Z.toNat / Nat.gcd Z.toNat g : Nat) : Int) (((p1.toNat / g) * (p3.toNat / Nat.gcd Z.toNat g) : Nat) : Int) K
theorem fin_of {s : Bool} {Z p1 p3 : Int} {g : Nat} (hz : 0 ≤ Z) (hz2 : Z < 340282366920938463463374607431768211456) (hg : 0 < g) (g1 : (g : Int) ≤ 1000000000000000000)
    (h1 : 0 ≤ p1 ∧ p1 ≤ 1000000000000000000) (h3 : 0 ≤ p3 ∧ p3 ≤ 1000000000000000000) {K : Int → Int → Int → Prop}
    (k : outA s Z p1 p3 g K) :
    cbr (Z / 18446744073709551616 == (0 : Int)) (cbr (Z % 18446744073709551616 == (0 : Int)) (K 0 1 0) (w_m_Rem64 (Z / 18446744073709551616) (Z % 18446744073709551616) (g : Int) (fun (yi12 : Int) => 
 (w_ratio_gcd yi12 (g : Int) (fun (yi13 : Int) => 
 (cbr (decide ((Z / 18446744073709551616) ≥ yi13))
 (K (0 : Int) (0 : Int) (16 : Int))
 (w_m_Div64 (Z / 18446744073709551616) (Z % 18446744073709551616) yi13 (fun (yi14 : Int) (_ : Int) => 
 (asr (!(decide ((g : Int) = (0 : Int))))
 (asr (!(decide (yi13 = (0 : Int))))
 (w_m_Mul64 (IntKind.u64.wrap (Int.tdiv (IntKind.u64.wrap p1) (g : Int))) (IntKind.u64.wrap (Int.tdiv (IntKind.u64.wrap p3) yi13)) (fun (yi16 : Int) (yi17 : Int) => 
 (cbr (decide (yi16 > (0 : Int)))
 (K (0 : Int) (0 : Int) (16 : Int))
 (w_ratio_signed s yi14 yi17 (fun (yi18 : Int) (yi19 : Int) (yi20 : Int) => 
 (K yi18 yi19 yi20)))))))))))))))) (w_m_Rem64 (Z / 18446744073709551616) (Z % 18446744073709551616) (g : Int) (fun (yi12 : Int) => 
 (w_ratio_gcd yi12 (g : Int) (fun (yi13 : Int) => 
 (cbr (decide ((Z / 18446744073709551616) ≥ yi13))
 (K (0 : Int) (0 : Int) (16 : Int))
 (w_m_Div64 (Z / 18446744073709551616) (Z % 18446744073709551616) yi13 (fun (yi14 : Int) (_ : Int) => 
 (asr (!(decide ((g : Int) = (0 : Int))))
 (asr (!(decide (yi13 = (0 : Int))))
 (w_m_Mul64 (IntKind.u64.wrap (Int.tdiv (IntKind.u64.wrap p1) (g : Int))) (IntKind.u64.wrap (Int.tdiv (IntKind.u64.wrap p3) yi13)) (fun (yi16 : Int) (yi17 : Int) => 
 (cbr (decide (yi16 > (0 : Int)))
 (K (0 : Int) (0 : Int) (16 : Int))
 (w_ratio_signed s yi14 yi17 (fun (yi18 : Int) (yi19 : Int) (yi20 : Int) => 
 (K yi18 yi19 yi20))))))))))))))) := by
  unfold outA at k
  have eZ : Z / 18446744073709551616 * 18446744073709551616 + Z % 18446744073709551616 = Z := by omega
  by_cases h0 : Z = 0
  · rw [if_pos h0] at k
    subst h0
    have e1 : ((0 : Int) / 18446744073709551616 == (0 : Int)) = true := by decide
    have e2 : ((0 : Int) % 18446744073709551616 == (0 : Int)) = true := by decide
    rw [e1, cbr_true, e2, cbr_true]
    exact k
  · rw [if_neg h0] at k
    have t := tail_of (s := s) (hi := Z / 18446744073709551616) (lo := Z % 18446744073709551616) (p1 := p1) (p3 := p3) (g := g) (K := K) ⟨by omega, by omega⟩ ⟨by omega, by omega⟩ hg g1 h1 h3 (by rw [eZ]; exact k)
    cases h4 : (Z / 18446744073709551616 == (0 : Int))
    · rw [cbr_false]; exact t
    · rw [cbr_true]
      cases h2 : (Z % 18446744073709551616 == (0 : Int))
      · rw [cbr_false]; exact t
      · have := beq_iff_eq.1 h2
        have := beq_iff_eq.1 h4
        exact absurd (show Z = 0 by omega) h0
theorem outA_congr {s s' : Bool} {Z Z' p1 p3 : Int} {g : Nat} {K : Int → Int → Int → Prop} (k : outA s' Z' p1 p3 g K) (hz : Z = Z') (hs : Z ≠ 0 → s = s') : outA s Z p1 p3 g K := by
  subst hz
  unfold outA at k ⊢
  by_cases h : Z = 0
  · rw [if_pos h] at k ⊢; exact k
  · rw [if_neg h] at k ⊢; rw [hs h]; exact k
theorem Add_of {a b c d : Int} (ha : I64 a) (hb : I64 b) (hc : I64 c) (hd : I64 d) {K : Int → Int → Int → Prop}
    (k : if chk2 a b c d = 0 then outA (decide (a * (d / (Nat.gcd b.natAbs d.natAbs : Nat)) + c * (b / (Nat.gcd b.natAbs d.natAbs : Nat)) < 0))
        ((a * (d / (Nat.gcd b.natAbs d.natAbs : Nat)) + c * (b / (Nat.gcd b.natAbs d.natAbs : Nat))).natAbs : Int) b d (Nat.gcd b.natAbs d.natAbs) K
      else K 0 0 (chk2 a b c d)) : w_ratio_Add a b c d K := by
  unfold w_ratio_Add wv_ratio_Add
  refine check_of ha hb hc hd ?_
  by_cases h : chk2 a b c d = 0
  · rw [if_pos h] at k
    have : (chk2 a b c d != (0 : Int)) = false := by rw [h]; rfl
    rw [this, cbr_false]
    obtain ⟨⟨b1, b2, a1, a2, _⟩, d1, d2, c1, c2, _⟩ := chk2_zero.1 h
    have wb : IntKind.u64.wrap b = ((b.natAbs : Nat) : Int) := by rw [wu64 ⟨by omega, by omega⟩]; omega
    have wd : IntKind.u64.wrap d = ((d.natAbs : Nat) : Int) := by rw [wu64 ⟨by omega, by omega⟩]; omega
    have g1 : 0 < Nat.gcd b.natAbs d.natAbs := Nat.gcd_pos_of_pos_right _ (by omega)
    have g2 : Nat.gcd b.natAbs d.natAbs ≤ d.natAbs := Nat.le_of_dvd (by omega) (Nat.gcd_dvd_right _ _)
    have go : w_ratio_gcd (IntKind.u64.wrap b) (IntKind.u64.wrap d) = w_ratio_gcd ((b.natAbs : Nat) : Int) ((d.natAbs : Nat) : Int) := by rw [wb, wd]
    rw [go]
    refine gcd_of _ _ _ ?_
    generalize Nat.gcd b.natAbs d.natAbs = g at *
    have n3 : (!(decide ((g : Int) = (0 : Int)))) = true := by rw [decide_eq_false (by omega)]; rfl
    have q1 : 0 ≤ b / (g : Int) := Int.ediv_nonneg (by omega) (by omega)
    have q2 : 0 ≤ d / (g : Int) := Int.ediv_nonneg (by omega) (by omega)
    have q3 : b / (g : Int) ≤ b := Int.ediv_le_self _ (by omega)
    have q4 : d / (g : Int) ≤ d := Int.ediv_le_self _ (by omega)
    have ed : IntKind.u64.wrap (Int.tdiv (IntKind.u64.wrap d) (g : Int)) = d / (g : Int) := by
      rw [wu64 (n := d) ⟨by omega, by omega⟩, tdivn (by omega), wu64 ⟨by omega, by omega⟩]
    have eb : IntKind.u64.wrap (Int.tdiv (IntKind.u64.wrap b) (g : Int)) = b / (g : Int) := by
      rw [wu64 (n := b) ⟨by omega, by omega⟩, tdivn (by omega), wu64 ⟨by omega, by omega⟩]
    have asr_of : ∀ {c : Bool} {P : Prop}, c = true → P → asr c P := fun h p => by rw [h, asr_true]; exact p
    rw [size_eq ha]
    refine asr_of n3 ?_
    rw [Mul64_eq (U64.abs ha) (by rw [ed]; exact ⟨by omega, by omega⟩), size_eq hc]
    refine asr_of n3 ?_
    rw [Mul64_eq (U64.abs hc) (by rw [eb]; exact ⟨by omega, by omega⟩)]
    obtain ⟨X, hX⟩ : ∃ X, X = ((a.natAbs : Nat) : Int) * IntKind.u64.wrap (Int.tdiv (IntKind.u64.wrap d) (g : Int)) := ⟨_, rfl⟩
    obtain ⟨Y, hY⟩ : ∃ Y, Y = ((c.natAbs : Nat) : Int) * IntKind.u64.wrap (Int.tdiv (IntKind.u64.wrap b) (g : Int)) := ⟨_, rfl⟩
    rw [← hX, ← hY]
    rw [ed] at hX; rw [eb] at hY
    have X0 : 0 ≤ X := by rw [hX]; exact Int.mul_nonneg (by omega) q2
    have Y0 : 0 ≤ Y := by rw [hY]; exact Int.mul_nonneg (by omega) q1
    have X1 : X ≤ 1000000000000000000 * 1000000000000000000 := by rw [hX]; exact Int.mul_le_mul (by omega) (by omega) q2 (by omega)
    have Y1 : Y ≤ 1000000000000000000 * 1000000000000000000 := by rw [hY]; exact Int.mul_le_mul (by omega) (by omega) q1 (by omega)
    have ax : a * (d / (g : Int)) = if a < 0 then -X else X := by
      split
      · rw [hX, show ((a.natAbs : Nat) : Int) = -a by omega, Int.neg_mul, Int.neg_neg]
      · rw [hX, show ((a.natAbs : Nat) : Int) = a by omega]
    have cy : c * (b / (g : Int)) = if c < 0 then -Y else Y := by
      split
      · rw [hY, show ((c.natAbs : Nat) : Int) = -c by omega, Int.neg_mul, Int.neg_neg]
      · rw [hY, show ((c.natAbs : Nat) : Int) = c by omega]
    rw [ax, cy] at k
    clear hX hY ax cy ed eb n3
    by_cases hs : decide (a < 0) = decide (c < 0)
    · have e : (decide (a < 0) == decide (c < 0)) = true := beq_iff_eq.2 hs
      rw [e, cbr_true]
      refine add_wide X0 Y0 (by omega) (fun c1 c2 => ?_)
      refine fin_of (by omega) (by omega) g1 (by omega) ⟨by omega, b2⟩ ⟨by omega, d2⟩ (outA_congr k ?_ ?_)
      · by_cases h1 : a < 0
        · have h2 : c < 0 := by simpa [h1] using hs.symm
          rw [if_pos h1, if_pos h2]; omega
        · have h2 : ¬ c < 0 := by simpa [h1] using hs.symm
          rw [if_neg h1, if_neg h2]; omega
      · intro h0
        by_cases h1 : a < 0
        · have h2 : c < 0 := by simpa [h1] using hs.symm
          rw [if_pos h1, if_pos h2, decide_eq_true h1, decide_eq_true (by omega)]
        · have h2 : ¬ c < 0 := by simpa [h1] using hs.symm
          rw [if_neg h1, if_neg h2, decide_eq_false h1, decide_eq_false (by omega)]
    · have e : (decide (a < 0) == decide (c < 0)) = false := beq_eq_false_iff_ne.2 hs
      rw [e, cbr_false]
      have h12 : (a < 0 ∧ ¬ c < 0) ∨ (¬ a < 0 ∧ c < 0) := by
        by_cases h1 : a < 0 <;> by_cases h2 : c < 0 <;> simp [h1, h2] at hs ⊢
      by_cases hlt : X < Y
      · have kk : outA (!decide (a < 0)) (Y - X) b d g K := by
          refine outA_congr k ?_ ?_
          · rcases h12 with ⟨h1, h2⟩ | ⟨h1, h2⟩
            · rw [if_pos h1, if_neg h2]; omega
            · rw [if_neg h1, if_pos h2]; omega
          · intro h0
            rcases h12 with ⟨h1, h2⟩ | ⟨h1, h2⟩
            · rw [if_pos h1, if_neg h2, decide_eq_true h1, decide_eq_false (by omega)]; rfl
            · rw [if_neg h1, if_pos h2, decide_eq_false h1, decide_eq_true (by omega)]; rfl
        by_cases h1 : X / 18446744073709551616 < Y / 18446744073709551616
        · rw [decide_eq_true h1, cbr_true]
          refine sub_wide X0 (by omega) (by omega) (fun c1 c2 => ?_)
          exact fin_of (by omega) (by omega) g1 (by omega) ⟨by omega, b2⟩ ⟨by omega, d2⟩ kk
        · have e1 : (X / 18446744073709551616 == Y / 18446744073709551616) = true := beq_iff_eq.2 (by omega)
          rw [decide_eq_false h1, cbr_false, e1, cbr_true, decide_eq_true (show X % 18446744073709551616 < Y % 18446744073709551616 by have := beq_iff_eq.1 e1; omega), cbr_true]
          refine sub_wide X0 (by omega) (by omega) (fun c1 c2 => ?_)
          exact fin_of (by omega) (by omega) g1 (by omega) ⟨by omega, b2⟩ ⟨by omega, d2⟩ kk
      · have kk : outA (decide (a < 0)) (X - Y) b d g K := by
          refine outA_congr k ?_ ?_
          · rcases h12 with ⟨h1, h2⟩ | ⟨h1, h2⟩
            · rw [if_pos h1, if_neg h2]; omega
            · rw [if_neg h1, if_pos h2]; omega
          · intro h0
            rcases h12 with ⟨h1, h2⟩ | ⟨h1, h2⟩
            · rw [if_pos h1, if_neg h2, decide_eq_true h1, decide_eq_true (by omega)]
            · rw [if_neg h1, if_pos h2, decide_eq_false h1, decide_eq_false (by omega)]
        have h1 : ¬ X / 18446744073709551616 < Y / 18446744073709551616 := by omega
        rw [decide_eq_false h1, cbr_false]
        cases e1 : (X / 18446744073709551616 == Y / 18446744073709551616)
        · rw [cbr_false]
          refine sub_wide Y0 (by omega) (by omega) (fun c1 c2 => ?_)
          exact fin_of (by omega) (by omega) g1 (by omega) ⟨by omega, b2⟩ ⟨by omega, d2⟩ kk
        · rw [cbr_true, decide_eq_false (show ¬ X % 18446744073709551616 < Y % 18446744073709551616 by have := beq_iff_eq.1 e1; omega), cbr_false]
          refine sub_wide Y0 (by omega) (by omega) (fun c1 c2 => ?_)
          exact fin_of (by omega) (by omega) g1 (by omega) ⟨by omega, b2⟩ ⟨by omega, d2⟩ kk
  · rw [if_neg h] at k
    have : (chk2 a b c d != (0 : Int)) = true := by rw [bne_iff_ne]; exact h
    rw [this, cbr_true]
    exact k
end Go.Pf.Vc
namespace Go.Pf.Vc
open Go Go.Pf
theorem RV.neg {c d : Int} (h : RV c d) : RV (-c) d := by
  obtain ⟨d1, d2, c1, c2, g⟩ := h
  exact ⟨d1, d2, by omega, by omega, by rw [Int.natAbs_neg]; exact g⟩
theorem Sub_of {a b c d : Int} (ha : I64 a) (hb : I64 b) (hc : I64 c) (hd : I64 d) {K : Int → Int → Int → Prop}
    (k : if chk2 a b c d = 0 then outA (decide (a * (d / (Nat.gcd b.natAbs d.natAbs : Nat)) + -c * (b / (Nat.gcd b.natAbs d.natAbs : Nat)) < 0))
        ((a * (d / (Nat.gcd b.natAbs d.natAbs : Nat)) + -c * (b / (Nat.gcd b.natAbs d.natAbs : Nat))).natAbs : Int) b d (Nat.gcd b.natAbs d.natAbs) K
      else K 0 0 (chk2 a b c d)) : w_ratio_Sub a b c d K := by
  unfold w_ratio_Sub wv_ratio_Sub
  refine check_of ha hb hc hd ?_
  by_cases h : chk2 a b c d = 0
  · rw [if_pos h] at k
    have : (chk2 a b c d != (0 : Int)) = false := by rw [h]; rfl
    rw [this, cbr_false]
    obtain ⟨hab, hcd⟩ := chk2_zero.1 h
    obtain ⟨d1, d2, c1, c2, _⟩ := id hcd
    rw [wi64 (n := 0 - c) ⟨by omega, by omega⟩, Int.zero_sub]
    refine Add_of ha hb ⟨by omega, by omega⟩ hd ?_
    rw [if_pos (chk2_zero.2 ⟨hab, hcd.neg⟩)]
    exact k
  · rw [if_neg h] at k
    have : (chk2 a b c d != (0 : Int)) = true := by rw [bne_iff_ne]; exact h
    rw [this, cbr_true]
    exact k
end Go.Pf.Vc
namespace Go.Pf.Vc
open Go Go.Pf
def ints (l : List Int) : List PV := l.map (PV.int .i64)
theorem ints_len (l : List Int) : (ints l).length = l.length := List.length_map ..
theorem ints_at {l : List Int} {i : Nat} (h : i < l.length) : List.getD (ints l) i .nils = .int .i64 (l.getD i 0) := by
  unfold ints
  rw [List.getD_eq_getElem?_getD, List.getD_eq_getElem?_getD, List.getElem?_map, List.getElem?_eq_getElem h]
  rfl
theorem ints_iv {l : List Int} {i : Nat} (h : i < l.length) : intOfV (List.getD (ints l) i .nils) = l.getD i 0 := by
  rw [ints_at h]; rfl
theorem ints_conf {l : List Int} {i : Nat} (h : i < l.length) : conf (.one (.i .i64)) (List.getD (ints l) i .nils) = true := by
  rw [ints_at h]; rfl
theorem asr_of {c : Bool} {P : Prop} (h : c = true) (p : P) : asr c P := by rw [h, asr_true]; exact p
theorem asr_d {c : Prop} [Decidable c] {P : Prop} (h : c) (p : P) : asr (decide c) P := asr_of (decide_eq_true h) p
end Go.Pf.Vc
namespace Go.Pf.Vc
open Go Go.Pf
theorem cbr_d {c : Prop} [Decidable c] {P Q : Prop} (h : c) (p : P) : cbr (decide c) P Q := by rw [decide_eq_true h, cbr_true]; exact p
theorem cbr_n {c : Prop} [Decidable c] {P Q : Prop} (h : ¬ c) (q : Q) : cbr (decide c) P Q := by rw [decide_eq_false h, cbr_false]; exact q
def mnf (m x : Int) : Int := if x < m then x else m
theorem Min_loop {l : List Int} (hl : l.length < 9223372036854775807) (x0 : List PV → Int → Int → Bool → Prop) :
    ∀ (rest : List Int) (i : Nat) (m : Int) (n : Nat), l.drop i = rest → i ≤ l.length → rest.length < n → x0 (ints l) (rest.foldl mnf m) (l.length : Int) false →
      L_s_Min_int_int_0_0 x0 n (ints l) m (i : Int) := by
  intro rest
  induction rest with
  | nil =>
    intro i m n hd hi hn k
    have : i = l.length := by
      have := congrArg List.length hd
      rw [List.length_drop] at this
      have h2 : ([] : List Int).length = 0 := rfl
      omega
    match n, hn with
    | n + 1, _ =>
      unfold L_s_Min_int_int_0_0
      rw [ints_len, this]
      exact cbr_n (by omega) k
  | cons x t ih =>
    intro i m n hd hi hn k
    have hlt : i < l.length := by
      have := congrArg List.length hd
      rw [List.length_drop, List.length_cons] at this
      omega
    have hx : l.getD i 0 = x := by
      have := List.getElem_drop (xs := l) (i := i) (j := 0) (h := by rw [hd]; exact Nat.zero_lt_succ _)
      rw [List.getD_eq_getElem?_getD, List.getElem?_eq_getElem hlt]
      simp only [hd, List.getElem_cons_zero, Nat.add_zero] at this
      exact this.symm
    have ht : l.drop (i + 1) = t := by rw [← List.tail_drop, hd]; rfl
    match n, hn with
    | n + 1, hn =>
      unfold L_s_Min_int_int_0_0
      rw [ints_len]
      refine cbr_d (by omega) ?_
      refine asr_d (by omega) (asr_d (by omega) (asr_of (ints_conf (by omega)) ?_))
      rw [Int.toNat_natCast, ints_iv hlt, hx, wi64 (n := (i : Int) + 1) ⟨by omega, by omega⟩]
      exact ih (i + 1) _ n ht (by omega) (by rw [List.length_cons] at hn; omega) k
theorem Min_of {l : List Int} (hl : l.length < 9223372036854775807) {x : Int} {t : List Int} (e : l = x :: t) {K : Int → Prop} (k : K (t.foldl mnf x)) : w_s_Min_int_int (ints l) K := by
  have h0 : 0 < l.length := by rw [e]; exact Nat.zero_lt_succ _
  unfold w_s_Min_int_int wv_s_Min_int_int
  rw [ints_len]
  refine cbr_n (by omega) (asr_d (by omega) (asr_of (ints_conf h0) ⟨l.length + 1, ?_⟩))
  have e0 : l.getD 0 0 = x := by rw [e]; rfl
  rw [ints_iv h0, e0]
  refine Min_loop hl _ t 1 x _ (by rw [e]; rfl) (by omega) (by rw [e, List.length_cons]; omega) ?_
  exact k
def mxf (m x : Int) : Int := if x > m then x else m
theorem Max_loop {l : List Int} (hl : l.length < 9223372036854775807) (x0 : List PV → Int → Int → Bool → Prop) :
    ∀ (rest : List Int) (i : Nat) (m : Int) (n : Nat), l.drop i = rest → i ≤ l.length → rest.length < n → x0 (ints l) (rest.foldl mxf m) (l.length : Int) false →
      L_s_Max_int_int_0_0 x0 n (ints l) m (i : Int) := by
  intro rest
  induction rest with
  | nil =>
    intro i m n hd hi hn k
    have : i = l.length := by
      have := congrArg List.length hd
      rw [List.length_drop] at this
      have h2 : ([] : List Int).length = 0 := rfl
      omega
    match n, hn with
    | n + 1, _ =>
      unfold L_s_Max_int_int_0_0
      rw [ints_len, this]
      exact cbr_n (by omega) k
  | cons x t ih =>
    intro i m n hd hi hn k
    have hlt : i < l.length := by
      have := congrArg List.length hd
      rw [List.length_drop, List.length_cons] at this
      omega
    have hx : l.getD i 0 = x := by
      have := List.getElem_drop (xs := l) (i := i) (j := 0) (h := by rw [hd]; exact Nat.zero_lt_succ _)
      rw [List.getD_eq_getElem?_getD, List.getElem?_eq_getElem hlt]
      simp only [hd, List.getElem_cons_zero, Nat.add_zero] at this
      exact this.symm
    have ht : l.drop (i + 1) = t := by rw [← List.tail_drop, hd]; rfl
    match n, hn with
    | n + 1, hn =>
      unfold L_s_Max_int_int_0_0
      rw [ints_len]
      refine cbr_d (by omega) ?_
      refine asr_d (by omega) (asr_d (by omega) (asr_of (ints_conf (by omega)) ?_))
      rw [Int.toNat_natCast, ints_iv hlt, hx, wi64 (n := (i : Int) + 1) ⟨by omega, by omega⟩]
      exact ih (i + 1) _ n ht (by omega) (by rw [List.length_cons] at hn; omega) k
theorem Max_of {l : List Int} (hl : l.length < 9223372036854775807) {x : Int} {t : List Int} (e : l = x :: t) {K : Int → Prop} (k : K (t.foldl mxf x)) : w_s_Max_int_int (ints l) K := by
  have h0 : 0 < l.length := by rw [e]; exact Nat.zero_lt_succ _
  unfold w_s_Max_int_int wv_s_Max_int_int
  rw [ints_len]
  refine cbr_n (by omega) (asr_d (by omega) (asr_of (ints_conf h0) ⟨l.length + 1, ?_⟩))
  have e0 : l.getD 0 0 = x := by rw [e]; rfl
  rw [ints_iv h0, e0]
  refine Max_loop hl _ t 1 x _ (by rw [e]; rfl) (by omega) (by rw [e, List.length_cons]; omega) ?_
  exact k
end Go.Pf.Vc
namespace Go.Pf.Vc
open Go Go.Pf
def incr (l : List Int) (i : Nat) : Prop := ∀ j, i ≤ j → j + 1 < l.length → l.getD j 0 < l.getD (j + 1) 0
theorem Check_loop {l : List Int} {p2 : List PV} {p0 : Int} (hl : l.length < 9223372036854775807) (W1 W2 : List PV → (Int → Prop) → Prop) (x0 : Int → Prop) (x1 : Int → List PV → List PV → Int → Int → Bool → Prop) :
    ∀ (r i n : Nat), i + r + 1 = l.length → r < n → (incr l i → x1 p0 (ints l) p2 ((l.length : Int) - 1) ((l.length : Int) - 1) false) → (¬ incr l i → x0 8) →
      L_cake_Check_0_0 W1 W2 x0 x1 n p0 (ints l) p2 ((l.length : Int) - 1) (i : Int) := by
  intro r
  induction r with
  | zero =>
    intro i n hi hn k _
    match n, hn with
    | n + 1, _ =>
      unfold L_cake_Check_0_0
      have e : (i : Int) = (l.length : Int) - 1 := by omega
      refine cbr_n (by omega) ?_
      rw [e]
      exact k (fun j h1 h2 => by omega)
  | succ r ih =>
    intro i n hi hn k k0
    match n, hn with
    | n + 1, hn =>
      unfold L_cake_Check_0_0
      rw [wi64 (n := (i : Int) + 1) ⟨by omega, by omega⟩, ints_len]
      have e1 : ((i : Int) + 1) = ((i + 1 : Nat) : Int) := by omega
      rw [e1, Int.toNat_natCast, Int.toNat_natCast]
      refine cbr_d (by omega) (asr_d (by omega) (asr_d (by omega) (asr_of (ints_conf (by omega)) (asr_d (by omega) (asr_d (by omega) (asr_of (ints_conf (by omega)) ?_))))))
      rw [ints_iv (by omega), ints_iv (by omega)]
      by_cases h : l.getD i 0 ≥ l.getD (i + 1) 0
      · exact cbr_d h (k0 fun hc => absurd (hc i (Nat.le_refl _) (by omega)) (by omega))
      · refine cbr_n h (ih (i + 1) n (by omega) (by omega) (fun hc => k fun j h1 h2 => ?_) (fun hc => k0 fun hd => hc fun j h1 h2 => hd j (by omega) h2))
        by_cases hj : j = i
        · subst hj; omega
        · exact hc j (by omega) h2
end Go.Pf.Vc
namespace Go.Pf.Vc
open Go Go.Pf
def small (q : Rat) : Prop := -1000000000000000000 ≤ q.num ∧ q.num ≤ 1000000000000000000 ∧ (q.den : Int) ≤ 1000000000000000000
instance (q : Rat) : Decidable (small q) := by unfold small; infer_instance
theorem small.rv {q : Rat} (h : small q) : RV q.num q.den := by
  obtain ⟨h1, h2, h3⟩ := h
  have := q.den_pos
  exact ⟨by omega, h3, h1, h2, q.reduced⟩
theorem rv_rat {n d : Int} (h : RV n d) : ∃ q : Rat, small q ∧ q.num = n ∧ (q.den : Int) = d := by
  obtain ⟨h1, h2, h3, h4, h5⟩ := h
  refine ⟨⟨n, d.toNat, by omega, ?_⟩, ⟨h3, h4, by show ((d.toNat : Nat) : Int) ≤ _; omega⟩, rfl, by show ((d.toNat : Nat) : Int) = _; omega⟩
  have : d.natAbs = d.toNat := by omega
  rw [this] at h5
  exact h5
theorem small.i1 {q : Rat} (h : small q) : I64 q.num := ⟨by have := h.1; omega, by have := h.2.1; omega⟩
theorem small.i2 {q : Rat} (h : small q) : I64 (q.den : Int) := ⟨by omega, by have := h.2.2; omega⟩
theorem small_chk2 {q r : Rat} (h : small q) (k : small r) : chk2 q.num q.den r.num r.den = 0 := chk2_zero.2 ⟨h.rv, k.rv⟩
def fitK (q : Rat) (K : Int → Int → Int → Prop) : Prop := if small q then K q.num q.den 0 else K 0 0 16
theorem outS_fit {q : Rat} {s : Bool} {a b : Int} (ha : a = (q.num.natAbs : Int)) (hb : b = (q.den : Int)) (hs : q.num ≠ 0 → s = decide (q.num < 0)) (K : Int → Int → Int → Prop) : outS s a b K = fitK q K := by
  unfold outS fitK
  subst ha hb
  by_cases h : small q
  · have h' := h
    obtain ⟨h1, h2, h3⟩ := h
    rw [if_pos (show _ ∧ _ from ⟨by omega, h3⟩), if_pos h']
    have e : (if s = true then -((q.num.natAbs : Nat) : Int) else ((q.num.natAbs : Nat) : Int)) = q.num := by
      by_cases h0 : q.num = 0
      · rw [h0]; cases s <;> rfl
      · rw [hs h0]
        by_cases h1 : q.num < 0
        · rw [decide_eq_true h1, if_pos rfl]; omega
        · rw [decide_eq_false h1, if_neg (by simp)]; omega
    rw [e]
  · rw [if_neg h, if_neg]
    intro h2
    exact h ⟨by omega, by omega, h2.2⟩
theorem tdiv_nat (x : Int) (g : Nat) : (Int.tdiv x g).natAbs = x.natAbs / g := by rw [Int.natAbs_tdiv, Int.natAbs_natCast]; rfl
theorem sign_tdiv {x : Int} {g : Nat} (h : (g : Int) ∣ x) (hx : x ≠ 0) : decide (Int.tdiv x g < 0) = decide (x < 0) := by
  obtain ⟨k, rfl⟩ := h
  have hg : (g : Int) ≠ 0 := fun e => hx (by rw [e, Int.zero_mul])
  rw [Int.mul_tdiv_cancel_left _ hg]
  have h1 : (g : Int) > 0 := by have := Int.natCast_nonneg g; omega
  have : (g : Int) * k < 0 ↔ k < 0 := by
    constructor
    · intro h; refine Int.not_le.1 fun hk => ?_
      have := Int.mul_nonneg (show 0 ≤ (g : Int) by omega) hk
      omega
    · intro h; exact Int.mul_neg_of_pos_of_neg h1 h
  simp only [this]
theorem mul_parts (q r : Rat) : (q * r).num = Int.tdiv q.num (Nat.gcd q.num.natAbs r.den) * Int.tdiv r.num (Nat.gcd r.num.natAbs q.den) ∧
    (q * r).den = (q.den / Nat.gcd r.num.natAbs q.den) * (r.den / Nat.gcd q.num.natAbs r.den) := by
  have e : q * r = Rat.mul q r := rfl
  rw [e]
  delta Rat.mul
  constructor
  · simp only [Int.divExact_eq_tdiv]
  · simp only [Nat.divExact_eq_div]
theorem dvd_gcd_l (x : Int) (d : Nat) : ((Nat.gcd x.natAbs d : Nat) : Int) ∣ x := by
  rw [← Int.dvd_natAbs, Int.ofNat_dvd]; exact Nat.gcd_dvd_left _ _
theorem tdiv_ne {x : Int} {g : Nat} (h : (g : Int) ∣ x) (hx : x ≠ 0) : Int.tdiv x g ≠ 0 := by
  obtain ⟨k, rfl⟩ := h
  have hg : (g : Int) ≠ 0 := fun e => hx (by rw [e, Int.zero_mul])
  rw [Int.mul_tdiv_cancel_left _ hg]
  intro e; rw [e, Int.mul_zero] at hx; exact hx rfl
theorem sign_mul {x y : Int} (hx : x ≠ 0) (hy : y ≠ 0) : decide (x * y < 0) = (decide (x < 0) != decide (y < 0)) := by
  by_cases h1 : x < 0 <;> by_cases h2 : y < 0
  · have := Int.mul_pos_of_neg_of_neg h1 h2
    simp [h1, h2]; omega
  · have := Int.mul_neg_of_neg_of_pos h1 (show 0 < y by omega)
    simp [h1, h2]; omega
  · have := Int.mul_neg_of_pos_of_neg (show 0 < x by omega) h2
    simp [h1, h2]; omega
  · have := Int.mul_pos (show 0 < x by omega) (show 0 < y by omega)
    simp [h1, h2]; omega
theorem mul_fit (q r : Rat) (K : Int → Int → Int → Prop) : outS (decide (q.num < 0) != decide (r.num < 0)) (numM q.num r.num q.den r.den) (denM q.num r.num q.den r.den) K = fitK (q * r) K := by
  obtain ⟨e1, e2⟩ := mul_parts q r
  refine outS_fit ?_ ?_ ?_ K
  · rw [e1, Int.natAbs_mul, tdiv_nat, tdiv_nat]
    simp only [numM, Int.natAbs_natCast]
  · rw [e2]
    simp only [denM, Int.natAbs_natCast]
  · intro h
    rw [e1] at h ⊢
    have h1 : q.num ≠ 0 := fun e => h (by rw [e, Int.zero_tdiv, Int.zero_mul])
    have h2 : r.num ≠ 0 := fun e => h (by rw [e, Int.zero_tdiv, Int.mul_zero])
    rw [sign_mul (tdiv_ne (dvd_gcd_l _ _) h1) (tdiv_ne (dvd_gcd_l _ _) h2), sign_tdiv (dvd_gcd_l _ _) h1, sign_tdiv (dvd_gcd_l _ _) h2]
theorem det_fit {w : (Int → Int → Int → Prop) → Prop} {q : Rat} (det : ∀ r0 r1 r2, (∀ K : Int → Int → Int → Prop, K r0 r1 r2 → w K) → ∀ K, w K = K r0 r1 r2) (h : ∀ K, fitK q K → w K) (K : Int → Int → Int → Prop) : w K = fitK q K := by
  unfold fitK at h ⊢
  by_cases hs : small q
  · simp only [if_pos hs] at h ⊢
    exact det _ _ _ h K
  · simp only [if_neg hs] at h ⊢
    exact det _ _ _ h K
theorem rMul_eq {q r : Rat} (hq : small q) (hr : small r) (K : Int → Int → Int → Prop) : w_ratio_Mul q.num q.den r.num r.den K = fitK (q * r) K :=
  det_fit (fun r0 r1 r2 h K => det_ratio_Mul _ _ _ _ r0 r1 r2 h K) (fun K k => Mul_of hq.i1 hq.i2 hr.i1 hr.i2 (by rw [if_pos (small_chk2 hq hr), mul_fit]; exact k)) K
theorem inv_parts {r : Rat} (h : r ≠ 0) : (r⁻¹).num = (if r.num < 0 then -(r.den : Int) else r.den) ∧ (r⁻¹).den = r.num.natAbs := by
  have h0 : r.num ≠ 0 := fun e => h (Rat.num_eq_zero.1 e)
  constructor
  · rw [Rat.num_inv]
    by_cases h1 : r.num < 0
    · rw [if_pos h1, Int.sign_eq_neg_one_of_neg h1]; omega
    · rw [if_neg h1, Int.sign_eq_one_of_pos (by omega)]; omega
  · rw [Rat.den_inv, if_neg h0]
theorem rDiv_eq {q r : Rat} (hq : small q) (hr : small r) (h0 : r ≠ 0) (K : Int → Int → Int → Prop) : w_ratio_Div q.num q.den r.num r.den K = fitK (q / r) K := by
  have hn : r.num ≠ 0 := fun e => h0 (Rat.num_eq_zero.1 e)
  refine det_fit (fun r0 r1 r2 h K => det_ratio_Div _ _ _ _ r0 r1 r2 h K) (fun K k => Div_of hq.i1 hq.i2 hr.i1 hr.i2 ?_) K
  rw [if_pos (small_chk2 hq hr), if_neg hn]
  rw [Rat.div_def, ← mul_fit] at k
  obtain ⟨e1, e2⟩ := inv_parts h0
  rw [e1, e2] at k
  have s : decide ((if r.num < 0 then -(r.den : Int) else (r.den : Int)) < 0) = decide (r.num < 0) := by
    have := r.den_pos
    split
    · rename_i h; simp only [h]; simp; omega
    · rename_i h; simp only [h]; simp
  rw [s] at k
  have hd : (if r.num < 0 then -(r.den : Int) else (r.den : Int)).natAbs = r.den := by split <;> omega
  unfold numM denM at k ⊢
  simp only [hd, Int.natAbs_natCast] at k ⊢
  exact k
end Go.Pf.Vc
namespace Go.Pf.Vc
open Go Go.Pf
theorem add_parts (q r : Rat) : (q + r).num = (q.num * (r.den / Nat.gcd q.den r.den : Nat) + r.num * (q.den / Nat.gcd q.den r.den : Nat)) / (Nat.gcd (q.num * (r.den / Nat.gcd q.den r.den : Nat) + r.num * (q.den / Nat.gcd q.den r.den : Nat)).natAbs (Nat.gcd q.den r.den) : Nat) ∧
    (q + r).den = (q.den / Nat.gcd q.den r.den) * r.den / Nat.gcd (q.num * (r.den / Nat.gcd q.den r.den : Nat) + r.num * (q.den / Nat.gcd q.den r.den : Nat)).natAbs (Nat.gcd q.den r.den) := by
  have e : q + r = Rat.add q r := rfl
  rw [e]
  delta Rat.add
  by_cases hg : q.den.gcd r.den = 1
  · simp only [hg, dif_pos, Nat.div_one, Nat.gcd_one_right, Int.natCast_one, Int.ediv_one, and_self]
  · simp only [hg, dif_neg, not_false_eq_true, Rat.maybeNormalize_eq]
    constructor
    · first | rfl | simp only [Int.divExact_eq_tdiv]
    · first | rfl | simp only []
theorem outA_fit {q r : Rat} {Z : Int} {g : Nat} (e1 : (q + r).num = Z / (Nat.gcd Z.natAbs g : Nat)) (e2 : (q + r).den = (q.den / g) * r.den / Nat.gcd Z.natAbs g) (hgp : 0 < g) (hgd : g ∣ r.den) (K : Int → Int → Int → Prop) :
    outA (decide (Z < 0)) (Z.natAbs : Int) q.den r.den g K = fitK (q + r) K := by
  unfold outA
  by_cases h0 : Z = 0
  · subst h0
    have : (q + r) = 0 := by
      apply Rat.num_eq_zero.1
      rw [e1]; simp
    rw [this, if_pos (by rfl)]
    unfold fitK
    rw [if_pos (by decide)]; rfl
  · have hne : ¬ ((Z.natAbs : Nat) : Int) = 0 := by omega
    rw [if_neg hne]
    have hdv : ((Nat.gcd Z.natAbs g : Nat) : Int) ∣ Z := dvd_gcd_l _ _
    have hhp : 0 < Nat.gcd Z.natAbs g := Nat.gcd_pos_of_pos_right _ hgp
    have hhg : Nat.gcd Z.natAbs g ∣ r.den := Nat.dvd_trans (Nat.gcd_dvd_right _ _) hgd
    refine outS_fit ?_ ?_ ?_ K
    · rw [e1, Int.natAbs_ediv_of_dvd hdv]; simp
    · rw [e2]; simp only [Int.toNat_natCast]; rw [Nat.mul_div_assoc _ hhg]
    · intro h
      rw [e1]
      obtain ⟨k, hk⟩ := hdv
      revert hhp hk
      generalize Nat.gcd Z.natAbs g = h
      intro hhp hk
      have e : Z / (h : Int) = k := by rw [hk, Int.mul_ediv_cancel_left _ (by omega)]
      rw [e]
      have : Z < 0 ↔ k < 0 := by
        rw [hk]
        constructor
        · intro hk; refine Int.not_le.1 fun hk2 => ?_
          have := Int.mul_nonneg (show 0 ≤ (h : Int) by omega) hk2
          omega
        · intro hk; exact Int.mul_neg_of_pos_of_neg (by omega) hk
      simp only [this]
theorem add_fit (q r : Rat) (K : Int → Int → Int → Prop) :
    outA (decide (q.num * ((r.den : Int) / (Nat.gcd (q.den : Int).natAbs (r.den : Int).natAbs : Nat)) + r.num * ((q.den : Int) / (Nat.gcd (q.den : Int).natAbs (r.den : Int).natAbs : Nat)) < 0))
      ((q.num * ((r.den : Int) / (Nat.gcd (q.den : Int).natAbs (r.den : Int).natAbs : Nat)) + r.num * ((q.den : Int) / (Nat.gcd (q.den : Int).natAbs (r.den : Int).natAbs : Nat))).natAbs : Int) q.den r.den (Nat.gcd (q.den : Int).natAbs (r.den : Int).natAbs) K = fitK (q + r) K := by
  obtain ⟨e1, e2⟩ := add_parts q r
  rw [Int.natCast_ediv, Int.natCast_ediv] at e1 e2
  exact outA_fit e1 e2 (Nat.gcd_pos_of_pos_left _ q.den_pos) (Nat.gcd_dvd_right _ _) K
theorem rAdd_eq {q r : Rat} (hq : small q) (hr : small r) (K : Int → Int → Int → Prop) : w_ratio_Add q.num q.den r.num r.den K = fitK (q + r) K :=
  det_fit (fun r0 r1 r2 h K => det_ratio_Add _ _ _ _ r0 r1 r2 h K) (fun K k => Add_of hq.i1 hq.i2 hr.i1 hr.i2 (by rw [if_pos (small_chk2 hq hr), add_fit]; exact k)) K
theorem rSub_eq {q r : Rat} (hq : small q) (hr : small r) (K : Int → Int → Int → Prop) : w_ratio_Sub q.num q.den r.num r.den K = fitK (q - r) K :=
  det_fit (fun r0 r1 r2 h K => det_ratio_Sub _ _ _ _ r0 r1 r2 h K) (fun K k => Sub_of hq.i1 hq.i2 hr.i1 hr.i2 (by
    rw [if_pos (small_chk2 hq hr)]
    rw [Rat.sub_eq_add_neg, ← add_fit] at k
    exact k)) K
theorem make_fit {n d : Int} (hd : d ≠ 0) (K : Int → Int → Int → Prop) : outS (decide (n < 0) != decide (d < 0)) ((n.natAbs / Nat.gcd n.natAbs d.natAbs : Nat) : Int) ((d.natAbs / Nat.gcd n.natAbs d.natAbs : Nat) : Int) K = fitK ((n : Rat) / (d : Rat)) K := by
  have e : (n : Rat) / (d : Rat) = mkRat (if d < 0 then -n else n) d.natAbs := by
    rw [Rat.mkRat_eq_div]
    split
    · rename_i h
      have h1 : ((d.natAbs : Nat) : Int) = -d := by omega
      have h2 : ((d.natAbs : Nat) : Rat) = -(d : Rat) := by rw [← Rat.intCast_natCast, h1, Rat.intCast_neg]
      rw [h2, Rat.intCast_neg]
      have h3 : (d : Rat) ≠ 0 := fun e => hd (Rat.intCast_eq_zero_iff.1 e)
      grind
    · rename_i h
      have h1 : ((d.natAbs : Nat) : Int) = d := by omega
      have h2 : ((d.natAbs : Nat) : Rat) = (d : Rat) := by rw [← Rat.intCast_natCast, h1]
      rw [h2]
  have h0 : d.natAbs ≠ 0 := by omega
  have hab : (if d < 0 then -n else n).natAbs = n.natAbs := by split <;> omega
  rw [e]
  refine outS_fit ?_ ?_ ?_ K
  · rw [Rat.num_mkRat, if_neg h0, hab, Int.natAbs_ediv_of_dvd, Int.natAbs_natCast, hab, Nat.gcd_comm]
    rw [← Int.dvd_natAbs, Int.ofNat_dvd, hab]; exact Nat.gcd_dvd_right _ _
  · rw [Rat.den_mkRat, if_neg h0, hab, Nat.gcd_comm]
  · rw [Rat.num_mkRat, if_neg h0, hab]
    have hdv : ((Nat.gcd d.natAbs n.natAbs : Nat) : Int) ∣ (if d < 0 then -n else n) := by
      rw [← Int.dvd_natAbs, Int.ofNat_dvd, hab]; exact Nat.gcd_dvd_right _ _
    have hp : 0 < Nat.gcd d.natAbs n.natAbs := Nat.gcd_pos_of_pos_left _ (by omega)
    obtain ⟨k, hk⟩ := hdv
    rw [hk, Int.mul_ediv_cancel_left _ (by omega)]
    intro hk0
    generalize Nat.gcd d.natAbs n.natAbs = g at *
    have h1 : (g : Int) * k < 0 ↔ k < 0 := by
      constructor
      · intro hk; refine Int.not_le.1 fun hk2 => ?_
        have := Int.mul_nonneg (show 0 ≤ (g : Int) by omega) hk2
        omega
      · intro hk; exact Int.mul_neg_of_pos_of_neg (by omega) hk
    have h2 : (g : Int) * k ≠ 0 := fun e => by rcases Int.mul_eq_zero.1 e with e | e <;> omega
    by_cases hd2 : d < 0
    · rw [if_pos hd2] at hk
      by_cases hn : n < 0
      · have : ¬ k < 0 := by omega
        simp [hd2, hn, this]
      · have : k < 0 := by omega
        simp [hd2, this]; omega
    · rw [if_neg hd2] at hk
      by_cases hn : n < 0
      · have : k < 0 := by omega
        simp [hd2, hn, this]
      · have : ¬ k < 0 := by omega
        simp [hd2, this]; omega
theorem rMake_eq {n d : Int} (hn : I64 n) (hd : I64 d) (h0 : d ≠ 0) (K : Int → Int → Int → Prop) : w_ratio_Make n d K = fitK ((n : Rat) / (d : Rat)) K :=
  det_fit (fun r0 r1 r2 h K => det_ratio_Make _ _ r0 r1 r2 h K) (fun K k => Make_of hn hd (by rw [if_neg h0, make_fit h0]; exact k)) K
def cmpQ (q r : Rat) : Int := if q < r then -1 else if r < q then 1 else 0
theorem cmpR_eq (q r : Rat) : cmpR q.num q.den r.num r.den = cmpQ q r := by
  unfold cmpR cmp3 cmpQ
  simp only [Rat.lt_iff]
theorem rCmp_eq {q r : Rat} (hq : small q) (hr : small r) (K : Int → Int → Prop) : w_ratio_Cmp q.num q.den r.num r.den K = K (cmpQ q r) 0 :=
  det_ratio_Cmp _ _ _ _ _ _ (fun K k => Cmp_of hq.i1 hq.i2 hr.i1 hr.i2 (by rw [small_chk2 hq hr, if_pos rfl, cmpR_eq]; exact k)) K
theorem rCheck_eq {n d : Int} (hn : I64 n) (hd : I64 d) (K : Int → Prop) : w_ratio_Check n d K = K (chk n d) :=
  det_ratio_Check _ _ _ (fun _ k => Check_of hn hd k) K
end Go.Pf.Vc
namespace Go.Pf.Vc
open Go Go.Pf
theorem bne_f {a b : Int} (h : a = b) : (a != b) = false := by simp [h]
theorem bne_t {a b : Int} (h : a ≠ b) : (a != b) = true := by simp [h]
theorem beq_f {a b : Int} (h : a ≠ b) : (a == b) = false := by simp [h]
theorem beq_t {a b : Int} (h : a = b) : (a == b) = true := by simp [h]
end Go.Pf.Vc
namespace Go.Pf.Vc
open Go Go.Pf
theorem small.neg {q : Rat} (hq : small q) : small (-q) := by
  obtain ⟨a1, a2, a3⟩ := hq
  unfold small
  rw [Rat.neg_num, Rat.neg_den]
  omega
end Go.Pf.Vc
namespace Go.Pf.Vc
open Go Go.Pf
theorem cbT {c : Prop} [Decidable c] {P Q : Prop} (h : c) : cbr (decide c) P Q = P := by rw [decide_eq_true h, cbr_true]
theorem cbF {c : Prop} [Decidable c] {P Q : Prop} (h : ¬ c) : cbr (decide c) P Q = Q := by rw [decide_eq_false h, cbr_false]
theorem cnT {a b : Int} {P Q : Prop} (h : a ≠ b) : cbr (a != b) P Q = P := by rw [bne_t h, cbr_true]
theorem cnF {a b : Int} {P Q : Prop} (h : a = b) : cbr (a != b) P Q = Q := by rw [bne_f h, cbr_false]
theorem ceT {a b : Int} {P Q : Prop} (h : a = b) : cbr (a == b) P Q = P := by rw [beq_t h, cbr_true]
theorem ceF {a b : Int} {P Q : Prop} (h : a ≠ b) : cbr (a == b) P Q = Q := by rw [beq_f h, cbr_false]
theorem asT {c : Prop} [Decidable c] {P : Prop} (h : c) : asr (decide c) P = P := by rw [decide_eq_true h, asr_true]
theorem asC {l : List Int} {i : Nat} {P : Prop} (h : i < l.length) : asr (conf (.one (.i .i64)) (List.getD (ints l) i .nils)) P = P := by rw [ints_conf h, asr_true]
theorem wib {n : Int} (h1 : -9223372036854775808 ≤ n) (h2 : n ≤ 9223372036854775807) : IntKind.i64.wrap n = n := wi64 ⟨h1, h2⟩
theorem cast1 (i : Nat) : (i : Int) + 1 = ((i + 1 : Nat) : Int) := by omega
theorem small_int {x : Int} (h : -1000000000000000000 ≤ x ∧ x ≤ 1000000000000000000) : small (x : Rat) := by
  unfold small
  rw [Rat.num_intCast, Rat.den_intCast]
  omega
def allD (dens : List Int) : Prop := ∀ d ∈ dens, 0 ≤ d ∧ d ≤ 12
def someD (dens : List Int) : Prop := ∃ d ∈ dens, 0 < d
instance (l : List Int) : Decidable (allD l) := by unfold allD; infer_instance
instance (l : List Int) : Decidable (someD l) := by unfold someD; infer_instance
def VC (len : Int) (cuts dens : List Int) : Prop :=
  1 ≤ len ∧ len ≤ 1000 ∧ 2 ≤ cuts.length ∧ cuts.length ≤ 40 ∧ dens.length + 1 = cuts.length ∧ cuts.getD 0 0 = 0 ∧ cuts.getD (cuts.length - 1) 0 = len ∧ incr cuts 0 ∧ allD dens ∧ someD dens
theorem incr_iff (l : List Int) : incr l 0 ↔ ∀ j, j < l.length → j + 1 < l.length → l.getD j 0 < l.getD (j + 1) 0 := ⟨fun h j _ h2 => h j (by omega) h2, fun h j _ h2 => h j (by omega) h2⟩
instance (l : List Int) : Decidable (incr l 0) := decidable_of_iff _ (incr_iff l).symm
instance (len : Int) (cuts dens : List Int) : Decidable (VC len cuts dens) := by unfold VC; infer_instance
def ckC (len : Int) (cuts dens : List Int) : Int := if len > 1000 ∨ cuts.length > 40 then 4 else if VC len cuts dens then 0 else 8
theorem mnf_all (l : List Int) (x : Int) : (l.foldl mnf x < 0) ↔ ¬ (∀ d ∈ x :: l, 0 ≤ d) := by
  induction l generalizing x with
  | nil => simp
  | cons y t ih =>
    rw [List.foldl_cons, ih]
    unfold mnf
    simp only [List.forall_mem_cons]
    split
    · constructor
      · intro h h2; exact h ⟨h2.2.1, h2.2.2⟩
      · intro h h2; exact h ⟨by omega, h2.1, h2.2⟩
    · constructor
      · intro h h2; exact h ⟨h2.1, h2.2.2⟩
      · intro h h2; exact h ⟨h2.1, by omega, h2.2⟩
theorem mxf_all (l : List Int) (x k : Int) : (l.foldl mxf x > k) ↔ ¬ (∀ d ∈ x :: l, d ≤ k) := by
  induction l generalizing x with
  | nil => simp
  | cons y t ih =>
    rw [List.foldl_cons, ih]
    unfold mxf
    simp only [List.forall_mem_cons]
    split
    · constructor
      · intro h h2; exact h ⟨h2.2.1, h2.2.2⟩
      · intro h h2; exact h ⟨by omega, h2.1, h2.2⟩
    · constructor
      · intro h h2; exact h ⟨h2.1, h2.2.2⟩
      · intro h h2; exact h ⟨h2.1, by omega, h2.2⟩
theorem cCheck_eq {len : Int} {cuts dens : List Int} (h1 : cuts.length < 4611686018427387904) (h2 : dens.length < 4611686018427387904) (K : Int → Prop) :
    w_cake_Check len (ints cuts) (ints dens) K = K (ckC len cuts dens) := by
  refine det_cake_Check _ _ _ _ (fun K k => ?_) K
  unfold w_cake_Check wv_cake_Check
  simp only [ints_len]
  have bad : ¬ (len > 1000 ∨ cuts.length > 40) → ¬ VC len cuts dens → K 8 := fun h h2 => by
    rw [ckC, if_neg h, if_neg h2] at k; exact k
  by_cases a1 : len > 1000
  · rw [cbT a1]; rw [ckC, if_pos (.inl a1)] at k; exact k
  rw [cbF a1]
  by_cases a2 : cuts.length > 40
  · rw [cbT (by omega)]; rw [ckC, if_pos (.inr a2)] at k; exact k
  have a12 : ¬ (len > 1000 ∨ cuts.length > 40) := by omega
  rw [cbF (by omega)]
  by_cases a3 : len < 1
  · rw [cbT a3]; exact bad a12 (fun h => by have := h.1; omega)
  rw [cbF a3]
  by_cases a4 : cuts.length < 2
  · rw [cbT (by omega)]; exact bad a12 (fun h => by have := h.2.2.1; omega)
  rw [cbF (by omega), wib (n := (cuts.length : Int) - 1) (by omega) (by omega)]
  by_cases a5 : dens.length + 1 = cuts.length
  case neg => rw [cnT (by omega)]; exact bad a12 (fun h => a5 h.2.2.2.2.1)
  rw [cnF (by omega), asT (by omega), asC (by omega), ints_iv (by omega)]
  by_cases a6 : cuts.getD 0 0 = 0
  case neg => rw [cnT a6]; exact bad a12 (fun h => a6 h.2.2.2.2.2.1)
  rw [cnF a6, asT (by omega), asT (by omega), asC (by omega), ints_iv (by omega)]
  have en : ((cuts.length : Int) - 1).toNat = cuts.length - 1 := by omega
  rw [en]
  by_cases a7 : cuts.getD (cuts.length - 1) 0 = len
  case neg => rw [cnT a7]; exact bad a12 (fun h => a7 h.2.2.2.2.2.2.1)
  rw [cnF a7]
  refine ⟨cuts.length + 1, ?_⟩
  refine Check_loop (by omega) _ _ _ _ (cuts.length - 1) 0 _ (by omega) (by omega) (fun hi => ?_) (fun hi => bad a12 (fun h => hi h.2.2.2.2.2.2.2.1))
  obtain ⟨x, t, e⟩ : ∃ x t, dens = x :: t := by
    cases dens with
    | nil => exfalso; have : ([] : List Int).length = 0 := rfl; omega
    | cons x t => exact ⟨x, t, rfl⟩
  refine Min_of (by omega) e ?_
  by_cases b1 : t.foldl mnf x < 0
  · rw [cbT b1]
    rw [mnf_all] at b1
    exact bad a12 (fun h => b1 fun d hd => (h.2.2.2.2.2.2.2.2.1 d (by rw [e]; exact hd)).1)
  rw [cbF b1]
  refine Max_of (by omega) e ?_
  by_cases b2 : t.foldl mxf x > 12
  · rw [cbT b2]
    rw [mxf_all] at b2
    exact bad a12 (fun h => b2 fun d hd => (h.2.2.2.2.2.2.2.2.1 d (by rw [e]; exact hd)).2)
  rw [cbF b2]
  refine Max_of (by omega) e ?_
  have c1 : ∀ d ∈ dens, 0 ≤ d := by rw [mnf_all, Classical.not_not, ← e] at b1; exact b1
  have c2 : ∀ d ∈ dens, d ≤ 12 := by rw [mxf_all, Classical.not_not, ← e] at b2; exact b2
  by_cases b3 : t.foldl mxf x = 0
  · rw [ceT b3]
    refine bad a12 (fun h => ?_)
    obtain ⟨d, hd, h0⟩ := h.2.2.2.2.2.2.2.2.2
    have : ¬ (t.foldl mxf x > 0) := by omega
    rw [mxf_all, Classical.not_not, ← e] at this
    have := this d hd
    omega
  · rw [ceF b3]
    have b4 : t.foldl mxf x > 0 := by
      refine Int.not_le.1 fun hle => b3 ?_
      have : t.foldl mxf x > -1 := by
        rw [mxf_all]
        intro h
        have h1 := h x (List.mem_cons_self ..)
        have h2 := c1 x (by rw [e]; exact List.mem_cons_self ..)
        omega
      omega
    rw [mxf_all, ← e] at b4
    have b5 : someD dens := by
      refine Classical.byContradiction fun hn => b4 fun d hd => ?_
      exact Int.not_lt.1 fun hlt => hn ⟨d, hd, hlt⟩
    rw [ckC, if_neg a12, if_pos ⟨by omega, by omega, by omega, by omega, a5, a6, a7, hi, fun d hd => ⟨c1 d hd, c2 d hd⟩, b5⟩] at k
    exact k
theorem whole_eq (n : Int) (K : Int → Int → Prop) : w_cake_whole n K = K (n : Rat).num (n : Rat).den := rfl
theorem cless_eq {q r : Rat} (hq : small q) (hr : small r) (K : Bool → Prop) : w_cake_less q.num q.den r.num r.den K = K (decide (q < r)) := by
  unfold w_cake_less wv_cake_less
  rw [rCmp_eq hq hr]
  congr 1
  rw [decide_eq_decide, cmpQ]
  by_cases h : q < r
  · simp [h]
  · by_cases h2 : r < q <;> simp [h, h2]
def PT (len : Int) (n d : Int) : Prop := RV n d ∧ 0 ≤ n ∧ n ≤ len * d
instance (len n d : Int) : Decidable (PT len n d) := by unfold PT; infer_instance
theorem PT_rat {len n d : Int} (h : PT len n d) : ∃ q : Rat, small q ∧ q.num = n ∧ (q.den : Int) = d ∧ 0 ≤ q ∧ q ≤ (len : Rat) := by
  obtain ⟨h1, h2, h3⟩ := h
  obtain ⟨q, e1, e2, e3⟩ := rv_rat h1
  refine ⟨q, e1, e2, e3, ?_, ?_⟩
  · rw [← Rat.num_nonneg, e2]; exact h2
  · rw [Rat.le_iff, e2, e3, Rat.num_intCast, Rat.den_intCast]; simpa using h3
theorem int_lt_iff (x : Int) (q : Rat) : ((x : Rat) < q) ↔ x * (q.den : Int) < q.num := by
  rw [Rat.lt_iff, Rat.num_intCast, Rat.den_intCast]; simp
theorem point_eq {len : Int} (hl : -1000000000000000000 ≤ len ∧ len ≤ 1000000000000000000) {n d : Int} (hn : I64 n) (hd : I64 d) (a b : List PV) (K : Bool → Prop) :
    w_cake_point len a b n d K = K (decide (PT len n d)) := by
  unfold w_cake_point wv_cake_point
  rw [rCheck_eq hn hd]
  by_cases h : RV n d
  · obtain ⟨q, e1, e2, e3⟩ := rv_rat h
    rw [chk, if_pos h, ceT rfl]
    by_cases h0 : n ≥ 0
    · rw [cbT h0, whole_eq, ← e2, ← e3, cless_eq (small_int hl) e1]
      congr 1
      have : ((len : Rat) < q) ↔ len * (q.den : Int) < q.num := int_lt_iff _ _
      by_cases h3 : (len : Rat) < q
      · have h4 := this.1 h3
        rw [decide_eq_true h3, decide_eq_false]; rfl
        intro hp; have := hp.2.2; omega
      · have h4 : ¬ _ := fun x => h3 (this.2 x)
        rw [decide_eq_false h3, decide_eq_true]; rfl
        exact ⟨e1.rv, by omega, by omega⟩
    · rw [cbF h0, decide_eq_false]
      intro hp; have := hp.2.1; omega
  · rw [chk, if_neg h, ceF (by decide), decide_eq_false]
    intro hp; exact h hp.1
end Go.Pf.Vc
namespace Go.Pf.Vc
open Go Go.Pf
section
variable {len : Int} {cuts dens : List Int}
theorem VC.step (h : VC len cuts dens) {i : Nat} (hi : i + 1 < cuts.length) : cuts.getD i 0 < cuts.getD (i + 1) 0 := h.2.2.2.2.2.2.2.1 i (Nat.zero_le _) hi
theorem VC.mono (h : VC len cuts dens) {i : Nat} : ∀ {j : Nat}, i ≤ j → j < cuts.length → cuts.getD i 0 ≤ cuts.getD j 0
  | 0, hij, _ => by have : i = 0 := by omega
                    subst this; exact Int.le_refl _
  | j + 1, hij, hj => by
    by_cases e : i = j + 1
    · subst e; exact Int.le_refl _
    · have h1 := h.mono (i := i) (j := j) (by omega) (by omega)
      have h2 := h.step (i := j) hj
      omega
theorem VC.lo (h : VC len cuts dens) {i : Nat} (hi : i < cuts.length) : 0 ≤ cuts.getD i 0 := by
  have := h.mono (Nat.zero_le i) hi
  rw [h.2.2.2.2.2.1] at this; exact this
theorem VC.hi (h : VC len cuts dens) {i : Nat} (hi : i < cuts.length) : cuts.getD i 0 ≤ len := by
  have := h.mono (i := i) (j := cuts.length - 1) (by omega) (by omega)
  rw [h.2.2.2.2.2.2.1] at this; exact this
theorem VC.den (h : VC len cuts dens) {i : Nat} (hi : i < dens.length) : 0 ≤ dens.getD i 0 ∧ dens.getD i 0 ≤ 12 := by
  rw [List.getD_eq_getElem?_getD, List.getElem?_eq_getElem hi]
  exact h.2.2.2.2.2.2.2.2.1 _ (List.getElem_mem hi)
theorem VC.l1 (h : VC len cuts dens) : dens.length + 1 = cuts.length := h.2.2.2.2.1
theorem VC.l2 (h : VC len cuts dens) : cuts.length ≤ 40 := h.2.2.2.1
theorem VC.len0 (h : VC len cuts dens) : 1 ≤ len ∧ len ≤ 1000 := ⟨h.1, h.2.1⟩
theorem VC.sc (h : VC len cuts dens) {i : Nat} (hi : i < cuts.length) : small ((cuts.getD i 0 : Int) : Rat) := small_int (by have := h.lo hi; have := h.hi hi; have := h.len0; omega)
theorem VC.sd (h : VC len cuts dens) {i : Nat} (hi : i < dens.length) : small ((dens.getD i 0 : Int) : Rat) := small_int (by have := h.den hi; omega)
theorem ckC_zero (h : ckC len cuts dens = 0) : VC len cuts dens := by
  unfold ckC at h
  split at h
  · omega
  · split at h
    · assumption
    · omega
theorem VC.ck (h : VC len cuts dens) : ckC len cuts dens = 0 := by
  rw [ckC, if_neg (by have := h.l2; have := h.len0; omega), if_pos h]
def totS (cuts dens : List Int) : Nat → Nat → Int → Int
  | 0, _, s => s
  | r + 1, i, s => totS cuts dens r (i + 1) (s + dens.getD i 0 * (cuts.getD (i + 1) 0 - cuts.getD i 0))
def totC (cuts dens : List Int) : Int := totS cuts dens dens.length 0 0
theorem mul12 {d x : Int} (h : 0 ≤ d ∧ d ≤ 12) (hx : 0 ≤ x) : 0 ≤ d * x ∧ d * x ≤ 12 * x := ⟨Int.mul_nonneg h.1 hx, Int.mul_le_mul_of_nonneg_right h.2 hx⟩
theorem totS_bound (h : VC len cuts dens) : ∀ (r i : Nat) (s : Int), i + r = dens.length → 0 ≤ s → s ≤ 12 * cuts.getD i 0 → 0 ≤ totS cuts dens r i s ∧ totS cuts dens r i s ≤ 12 * len
  | 0, i, s, hi, h0, h1 => by
    have := h.l1
    have := h.hi (i := i) (by omega)
    unfold totS
    omega
  | r + 1, i, s, hi, h0, h1 => by
    unfold totS
    have l1 := h.l1
    have h2 := h.step (i := i) (by omega)
    have h3 := mul12 (h.den (i := i) (by omega)) (x := cuts.getD (i + 1) 0 - cuts.getD i 0) (by omega)
    exact totS_bound h r (i + 1) _ (by omega) (by omega) (by omega)
theorem totC_bound (h : VC len cuts dens) : 0 ≤ totC cuts dens ∧ totC cuts dens ≤ 12000 := by
  have l1 := h.l1
  have h0 := h.lo (i := 0) (by omega)
  have := totS_bound h dens.length 0 0 (by omega) (by omega) (by omega)
  have h2 := h.len0
  unfold totC; omega
theorem Total_loop (h : VC len cuts dens) (W : Int → List PV → List PV → (Int → Prop) → Prop) (x0 : Int → List PV → List PV → Int → List PV → Int → Int → Bool → Prop) :
    ∀ (r i n : Nat) (s : Int), i + r = dens.length → r < n → 0 ≤ s → s ≤ 12 * cuts.getD i 0 →
      L_cake_Total_0_0 W x0 n len (ints cuts) (ints dens) s (ints dens) dens.length i = x0 len (ints cuts) (ints dens) (totS cuts dens r i s) (ints dens) dens.length dens.length false
  | 0, i, n + 1, s, hi, hn, h0, h1 => by
    unfold L_cake_Total_0_0 totS
    rw [cbF (by omega)]
    have : (i : Int) = dens.length := by omega
    rw [this]
  | r + 1, i, n + 1, s, hi, hn, h0, h1 => by
    unfold L_cake_Total_0_0
    have l1 := h.l1; have l2 := h.l2
    have h2 := h.step (i := i) (by omega)
    have h3 := mul12 (h.den (i := i) (by omega)) (x := cuts.getD (i + 1) 0 - cuts.getD i 0) (by omega)
    have a1 := h.lo (i := i) (by omega)
    have a2 := h.hi (i := i + 1) (by omega)
    have a3 := h.len0
    have e1 := wib (n := (i : Int) + 1) (by omega) (by omega)
    have e2 := wib (n := cuts.getD (i + 1) 0 - cuts.getD i 0) (by omega) (by omega)
    have e3 := wib (n := dens.getD i 0 * (cuts.getD (i + 1) 0 - cuts.getD i 0)) (by omega) (by omega)
    have e4 := wib (n := s + dens.getD i 0 * (cuts.getD (i + 1) 0 - cuts.getD i 0)) (by omega) (by omega)
    rw [cbT (by omega), ints_len, ints_len, e1, cast1, Int.toNat_natCast, Int.toNat_natCast, asT (by omega), asT (by omega), asC (by omega), asT (by omega), asT (by omega), asC (by omega), asT (by omega), asT (by omega), asC (by omega), ints_iv (by omega), ints_iv (by omega), ints_iv (by omega), e2, e3, e4]
    exact Total_loop h W x0 r (i + 1) n _ (by omega) (by omega) (by omega) (by omega)
theorem cTotal_eq (h1 : cuts.length < 4611686018427387904) (h2 : dens.length < 4611686018427387904) (K : Int → Int → Prop) :
    w_cake_Total len (ints cuts) (ints dens) K = if ckC len cuts dens = 0 then K (totC cuts dens) 0 else K 0 (ckC len cuts dens) := by
  by_cases h : ckC len cuts dens = 0
  · rw [if_pos h]
    refine det_cake_Total _ _ _ _ _ (fun K k => ?_) K
    unfold w_cake_Total wv_cake_Total
    have hv := ckC_zero h
    rw [cCheck_eq h1 h2, h, cnF rfl]
    refine ⟨dens.length + 1, ?_⟩
    have l1 := hv.l1
    have a1 := hv.lo (i := 0) (by omega)
    rw [ints_len]
    have := Total_loop hv w_cake_Check (fun yi1 yl2 yl3 yi4 yl5 yi6 yi7 yb8 => (K yi4 (0 : Int))) dens.length 0 (dens.length + 1) 0 (by omega) (by omega) (by omega) (by omega)
    rw [show ((0 : Nat) : Int) = 0 from rfl] at this
    rw [this]
    exact k
  · rw [if_neg h]
    unfold w_cake_Total wv_cake_Total
    rw [cCheck_eq h1 h2, cnT h]
def exK (e : Except Int Rat) (K : Int → Int → Int → Prop) : Prop := match e with | .ok q => K q.num q.den 0 | .error c => K 0 0 c
def fit {α : Type} (q : Rat) (k : Rat → Except Int α) : Except Int α := if small q then k q else .error 16
def valS (cuts dens : List Int) (b : Rat) : Nat → Nat → Rat → Rat → Except Int Rat
  | 0, _, _, sum => .ok sum
  | r + 1, i, p, sum =>
    let en : Rat := if b < (cuts.getD (i + 1) 0 : Int) then b else (cuts.getD (i + 1) 0 : Int)
    if dens.getD i 0 = 0 ∨ ¬ p < en then valS cuts dens b r (i + 1) (if p < en then en else p) sum
    else fit (en - p) fun l => fit (l * (dens.getD i 0 : Int)) fun w => fit (sum + w) fun s => valS cuts dens b r (i + 1) en s
def valC (cuts dens : List Int) (a b : Rat) : Except Int Rat := valS cuts dens b dens.length 0 a 0
theorem fitK_if {q : Rat} {K : Int → Int → Int → Prop} : fitK q K = if small q then K q.num q.den 0 else K 0 0 16 := rfl
theorem Value_loop (h : VC len cuts dens) {b : Rat} (hb : small b) (an ad : Int) (W1 : Int → List PV → List PV → (Int → Prop) → Prop) (W2 : Int → List PV → List PV → Int → Int → (Bool → Prop) → Prop) (K : Int → Int → Int → Prop) :
    ∀ (r i n : Nat) (p sum : Rat), i + r = dens.length → r < n → small p → small sum →
      L_cake_Value_0_0 W1 W2 w_cake_less w_cake_whole w_ratio_Sub w_ratio_Mul w_ratio_Add (fun yi37 yi38 yi39 => (K yi37 yi38 yi39)) (fun _ _ _ _ _ _ _ yi47 yi48 _ _ _ _ _ _ => (K yi47 yi48 (0 : Int)))
        n len (ints cuts) (ints dens) b.num b.den an ad sum.num sum.den p.num p.den (ints dens) dens.length i = exK (valS cuts dens b r i p sum) K
  | 0, i, n + 1, p, sum, hi, hn, hp, hs => by
    unfold L_cake_Value_0_0 valS
    rw [cbF (by omega)]; rfl
  | r + 1, i, n + 1, p, sum, hi, hn, hp, hs => by
    unfold L_cake_Value_0_0
    have l1 := h.l1; have l2 := h.l2
    have sc := h.sc (i := i + 1) (by omega)
    have sd := h.sd (i := i) (by omega)
    have e1 := wib (n := (i : Int) + 1) (by omega) (by omega)
    rw [cbT (by omega), ints_len, ints_len, e1, cast1, Int.toNat_natCast, Int.toNat_natCast, asT (by omega), asT (by omega), asC (by omega), asT (by omega), asT (by omega), asC (by omega), ints_iv (by omega), ints_iv (by omega), whole_eq, cless_eq hb sc]
    have ih := fun p sum hp hs => Value_loop h hb an ad W1 W2 K r (i + 1) n p sum (by omega) (by omega) hp hs
    unfold valS
    by_cases hbc : b < ((cuts.getD (i + 1) 0 : Int) : Rat)
    · rw [cbT hbc]
      simp only [if_pos hbc]
      by_cases hd : dens.getD i 0 = 0
      · rw [ceT hd, if_pos (.inl hd), cless_eq hp hb]
        by_cases hpb : p < b
        · rw [cbT hpb, if_pos hpb]; exact ih b sum hb hs
        · rw [cbF hpb, if_neg hpb]; exact ih p sum hp hs
      · rw [ceF hd, cless_eq hp hb]
        by_cases hpb : p < b
        · have hc : ¬ (dens.getD i 0 = 0 ∨ ¬ p < b) := by simp [hpb]; exact hd
          rw [if_neg hc, decide_eq_true hpb, Bool.not_true, cbr_false, rSub_eq hb hp, fitK_if]
          by_cases s1 : small (b - p)
          · rw [if_pos s1, cnF rfl, whole_eq, rMul_eq s1 sd, fitK_if, fit, if_pos s1]
            by_cases s2 : small ((b - p) * (dens.getD i 0 : Int))
            · rw [if_pos s2, cnF rfl, rAdd_eq hs s2, fitK_if, fit, if_pos s2]
              by_cases s3 : small (sum + (b - p) * (dens.getD i 0 : Int))
              · rw [if_pos s3, cnF rfl, fit, if_pos s3]; exact ih b _ hb s3
              · rw [if_neg s3, cnT (by decide), fit, if_neg s3]; rfl
            · rw [if_neg s2, cnT (by decide), fit, if_neg s2]; rfl
          · rw [if_neg s1, cnT (by decide), fit, if_neg s1]; rfl
        · rw [if_pos (.inr hpb), decide_eq_false hpb, Bool.not_false, cbr_true, cless_eq hp hb, cbF hpb, if_neg hpb]; exact ih p sum hp hs
    · rw [cbF hbc]
      simp only [if_neg hbc]
      obtain ⟨c, hc⟩ : ∃ c : Rat, c = ((cuts.getD (i + 1) 0 : Int) : Rat) := ⟨_, rfl⟩
      rw [← hc] at sc ⊢
      by_cases hd : dens.getD i 0 = 0
      · rw [ceT hd, if_pos (.inl hd), cless_eq hp sc]
        by_cases hpb : p < c
        · rw [cbT hpb, if_pos hpb]; exact ih c sum sc hs
        · rw [cbF hpb, if_neg hpb]; exact ih p sum hp hs
      · rw [ceF hd, cless_eq hp sc]
        by_cases hpb : p < c
        · have hcc : ¬ (dens.getD i 0 = 0 ∨ ¬ p < c) := by simp [hpb]; exact hd
          rw [if_neg hcc, decide_eq_true hpb, Bool.not_true, cbr_false, rSub_eq sc hp, fitK_if]
          by_cases s1 : small (c - p)
          · rw [if_pos s1, cnF rfl, whole_eq, rMul_eq s1 sd, fitK_if, fit, if_pos s1]
            by_cases s2 : small ((c - p) * (dens.getD i 0 : Int))
            · rw [if_pos s2, cnF rfl, rAdd_eq hs s2, fitK_if, fit, if_pos s2]
              by_cases s3 : small (sum + (c - p) * (dens.getD i 0 : Int))
              · rw [if_pos s3, cnF rfl, fit, if_pos s3]; exact ih c _ sc s3
              · rw [if_neg s3, cnT (by decide), fit, if_neg s3]; rfl
            · rw [if_neg s2, cnT (by decide), fit, if_neg s2]; rfl
          · rw [if_neg s1, cnT (by decide), fit, if_neg s1]; rfl
        · rw [if_pos (.inr hpb), decide_eq_false hpb, Bool.not_false, cbr_true, cless_eq hp sc, cbF hpb, if_neg hpb]; exact ih p sum hp hs
end
end Go.Pf.Vc
namespace Go.Pf.Vc
open Go Go.Pf
def rt (n d : Int) : Rat := mkRat n d.toNat
theorem rt_self (q : Rat) : rt q.num q.den = q := by unfold rt; rw [Int.toNat_natCast, Rat.mkRat_self]
theorem rt_of {n d : Int} (h : RV n d) : small (rt n d) ∧ (rt n d).num = n ∧ ((rt n d).den : Int) = d := by
  obtain ⟨q, h1, h2, h3⟩ := rv_rat h
  subst h2 h3
  rw [rt_self]; exact ⟨h1, rfl, rfl⟩
theorem PT.pt {len n d : Int} (h : PT len n d) : small (rt n d) ∧ (rt n d).num = n ∧ ((rt n d).den : Int) = d ∧ 0 ≤ rt n d ∧ rt n d ≤ (len : Rat) := by
  obtain ⟨q, h1, h2, h3, h4, h5⟩ := PT_rat h
  subst h2 h3
  rw [rt_self]; exact ⟨h1, rfl, rfl, h4, h5⟩
theorem PT_of {len : Int} {q : Rat} (h : small q) (h0 : 0 ≤ q) (h1 : q ≤ (len : Rat)) : PT len q.num q.den := by
  refine ⟨h.rv, Rat.num_nonneg.2 h0, ?_⟩
  rw [Rat.le_iff, Rat.num_intCast, Rat.den_intCast] at h1
  simpa using h1
section
variable {len : Int} {cuts dens : List Int}
def valR (len : Int) (cuts dens : List Int) (an ad bn bd : Int) : Except Int Rat :=
  if ckC len cuts dens = 0 then (if PT len an ad ∧ PT len bn bd ∧ ¬ rt bn bd < rt an ad then valC cuts dens (rt an ad) (rt bn bd) else .error 2) else .error (ckC len cuts dens)
theorem det_ex {w : (Int → Int → Int → Prop) → Prop} {e : Except Int Rat} (det : ∀ r0 r1 r2, (∀ K : Int → Int → Int → Prop, K r0 r1 r2 → w K) → ∀ K, w K = K r0 r1 r2) (h : ∀ K, exK e K → w K) (K : Int → Int → Int → Prop) : w K = exK e K := by
  cases e with
  | ok q => exact det _ _ _ h K
  | error c => exact det _ _ _ h K
theorem cValue_eq (h1 : cuts.length < 4611686018427387904) (h2 : dens.length < 4611686018427387904) {an ad bn bd : Int} (ha : I64 an) (ha' : I64 ad) (hb : I64 bn) (hb' : I64 bd) (K : Int → Int → Int → Prop) :
    w_cake_Value len (ints cuts) (ints dens) an ad bn bd K = exK (valR len cuts dens an ad bn bd) K := by
  refine det_ex (fun r0 r1 r2 h K => det_cake_Value _ _ _ _ _ _ _ r0 r1 r2 h K) (fun K k => ?_) K
  unfold w_cake_Value wv_cake_Value
  rw [cCheck_eq h1 h2]
  unfold valR at k
  by_cases h : ckC len cuts dens = 0
  case neg => rw [cnT h]; rw [if_neg h] at k; exact k
  have hv := ckC_zero h
  have hl := hv.len0
  rw [if_pos h] at k
  rw [cnF h, point_eq (by omega) ha ha']
  by_cases p1 : PT len an ad
  case neg => rw [decide_eq_false p1, Bool.not_false, cbr_true]; rw [if_neg (fun x => p1 x.1)] at k; exact k
  rw [decide_eq_true p1, Bool.not_true, cbr_false, point_eq (by omega) hb hb']
  by_cases p2 : PT len bn bd
  case neg => rw [decide_eq_false p2, Bool.not_false, cbr_true]; rw [if_neg (fun x => p2 x.2.1)] at k; exact k
  rw [decide_eq_true p2, Bool.not_true, cbr_false]
  obtain ⟨s1, e1, e2, _, _⟩ := p1.pt
  obtain ⟨s2, f1, f2, _, _⟩ := p2.pt
  have hless := cless_eq s2 s1
  rw [e1, e2, f1, f2] at hless
  rw [hless]
  by_cases p3 : rt bn bd < rt an ad
  · rw [cbT p3]; rw [if_neg (fun x => x.2.2 p3)] at k; exact k
  rw [cbF p3]
  rw [if_pos ⟨p1, p2, p3⟩] at k
  rw [whole_eq, ints_len]
  refine ⟨dens.length + 1, ?_⟩
  have := Value_loop hv s2 0 0 w_cake_Check w_cake_point K dens.length 0 (dens.length + 1) (rt an ad) 0 (by omega) (by omega) s1 (by decide)
  rw [e1, e2, f1, f2] at this
  exact this.mpr k
def mrkS (cuts dens : List Int) : Nat → Nat → Rat → Rat → Except Int Rat
  | 0, _, _, _ => .error 6
  | r + 1, i, p, v =>
    if ¬ p < (cuts.getD (i + 1) 0 : Int) then mrkS cuts dens r (i + 1) p v
    else if dens.getD i 0 = 0 then mrkS cuts dens r (i + 1) (cuts.getD (i + 1) 0 : Int) v
    else fit ((cuts.getD (i + 1) 0 : Int) - p) fun l => fit (l * (dens.getD i 0 : Int)) fun w =>
      if w < v then fit (v - w) fun v' => mrkS cuts dens r (i + 1) (cuts.getD (i + 1) 0 : Int) v'
      else fit (v / (dens.getD i 0 : Int)) fun s => fit (p + s) .ok
def mrkC (cuts dens : List Int) (a v : Rat) : Except Int Rat := if v = 0 then .ok a else mrkS cuts dens dens.length 0 a v
def mrkR (len : Int) (cuts dens : List Int) (an ad vn vd : Int) : Except Int Rat :=
  if ckC len cuts dens = 0 then (if PT len an ad ∧ RV vn vd ∧ 0 ≤ vn then mrkC cuts dens (rt an ad) (rt vn vd) else .error 2) else .error (ckC len cuts dens)
theorem Mark_loop (h : VC len cuts dens) (W1 : Int → List PV → List PV → (Int → Prop) → Prop) (W2 : Int → List PV → List PV → Int → Int → (Bool → Prop) → Prop) (W3 : Int → Int → (Int → Prop) → Prop) (K : Int → Int → Int → Prop) :
    ∀ (r i n : Nat) (p v : Rat) (o1 o2 : Int), i + r = dens.length → r < n → small p → small v →
      L_cake_Mark_0_0 W1 W2 W3 w_cake_whole w_cake_less w_ratio_Sub w_ratio_Mul w_ratio_Div w_ratio_Add
        (fun _ _ yi42 yi43 yi44 yi45 => (cbr (yi45 != (0 : Int)) (cbr (yi45 != (0 : Int)) (K (0 : Int) (0 : Int) yi45) (K yi42 yi43 (0 : Int))) (cbr (yi44 != (0 : Int)) (K (0 : Int) (0 : Int) yi44) (K yi42 yi43 (0 : Int)))))
        (fun _ _ yi48 yi49 yi50 _ _ _ _ _ _ _ _ _ => (cbr (yi50 != (0 : Int)) (K (0 : Int) (0 : Int) yi50) (K yi48 yi49 (0 : Int))))
        n v.num v.den o1 o2 6 len (ints cuts) (ints dens) p.num p.den (ints dens) dens.length i = exK (mrkS cuts dens r i p v) K
  | 0, i, n + 1, p, v, o1, o2, hi, hn, hp, hs => by
    unfold L_cake_Mark_0_0 mrkS
    rw [cbF (by omega)]; rfl
  | r + 1, i, n + 1, p, v, o1, o2, hi, hn, hp, hs => by
    unfold L_cake_Mark_0_0
    have l1 := h.l1; have l2 := h.l2
    have sc := h.sc (i := i + 1) (by omega)
    have sd := h.sd (i := i) (by omega)
    have hd0 := h.den (i := i) (by omega)
    have e1 := wib (n := (i : Int) + 1) (by omega) (by omega)
    rw [cbT (by omega), ints_len, ints_len, e1, cast1, Int.toNat_natCast, Int.toNat_natCast, asT (by omega), asT (by omega), asC (by omega), asT (by omega), asT (by omega), asC (by omega), ints_iv (by omega), ints_iv (by omega), whole_eq, cless_eq hp sc]
    have ih := fun p v o1 o2 hp hs => Mark_loop h W1 W2 W3 K r (i + 1) n p v o1 o2 (by omega) (by omega) hp hs
    unfold mrkS
    obtain ⟨c, hc⟩ : ∃ c : Rat, c = ((cuts.getD (i + 1) 0 : Int) : Rat) := ⟨_, rfl⟩
    rw [← hc] at sc ⊢
    by_cases hpc : p < c
    case neg => rw [decide_eq_false hpc, Bool.not_false, cbr_true, if_pos hpc]; exact ih p v o1 o2 hp hs
    rw [decide_eq_true hpc, Bool.not_true, cbr_false, if_neg (fun x => x hpc), whole_eq]
    by_cases hd : dens.getD i 0 = 0
    · rw [cbF (by omega), ceT hd, if_pos hd]; exact ih c v o1 o2 sc hs
    rw [cbT (by omega), if_neg hd, rSub_eq sc hp, fitK_if]
    by_cases s1 : small (c - p)
    case neg => rw [if_neg s1, cnT (by decide), cnT (by decide), cnT (by decide), fit, if_neg s1]; rfl
    rw [if_pos s1, cnF rfl, whole_eq, rMul_eq s1 sd, fitK_if, fit, if_pos s1]
    by_cases s2 : small ((c - p) * (dens.getD i 0 : Int))
    case neg => rw [if_neg s2, cnT (by decide), cnT (by decide), cnT (by decide), fit, if_neg s2]; rfl
    rw [if_pos s2, cnF rfl, ceF hd, cless_eq s2 hs, fit, if_pos s2]
    by_cases hw : (c - p) * (dens.getD i 0 : Int) < v
    · rw [cbT hw, if_pos hw, rSub_eq hs s2, fitK_if, fit]
      by_cases s3 : small (v - (c - p) * (dens.getD i 0 : Int))
      · rw [if_pos s3, if_pos s3, cnF rfl, cnF rfl]; exact ih c _ o1 o2 sc s3
      · rw [if_neg s3, if_neg s3, cnT (by decide), cnT (by decide), cnF rfl, cnT (by decide)]; rfl
    · have hdn : ((dens.getD i 0 : Int) : Rat) ≠ 0 := fun e => hd (Rat.intCast_eq_zero_iff.1 e)
      rw [cbF hw, if_neg hw, whole_eq, rDiv_eq hs sd hdn, fitK_if, fit]
      by_cases s3 : small (v / (dens.getD i 0 : Int))
      · rw [if_pos s3, if_pos s3, ceT rfl, rAdd_eq hp s3, fitK_if, fit]
        by_cases s4 : small (p + v / (dens.getD i 0 : Int))
        · rw [if_pos s4, if_pos s4, cnF rfl, cnF rfl]; rfl
        · rw [if_neg s4, if_neg s4, cnF rfl, cnT (by decide)]; rfl
      · rw [if_neg s3, if_neg s3, ceF (by decide), cnF rfl, cnT (by decide)]; rfl
theorem cMark_eq (h1 : cuts.length < 4611686018427387904) (h2 : dens.length < 4611686018427387904) {an ad vn vd : Int} (ha : I64 an) (ha' : I64 ad) (hv : I64 vn) (hv' : I64 vd) (K : Int → Int → Int → Prop) :
    w_cake_Mark len (ints cuts) (ints dens) an ad vn vd K = exK (mrkR len cuts dens an ad vn vd) K := by
  refine det_ex (fun r0 r1 r2 h K => det_cake_Mark _ _ _ _ _ _ _ r0 r1 r2 h K) (fun K k => ?_) K
  unfold w_cake_Mark wv_cake_Mark
  rw [cCheck_eq h1 h2]
  unfold mrkR at k
  by_cases h : ckC len cuts dens = 0
  case neg => rw [cnT h]; rw [if_neg h] at k; exact k
  have hc := ckC_zero h
  have hl := hc.len0
  rw [if_pos h] at k
  rw [cnF h, point_eq (by omega) ha ha']
  by_cases p1 : PT len an ad
  case neg => rw [decide_eq_false p1, Bool.not_false, cbr_true]; rw [if_neg (fun x => p1 x.1)] at k; exact k
  rw [decide_eq_true p1, Bool.not_true, cbr_false, rCheck_eq hv hv', chk]
  by_cases p2 : RV vn vd
  case neg => rw [if_neg p2, cnT (by decide)]; rw [if_neg (fun x => p2 x.2.1)] at k; exact k
  rw [if_pos p2, cnF rfl]
  by_cases p3 : vn < 0
  · rw [cbT p3]; rw [if_neg (fun x => by omega)] at k; exact k
  rw [cbF p3]
  rw [if_pos ⟨p1, p2, by omega⟩] at k
  obtain ⟨s1, e1, e2, _, _⟩ := p1.pt
  obtain ⟨s2, f1, f2⟩ := rt_of p2
  unfold mrkC at k
  by_cases p4 : vn = 0
  · rw [ceT p4]
    rw [if_pos (Rat.num_eq_zero.1 (f1.trans p4))] at k
    have k : K (rt an ad).num (rt an ad).den 0 := k
    rw [e1, e2] at k
    exact k
  rw [ceF p4]
  rw [if_neg (fun x => p4 (by rw [← f1, x]; rfl))] at k
  rw [ints_len]
  refine ⟨dens.length + 1, ?_⟩
  have := Mark_loop hc w_cake_Check w_cake_point w_ratio_Check K dens.length 0 (dens.length + 1) (rt an ad) (rt vn vd) 0 0 (by omega) (by omega) s1 s2
  rw [e1, e2, f1, f2] at this
  exact this.mpr k
end
end Go.Pf.Vc
namespace Go.Pf.Vc
open Go Go.Pf
section
variable {len : Int} {cuts dens : List Int}
def okD (cuts dens : List Int) (i : Nat) : Prop := ∀ j, i ≤ j → j < dens.length → cuts.getD j 0 < cuts.getD (j + 1) 0 ∧ 0 ≤ dens.getD j 0 ∧ dens.getD j 0 ≤ 12
theorem dCheck_loop (l1 : dens.length + 1 = cuts.length) (l2 : dens.length < 4611686018427387904) (x0 : Int → Prop) (x1 : Int → List PV → List PV → Bool → Int → Bool → Prop) (P : Prop)
    (hbad : ¬ okD cuts dens 0 → x0 8 = P) (hgood : ∀ b : Bool, okD cuts dens 0 → b = decide (∃ j, j < dens.length ∧ 0 < dens.getD j 0) → x1 len (ints cuts) (ints dens) b dens.length false = P) :
    ∀ (r i n : Nat) (b : Bool), i + r = dens.length → r < n → (∀ j, j < i → cuts.getD j 0 < cuts.getD (j + 1) 0 ∧ 0 ≤ dens.getD j 0 ∧ dens.getD j 0 ≤ 12) → b = decide (∃ j, j < i ∧ 0 < dens.getD j 0) →
      L_r02_Check_0_0 x0 x1 n len (ints cuts) (ints dens) b i = P
  | 0, i, n + 1, b, hi, hn, hj, hb => by
    unfold L_r02_Check_0_0
    rw [ints_len, cbF (by omega), show (i : Int) = dens.length by omega]
    refine hgood b (fun j _ h => hj j (by omega)) ?_
    rw [hb, decide_eq_decide]
    rw [show i = dens.length by omega]
  | r + 1, i, n + 1, b, hi, hn, hj, hb => by
    unfold L_r02_Check_0_0
    have e1 := wib (n := (i : Int) + 1) (by omega) (by omega)
    rw [ints_len, ints_len, cbT (by omega), e1, cast1, Int.toNat_natCast, Int.toNat_natCast, asT (by omega), asT (by omega), asC (by omega), asT (by omega), asT (by omega), asC (by omega), ints_iv (by omega), ints_iv (by omega)]
    have bad : ¬ (cuts.getD i 0 < cuts.getD (i + 1) 0 ∧ 0 ≤ dens.getD i 0 ∧ dens.getD i 0 ≤ 12) → x0 8 = P := fun h => hbad fun hk => h (hk i (by omega) (by omega))
    by_cases a1 : cuts.getD (i + 1) 0 ≤ cuts.getD i 0
    · rw [cbT a1]; exact bad (by omega)
    rw [cbF a1, asT (by omega), asT (by omega), asC (by omega), ints_iv (by omega)]
    by_cases a2 : dens.getD i 0 < 0
    · rw [cbT a2]; exact bad (by omega)
    rw [cbF a2, asT (by omega), asT (by omega), asC (by omega)]
    by_cases a3 : dens.getD i 0 > 12
    · rw [cbT a3]; exact bad (by omega)
    rw [cbF a3]
    have hj2 : ∀ j, j < i + 1 → cuts.getD j 0 < cuts.getD (j + 1) 0 ∧ 0 ≤ dens.getD j 0 ∧ dens.getD j 0 ≤ 12 := by
      intro j hlt
      by_cases e : j = i
      · subst e; omega
      · exact hj j (by omega)
    have ex : ∀ c : Bool, (c = true ↔ (b = true ∨ 0 < dens.getD i 0)) → c = decide (∃ j, j < i + 1 ∧ 0 < dens.getD j 0) := by
      intro c hc
      rw [Bool.eq_iff_iff, hc, hb, decide_eq_true_iff, decide_eq_true_iff]
      constructor
      · rintro (⟨j, h1, h2⟩ | h)
        · exact ⟨j, by omega, h2⟩
        · exact ⟨i, by omega, h⟩
      · rintro ⟨j, h1, h2⟩
        by_cases e : j = i
        · subst e; exact .inr h2
        · exact .inl ⟨j, by omega, h2⟩
    cases b with
    | true =>
      rw [cbr_true]
      exact dCheck_loop l1 l2 x0 x1 P hbad hgood r (i + 1) n true (by omega) (by omega) hj2 (ex _ (by simp))
    | false =>
      rw [cbr_false, asT (by omega), asT (by omega), asC (by omega)]
      exact dCheck_loop l1 l2 x0 x1 P hbad hgood r (i + 1) n _ (by omega) (by omega) hj2 (ex _ (by simp))
theorem dCheck_eq (h1 : cuts.length < 4611686018427387904) (h2 : dens.length < 4611686018427387904) (K : Int → Prop) :
    w_r02_Check len (ints cuts) (ints dens) K = K (ckC len cuts dens) := by
  refine det_r02_Check _ _ _ _ (fun K k => ?_) K
  unfold w_r02_Check wv_r02_Check
  simp only [ints_len]
  have bad : ¬ (len > 1000 ∨ cuts.length > 40) → ¬ VC len cuts dens → K 8 := fun h h2 => by
    rw [ckC, if_neg h, if_neg h2] at k; exact k
  by_cases a1 : len > 1000
  · rw [cbT a1]; rw [ckC, if_pos (.inl a1)] at k; exact k
  rw [cbF a1]
  by_cases a2 : cuts.length > 40
  · rw [cbT (by omega)]; rw [ckC, if_pos (.inr a2)] at k; exact k
  have a12 : ¬ (len > 1000 ∨ cuts.length > 40) := by omega
  rw [cbF (by omega)]
  by_cases a3 : len < 1
  · rw [cbT a3]; exact bad a12 (fun h => by have := h.1; omega)
  rw [cbF a3]
  by_cases a4 : cuts.length < 2
  · rw [cbT (by omega)]; exact bad a12 (fun h => by have := h.2.2.1; omega)
  rw [cbF (by omega), wib (n := (cuts.length : Int) - 1) (by omega) (by omega)]
  by_cases a5 : dens.length + 1 = cuts.length
  case neg => rw [cnT (by omega)]; exact bad a12 (fun h => a5 h.2.2.2.2.1)
  rw [cnF (by omega), asT (by omega), asC (by omega), ints_iv (by omega)]
  by_cases a6 : cuts.getD 0 0 = 0
  case neg => rw [cnT a6]; exact bad a12 (fun h => a6 h.2.2.2.2.2.1)
  rw [cnF a6, asT (by omega), asT (by omega), asC (by omega), ints_iv (by omega)]
  have en : ((cuts.length : Int) - 1).toNat = cuts.length - 1 := by omega
  rw [en]
  by_cases a7 : cuts.getD (cuts.length - 1) 0 = len
  case neg => rw [cnT a7]; exact bad a12 (fun h => a7 h.2.2.2.2.2.2.1)
  rw [cnF a7]
  have mem : ∀ d, d ∈ dens ↔ ∃ j, j < dens.length ∧ dens.getD j 0 = d := by
    intro d
    rw [List.mem_iff_getElem]
    constructor
    · rintro ⟨j, hj, e⟩; exact ⟨j, hj, by rw [List.getD_eq_getElem?_getD, List.getElem?_eq_getElem hj]; exact e⟩
    · rintro ⟨j, hj, e⟩; exact ⟨j, hj, by rw [List.getD_eq_getElem?_getD, List.getElem?_eq_getElem hj] at e; exact e⟩
  refine ⟨dens.length + 1, ?_⟩
  refine (dCheck_loop a5 h2 _ _ (K (ckC len cuts dens)) (fun hk => ?_) (fun b hk hb => ?_) dens.length 0 (dens.length + 1) false (by omega) (by omega) (fun j h => by omega) (by simp)).mpr k
  · have hv : ¬ VC len cuts dens := fun h => hk fun j _ hj => ⟨h.step (by omega), h.den hj⟩
    rw [ckC, if_neg a12, if_neg hv]
  · have hsome : someD dens ↔ ∃ j, j < dens.length ∧ 0 < dens.getD j 0 := by
      constructor
      · rintro ⟨d, hd, h0⟩
        obtain ⟨j, hj, e⟩ := (mem d).1 hd
        exact ⟨j, hj, by rw [e]; exact h0⟩
      · rintro ⟨j, hj, h0⟩; exact ⟨_, (mem _).2 ⟨j, hj, rfl⟩, h0⟩
    have hv : VC len cuts dens ↔ someD dens := by
      refine ⟨fun h => h.2.2.2.2.2.2.2.2.2, fun h => ⟨by omega, by omega, by omega, by omega, a5, a6, a7, fun j _ hj => (hk j (by omega) (by omega)).1, fun d hd => ?_, h⟩⟩
      obtain ⟨j, hj, e⟩ := (mem d).1 hd
      rw [← e]; exact (hk j (by omega) hj).2
    rw [ckC, if_neg a12]
    by_cases hs : someD dens
    · rw [if_pos (hv.2 hs), hb, decide_eq_true (hsome.1 hs)]; rfl
    · rw [if_neg (fun x => hs (hv.1 x)), hb, decide_eq_false (fun x => hs (hsome.2 x))]; rfl
end
end Go.Pf.Vc
namespace Go.Pf.Vc
open Go Go.Pf
section
variable {len : Int} {cuts dens : List Int}
theorem fit_ok {α : Type} {q : Rat} {k : Rat → Except Int α} (h : small q) : fit q k = k q := if_pos h
theorem exK_ok {q : Rat} {K : Int → Int → Int → Prop} : exK (.ok q) K = K q.num q.den 0 := rfl
theorem exK_er {c : Int} {K : Int → Int → Int → Prop} : exK (.error c) K = K 0 0 c := rfl
theorem add_zero (q : Rat) : q + 0 = q := by grind
end
end Go.Pf.Vc
namespace Go.Pf.Vc
open Go Go.Pf
structure Ck where
  len : Int
  cuts : List Int
  dens : List Int
instance : Inhabited Ck := ⟨⟨0, [], []⟩⟩
def encC (c : Ck) : PV := .agg [.int .i64 c.len, .data (ints c.cuts), .data (ints c.dens)]
def cks (l : List Ck) : List PV := l.map encC
def Ck.fin (c : Ck) : Prop := c.cuts.length < 4611686018427387904 ∧ c.dens.length < 4611686018427387904
def Ck.err (c : Ck) : Int := ckC c.len c.cuts c.dens
def Ck.ok (c : Ck) : Prop := VC c.len c.cuts c.dens
instance (c : Ck) : Decidable c.ok := by unfold Ck.ok; infer_instance
theorem cks_len (l : List Ck) : (cks l).length = l.length := List.length_map ..
theorem cks_at {l : List Ck} {i : Nat} (h : i < l.length) : List.getD (cks l) i .nils = encC (l.getD i default) := by
  unfold cks
  rw [List.getD_eq_getElem?_getD, List.getD_eq_getElem?_getD, List.getElem?_map, List.getElem?_eq_getElem h]
  rfl
theorem drop_cons {α : Type} {l : List α} {i : Nat} (d : α) (h : i < l.length) : l.drop i = l.getD i d :: l.drop (i + 1) := by
  rw [List.drop_eq_getElem_cons h, List.getD_eq_getElem?_getD, List.getElem?_eq_getElem h]; rfl
theorem asCk {c : Ck} {P : Prop} : asr (conf (.agg [.i .i64, .d, .d]) (encC c)) P = P := rfl
theorem ck0 (c : Ck) : intOfV (cellAt (encC c) 0) = c.len := rfl
theorem ck1 (c : Ck) : datOfV (cellAt (encC c) 1) = ints c.cuts := rfl
theorem ck2 (c : Ck) : datOfV (cellAt (encC c) 2) = ints c.dens := rfl
def firstE : List Ck → Int
  | [] => 0
  | c :: t => if c.err = 0 then firstE t else c.err
def lensOk (n : Int) : List Ck → Bool
  | [] => true
  | c :: t => decide (c.len = n) && lensOk n t
def deskE (l : List Ck) (m : Nat) : Int :=
  if l.length > 6 then 4 else if m > 2000 then 4 else if l.length = 0 then 8 else if firstE l = 0 then (if lensOk (l.getD 0 default).len l then 0 else 8) else firstE l
section
variable {l : List Ck}
def finC (l : List Ck) : Prop := ∀ i, i < l.length → (l.getD i default).fin
end
end Go.Pf.Vc
