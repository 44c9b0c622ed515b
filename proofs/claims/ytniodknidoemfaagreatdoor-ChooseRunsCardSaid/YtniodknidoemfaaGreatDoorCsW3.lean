/- Part 3 of what the statement rests on: a verified evaluator over pure values, the conditions of the program's functions, and their plain laws. -/
import Derived.Test.YtniodknidoemfaaGreatDoorCsW2
namespace Go.Pf.Vc
open Go Go.Pf
set_option maxRecDepth 100000
theorem body_cake_Check_0_0 (a0 a1 Q n i0 l1 l2 i3 i4) : WC E (callW (S0_cake_Check a0 a1) 5) (lp_cake_Check a0 a1) b_87419700 [(1, .box (.agg [(.int .i64 i0), (.data l1), (.data l2)])), (49, .v (.int .i64 i3)), (50, .v (.int .i64 i4))] [] (fun x F' H' => match x with | .norm => R_cake_Check_0 a0 a1 Q n F' H' | .exit i => Q (.exit i) F' H' | .ret => Q .ret F' H') = L_cake_Check_0_0 a0 a1 (fun i0 => Q .ret [(2, .v (.int .i64 i0))] []) (fun i0 l1 l2 i3 i4 b5 => Q (.exit 0) [(1, .box (.agg [(.int .i64 i0), (.data l1), (.data l2)])), (49, .v (.int .i64 i3)), (50, .v (.int .i64 i4)), (51, .v (.bool b5))] []) (n + 1) i0 l1 l2 i3 i4 := by kernel_rfl
theorem lpb_cake_Check_0 : LpOk E (lp_cake_Check w_s_Min_int_int w_s_Max_int_int) b_87419700 := (LpOk_no (by kernel_rfl))
theorem loop_cake_Check_0 : ∀ F H Q, lp_cake_Check w_s_Min_int_int w_s_Max_int_int 87419700 F H Q → LoopT E b_87419700 F H Q := by
 intro F H Q h
 have go := LoopT.intro (callW_ok se0_cake_Check 5) lpb_cake_Check_0 (R_cake_Check_0 w_s_Min_int_int w_s_Max_int_int Q) (by
   intro F H h
   unfold R_cake_Check_0 D_cake_Check_0 at h
   split at h
   · exact h
   · exact h) (by
   intro n F H h
   unfold R_cake_Check_0 D_cake_Check_0 at h
   split at h
   · exact (body_cake_Check_0_0 ..).mpr h
   · exact h.elim)
 have h : D_cake_Check_0 F H _ := h
 unfold D_cake_Check_0 at h
 split at h
 · obtain ⟨n, h⟩ := h; exact go n _ _ h
 · exact h.elim
theorem eq_cake_Check (a0 a1 p0 p1 p2 K) : WP (S0_cake_Check a0 a1) 6 t_cake_Check [(.agg [(.int .i64 p0), (.data p1), (.data p2)])] K = wv_cake_Check a0 a1 p0 p1 p2 (fun r0 => K (.int .i64 r0)) := by kernel_rfl
theorem ok_cake_Check : OkF E wp_cake_Check n_cake_Check := by
 intro as K h
 unfold wp_cake_Check pw_cake_Check at h
 split at h
 · exact WP_ok se0_cake_Check (LpOk_by (l := [(87419700, b_87419700)]) ⟨loop_cake_Check_0, trivial⟩ (by kernel_rfl)) (by kernel_rfl) (by kernel_rfl) (fun _ => baseC_none (by kernel_rfl) _) ((eq_cake_Check ..).mpr h)
 · exact h.elim
abbrev T_cake_Total : Type := Int → List PV → List PV → (Int → Int → Prop) → Prop
def L_cake_Total_0_0 (a0 : T_cake_Check) (x0 : Int → List PV → List PV → Int → List PV → Int → Int → Bool → Prop) : Nat → Int → List PV → List PV → Int → List PV → Int → Int → Prop
 | 0, _, _, _, _, _, _, _ => False
 | n + 1, i0, l1, l2, i3, l4, i5, i6 =>
 (cbr (decide (i6 < i5))
 (asr (decide ((0 : Int) ≤ i6))
 (asr (decide (i6 < (((List.length l4) : Nat) : Int)))
 (asr (conf (.one (.i .i64)) (List.getD l4 (i6.toNat) .nils))
 (asr (decide ((0 : Int) ≤ (IntKind.i64.wrap (i6 + (1 : Int)))))
 (asr (decide ((IntKind.i64.wrap (i6 + (1 : Int))) < (((List.length l1) : Nat) : Int)))
 (asr (conf (.one (.i .i64)) (List.getD l1 ((IntKind.i64.wrap (i6 + (1 : Int))).toNat) .nils))
 (asr (decide ((0 : Int) ≤ i6))
 (asr (decide (i6 < (((List.length l1) : Nat) : Int)))
 (asr (conf (.one (.i .i64)) (List.getD l1 (i6.toNat) .nils))
 (L_cake_Total_0_0 a0 x0 n i0 l1 l2 (IntKind.i64.wrap (i3 + (IntKind.i64.wrap ((intOfV (List.getD l4 (i6.toNat) .nils)) * (IntKind.i64.wrap ((intOfV (List.getD l1 ((IntKind.i64.wrap (i6 + (1 : Int))).toNat) .nils)) - (intOfV (List.getD l1 (i6.toNat) .nils)))))))) l4 i5 (IntKind.i64.wrap (i6 + (1 : Int)))))))))))))
 (x0 i0 l1 l2 i3 l4 i5 i6 false))
def wv_cake_Total (a0 : T_cake_Check) (p0 : Int) (p1 p2 : List PV) (K : Int → Int → Prop) : Prop :=
 (a0 p0 p1 p2 (fun yi0 => 
 (cbr (yi0 != (0 : Int))
 (K (0 : Int) yi0)
 (∃ n : Nat, L_cake_Total_0_0 a0
 (fun _ _ _ yi4 _ _ _ _ => (K yi4 (0 : Int)))
 n p0 p1 p2 (0 : Int) p2 (((List.length p2) : Nat) : Int) (0 : Int)))))
def w_cake_Total (p0 : Int) (p1 p2 : List PV) (K : Int → Int → Prop) : Prop := wv_cake_Total w_cake_Check p0 p1 p2 K
def pw_cake_Total (w : T_cake_Total) (as : List PV) (K : PV → Prop) : Prop :=
 match as with
 | [(.agg [(.int .i64 p0), (.data p1), (.data p2)])] => w p0 p1 p2 (fun r0 r1 => K (.tup [(.int .i64 r0), (.int .i64 r1)]))
 | _ => False
def wp_cake_Total (as : List PV) (K : PV → Prop) : Prop := pw_cake_Total w_cake_Total as K
def D_cake_Total_0 (F : Frm) (H : Hp) (A0 : Int → List PV → List PV → Int → List PV → Int → Int → Prop) : Prop :=
 match F, H with
 | [(1, .box (.agg [(.int .i64 i0), (.data l1), (.data l2)])), (5, .v (.int .i64 i3)), (14, .v (.data l4)), (15, .v (.int .i64 i5)), (16, .v (.int .i64 i6))], [] => (A0 i0 l1 l2 i3 l4 i5 i6)
 | _, _ => False
def R_cake_Total_0 (a0 : T_cake_Check) (Q : Ex → Frm → Hp → Prop) (n : Nat) (F : Frm) (H : Hp) : Prop := D_cake_Total_0 F H (fun i0 l1 l2 i3 l4 i5 i6 => L_cake_Total_0_0 a0 (fun i0 l1 l2 i3 l4 i5 i6 b7 => Q (.exit 0) [(1, .box (.agg [(.int .i64 i0), (.data l1), (.data l2)])), (5, .v (.int .i64 i3)), (14, .v (.data l4)), (15, .v (.int .i64 i5)), (16, .v (.int .i64 i6)), (17, .v (.bool b7))] []) n i0 l1 l2 i3 l4 i5 i6)
def lp_cake_Total (a0 : T_cake_Check) : LP := fun id F H Q =>
 bif Nat.beq id 45203600 then D_cake_Total_0 F H (fun i0 l1 l2 i3 l4 i5 i6 => ∃ n : Nat, L_cake_Total_0_0 a0 (fun i0 l1 l2 i3 l4 i5 i6 b7 => Q (.exit 0) [(1, .box (.agg [(.int .i64 i0), (.data l1), (.data l2)])), (5, .v (.int .i64 i3)), (14, .v (.data l4)), (15, .v (.int .i64 i5)), (16, .v (.int .i64 i6)), (17, .v (.bool b7))] []) n i0 l1 l2 i3 l4 i5 i6) else
 False
def S0_cake_Total (a0 : T_cake_Check) : SE := ⟨E, lookS [(n_cake_Check, pw_cake_Check a0)], lookI [], lp_cake_Total a0⟩
theorem se0_cake_Total : SEOk (S0_cake_Total w_cake_Check) := seOk_of ⟨ok_cake_Check, trivial⟩ trivial
theorem body_cake_Total_0_0 (a0 Q n i0 l1 l2 i3 l4 i5 i6) : WC E (callW (S0_cake_Total a0) 5) (lp_cake_Total a0) b_45203600 [(1, .box (.agg [(.int .i64 i0), (.data l1), (.data l2)])), (5, .v (.int .i64 i3)), (14, .v (.data l4)), (15, .v (.int .i64 i5)), (16, .v (.int .i64 i6))] [] (fun x F' H' => match x with | .norm => R_cake_Total_0 a0 Q n F' H' | .exit i => Q (.exit i) F' H' | .ret => Q .ret F' H') = L_cake_Total_0_0 a0 (fun i0 l1 l2 i3 l4 i5 i6 b7 => Q (.exit 0) [(1, .box (.agg [(.int .i64 i0), (.data l1), (.data l2)])), (5, .v (.int .i64 i3)), (14, .v (.data l4)), (15, .v (.int .i64 i5)), (16, .v (.int .i64 i6)), (17, .v (.bool b7))] []) (n + 1) i0 l1 l2 i3 l4 i5 i6 := by kernel_rfl
theorem lpb_cake_Total_0 : LpOk E (lp_cake_Total w_cake_Check) b_45203600 := (LpOk_no (by kernel_rfl))
theorem loop_cake_Total_0 : ∀ F H Q, lp_cake_Total w_cake_Check 45203600 F H Q → LoopT E b_45203600 F H Q := by
 intro F H Q h
 have go := LoopT.intro (callW_ok se0_cake_Total 5) lpb_cake_Total_0 (R_cake_Total_0 w_cake_Check Q) (by
   intro F H h
   unfold R_cake_Total_0 D_cake_Total_0 at h
   split at h
   · exact h
   · exact h) (by
   intro n F H h
   unfold R_cake_Total_0 D_cake_Total_0 at h
   split at h
   · exact (body_cake_Total_0_0 ..).mpr h
   · exact h.elim)
 have h : D_cake_Total_0 F H _ := h
 unfold D_cake_Total_0 at h
 split at h
 · obtain ⟨n, h⟩ := h; exact go n _ _ h
 · exact h.elim
theorem eq_cake_Total (a0 p0 p1 p2 K) : WP (S0_cake_Total a0) 6 t_cake_Total [(.agg [(.int .i64 p0), (.data p1), (.data p2)])] K = wv_cake_Total a0 p0 p1 p2 (fun r0 r1 => K (.tup [(.int .i64 r0), (.int .i64 r1)])) := by kernel_rfl
theorem ok_cake_Total : OkF E wp_cake_Total n_cake_Total := by
 intro as K h
 unfold wp_cake_Total pw_cake_Total at h
 split at h
 · exact WP_ok se0_cake_Total (LpOk_by (l := [(45203600, b_45203600)]) ⟨loop_cake_Total_0, trivial⟩ (by kernel_rfl)) (by kernel_rfl) (by kernel_rfl) (fun _ => baseC_none (by kernel_rfl) _) ((eq_cake_Total ..).mpr h)
 · exact h.elim
abbrev T_cake_whole : Type := Int → (Int → Int → Prop) → Prop
def wv_cake_whole (p0 : Int) (K : Int → Int → Prop) : Prop :=
 (K p0 (1 : Int))
def w_cake_whole (p0 : Int) (K : Int → Int → Prop) : Prop := wv_cake_whole p0 K
def pw_cake_whole (w : T_cake_whole) (as : List PV) (K : PV → Prop) : Prop :=
 match as with
 | [(.int .i64 p0)] => w p0 (fun r0 r1 => K (.agg [(.int .i64 r0), (.int .i64 r1)]))
 | _ => False
def wp_cake_whole (as : List PV) (K : PV → Prop) : Prop := pw_cake_whole w_cake_whole as K
def lp_cake_whole : LP := fun _ _ _ _ =>
 False
def S0_cake_whole : SE := ⟨E, lookS [], lookI [], lp_cake_whole⟩
theorem se0_cake_whole : SEOk (S0_cake_whole) := seOk_of trivial trivial
theorem eq_cake_whole ( p0 K) : WP (S0_cake_whole) 6 t_cake_whole [(.int .i64 p0)] K = wv_cake_whole p0 (fun r0 r1 => K (.agg [(.int .i64 r0), (.int .i64 r1)])) := by kernel_rfl
theorem ok_cake_whole : OkF E wp_cake_whole n_cake_whole := by
 intro as K h
 unfold wp_cake_whole pw_cake_whole at h
 split at h
 · exact WP_ok se0_cake_whole (LpOk_no (by kernel_rfl)) (by kernel_rfl) (by kernel_rfl) (fun _ => baseC_none (by kernel_rfl) _) ((eq_cake_whole ..).mpr h)
 · exact h.elim
abbrev T_cake_less : Type := Int → Int → Int → Int → (Bool → Prop) → Prop
def wv_cake_less (a0 : T_ratio_Cmp) (p0 p1 p2 p3 : Int) (K : Bool → Prop) : Prop :=
 (a0 p0 p1 p2 p3 (fun yi0 _ => 
 (K (decide (yi0 < (0 : Int))))))
def w_cake_less (p0 p1 p2 p3 : Int) (K : Bool → Prop) : Prop := wv_cake_less w_ratio_Cmp p0 p1 p2 p3 K
def pw_cake_less (w : T_cake_less) (as : List PV) (K : PV → Prop) : Prop :=
 match as with
 | [(.agg [(.int .i64 p0), (.int .i64 p1)]), (.agg [(.int .i64 p2), (.int .i64 p3)])] => w p0 p1 p2 p3 (fun r0 => K (.bool r0))
 | _ => False
def wp_cake_less (as : List PV) (K : PV → Prop) : Prop := pw_cake_less w_cake_less as K
def lp_cake_less (_ : T_ratio_Cmp) : LP := fun _ _ _ _ =>
 False
def S0_cake_less (a0 : T_ratio_Cmp) : SE := ⟨E, lookS [(n_ratio_Cmp, pw_ratio_Cmp a0)], lookI [], lp_cake_less a0⟩
theorem se0_cake_less : SEOk (S0_cake_less w_ratio_Cmp) := seOk_of ⟨ok_ratio_Cmp, trivial⟩ trivial
theorem eq_cake_less (a0 p0 p1 p2 p3 K) : WP (S0_cake_less a0) 6 t_cake_less [(.agg [(.int .i64 p0), (.int .i64 p1)]), (.agg [(.int .i64 p2), (.int .i64 p3)])] K = wv_cake_less a0 p0 p1 p2 p3 (fun r0 => K (.bool r0)) := by kernel_rfl
theorem ok_cake_less : OkF E wp_cake_less n_cake_less := by
 intro as K h
 unfold wp_cake_less pw_cake_less at h
 split at h
 · exact WP_ok se0_cake_less (LpOk_no (by kernel_rfl)) (by kernel_rfl) (by kernel_rfl) (fun _ => baseC_none (by kernel_rfl) _) ((eq_cake_less ..).mpr h)
 · exact h.elim
abbrev T_cake_point : Type := Int → List PV → List PV → Int → Int → (Bool → Prop) → Prop
def wv_cake_point (a0 : T_ratio_Check) (a1 : T_cake_whole) (a2 : T_cake_less) (p0 : Int) (_ _ : List PV) (p3 p4 : Int) (K : Bool → Prop) : Prop :=
 (a0 p3 p4 (fun yi0 => 
 (cbr (yi0 == (0 : Int))
 (cbr (decide (p3 ≥ (0 : Int)))
 (a1 p0 (fun yi1 yi2 => 
 (a2 yi1 yi2 p3 p4 (fun yb3 => 
 (K (!yb3))))))
 (K false))
 (K false))))
def w_cake_point (p0 : Int) (p1 p2 : List PV) (p3 p4 : Int) (K : Bool → Prop) : Prop := wv_cake_point w_ratio_Check w_cake_whole w_cake_less p0 p1 p2 p3 p4 K
def pw_cake_point (w : T_cake_point) (as : List PV) (K : PV → Prop) : Prop :=
 match as with
 | [(.agg [(.int .i64 p0), (.data p1), (.data p2)]), (.agg [(.int .i64 p3), (.int .i64 p4)])] => w p0 p1 p2 p3 p4 (fun r0 => K (.bool r0))
 | _ => False
def wp_cake_point (as : List PV) (K : PV → Prop) : Prop := pw_cake_point w_cake_point as K
def lp_cake_point (_ : T_ratio_Check) (_ : T_cake_whole) (_ : T_cake_less) : LP := fun _ _ _ _ =>
 False
def S0_cake_point (a0 : T_ratio_Check) (a1 : T_cake_whole) (a2 : T_cake_less) : SE := ⟨E, lookS [(n_ratio_Check, pw_ratio_Check a0), (n_cake_whole, pw_cake_whole a1), (n_cake_less, pw_cake_less a2)], lookI [], lp_cake_point a0 a1 a2⟩
theorem se0_cake_point : SEOk (S0_cake_point w_ratio_Check w_cake_whole w_cake_less) := seOk_of ⟨ok_ratio_Check, ok_cake_whole, ok_cake_less, trivial⟩ trivial
theorem eq_cake_point (a0 a1 a2 p0 p1 p2 p3 p4 K) : WP (S0_cake_point a0 a1 a2) 6 t_cake_point [(.agg [(.int .i64 p0), (.data p1), (.data p2)]), (.agg [(.int .i64 p3), (.int .i64 p4)])] K = wv_cake_point a0 a1 a2 p0 p1 p2 p3 p4 (fun r0 => K (.bool r0)) := by kernel_rfl
theorem ok_cake_point : OkF E wp_cake_point n_cake_point := by
 intro as K h
 unfold wp_cake_point pw_cake_point at h
 split at h
 · exact WP_ok se0_cake_point (LpOk_no (by kernel_rfl)) (by kernel_rfl) (by kernel_rfl) (fun _ => baseC_none (by kernel_rfl) _) ((eq_cake_point ..).mpr h)
 · exact h.elim
abbrev T_cake_Mark : Type := Int → List PV → List PV → Int → Int → Int → Int → (Int → Int → Int → Prop) → Prop
def L_cake_Mark_0_0 (a0 : T_cake_Check) (a1 : T_cake_point) (a2 : T_ratio_Check) (a3 : T_cake_whole) (a4 : T_cake_less) (a5 : T_ratio_Sub) (a6 : T_ratio_Mul) (a7 : T_ratio_Div) (a8 : T_ratio_Add) (x0 : Int → Int → Int → Int → Int → Int → Prop) (x1 : Int → Int → Int → Int → Int → Int → List PV → List PV → Int → Int → List PV → Int → Int → Bool → Prop) : Nat → Int → Int → Int → Int → Int → Int → List PV → List PV → Int → Int → List PV → Int → Int → Prop
 | 0, _, _, _, _, _, _, _, _, _, _, _, _, _ => False
 | n + 1, i0, i1, i2, i3, i4, i5, l6, l7, i8, i9, l10, i11, i12 =>
 (cbr (decide (i12 < i11))
 (asr (decide ((0 : Int) ≤ i12))
 (asr (decide (i12 < (((List.length l10) : Nat) : Int)))
 (asr (conf (.one (.i .i64)) (List.getD l10 (i12.toNat) .nils))
 (asr (decide ((0 : Int) ≤ (IntKind.i64.wrap (i12 + (1 : Int)))))
 (asr (decide ((IntKind.i64.wrap (i12 + (1 : Int))) < (((List.length l6) : Nat) : Int)))
 (asr (conf (.one (.i .i64)) (List.getD l6 ((IntKind.i64.wrap (i12 + (1 : Int))).toNat) .nils))
 (a3 (intOfV (List.getD l6 ((IntKind.i64.wrap (i12 + (1 : Int))).toNat) .nils)) (fun yi3 yi4 => 
 (a4 i8 i9 yi3 yi4 (fun yb5 => 
 (cbr (!yb5)
 (L_cake_Mark_0_0 a0 a1 a2 a3 a4 a5 a6 a7 a8 x0 x1 n i0 i1 i2 i3 i4 i5 l6 l7 i8 i9 l10 i11 (IntKind.i64.wrap (i12 + (1 : Int))))
 (a3 (0 : Int) (fun yi6 yi7 => 
 (cbr (decide ((intOfV (List.getD l10 (i12.toNat) .nils)) > (0 : Int)))
 (a5 yi3 yi4 i8 i9 (fun yi8 yi9 yi10 => 
 (cbr (yi10 != (0 : Int))
 (x0 i0 i1 i2 i3 i4 yi10)
 (a3 (intOfV (List.getD l10 (i12.toNat) .nils)) (fun yi11 yi12 => 
 (a6 yi8 yi9 yi11 yi12 (fun yi13 yi14 yi15 => 
 (cbr (yi15 != (0 : Int))
 (x0 i0 i1 i2 i3 i4 yi15)
 (cbr ((intOfV (List.getD l10 (i12.toNat) .nils)) == (0 : Int))
 (L_cake_Mark_0_0 a0 a1 a2 a3 a4 a5 a6 a7 a8 x0 x1 n i0 i1 i2 i3 i4 i5 l6 l7 yi3 yi4 l10 i11 (IntKind.i64.wrap (i12 + (1 : Int))))
 (a4 yi13 yi14 i0 i1 (fun yb16 => 
 (cbr yb16
 (a5 i0 i1 yi13 yi14 (fun yi17 yi18 yi19 => 
 (cbr (yi19 != (0 : Int))
 (cbr (yi19 != (0 : Int))
 (x0 yi17 yi18 i2 i3 yi19 (0 : Int))
 (L_cake_Mark_0_0 a0 a1 a2 a3 a4 a5 a6 a7 a8 x0 x1 n yi17 yi18 i2 i3 yi19 i5 l6 l7 yi3 yi4 l10 i11 (IntKind.i64.wrap (i12 + (1 : Int)))))
 (cbr (yi19 != (0 : Int))
 (x0 yi17 yi18 i2 i3 (6 : Int) (0 : Int))
 (L_cake_Mark_0_0 a0 a1 a2 a3 a4 a5 a6 a7 a8 x0 x1 n yi17 yi18 i2 i3 (6 : Int) i5 l6 l7 yi3 yi4 l10 i11 (IntKind.i64.wrap (i12 + (1 : Int))))))))
 (a3 (intOfV (List.getD l10 (i12.toNat) .nils)) (fun yi20 yi21 => 
 (a7 i0 i1 yi20 yi21 (fun yi22 yi23 yi24 => 
 (cbr (yi24 == (0 : Int))
 (a8 i8 i9 yi22 yi23 (fun yi25 yi26 yi27 => 
 (x0 i0 i1 yi25 yi26 yi27 (0 : Int))))
 (x0 i0 i1 i2 i3 yi24 (0 : Int)))))))))))))))))))
 (cbr ((intOfV (List.getD l10 (i12.toNat) .nils)) == (0 : Int))
 (L_cake_Mark_0_0 a0 a1 a2 a3 a4 a5 a6 a7 a8 x0 x1 n i0 i1 i2 i3 i4 i5 l6 l7 yi3 yi4 l10 i11 (IntKind.i64.wrap (i12 + (1 : Int))))
 (a4 yi6 yi7 i0 i1 (fun yb28 => 
 (cbr yb28
 (a5 i0 i1 yi6 yi7 (fun yi29 yi30 yi31 => 
 (cbr (yi31 != (0 : Int))
 (cbr (yi31 != (0 : Int))
 (x0 yi29 yi30 i2 i3 yi31 (0 : Int))
 (L_cake_Mark_0_0 a0 a1 a2 a3 a4 a5 a6 a7 a8 x0 x1 n yi29 yi30 i2 i3 yi31 i5 l6 l7 yi3 yi4 l10 i11 (IntKind.i64.wrap (i12 + (1 : Int)))))
 (cbr (yi31 != (0 : Int))
 (x0 yi29 yi30 i2 i3 (6 : Int) (0 : Int))
 (L_cake_Mark_0_0 a0 a1 a2 a3 a4 a5 a6 a7 a8 x0 x1 n yi29 yi30 i2 i3 (6 : Int) i5 l6 l7 yi3 yi4 l10 i11 (IntKind.i64.wrap (i12 + (1 : Int))))))))
 (a3 (intOfV (List.getD l10 (i12.toNat) .nils)) (fun yi32 yi33 => 
 (a7 i0 i1 yi32 yi33 (fun yi34 yi35 yi36 => 
 (cbr (yi36 == (0 : Int))
 (a8 i8 i9 yi34 yi35 (fun yi37 yi38 yi39 => 
 (x0 i0 i1 yi37 yi38 yi39 (0 : Int))))
 (x0 i0 i1 i2 i3 yi36 (0 : Int)))))))))))))))))))))))))
 (x1 i0 i1 i2 i3 i4 i5 l6 l7 i8 i9 l10 i11 i12 false))
def wv_cake_Mark (a0 : T_cake_Check) (a1 : T_cake_point) (a2 : T_ratio_Check) (a3 : T_cake_whole) (a4 : T_cake_less) (a5 : T_ratio_Sub) (a6 : T_ratio_Mul) (a7 : T_ratio_Div) (a8 : T_ratio_Add) (p0 : Int) (p1 p2 : List PV) (p3 p4 p5 p6 : Int) (K : Int → Int → Int → Prop) : Prop :=
 (a0 p0 p1 p2 (fun yi0 => 
 (cbr (yi0 != (0 : Int))
 (K (0 : Int) (0 : Int) yi0)
 (a1 p0 p1 p2 p3 p4 (fun yb1 => 
 (cbr (!yb1)
 (K (0 : Int) (0 : Int) (2 : Int))
 (a2 p5 p6 (fun yi2 => 
 (cbr (yi2 != (0 : Int))
 (K (0 : Int) (0 : Int) (2 : Int))
 (cbr (decide (p5 < (0 : Int)))
 (K (0 : Int) (0 : Int) (2 : Int))
 (cbr (p5 == (0 : Int))
 (K p3 p4 (0 : Int))
 (∃ n : Nat, L_cake_Mark_0_0 a0 a1 a2 a3 a4 a5 a6 a7 a8
 (fun _ _ yi42 yi43 yi44 yi45 => (cbr (yi45 != (0 : Int))
 (cbr (yi45 != (0 : Int))
 (K (0 : Int) (0 : Int) yi45)
 (K yi42 yi43 (0 : Int)))
 (cbr (yi44 != (0 : Int))
 (K (0 : Int) (0 : Int) yi44)
 (K yi42 yi43 (0 : Int)))))
 (fun _ _ yi48 yi49 yi50 _ _ _ _ _ _ _ _ _ => (cbr (yi50 != (0 : Int))
 (K (0 : Int) (0 : Int) yi50)
 (K yi48 yi49 (0 : Int))))
 n p5 p6 (0 : Int) (0 : Int) (6 : Int) p0 p1 p2 p3 p4 p2 (((List.length p2) : Nat) : Int) (0 : Int)))))))))))))
def w_cake_Mark (p0 : Int) (p1 p2 : List PV) (p3 p4 p5 p6 : Int) (K : Int → Int → Int → Prop) : Prop := wv_cake_Mark w_cake_Check w_cake_point w_ratio_Check w_cake_whole w_cake_less w_ratio_Sub w_ratio_Mul w_ratio_Div w_ratio_Add p0 p1 p2 p3 p4 p5 p6 K
def pw_cake_Mark (w : T_cake_Mark) (as : List PV) (K : PV → Prop) : Prop :=
 match as with
 | [(.agg [(.int .i64 p0), (.data p1), (.data p2)]), (.agg [(.int .i64 p3), (.int .i64 p4)]), (.agg [(.int .i64 p5), (.int .i64 p6)])] => w p0 p1 p2 p3 p4 p5 p6 (fun r0 r1 r2 => K (.tup [(.agg [(.int .i64 r0), (.int .i64 r1)]), (.int .i64 r2)]))
 | _ => False
def wp_cake_Mark (as : List PV) (K : PV → Prop) : Prop := pw_cake_Mark w_cake_Mark as K
def D_cake_Mark_0 (F : Frm) (H : Hp) (A0 : Int → Int → Int → Int → Int → Int → List PV → List PV → Int → Int → List PV → Int → Int → Prop) : Prop :=
 match F, H with
 | [(2, .v (.fn (.func q0) [] [(.ptr 0 1 0 0), (.ptr 2 1 0 0), (.ptr 1 1 0 0)])), (3, .box (.agg [(.int .i64 i5), (.data l6), (.data l7)])), (4, .box (.agg [(.int .i64 i8), (.int .i64 i9)])), (14, .v (.data l10)), (15, .v (.int .i64 i11)), (16, .v (.int .i64 i12))], [⟨false, true, 2, [(.agg [(.int .i64 i0), (.int .i64 i1)])]⟩, ⟨false, true, 2, [(.agg [(.int .i64 i2), (.int .i64 i3)])]⟩, ⟨false, true, 1, [(.int .i64 i4)]⟩] => asr (Nat.beq q0 n_cake_Mark_1) (A0 i0 i1 i2 i3 i4 i5 l6 l7 i8 i9 l10 i11 i12)
 | _, _ => False
def R_cake_Mark_0 (a0 : T_cake_Check) (a1 : T_cake_point) (a2 : T_ratio_Check) (a3 : T_cake_whole) (a4 : T_cake_less) (a5 : T_ratio_Sub) (a6 : T_ratio_Mul) (a7 : T_ratio_Div) (a8 : T_ratio_Add) (Q : Ex → Frm → Hp → Prop) (n : Nat) (F : Frm) (H : Hp) : Prop := D_cake_Mark_0 F H (fun i0 i1 i2 i3 i4 i5 l6 l7 i8 i9 l10 i11 i12 => L_cake_Mark_0_0 a0 a1 a2 a3 a4 a5 a6 a7 a8 (fun i0 i1 i2 i3 i4 i5 => Q .ret [(6, .v (.int .i64 i5))] [⟨false, true, 2, ([(.agg [(.int .i64 i0), (.int .i64 i1)])] : List PV)⟩, ⟨false, true, 2, ([(.agg [(.int .i64 i2), (.int .i64 i3)])] : List PV)⟩, ⟨false, true, 1, ([(.int .i64 i4)] : List PV)⟩]) (fun i0 i1 i2 i3 i4 i5 l6 l7 i8 i9 l10 i11 i12 b13 => Q (.exit 0) [(2, .v (.fn (.func n_cake_Mark_1) [] [(.ptr 0 1 0 0), (.ptr 2 1 0 0), (.ptr 1 1 0 0)])), (3, .box (.agg [(.int .i64 i5), (.data l6), (.data l7)])), (4, .box (.agg [(.int .i64 i8), (.int .i64 i9)])), (14, .v (.data l10)), (15, .v (.int .i64 i11)), (16, .v (.int .i64 i12)), (17, .v (.bool b13))] [⟨false, true, 2, ([(.agg [(.int .i64 i0), (.int .i64 i1)])] : List PV)⟩, ⟨false, true, 2, ([(.agg [(.int .i64 i2), (.int .i64 i3)])] : List PV)⟩, ⟨false, true, 1, ([(.int .i64 i4)] : List PV)⟩]) n i0 i1 i2 i3 i4 i5 l6 l7 i8 i9 l10 i11 i12)
def lp_cake_Mark (a0 : T_cake_Check) (a1 : T_cake_point) (a2 : T_ratio_Check) (a3 : T_cake_whole) (a4 : T_cake_less) (a5 : T_ratio_Sub) (a6 : T_ratio_Mul) (a7 : T_ratio_Div) (a8 : T_ratio_Add) : LP := fun id F H Q =>
 bif Nat.beq id 41613500 then D_cake_Mark_0 F H (fun i0 i1 i2 i3 i4 i5 l6 l7 i8 i9 l10 i11 i12 => ∃ n : Nat, L_cake_Mark_0_0 a0 a1 a2 a3 a4 a5 a6 a7 a8 (fun i0 i1 i2 i3 i4 i5 => Q .ret [(6, .v (.int .i64 i5))] [⟨false, true, 2, ([(.agg [(.int .i64 i0), (.int .i64 i1)])] : List PV)⟩, ⟨false, true, 2, ([(.agg [(.int .i64 i2), (.int .i64 i3)])] : List PV)⟩, ⟨false, true, 1, ([(.int .i64 i4)] : List PV)⟩]) (fun i0 i1 i2 i3 i4 i5 l6 l7 i8 i9 l10 i11 i12 b13 => Q (.exit 0) [(2, .v (.fn (.func n_cake_Mark_1) [] [(.ptr 0 1 0 0), (.ptr 2 1 0 0), (.ptr 1 1 0 0)])), (3, .box (.agg [(.int .i64 i5), (.data l6), (.data l7)])), (4, .box (.agg [(.int .i64 i8), (.int .i64 i9)])), (14, .v (.data l10)), (15, .v (.int .i64 i11)), (16, .v (.int .i64 i12)), (17, .v (.bool b13))] [⟨false, true, 2, ([(.agg [(.int .i64 i0), (.int .i64 i1)])] : List PV)⟩, ⟨false, true, 2, ([(.agg [(.int .i64 i2), (.int .i64 i3)])] : List PV)⟩, ⟨false, true, 1, ([(.int .i64 i4)] : List PV)⟩]) n i0 i1 i2 i3 i4 i5 l6 l7 i8 i9 l10 i11 i12) else
 False
def S0_cake_Mark (a0 : T_cake_Check) (a1 : T_cake_point) (a2 : T_ratio_Check) (a3 : T_cake_whole) (a4 : T_cake_less) (a5 : T_ratio_Sub) (a6 : T_ratio_Mul) (a7 : T_ratio_Div) (a8 : T_ratio_Add) : SE := ⟨E, lookS [(n_cake_Check, pw_cake_Check a0), (n_cake_point, pw_cake_point a1), (n_ratio_Check, pw_ratio_Check a2), (n_cake_whole, pw_cake_whole a3), (n_cake_less, pw_cake_less a4), (n_ratio_Sub, pw_ratio_Sub a5), (n_ratio_Mul, pw_ratio_Mul a6), (n_ratio_Div, pw_ratio_Div a7), (n_ratio_Add, pw_ratio_Add a8)], lookI [(n_cake_Mark_1, t_cake_Mark_1)], lp_cake_Mark a0 a1 a2 a3 a4 a5 a6 a7 a8⟩
def S1_cake_Mark (a0 : T_cake_Check) (a1 : T_cake_point) (a2 : T_ratio_Check) (a3 : T_cake_whole) (a4 : T_cake_less) (a5 : T_ratio_Sub) (a6 : T_ratio_Mul) (a7 : T_ratio_Div) (a8 : T_ratio_Add) : SE := ⟨E, lookS [(n_cake_Check, pw_cake_Check a0), (n_cake_point, pw_cake_point a1), (n_ratio_Check, pw_ratio_Check a2), (n_cake_whole, pw_cake_whole a3), (n_cake_less, pw_cake_less a4), (n_ratio_Sub, pw_ratio_Sub a5), (n_ratio_Mul, pw_ratio_Mul a6), (n_ratio_Div, pw_ratio_Div a7), (n_ratio_Add, pw_ratio_Add a8)], lookI [(n_cake_walk, t_cake_walk), (n_cake_Mark_1, t_cake_Mark_1)], lp_cake_Mark a0 a1 a2 a3 a4 a5 a6 a7 a8⟩
theorem se0_cake_Mark : SEOk (S0_cake_Mark w_cake_Check w_cake_point w_ratio_Check w_cake_whole w_cake_less w_ratio_Sub w_ratio_Mul w_ratio_Div w_ratio_Add) := seOk_of ⟨ok_cake_Check, ok_cake_point, ok_ratio_Check, ok_cake_whole, ok_cake_less, ok_ratio_Sub, ok_ratio_Mul, ok_ratio_Div, ok_ratio_Add, trivial⟩ ⟨⟨by kernel_rfl, by kernel_rfl, rfl, fun as => baseC_none (by kernel_rfl) as, (LpOk_no (by kernel_rfl))⟩, trivial⟩
theorem body_cake_Mark_0_0 (a0 a1 a2 a3 a4 a5 a6 a7 a8 Q n i0 i1 i2 i3 i4 i5 l6 l7 i8 i9 l10 i11 i12) : WC E (callW (S0_cake_Mark a0 a1 a2 a3 a4 a5 a6 a7 a8) 5) (lp_cake_Mark a0 a1 a2 a3 a4 a5 a6 a7 a8) b_41613500 [(2, .v (.fn (.func n_cake_Mark_1) [] [(.ptr 0 1 0 0), (.ptr 2 1 0 0), (.ptr 1 1 0 0)])), (3, .box (.agg [(.int .i64 i5), (.data l6), (.data l7)])), (4, .box (.agg [(.int .i64 i8), (.int .i64 i9)])), (14, .v (.data l10)), (15, .v (.int .i64 i11)), (16, .v (.int .i64 i12))] [⟨false, true, 2, ([(.agg [(.int .i64 i0), (.int .i64 i1)])] : List PV)⟩, ⟨false, true, 2, ([(.agg [(.int .i64 i2), (.int .i64 i3)])] : List PV)⟩, ⟨false, true, 1, ([(.int .i64 i4)] : List PV)⟩] (fun x F' H' => match x with | .norm => R_cake_Mark_0 a0 a1 a2 a3 a4 a5 a6 a7 a8 Q n F' H' | .exit i => Q (.exit i) F' H' | .ret => Q .ret F' H') = L_cake_Mark_0_0 a0 a1 a2 a3 a4 a5 a6 a7 a8 (fun i0 i1 i2 i3 i4 i5 => Q .ret [(6, .v (.int .i64 i5))] [⟨false, true, 2, ([(.agg [(.int .i64 i0), (.int .i64 i1)])] : List PV)⟩, ⟨false, true, 2, ([(.agg [(.int .i64 i2), (.int .i64 i3)])] : List PV)⟩, ⟨false, true, 1, ([(.int .i64 i4)] : List PV)⟩]) (fun i0 i1 i2 i3 i4 i5 l6 l7 i8 i9 l10 i11 i12 b13 => Q (.exit 0) [(2, .v (.fn (.func n_cake_Mark_1) [] [(.ptr 0 1 0 0), (.ptr 2 1 0 0), (.ptr 1 1 0 0)])), (3, .box (.agg [(.int .i64 i5), (.data l6), (.data l7)])), (4, .box (.agg [(.int .i64 i8), (.int .i64 i9)])), (14, .v (.data l10)), (15, .v (.int .i64 i11)), (16, .v (.int .i64 i12)), (17, .v (.bool b13))] [⟨false, true, 2, ([(.agg [(.int .i64 i0), (.int .i64 i1)])] : List PV)⟩, ⟨false, true, 2, ([(.agg [(.int .i64 i2), (.int .i64 i3)])] : List PV)⟩, ⟨false, true, 1, ([(.int .i64 i4)] : List PV)⟩]) (n + 1) i0 i1 i2 i3 i4 i5 l6 l7 i8 i9 l10 i11 i12 := by kernel_rfl
theorem lpb_cake_Mark_0 : LpOk E (lp_cake_Mark w_cake_Check w_cake_point w_ratio_Check w_cake_whole w_cake_less w_ratio_Sub w_ratio_Mul w_ratio_Div w_ratio_Add) b_41613500 := (LpOk_no (by kernel_rfl))
theorem loop_cake_Mark_0 : ∀ F H Q, lp_cake_Mark w_cake_Check w_cake_point w_ratio_Check w_cake_whole w_cake_less w_ratio_Sub w_ratio_Mul w_ratio_Div w_ratio_Add 41613500 F H Q → LoopT E b_41613500 F H Q := by
 intro F H Q h
 have go := LoopT.intro (callW_ok se0_cake_Mark 5) lpb_cake_Mark_0 (R_cake_Mark_0 w_cake_Check w_cake_point w_ratio_Check w_cake_whole w_cake_less w_ratio_Sub w_ratio_Mul w_ratio_Div w_ratio_Add Q) (by
   intro F H h
   unfold R_cake_Mark_0 D_cake_Mark_0 at h
   split at h
   · obtain ⟨hg, k⟩ := asr_iff.1 h
     clear h
     have h := k
     clear k
     try simp only [Bool.and_eq_true, decide_eq_true_eq] at hg
     have g0 := hg; have g0 := Nat.eq_of_beq_eq_true g0; subst g0; exact h
   · exact h) (by
   intro n F H h
   unfold R_cake_Mark_0 D_cake_Mark_0 at h
   split at h
   · obtain ⟨hg, k⟩ := asr_iff.1 h
     clear h
     have h := k
     clear k
     try simp only [Bool.and_eq_true, decide_eq_true_eq] at hg
     have g0 := hg; have g0 := Nat.eq_of_beq_eq_true g0; subst g0; exact (body_cake_Mark_0_0 ..).mpr h
   · exact h.elim)
 have h : D_cake_Mark_0 F H _ := h
 unfold D_cake_Mark_0 at h
 split at h
 · obtain ⟨hg, n, h⟩ := asr_iff.1 h; exact go n _ _ (asr_iff.2 ⟨hg, h⟩)
 · exact h.elim
theorem se1_cake_Mark : SEOk (S1_cake_Mark w_cake_Check w_cake_point w_ratio_Check w_cake_whole w_cake_less w_ratio_Sub w_ratio_Mul w_ratio_Div w_ratio_Add) := seOk_of ⟨ok_cake_Check, ok_cake_point, ok_ratio_Check, ok_cake_whole, ok_cake_less, ok_ratio_Sub, ok_ratio_Mul, ok_ratio_Div, ok_ratio_Add, trivial⟩ ⟨⟨by kernel_rfl, by kernel_rfl, rfl, fun as => baseC_none (by kernel_rfl) as, (LpOk_by (l := [(41613500, b_41613500)]) ⟨loop_cake_Mark_0, trivial⟩ (by kernel_rfl))⟩, ⟨by kernel_rfl, by kernel_rfl, rfl, fun as => baseC_none (by kernel_rfl) as, (LpOk_no (by kernel_rfl))⟩, trivial⟩
theorem eq_cake_Mark (a0 a1 a2 a3 a4 a5 a6 a7 a8 p0 p1 p2 p3 p4 p5 p6 K) : WP (S1_cake_Mark a0 a1 a2 a3 a4 a5 a6 a7 a8) 6 t_cake_Mark [(.agg [(.int .i64 p0), (.data p1), (.data p2)]), (.agg [(.int .i64 p3), (.int .i64 p4)]), (.agg [(.int .i64 p5), (.int .i64 p6)])] K = wv_cake_Mark a0 a1 a2 a3 a4 a5 a6 a7 a8 p0 p1 p2 p3 p4 p5 p6 (fun r0 r1 r2 => K (.tup [(.agg [(.int .i64 r0), (.int .i64 r1)]), (.int .i64 r2)])) := by kernel_rfl
theorem ok_cake_Mark : OkF E wp_cake_Mark n_cake_Mark := by
 intro as K h
 unfold wp_cake_Mark pw_cake_Mark at h
 split at h
 · exact WP_ok se1_cake_Mark (LpOk_no (by kernel_rfl)) (by kernel_rfl) (by kernel_rfl) (fun _ => baseC_none (by kernel_rfl) _) ((eq_cake_Mark ..).mpr h)
 · exact h.elim
abbrev T_cake_Value : Type := Int → List PV → List PV → Int → Int → Int → Int → (Int → Int → Int → Prop) → Prop
def L_cake_Value_0_0 (a0 : T_cake_Check) (a1 : T_cake_point) (a2 : T_cake_less) (a3 : T_cake_whole) (a4 : T_ratio_Sub) (a5 : T_ratio_Mul) (a6 : T_ratio_Add) (x0 : Int → Int → Int → Prop) (x1 : Int → List PV → List PV → Int → Int → Int → Int → Int → Int → Int → Int → List PV → Int → Int → Bool → Prop) : Nat → Int → List PV → List PV → Int → Int → Int → Int → Int → Int → Int → Int → List PV → Int → Int → Prop
 | 0, _, _, _, _, _, _, _, _, _, _, _, _, _, _ => False
 | n + 1, i0, l1, l2, i3, i4, i5, i6, i7, i8, i9, i10, l11, i12, i13 =>
 (cbr (decide (i13 < i12))
 (asr (decide ((0 : Int) ≤ i13))
 (asr (decide (i13 < (((List.length l11) : Nat) : Int)))
 (asr (conf (.one (.i .i64)) (List.getD l11 (i13.toNat) .nils))
 (asr (decide ((0 : Int) ≤ (IntKind.i64.wrap (i13 + (1 : Int)))))
 (asr (decide ((IntKind.i64.wrap (i13 + (1 : Int))) < (((List.length l1) : Nat) : Int)))
 (asr (conf (.one (.i .i64)) (List.getD l1 ((IntKind.i64.wrap (i13 + (1 : Int))).toNat) .nils))
 (a3 (intOfV (List.getD l1 ((IntKind.i64.wrap (i13 + (1 : Int))).toNat) .nils)) (fun yi6 yi7 => 
 (a2 i3 i4 yi6 yi7 (fun yb8 => 
 (cbr yb8
 (cbr ((intOfV (List.getD l11 (i13.toNat) .nils)) == (0 : Int))
 (a2 i9 i10 i3 i4 (fun yb9 => 
 (cbr yb9
 (L_cake_Value_0_0 a0 a1 a2 a3 a4 a5 a6 x0 x1 n i0 l1 l2 i3 i4 i5 i6 i7 i8 i3 i4 l11 i12 (IntKind.i64.wrap (i13 + (1 : Int))))
 (L_cake_Value_0_0 a0 a1 a2 a3 a4 a5 a6 x0 x1 n i0 l1 l2 i3 i4 i5 i6 i7 i8 i9 i10 l11 i12 (IntKind.i64.wrap (i13 + (1 : Int)))))))
 (a2 i9 i10 i3 i4 (fun yb10 => 
 (cbr (!yb10)
 (a2 i9 i10 i3 i4 (fun yb11 => 
 (cbr yb11
 (L_cake_Value_0_0 a0 a1 a2 a3 a4 a5 a6 x0 x1 n i0 l1 l2 i3 i4 i5 i6 i7 i8 i3 i4 l11 i12 (IntKind.i64.wrap (i13 + (1 : Int))))
 (L_cake_Value_0_0 a0 a1 a2 a3 a4 a5 a6 x0 x1 n i0 l1 l2 i3 i4 i5 i6 i7 i8 i9 i10 l11 i12 (IntKind.i64.wrap (i13 + (1 : Int)))))))
 (a4 i3 i4 i9 i10 (fun yi12 yi13 yi14 => 
 (cbr (yi14 != (0 : Int))
 (x0 (0 : Int) (0 : Int) yi14)
 (a3 (intOfV (List.getD l11 (i13.toNat) .nils)) (fun yi15 yi16 => 
 (a5 yi12 yi13 yi15 yi16 (fun yi17 yi18 yi19 => 
 (cbr (yi19 != (0 : Int))
 (x0 (0 : Int) (0 : Int) yi19)
 (a6 i7 i8 yi17 yi18 (fun yi20 yi21 yi22 => 
 (cbr (yi22 != (0 : Int))
 (x0 (0 : Int) (0 : Int) yi22)
 (L_cake_Value_0_0 a0 a1 a2 a3 a4 a5 a6 x0 x1 n i0 l1 l2 i3 i4 i5 i6 yi20 yi21 i3 i4 l11 i12 (IntKind.i64.wrap (i13 + (1 : Int)))))))))))))))))))
 (cbr ((intOfV (List.getD l11 (i13.toNat) .nils)) == (0 : Int))
 (a2 i9 i10 yi6 yi7 (fun yb23 => 
 (cbr yb23
 (L_cake_Value_0_0 a0 a1 a2 a3 a4 a5 a6 x0 x1 n i0 l1 l2 i3 i4 i5 i6 i7 i8 yi6 yi7 l11 i12 (IntKind.i64.wrap (i13 + (1 : Int))))
 (L_cake_Value_0_0 a0 a1 a2 a3 a4 a5 a6 x0 x1 n i0 l1 l2 i3 i4 i5 i6 i7 i8 i9 i10 l11 i12 (IntKind.i64.wrap (i13 + (1 : Int)))))))
 (a2 i9 i10 yi6 yi7 (fun yb24 => 
 (cbr (!yb24)
 (a2 i9 i10 yi6 yi7 (fun yb25 => 
 (cbr yb25
 (L_cake_Value_0_0 a0 a1 a2 a3 a4 a5 a6 x0 x1 n i0 l1 l2 i3 i4 i5 i6 i7 i8 yi6 yi7 l11 i12 (IntKind.i64.wrap (i13 + (1 : Int))))
 (L_cake_Value_0_0 a0 a1 a2 a3 a4 a5 a6 x0 x1 n i0 l1 l2 i3 i4 i5 i6 i7 i8 i9 i10 l11 i12 (IntKind.i64.wrap (i13 + (1 : Int)))))))
 (a4 yi6 yi7 i9 i10 (fun yi26 yi27 yi28 => 
 (cbr (yi28 != (0 : Int))
 (x0 (0 : Int) (0 : Int) yi28)
 (a3 (intOfV (List.getD l11 (i13.toNat) .nils)) (fun yi29 yi30 => 
 (a5 yi26 yi27 yi29 yi30 (fun yi31 yi32 yi33 => 
 (cbr (yi33 != (0 : Int))
 (x0 (0 : Int) (0 : Int) yi33)
 (a6 i7 i8 yi31 yi32 (fun yi34 yi35 yi36 => 
 (cbr (yi36 != (0 : Int))
 (x0 (0 : Int) (0 : Int) yi36)
 (L_cake_Value_0_0 a0 a1 a2 a3 a4 a5 a6 x0 x1 n i0 l1 l2 i3 i4 i5 i6 yi34 yi35 yi6 yi7 l11 i12 (IntKind.i64.wrap (i13 + (1 : Int))))))))))))))))))))))))))))))
 (x1 i0 l1 l2 i3 i4 i5 i6 i7 i8 i9 i10 l11 i12 i13 false))
def wv_cake_Value (a0 : T_cake_Check) (a1 : T_cake_point) (a2 : T_cake_less) (a3 : T_cake_whole) (a4 : T_ratio_Sub) (a5 : T_ratio_Mul) (a6 : T_ratio_Add) (p0 : Int) (p1 p2 : List PV) (p3 p4 p5 p6 : Int) (K : Int → Int → Int → Prop) : Prop :=
 (a0 p0 p1 p2 (fun yi0 => 
 (cbr (yi0 != (0 : Int))
 (K (0 : Int) (0 : Int) yi0)
 (a1 p0 p1 p2 p3 p4 (fun yb1 => 
 (cbr (!yb1)
 (K (0 : Int) (0 : Int) (2 : Int))
 (a1 p0 p1 p2 p5 p6 (fun yb2 => 
 (cbr (!yb2)
 (K (0 : Int) (0 : Int) (2 : Int))
 (a2 p5 p6 p3 p4 (fun yb3 => 
 (cbr yb3
 (K (0 : Int) (0 : Int) (2 : Int))
 (a3 (0 : Int) (fun yi4 yi5 => 
 (∃ n : Nat, L_cake_Value_0_0 a0 a1 a2 a3 a4 a5 a6
 (fun yi37 yi38 yi39 => (K yi37 yi38 yi39))
 (fun _ _ _ _ _ _ _ yi47 yi48 _ _ _ _ _ _ => (K yi47 yi48 (0 : Int)))
 n p0 p1 p2 p5 p6 (0 : Int) (0 : Int) yi4 yi5 p3 p4 p2 (((List.length p2) : Nat) : Int) (0 : Int))))))))))))))))
def w_cake_Value (p0 : Int) (p1 p2 : List PV) (p3 p4 p5 p6 : Int) (K : Int → Int → Int → Prop) : Prop := wv_cake_Value w_cake_Check w_cake_point w_cake_less w_cake_whole w_ratio_Sub w_ratio_Mul w_ratio_Add p0 p1 p2 p3 p4 p5 p6 K
def pw_cake_Value (w : T_cake_Value) (as : List PV) (K : PV → Prop) : Prop :=
 match as with
 | [(.agg [(.int .i64 p0), (.data p1), (.data p2)]), (.agg [(.int .i64 p3), (.int .i64 p4)]), (.agg [(.int .i64 p5), (.int .i64 p6)])] => w p0 p1 p2 p3 p4 p5 p6 (fun r0 r1 r2 => K (.tup [(.agg [(.int .i64 r0), (.int .i64 r1)]), (.int .i64 r2)]))
 | _ => False
def wp_cake_Value (as : List PV) (K : PV → Prop) : Prop := pw_cake_Value w_cake_Value as K
def D_cake_Value_0 (F : Frm) (H : Hp) (A0 : Int → List PV → List PV → Int → Int → Int → Int → Int → Int → Int → Int → List PV → Int → Int → Prop) : Prop :=
 match F, H with
 | [(3, .box (.agg [(.int .i64 i0), (.data l1), (.data l2)])), (5, .box (.agg [(.int .i64 i3), (.int .i64 i4)])), (6, .box (.agg [(.int .i64 i5), (.int .i64 i6)])), (9, .box (.agg [(.int .i64 i7), (.int .i64 i8)])), (10, .box (.agg [(.int .i64 i9), (.int .i64 i10)])), (42, .v (.data l11)), (43, .v (.int .i64 i12)), (44, .v (.int .i64 i13))], [] => (A0 i0 l1 l2 i3 i4 i5 i6 i7 i8 i9 i10 l11 i12 i13)
 | _, _ => False
def R_cake_Value_0 (a0 : T_cake_Check) (a1 : T_cake_point) (a2 : T_cake_less) (a3 : T_cake_whole) (a4 : T_ratio_Sub) (a5 : T_ratio_Mul) (a6 : T_ratio_Add) (Q : Ex → Frm → Hp → Prop) (n : Nat) (F : Frm) (H : Hp) : Prop := D_cake_Value_0 F H (fun i0 l1 l2 i3 i4 i5 i6 i7 i8 i9 i10 l11 i12 i13 => L_cake_Value_0_0 a0 a1 a2 a3 a4 a5 a6 (fun i0 i1 i2 => Q .ret [(6, .box (.agg [(.int .i64 i0), (.int .i64 i1)])), (7, .v (.int .i64 i2))] []) (fun i0 l1 l2 i3 i4 i5 i6 i7 i8 i9 i10 l11 i12 i13 b14 => Q (.exit 0) [(3, .box (.agg [(.int .i64 i0), (.data l1), (.data l2)])), (5, .box (.agg [(.int .i64 i3), (.int .i64 i4)])), (6, .box (.agg [(.int .i64 i5), (.int .i64 i6)])), (9, .box (.agg [(.int .i64 i7), (.int .i64 i8)])), (10, .box (.agg [(.int .i64 i9), (.int .i64 i10)])), (42, .v (.data l11)), (43, .v (.int .i64 i12)), (44, .v (.int .i64 i13)), (45, .v (.bool b14))] []) n i0 l1 l2 i3 i4 i5 i6 i7 i8 i9 i10 l11 i12 i13)
def lp_cake_Value (a0 : T_cake_Check) (a1 : T_cake_point) (a2 : T_cake_less) (a3 : T_cake_whole) (a4 : T_ratio_Sub) (a5 : T_ratio_Mul) (a6 : T_ratio_Add) : LP := fun id F H Q =>
 bif Nat.beq id 85339800 then D_cake_Value_0 F H (fun i0 l1 l2 i3 i4 i5 i6 i7 i8 i9 i10 l11 i12 i13 => ∃ n : Nat, L_cake_Value_0_0 a0 a1 a2 a3 a4 a5 a6 (fun i0 i1 i2 => Q .ret [(6, .box (.agg [(.int .i64 i0), (.int .i64 i1)])), (7, .v (.int .i64 i2))] []) (fun i0 l1 l2 i3 i4 i5 i6 i7 i8 i9 i10 l11 i12 i13 b14 => Q (.exit 0) [(3, .box (.agg [(.int .i64 i0), (.data l1), (.data l2)])), (5, .box (.agg [(.int .i64 i3), (.int .i64 i4)])), (6, .box (.agg [(.int .i64 i5), (.int .i64 i6)])), (9, .box (.agg [(.int .i64 i7), (.int .i64 i8)])), (10, .box (.agg [(.int .i64 i9), (.int .i64 i10)])), (42, .v (.data l11)), (43, .v (.int .i64 i12)), (44, .v (.int .i64 i13)), (45, .v (.bool b14))] []) n i0 l1 l2 i3 i4 i5 i6 i7 i8 i9 i10 l11 i12 i13) else
 False
def S0_cake_Value (a0 : T_cake_Check) (a1 : T_cake_point) (a2 : T_cake_less) (a3 : T_cake_whole) (a4 : T_ratio_Sub) (a5 : T_ratio_Mul) (a6 : T_ratio_Add) : SE := ⟨E, lookS [(n_cake_Check, pw_cake_Check a0), (n_cake_point, pw_cake_point a1), (n_cake_less, pw_cake_less a2), (n_cake_whole, pw_cake_whole a3), (n_ratio_Sub, pw_ratio_Sub a4), (n_ratio_Mul, pw_ratio_Mul a5), (n_ratio_Add, pw_ratio_Add a6)], lookI [], lp_cake_Value a0 a1 a2 a3 a4 a5 a6⟩
theorem se0_cake_Value : SEOk (S0_cake_Value w_cake_Check w_cake_point w_cake_less w_cake_whole w_ratio_Sub w_ratio_Mul w_ratio_Add) := seOk_of ⟨ok_cake_Check, ok_cake_point, ok_cake_less, ok_cake_whole, ok_ratio_Sub, ok_ratio_Mul, ok_ratio_Add, trivial⟩ trivial
theorem body_cake_Value_0_0 (a0 a1 a2 a3 a4 a5 a6 Q n i0 l1 l2 i3 i4 i5 i6 i7 i8 i9 i10 l11 i12 i13) : WC E (callW (S0_cake_Value a0 a1 a2 a3 a4 a5 a6) 5) (lp_cake_Value a0 a1 a2 a3 a4 a5 a6) b_85339800 [(3, .box (.agg [(.int .i64 i0), (.data l1), (.data l2)])), (5, .box (.agg [(.int .i64 i3), (.int .i64 i4)])), (6, .box (.agg [(.int .i64 i5), (.int .i64 i6)])), (9, .box (.agg [(.int .i64 i7), (.int .i64 i8)])), (10, .box (.agg [(.int .i64 i9), (.int .i64 i10)])), (42, .v (.data l11)), (43, .v (.int .i64 i12)), (44, .v (.int .i64 i13))] [] (fun x F' H' => match x with | .norm => R_cake_Value_0 a0 a1 a2 a3 a4 a5 a6 Q n F' H' | .exit i => Q (.exit i) F' H' | .ret => Q .ret F' H') = L_cake_Value_0_0 a0 a1 a2 a3 a4 a5 a6 (fun i0 i1 i2 => Q .ret [(6, .box (.agg [(.int .i64 i0), (.int .i64 i1)])), (7, .v (.int .i64 i2))] []) (fun i0 l1 l2 i3 i4 i5 i6 i7 i8 i9 i10 l11 i12 i13 b14 => Q (.exit 0) [(3, .box (.agg [(.int .i64 i0), (.data l1), (.data l2)])), (5, .box (.agg [(.int .i64 i3), (.int .i64 i4)])), (6, .box (.agg [(.int .i64 i5), (.int .i64 i6)])), (9, .box (.agg [(.int .i64 i7), (.int .i64 i8)])), (10, .box (.agg [(.int .i64 i9), (.int .i64 i10)])), (42, .v (.data l11)), (43, .v (.int .i64 i12)), (44, .v (.int .i64 i13)), (45, .v (.bool b14))] []) (n + 1) i0 l1 l2 i3 i4 i5 i6 i7 i8 i9 i10 l11 i12 i13 := by kernel_rfl
theorem lpb_cake_Value_0 : LpOk E (lp_cake_Value w_cake_Check w_cake_point w_cake_less w_cake_whole w_ratio_Sub w_ratio_Mul w_ratio_Add) b_85339800 := (LpOk_no (by kernel_rfl))
theorem loop_cake_Value_0 : ∀ F H Q, lp_cake_Value w_cake_Check w_cake_point w_cake_less w_cake_whole w_ratio_Sub w_ratio_Mul w_ratio_Add 85339800 F H Q → LoopT E b_85339800 F H Q := by
 intro F H Q h
 have go := LoopT.intro (callW_ok se0_cake_Value 5) lpb_cake_Value_0 (R_cake_Value_0 w_cake_Check w_cake_point w_cake_less w_cake_whole w_ratio_Sub w_ratio_Mul w_ratio_Add Q) (by
   intro F H h
   unfold R_cake_Value_0 D_cake_Value_0 at h
   split at h
   · exact h
   · exact h) (by
   intro n F H h
   unfold R_cake_Value_0 D_cake_Value_0 at h
   split at h
   · exact (body_cake_Value_0_0 ..).mpr h
   · exact h.elim)
 have h : D_cake_Value_0 F H _ := h
 unfold D_cake_Value_0 at h
 split at h
 · obtain ⟨n, h⟩ := h; exact go n _ _ h
 · exact h.elim
theorem eq_cake_Value (a0 a1 a2 a3 a4 a5 a6 p0 p1 p2 p3 p4 p5 p6 K) : WP (S0_cake_Value a0 a1 a2 a3 a4 a5 a6) 6 t_cake_Value [(.agg [(.int .i64 p0), (.data p1), (.data p2)]), (.agg [(.int .i64 p3), (.int .i64 p4)]), (.agg [(.int .i64 p5), (.int .i64 p6)])] K = wv_cake_Value a0 a1 a2 a3 a4 a5 a6 p0 p1 p2 p3 p4 p5 p6 (fun r0 r1 r2 => K (.tup [(.agg [(.int .i64 r0), (.int .i64 r1)]), (.int .i64 r2)])) := by kernel_rfl
theorem ok_cake_Value : OkF E wp_cake_Value n_cake_Value := by
 intro as K h
 unfold wp_cake_Value pw_cake_Value at h
 split at h
 · exact WP_ok se0_cake_Value (LpOk_by (l := [(85339800, b_85339800)]) ⟨loop_cake_Value_0, trivial⟩ (by kernel_rfl)) (by kernel_rfl) (by kernel_rfl) (fun _ => baseC_none (by kernel_rfl) _) ((eq_cake_Value ..).mpr h)
 · exact h.elim
abbrev T_s_Equal_api_Query_api_Query : Type := List PV → List PV → (Bool → Prop) → Prop
def L_s_Equal_api_Query_api_Query_0_0 (x0 : Bool → Prop) (x1 : List PV → List PV → Int → Int → Bool → Prop) : Nat → List PV → List PV → Int → Int → Prop
 | 0, _, _, _, _ => False
 | n + 1, l0, l1, i2, i3 =>
 (cbr (decide (i3 < i2))
 (asr (decide ((0 : Int) ≤ i3))
 (asr (decide (i3 < (((List.length l0) : Nat) : Int)))
 (asr (conf (.agg [.i .i64, .i .u8, .i .i64, .i .i64, .i .i64, .i .i64, .i .i64, .i .i64]) (List.getD l0 (i3.toNat) .nils))
 (asr (decide ((0 : Int) ≤ i3))
 (asr (decide (i3 < (((List.length l1) : Nat) : Int)))
 (asr (conf (.agg [.i .i64, .i .u8, .i .i64, .i .i64, .i .i64, .i .i64, .i .i64, .i .i64]) (List.getD l1 (i3.toNat) .nils))
 (cbr (!(((intOfV (cellAt (List.getD l0 (i3.toNat) .nils) 0)) == (intOfV (cellAt (List.getD l1 (i3.toNat) .nils) 0))) && (((intOfV (cellAt (List.getD l0 (i3.toNat) .nils) 1)) == (intOfV (cellAt (List.getD l1 (i3.toNat) .nils) 1))) && (((intOfV (cellAt (List.getD l0 (i3.toNat) .nils) 2)) == (intOfV (cellAt (List.getD l1 (i3.toNat) .nils) 2))) && (((intOfV (cellAt (List.getD l0 (i3.toNat) .nils) 3)) == (intOfV (cellAt (List.getD l1 (i3.toNat) .nils) 3))) && (((intOfV (cellAt (List.getD l0 (i3.toNat) .nils) 4)) == (intOfV (cellAt (List.getD l1 (i3.toNat) .nils) 4))) && (((intOfV (cellAt (List.getD l0 (i3.toNat) .nils) 5)) == (intOfV (cellAt (List.getD l1 (i3.toNat) .nils) 5))) && (((intOfV (cellAt (List.getD l0 (i3.toNat) .nils) 6)) == (intOfV (cellAt (List.getD l1 (i3.toNat) .nils) 6))) && (((intOfV (cellAt (List.getD l0 (i3.toNat) .nils) 7)) == (intOfV (cellAt (List.getD l1 (i3.toNat) .nils) 7))) && true)))))))))
 (x0 false)
 (L_s_Equal_api_Query_api_Query_0_0 x0 x1 n l0 l1 i2 (IntKind.i64.wrap (i3 + (1 : Int)))))))))))
 (x1 l0 l1 i2 i3 false))
def wv_s_Equal_api_Query_api_Query (p0 p1 : List PV) (K : Bool → Prop) : Prop :=
 (cbr ((((List.length p0) : Nat) : Int) != (((List.length p1) : Nat) : Int))
 (K false)
 (∃ n : Nat, L_s_Equal_api_Query_api_Query_0_0
 (fun yb0 => (K yb0))
 (fun _ _ _ _ _ => (K true))
 n p0 p1 (((List.length p0) : Nat) : Int) (0 : Int)))
def w_s_Equal_api_Query_api_Query (p0 p1 : List PV) (K : Bool → Prop) : Prop := wv_s_Equal_api_Query_api_Query p0 p1 K
def pw_s_Equal_api_Query_api_Query (w : T_s_Equal_api_Query_api_Query) (as : List PV) (K : PV → Prop) : Prop :=
 match as with
 | [(.data p0), (.data p1)] => w p0 p1 (fun r0 => K (.bool r0))
 | _ => False
def wp_s_Equal_api_Query_api_Query (as : List PV) (K : PV → Prop) : Prop := pw_s_Equal_api_Query_api_Query w_s_Equal_api_Query_api_Query as K
def D_s_Equal_api_Query_api_Query_0 (F : Frm) (H : Hp) (A0 : List PV → List PV → Int → Int → Prop) : Prop :=
 match F, H with
 | [(0, .v (.data l0)), (1, .v (.data l1)), (12, .v (.int .i64 i2)), (13, .v (.int .i64 i3))], [] => (A0 l0 l1 i2 i3)
 | _, _ => False
def R_s_Equal_api_Query_api_Query_0 (Q : Ex → Frm → Hp → Prop) (n : Nat) (F : Frm) (H : Hp) : Prop := D_s_Equal_api_Query_api_Query_0 F H (fun l0 l1 i2 i3 => L_s_Equal_api_Query_api_Query_0_0 (fun b0 => Q .ret [(4, .v (.bool b0))] []) (fun l0 l1 i2 i3 b4 => Q (.exit 0) [(0, .v (.data l0)), (1, .v (.data l1)), (12, .v (.int .i64 i2)), (13, .v (.int .i64 i3)), (14, .v (.bool b4))] []) n l0 l1 i2 i3)
def lp_s_Equal_api_Query_api_Query : LP := fun id F H Q =>
 bif Nat.beq id 32670000 then D_s_Equal_api_Query_api_Query_0 F H (fun l0 l1 i2 i3 => ∃ n : Nat, L_s_Equal_api_Query_api_Query_0_0 (fun b0 => Q .ret [(4, .v (.bool b0))] []) (fun l0 l1 i2 i3 b4 => Q (.exit 0) [(0, .v (.data l0)), (1, .v (.data l1)), (12, .v (.int .i64 i2)), (13, .v (.int .i64 i3)), (14, .v (.bool b4))] []) n l0 l1 i2 i3) else
 False
def S0_s_Equal_api_Query_api_Query : SE := ⟨E, lookS [], lookI [], lp_s_Equal_api_Query_api_Query⟩
theorem se0_s_Equal_api_Query_api_Query : SEOk (S0_s_Equal_api_Query_api_Query) := seOk_of trivial trivial
theorem body_s_Equal_api_Query_api_Query_0_0 ( Q n l0 l1 i2 i3) : WC E (callW (S0_s_Equal_api_Query_api_Query) 5) (lp_s_Equal_api_Query_api_Query) b_32670000 [(0, .v (.data l0)), (1, .v (.data l1)), (12, .v (.int .i64 i2)), (13, .v (.int .i64 i3))] [] (fun x F' H' => match x with | .norm => R_s_Equal_api_Query_api_Query_0 Q n F' H' | .exit i => Q (.exit i) F' H' | .ret => Q .ret F' H') = L_s_Equal_api_Query_api_Query_0_0 (fun b0 => Q .ret [(4, .v (.bool b0))] []) (fun l0 l1 i2 i3 b4 => Q (.exit 0) [(0, .v (.data l0)), (1, .v (.data l1)), (12, .v (.int .i64 i2)), (13, .v (.int .i64 i3)), (14, .v (.bool b4))] []) (n + 1) l0 l1 i2 i3 := by kernel_rfl
theorem lpb_s_Equal_api_Query_api_Query_0 : LpOk E (lp_s_Equal_api_Query_api_Query) b_32670000 := (LpOk_no (by kernel_rfl))
theorem loop_s_Equal_api_Query_api_Query_0 : ∀ F H Q, lp_s_Equal_api_Query_api_Query 32670000 F H Q → LoopT E b_32670000 F H Q := by
 intro F H Q h
 have go := LoopT.intro (callW_ok se0_s_Equal_api_Query_api_Query 5) lpb_s_Equal_api_Query_api_Query_0 (R_s_Equal_api_Query_api_Query_0 Q) (by
   intro F H h
   unfold R_s_Equal_api_Query_api_Query_0 D_s_Equal_api_Query_api_Query_0 at h
   split at h
   · exact h
   · exact h) (by
   intro n F H h
   unfold R_s_Equal_api_Query_api_Query_0 D_s_Equal_api_Query_api_Query_0 at h
   split at h
   · exact (body_s_Equal_api_Query_api_Query_0_0 ..).mpr h
   · exact h.elim)
 have h : D_s_Equal_api_Query_api_Query_0 F H _ := h
 unfold D_s_Equal_api_Query_api_Query_0 at h
 split at h
 · obtain ⟨n, h⟩ := h; exact go n _ _ h
 · exact h.elim
theorem eq_s_Equal_api_Query_api_Query ( p0 p1 K) : WP (S0_s_Equal_api_Query_api_Query) 6 t_s_Equal_api_Query_api_Query [(.data p0), (.data p1)] K = wv_s_Equal_api_Query_api_Query p0 p1 (fun r0 => K (.bool r0)) := by kernel_rfl
theorem ok_s_Equal_api_Query_api_Query : OkF E wp_s_Equal_api_Query_api_Query n_s_Equal_api_Query_api_Query := by
 intro as K h
 unfold wp_s_Equal_api_Query_api_Query pw_s_Equal_api_Query_api_Query at h
 split at h
 · exact WP_ok se0_s_Equal_api_Query_api_Query (LpOk_by (l := [(32670000, b_32670000)]) ⟨loop_s_Equal_api_Query_api_Query_0, trivial⟩ (by kernel_rfl)) (by kernel_rfl) (by kernel_rfl) (fun _ => baseC_none (by kernel_rfl) _) ((eq_s_Equal_api_Query_api_Query ..).mpr h)
 · exact h.elim
end Go.Pf.Vc
namespace Go.Pf.Vc
open Go Go.Pf
set_option linter.unusedVariables false
theorem det_cake_Check (p0 : Int) (p1 : List PV) (p2 : List PV) (r0 : Int) (h : ∀ K : Int → Prop, K r0 → w_cake_Check p0 p1 p2 K) (K : Int → Prop) : w_cake_Check p0 p1 p2 K = K r0 :=
 propext ⟨fun k => detC ok_cake_Check (as := [(.agg [(.int .i64 p0), (.data p1), (.data p2)])]) (x := (.int .i64 r0)) (fun K' k' => h (fun r0 => K' (.int .i64 r0)) k') (K := fun x => match x with | (.int .i64 r0) => K r0 | _ => False) k, h K⟩
theorem det_cake_Total (p0 : Int) (p1 : List PV) (p2 : List PV) (r0 : Int) (r1 : Int) (h : ∀ K : Int → Int → Prop, K r0 r1 → w_cake_Total p0 p1 p2 K) (K : Int → Int → Prop) : w_cake_Total p0 p1 p2 K = K r0 r1 :=
 propext ⟨fun k => detC ok_cake_Total (as := [(.agg [(.int .i64 p0), (.data p1), (.data p2)])]) (x := (.tup [(.int .i64 r0), (.int .i64 r1)])) (fun K' k' => h (fun r0 r1 => K' (.tup [(.int .i64 r0), (.int .i64 r1)])) k') (K := fun x => match x with | (.tup [(.int .i64 r0), (.int .i64 r1)]) => K r0 r1 | _ => False) k, h K⟩
theorem det_cake_Mark (p0 : Int) (p1 : List PV) (p2 : List PV) (p3 : Int) (p4 : Int) (p5 : Int) (p6 : Int) (r0 : Int) (r1 : Int) (r2 : Int) (h : ∀ K : Int → Int → Int → Prop, K r0 r1 r2 → w_cake_Mark p0 p1 p2 p3 p4 p5 p6 K) (K : Int → Int → Int → Prop) : w_cake_Mark p0 p1 p2 p3 p4 p5 p6 K = K r0 r1 r2 :=
 propext ⟨fun k => detC ok_cake_Mark (as := [(.agg [(.int .i64 p0), (.data p1), (.data p2)]), (.agg [(.int .i64 p3), (.int .i64 p4)]), (.agg [(.int .i64 p5), (.int .i64 p6)])]) (x := (.tup [(.agg [(.int .i64 r0), (.int .i64 r1)]), (.int .i64 r2)])) (fun K' k' => h (fun r0 r1 r2 => K' (.tup [(.agg [(.int .i64 r0), (.int .i64 r1)]), (.int .i64 r2)])) k') (K := fun x => match x with | (.tup [(.agg [(.int .i64 r0), (.int .i64 r1)]), (.int .i64 r2)]) => K r0 r1 r2 | _ => False) k, h K⟩
theorem det_cake_Value (p0 : Int) (p1 : List PV) (p2 : List PV) (p3 : Int) (p4 : Int) (p5 : Int) (p6 : Int) (r0 : Int) (r1 : Int) (r2 : Int) (h : ∀ K : Int → Int → Int → Prop, K r0 r1 r2 → w_cake_Value p0 p1 p2 p3 p4 p5 p6 K) (K : Int → Int → Int → Prop) : w_cake_Value p0 p1 p2 p3 p4 p5 p6 K = K r0 r1 r2 :=
 propext ⟨fun k => detC ok_cake_Value (as := [(.agg [(.int .i64 p0), (.data p1), (.data p2)]), (.agg [(.int .i64 p3), (.int .i64 p4)]), (.agg [(.int .i64 p5), (.int .i64 p6)])]) (x := (.tup [(.agg [(.int .i64 r0), (.int .i64 r1)]), (.int .i64 r2)])) (fun K' k' => h (fun r0 r1 r2 => K' (.tup [(.agg [(.int .i64 r0), (.int .i64 r1)]), (.int .i64 r2)])) k') (K := fun x => match x with | (.tup [(.agg [(.int .i64 r0), (.int .i64 r1)]), (.int .i64 r2)]) => K r0 r1 r2 | _ => False) k, h K⟩
theorem det_s_Equal_api_Query_api_Query (p0 : List PV) (p1 : List PV) (r0 : Bool) (h : ∀ K : Bool → Prop, K r0 → w_s_Equal_api_Query_api_Query p0 p1 K) (K : Bool → Prop) : w_s_Equal_api_Query_api_Query p0 p1 K = K r0 :=
 propext ⟨fun k => detC ok_s_Equal_api_Query_api_Query (as := [(.data p0), (.data p1)]) (x := (.bool r0)) (fun K' k' => h (fun r0 => K' (.bool r0)) k') (K := fun x => match x with | (.bool r0) => K r0 | _ => False) k, h K⟩
end Go.Pf.Vc
namespace Go.Pf.Vc
open Go Go.Pf
set_option maxRecDepth 100000
abbrev T_ask_Check : Type := List PV → List PV → (Int → Prop) → Prop
def L_ask_Check_0_0 (a0 : T_cake_Check) (x12157600_0 : Int → Prop) (x12157600_1 : List PV → List PV → List PV → Int → Int → Bool → Prop) : Nat → List PV → List PV → List PV → Int → Int → Prop
 | 0, _, _, _, _, _ => False
 | n12157600 + 1, l0, l1, l2, i3, i4 =>
 (cbr (decide (i4 < i3))
 (asr (decide ((0 : Int) ≤ i4))
 (asr (decide (i4 < (((List.length l2) : Nat) : Int)))
 (asr (conf (.agg [.i .i64, .d, .d]) (List.getD l2 (i4.toNat) .nils))
 (a0 (intOfV (cellAt (List.getD l2 (i4.toNat) .nils) 0)) (datOfV (cellAt (List.getD l2 (i4.toNat) .nils) 1)) (datOfV (cellAt (List.getD l2 (i4.toNat) .nils) 2)) (fun yi0 => 
 (cbr (yi0 != (0 : Int))
 (x12157600_0 yi0)
 (L_ask_Check_0_0 a0 x12157600_0 x12157600_1 n12157600 l0 l1 l2 i3 (IntKind.i64.wrap (i4 + (1 : Int))))))))))
 (x12157600_1 l0 l1 l2 i3 i4 false))
def L_ask_Check_1_0 (a0 : T_cake_Check) (x12157601_0 : Int → Prop) (x12157601_1 : List PV → List PV → List PV → Int → Int → Bool → Prop) : Nat → List PV → List PV → List PV → Int → Int → Prop
 | 0, _, _, _, _, _ => False
 | n12157601 + 1, l0, l1, l2, i3, i4 =>
 (cbr (decide (i4 < i3))
 (asr (decide ((0 : Int) ≤ i4))
 (asr (decide (i4 < (((List.length l2) : Nat) : Int)))
 (asr (conf (.agg [.i .i64, .d, .d]) (List.getD l2 (i4.toNat) .nils))
 (asr (decide ((0 : Int) < (((List.length l0) : Nat) : Int)))
 (asr (conf (.agg [.i .i64, .d, .d]) (List.getD l0 0 .nils))
 (cbr ((intOfV (cellAt (List.getD l2 (i4.toNat) .nils) 0)) != (intOfV (cellAt (List.getD l0 0 .nils) 0)))
 (x12157601_0 (8 : Int))
 (L_ask_Check_1_0 a0 x12157601_0 x12157601_1 n12157601 l0 l1 l2 i3 (IntKind.i64.wrap (i4 + (1 : Int))))))))))
 (x12157601_1 l0 l1 l2 i3 i4 false))
def wv_ask_Check (a0 : T_cake_Check) (p0 p1 : List PV) (K : Int → Prop) : Prop :=
 (cbr (decide ((((List.length p0) : Nat) : Int) > (6 : Int)))
 (K (4 : Int))
 (cbr (decide ((((List.length p1) : Nat) : Int) > (2000 : Int)))
 (K (4 : Int))
 (cbr ((((List.length p0) : Nat) : Int) == (0 : Int))
 (K (8 : Int))
 (∃ n12157600 : Nat, L_ask_Check_0_0 a0
 (fun yi1 => (K yi1))
 (fun yl2 yl3 _ _ _ _ => (∃ n12157601 : Nat, L_ask_Check_1_0 a0
 (fun yi8 => (K yi8))
 (fun _ _ _ _ _ _ => (K (0 : Int)))
 n12157601 yl2 yl3 yl2 (((List.length yl2) : Nat) : Int) (0 : Int)))
 n12157600 p0 p1 p0 (((List.length p0) : Nat) : Int) (0 : Int)))))
def w_ask_Check (p0 p1 : List PV) (K : Int → Prop) : Prop := wv_ask_Check w_cake_Check p0 p1 K
def pw_ask_Check (w : T_ask_Check) (as : List PV) (K : PV → Prop) : Prop :=
 match as with
 | [(.agg [(.data p0), (.data p1)])] => w p0 p1 (fun r0 => K (.int .i64 r0))
 | _ => False
def wp_ask_Check (as : List PV) (K : PV → Prop) : Prop := pw_ask_Check w_ask_Check as K
def D_ask_Check_0 (F : Frm) (H : Hp) (A0 : List PV → List PV → List PV → Int → Int → Prop) : Prop :=
 match F, H with
 | [(1, .box (.agg [(.data l0), (.data l1)])), (23, .v (.data l2)), (24, .v (.int .i64 i3)), (25, .v (.int .i64 i4))], [] => (A0 l0 l1 l2 i3 i4)
 | _, _ => False
def D_ask_Check_1 (F : Frm) (H : Hp) (A0 : List PV → List PV → List PV → Int → Int → Prop) : Prop :=
 match F, H with
 | [(1, .box (.agg [(.data l0), (.data l1)])), (36, .v (.data l2)), (37, .v (.int .i64 i3)), (38, .v (.int .i64 i4))], [] => (A0 l0 l1 l2 i3 i4)
 | _, _ => False
def R_ask_Check_0 (a0 : T_cake_Check) (Q : Ex → Frm → Hp → Prop) (n : Nat) (F : Frm) (H : Hp) : Prop := D_ask_Check_0 F H (fun l0 l1 l2 i3 i4 => L_ask_Check_0_0 a0 (fun i0 => Q .ret [(2, .v (.int .i64 i0))] []) (fun l0 l1 l2 i3 i4 b5 => Q (.exit 0) [(1, .box (.agg [(.data l0), (.data l1)])), (23, .v (.data l2)), (24, .v (.int .i64 i3)), (25, .v (.int .i64 i4)), (26, .v (.bool b5))] []) n l0 l1 l2 i3 i4)
def R_ask_Check_1 (a0 : T_cake_Check) (Q : Ex → Frm → Hp → Prop) (n : Nat) (F : Frm) (H : Hp) : Prop := D_ask_Check_1 F H (fun l0 l1 l2 i3 i4 => L_ask_Check_1_0 a0 (fun i0 => Q .ret [(2, .v (.int .i64 i0))] []) (fun l0 l1 l2 i3 i4 b5 => Q (.exit 2) [(1, .box (.agg [(.data l0), (.data l1)])), (36, .v (.data l2)), (37, .v (.int .i64 i3)), (38, .v (.int .i64 i4)), (39, .v (.bool b5))] []) n l0 l1 l2 i3 i4)
def lp_ask_Check (a0 : T_cake_Check) : LP := fun id F H Q =>
 bif Nat.beq id 12157600 then D_ask_Check_0 F H (fun l0 l1 l2 i3 i4 => ∃ n : Nat, L_ask_Check_0_0 a0 (fun i0 => Q .ret [(2, .v (.int .i64 i0))] []) (fun l0 l1 l2 i3 i4 b5 => Q (.exit 0) [(1, .box (.agg [(.data l0), (.data l1)])), (23, .v (.data l2)), (24, .v (.int .i64 i3)), (25, .v (.int .i64 i4)), (26, .v (.bool b5))] []) n l0 l1 l2 i3 i4) else
 bif Nat.beq id 12157601 then D_ask_Check_1 F H (fun l0 l1 l2 i3 i4 => ∃ n : Nat, L_ask_Check_1_0 a0 (fun i0 => Q .ret [(2, .v (.int .i64 i0))] []) (fun l0 l1 l2 i3 i4 b5 => Q (.exit 2) [(1, .box (.agg [(.data l0), (.data l1)])), (36, .v (.data l2)), (37, .v (.int .i64 i3)), (38, .v (.int .i64 i4)), (39, .v (.bool b5))] []) n l0 l1 l2 i3 i4) else
 False
def S0_ask_Check (a0 : T_cake_Check) : SE := ⟨E, lookS [(n_cake_Check, pw_cake_Check a0)], lookI [], lp_ask_Check a0⟩
theorem se0_ask_Check : SEOk (S0_ask_Check w_cake_Check) := seOk_of ⟨ok_cake_Check, trivial⟩ trivial
theorem body_ask_Check_0_0 (a0 Q n l0 l1 l2 i3 i4) : WC E (callW (S0_ask_Check a0) 5) (lp_ask_Check a0) b_12157600 [(1, .box (.agg [(.data l0), (.data l1)])), (23, .v (.data l2)), (24, .v (.int .i64 i3)), (25, .v (.int .i64 i4))] [] (fun x F' H' => match x with | .norm => R_ask_Check_0 a0 Q n F' H' | .exit i => Q (.exit i) F' H' | .ret => Q .ret F' H') = L_ask_Check_0_0 a0 (fun i0 => Q .ret [(2, .v (.int .i64 i0))] []) (fun l0 l1 l2 i3 i4 b5 => Q (.exit 0) [(1, .box (.agg [(.data l0), (.data l1)])), (23, .v (.data l2)), (24, .v (.int .i64 i3)), (25, .v (.int .i64 i4)), (26, .v (.bool b5))] []) (n + 1) l0 l1 l2 i3 i4 := by kernel_rfl
theorem lpb_ask_Check_0 : LpOk E (lp_ask_Check w_cake_Check) b_12157600 := (LpOk_no (by kernel_rfl))
theorem loop_ask_Check_0 : ∀ F H Q, lp_ask_Check w_cake_Check 12157600 F H Q → LoopT E b_12157600 F H Q := by
 intro F H Q h
 have go := LoopT.intro (callW_ok se0_ask_Check 5) lpb_ask_Check_0 (R_ask_Check_0 w_cake_Check Q) (by
   intro F H h
   unfold R_ask_Check_0 D_ask_Check_0 at h
   split at h
   · exact h
   · exact h) (by
   intro n F H h
   unfold R_ask_Check_0 D_ask_Check_0 at h
   split at h
   · exact (body_ask_Check_0_0 ..).mpr h
   · exact h.elim)
 have h : D_ask_Check_0 F H _ := h
 unfold D_ask_Check_0 at h
 split at h
 · obtain ⟨n, h⟩ := h; exact go n _ _ h
 · exact h.elim
theorem body_ask_Check_1_0 (a0 Q n l0 l1 l2 i3 i4) : WC E (callW (S0_ask_Check a0) 5) (lp_ask_Check a0) b_12157601 [(1, .box (.agg [(.data l0), (.data l1)])), (36, .v (.data l2)), (37, .v (.int .i64 i3)), (38, .v (.int .i64 i4))] [] (fun x F' H' => match x with | .norm => R_ask_Check_1 a0 Q n F' H' | .exit i => Q (.exit i) F' H' | .ret => Q .ret F' H') = L_ask_Check_1_0 a0 (fun i0 => Q .ret [(2, .v (.int .i64 i0))] []) (fun l0 l1 l2 i3 i4 b5 => Q (.exit 2) [(1, .box (.agg [(.data l0), (.data l1)])), (36, .v (.data l2)), (37, .v (.int .i64 i3)), (38, .v (.int .i64 i4)), (39, .v (.bool b5))] []) (n + 1) l0 l1 l2 i3 i4 := by kernel_rfl
theorem lpb_ask_Check_1 : LpOk E (lp_ask_Check w_cake_Check) b_12157601 := (LpOk_no (by kernel_rfl))
theorem loop_ask_Check_1 : ∀ F H Q, lp_ask_Check w_cake_Check 12157601 F H Q → LoopT E b_12157601 F H Q := by
 intro F H Q h
 have go := LoopT.intro (callW_ok se0_ask_Check 5) lpb_ask_Check_1 (R_ask_Check_1 w_cake_Check Q) (by
   intro F H h
   unfold R_ask_Check_1 D_ask_Check_1 at h
   split at h
   · exact h
   · exact h) (by
   intro n F H h
   unfold R_ask_Check_1 D_ask_Check_1 at h
   split at h
   · exact (body_ask_Check_1_0 ..).mpr h
   · exact h.elim)
 have h : D_ask_Check_1 F H _ := h
 unfold D_ask_Check_1 at h
 split at h
 · obtain ⟨n, h⟩ := h; exact go n _ _ h
 · exact h.elim
theorem eq_ask_Check (a0 p0 p1 K) : WP (S0_ask_Check a0) 6 t_ask_Check [(.agg [(.data p0), (.data p1)])] K = wv_ask_Check a0 p0 p1 (fun r0 => K (.int .i64 r0)) := by kernel_rfl
theorem ok_ask_Check : OkF E wp_ask_Check n_ask_Check := by
 intro as K h
 unfold wp_ask_Check pw_ask_Check at h
 split at h
 · exact WP_ok se0_ask_Check (LpOk_by (l := [(12157600, b_12157600), (12157601, b_12157601)]) ⟨loop_ask_Check_0, loop_ask_Check_1, trivial⟩ (by kernel_rfl)) (by kernel_rfl) (by kernel_rfl) (fun _ => baseC_none (by kernel_rfl) _) ((eq_ask_Check ..).mpr h)
 · exact h.elim
abbrev T_ask_copied : Type := List PV → (List PV → Prop) → Prop
mutual
def L_ask_copied_0_0 (a0 : T_s_Clone_int_int) (x0 : List PV → List PV → Int → Int → Bool → Prop) (x1 : List PV → Int → Int → Bool → Prop) : Nat → List PV → Int → Int → Prop
 | 0, _, _, _ => False
 | n + 1, l0, i1, i2 =>
 (cbr (decide (i2 < i1))
 (asr (decide ((0 : Int) ≤ i2))
 (asr (decide (i2 < (((List.length l0) : Nat) : Int)))
 (asr (conf (.agg [.i .i64, .d, .d]) (List.getD l0 (i2.toNat) .nils))
 (a0 (datOfV (cellAt (List.getD l0 (i2.toNat) .nils) 1)) (fun yl0 => 
 (a0 (datOfV (cellAt (List.getD l0 (i2.toNat) .nils) 2)) (fun yl1 => 
 (asr (decide ((List.length ([(.agg [(.int .i64 (intOfV (cellAt (List.getD l0 (i2.toNat) .nils) 0))), (.data yl0), (.data yl1)])] : List PV)) = List.length ([(.agg [(.int .i64 (intOfV (cellAt (List.getD l0 (i2.toNat) .nils) 0))), (.data yl0), (.data yl1)])] : List PV)) && decide ((List.length ([(.agg [(.int .i64 (intOfV (cellAt (List.getD l0 (i2.toNat) .nils) 0))), (.data yl0), (.data yl1)])] : List PV)) = List.length ([(.agg [(.int .i64 (intOfV (cellAt (List.getD l0 (i2.toNat) .nils) 0))), (.data yl0), (.data yl1)])] : List PV)))
 (L_ask_copied_0_1 a0 x0 x1 n ([(.agg [(.int .i64 (intOfV (cellAt (List.getD l0 (i2.toNat) .nils) 0))), (.data yl0), (.data yl1)])] : List PV) l0 i1 (IntKind.i64.wrap (i2 + (1 : Int))))))))))))
 (x1 l0 i1 i2 false))
def L_ask_copied_0_1 (a0 : T_s_Clone_int_int) (x0 : List PV → List PV → Int → Int → Bool → Prop) (x1 : List PV → Int → Int → Bool → Prop) : Nat → List PV → List PV → Int → Int → Prop
 | 0, _, _, _, _ => False
 | n + 1, l0, l3, i4, i5 =>
 (cbr (decide (i5 < i4))
 (asr (decide ((0 : Int) ≤ i5))
 (asr (decide (i5 < (((List.length l3) : Nat) : Int)))
 (asr (conf (.agg [.i .i64, .d, .d]) (List.getD l3 (i5.toNat) .nils))
 (a0 (datOfV (cellAt (List.getD l3 (i5.toNat) .nils) 1)) (fun yl2 => 
 (a0 (datOfV (cellAt (List.getD l3 (i5.toNat) .nils) 2)) (fun yl3 => 
 (asr (decide ((List.length l0) = (List.length l0)))
 (asr (decide ((0 + (List.length l0)) ≤ (List.length l0)))
 (asr (!(decide (((0 + (List.length l0)) + 1) ≤ (List.length l0))))
 (asr (decide ((List.length l0) = (List.length l0)))
 (asr (decide ((((List.length l0) + 1) + 64) * (56 + 1) ≤ room))
 (asr (decide ((List.length (l0 ++ ([(.agg [(.int .i64 (intOfV (cellAt (List.getD l3 (i5.toNat) .nils) 0))), (.data yl2), (.data yl3)])] : List PV))) = List.length (l0 ++ ([(.agg [(.int .i64 (intOfV (cellAt (List.getD l3 (i5.toNat) .nils) 0))), (.data yl2), (.data yl3)])] : List PV))) && decide ((List.length (l0 ++ ([(.agg [(.int .i64 (intOfV (cellAt (List.getD l3 (i5.toNat) .nils) 0))), (.data yl2), (.data yl3)])] : List PV))) = List.length (l0 ++ ([(.agg [(.int .i64 (intOfV (cellAt (List.getD l3 (i5.toNat) .nils) 0))), (.data yl2), (.data yl3)])] : List PV))))
 (L_ask_copied_0_1 a0 x0 x1 n (l0 ++ ([(.agg [(.int .i64 (intOfV (cellAt (List.getD l3 (i5.toNat) .nils) 0))), (.data yl2), (.data yl3)])] : List PV)) l3 i4 (IntKind.i64.wrap (i5 + (1 : Int)))))))))))))))))
 (x0 l0 l3 i4 i5 false))
end
def wv_ask_copied (a0 : T_s_Clone_int_int) (p0 : List PV) (K : List PV → Prop) : Prop :=
 (∃ n : Nat, L_ask_copied_0_0 a0
 (fun yl4 _ _ _ _ => (asr (decide ((List.length yl4) = (List.length yl4)))
 (asr (decide ((0 + (List.length yl4)) ≤ (List.length yl4)))
 (K (List.take (List.length yl4) yl4)))))
 (fun _ _ _ _ => (K ([] : List PV)))
 n p0 (((List.length p0) : Nat) : Int) (0 : Int))
def w_ask_copied (p0 : List PV) (K : List PV → Prop) : Prop := wv_ask_copied w_s_Clone_int_int p0 K
def pw_ask_copied (w : T_ask_copied) (as : List PV) (K : PV → Prop) : Prop :=
 match as with
 | [(.data p0)] => w p0 (fun r0 => K (.data r0))
 | _ => False
def wp_ask_copied (as : List PV) (K : PV → Prop) : Prop := pw_ask_copied w_ask_copied as K
def D_ask_copied_0 (F : Frm) (H : Hp) (A0 : List PV → Int → Int → Prop) (A1 : List PV → List PV → Int → Int → Prop) : Prop :=
 match F, H with
 | [(3, .v .nils), (6, .v (.data l0)), (7, .v (.int .i64 i1)), (8, .v (.int .i64 i2))], [] => (A0 l0 i1 i2)
 | [(3, .v (.own 0 0 t1 t2 none)), (6, .v (.data l3)), (7, .v (.int .i64 i4)), (8, .v (.int .i64 i5))], [⟨false, true, 3, l0⟩] => asr (decide (t1 = List.length l0) && decide (t2 = List.length l0)) (A1 l0 l3 i4 i5)
 | _, _ => False
def R_ask_copied_0 (a0 : T_s_Clone_int_int) (Q : Ex → Frm → Hp → Prop) (n : Nat) (F : Frm) (H : Hp) : Prop := D_ask_copied_0 F H (fun l0 i1 i2 => L_ask_copied_0_0 a0 (fun l0 l3 i4 i5 b6 => Q (.exit 0) [(3, .v (.own 0 0 (List.length l0) (List.length l0) none)), (6, .v (.data l3)), (7, .v (.int .i64 i4)), (8, .v (.int .i64 i5)), (9, .v (.bool b6))] [⟨false, true, 3, l0⟩]) (fun l0 i1 i2 b3 => Q (.exit 0) [(3, .v .nils), (6, .v (.data l0)), (7, .v (.int .i64 i1)), (8, .v (.int .i64 i2)), (9, .v (.bool b3))] []) n l0 i1 i2) (fun l0 l3 i4 i5 => L_ask_copied_0_1 a0 (fun l0 l3 i4 i5 b6 => Q (.exit 0) [(3, .v (.own 0 0 (List.length l0) (List.length l0) none)), (6, .v (.data l3)), (7, .v (.int .i64 i4)), (8, .v (.int .i64 i5)), (9, .v (.bool b6))] [⟨false, true, 3, l0⟩]) (fun l0 i1 i2 b3 => Q (.exit 0) [(3, .v .nils), (6, .v (.data l0)), (7, .v (.int .i64 i1)), (8, .v (.int .i64 i2)), (9, .v (.bool b3))] []) n l0 l3 i4 i5)
def lp_ask_copied (a0 : T_s_Clone_int_int) : LP := fun id F H Q =>
 bif Nat.beq id 94933800 then D_ask_copied_0 F H (fun l0 i1 i2 => ∃ n : Nat, L_ask_copied_0_0 a0 (fun l0 l3 i4 i5 b6 => Q (.exit 0) [(3, .v (.own 0 0 (List.length l0) (List.length l0) none)), (6, .v (.data l3)), (7, .v (.int .i64 i4)), (8, .v (.int .i64 i5)), (9, .v (.bool b6))] [⟨false, true, 3, l0⟩]) (fun l0 i1 i2 b3 => Q (.exit 0) [(3, .v .nils), (6, .v (.data l0)), (7, .v (.int .i64 i1)), (8, .v (.int .i64 i2)), (9, .v (.bool b3))] []) n l0 i1 i2) (fun l0 l3 i4 i5 => ∃ n : Nat, L_ask_copied_0_1 a0 (fun l0 l3 i4 i5 b6 => Q (.exit 0) [(3, .v (.own 0 0 (List.length l0) (List.length l0) none)), (6, .v (.data l3)), (7, .v (.int .i64 i4)), (8, .v (.int .i64 i5)), (9, .v (.bool b6))] [⟨false, true, 3, l0⟩]) (fun l0 i1 i2 b3 => Q (.exit 0) [(3, .v .nils), (6, .v (.data l0)), (7, .v (.int .i64 i1)), (8, .v (.int .i64 i2)), (9, .v (.bool b3))] []) n l0 l3 i4 i5) else
 False
def S0_ask_copied (a0 : T_s_Clone_int_int) : SE := ⟨E, lookS [(n_s_Clone_int_int, pw_s_Clone_int_int a0)], lookI [], lp_ask_copied a0⟩
theorem se0_ask_copied : SEOk (S0_ask_copied w_s_Clone_int_int) := seOk_of ⟨ok_s_Clone_int_int, trivial⟩ trivial
theorem body_ask_copied_0_0 (a0 Q n l0 i1 i2) : WC E (callW (S0_ask_copied a0) 5) (lp_ask_copied a0) b_94933800 [(3, .v .nils), (6, .v (.data l0)), (7, .v (.int .i64 i1)), (8, .v (.int .i64 i2))] [] (fun x F' H' => match x with | .norm => R_ask_copied_0 a0 Q n F' H' | .exit i => Q (.exit i) F' H' | .ret => Q .ret F' H') = L_ask_copied_0_0 a0 (fun l0 l3 i4 i5 b6 => Q (.exit 0) [(3, .v (.own 0 0 (List.length l0) (List.length l0) none)), (6, .v (.data l3)), (7, .v (.int .i64 i4)), (8, .v (.int .i64 i5)), (9, .v (.bool b6))] [⟨false, true, 3, l0⟩]) (fun l0 i1 i2 b3 => Q (.exit 0) [(3, .v .nils), (6, .v (.data l0)), (7, .v (.int .i64 i1)), (8, .v (.int .i64 i2)), (9, .v (.bool b3))] []) (n + 1) l0 i1 i2 := by kernel_rfl
theorem body_ask_copied_0_1 (a0 Q n l0 l3 i4 i5) : WC E (callW (S0_ask_copied a0) 5) (lp_ask_copied a0) b_94933800 [(3, .v (.own 0 0 (List.length l0) (List.length l0) none)), (6, .v (.data l3)), (7, .v (.int .i64 i4)), (8, .v (.int .i64 i5))] [⟨false, true, 3, l0⟩] (fun x F' H' => match x with | .norm => R_ask_copied_0 a0 Q n F' H' | .exit i => Q (.exit i) F' H' | .ret => Q .ret F' H') = L_ask_copied_0_1 a0 (fun l0 l3 i4 i5 b6 => Q (.exit 0) [(3, .v (.own 0 0 (List.length l0) (List.length l0) none)), (6, .v (.data l3)), (7, .v (.int .i64 i4)), (8, .v (.int .i64 i5)), (9, .v (.bool b6))] [⟨false, true, 3, l0⟩]) (fun l0 i1 i2 b3 => Q (.exit 0) [(3, .v .nils), (6, .v (.data l0)), (7, .v (.int .i64 i1)), (8, .v (.int .i64 i2)), (9, .v (.bool b3))] []) (n + 1) l0 l3 i4 i5 := by kernel_rfl
theorem lpb_ask_copied_0 : LpOk E (lp_ask_copied w_s_Clone_int_int) b_94933800 := (LpOk_no (by kernel_rfl))
theorem loop_ask_copied_0 : ∀ F H Q, lp_ask_copied w_s_Clone_int_int 94933800 F H Q → LoopT E b_94933800 F H Q := by
 intro F H Q h
 have go := LoopT.intro (callW_ok se0_ask_copied 5) lpb_ask_copied_0 (R_ask_copied_0 w_s_Clone_int_int Q) (by
   intro F H h
   unfold R_ask_copied_0 D_ask_copied_0 at h
   split at h
   · exact h
   · obtain ⟨hg, k⟩ := asr_iff.1 h
     clear h
     have h := k
     clear k
     try simp only [Bool.and_eq_true, decide_eq_true_eq] at hg
     obtain ⟨g0, g1⟩ := hg; subst g0; subst g1; exact h
   · exact h) (by
   intro n F H h
   unfold R_ask_copied_0 D_ask_copied_0 at h
   split at h
   · exact (body_ask_copied_0_0 ..).mpr h
   · obtain ⟨hg, k⟩ := asr_iff.1 h
     clear h
     have h := k
     clear k
     try simp only [Bool.and_eq_true, decide_eq_true_eq] at hg
     obtain ⟨g0, g1⟩ := hg; subst g0; subst g1; exact (body_ask_copied_0_1 ..).mpr h
   · exact h.elim)
 have h : D_ask_copied_0 F H _ _ := h
 unfold D_ask_copied_0 at h
 split at h
 · obtain ⟨n, h⟩ := h; exact go n _ _ h
 · obtain ⟨hg, n, h⟩ := asr_iff.1 h; exact go n _ _ (asr_iff.2 ⟨hg, h⟩)
 · exact h.elim
theorem eq_ask_copied (a0 p0 K) : WP (S0_ask_copied a0) 6 t_ask_copied [(.data p0)] K = wv_ask_copied a0 p0 (fun r0 => K (.data r0)) := by kernel_rfl
theorem ok_ask_copied : OkF E wp_ask_copied n_ask_copied := by
 intro as K h
 unfold wp_ask_copied pw_ask_copied at h
 split at h
 · exact WP_ok se0_ask_copied (LpOk_by (l := [(94933800, b_94933800)]) ⟨loop_ask_copied_0, trivial⟩ (by kernel_rfl)) (by kernel_rfl) (by kernel_rfl) (fun _ => baseC_none (by kernel_rfl) _) ((eq_ask_copied ..).mpr h)
 · exact h.elim
abbrev T_ask_Open : Type := List PV → (List PV → List PV → Int → Prop) → Prop
def wv_ask_Open (a0 : T_ask_Check) (a1 : T_ask_copied) (p0 : List PV) (K : List PV → List PV → Int → Prop) : Prop :=
 (a0 p0 ([] : List PV) (fun yi0 => 
 (cbr (yi0 != (0 : Int))
 (K ([] : List PV) ([] : List PV) yi0)
 (a1 p0 (fun yl1 => 
 (K yl1 ([] : List PV) (0 : Int)))))))
def w_ask_Open (p0 : List PV) (K : List PV → List PV → Int → Prop) : Prop := wv_ask_Open w_ask_Check w_ask_copied p0 K
def pw_ask_Open (w : T_ask_Open) (as : List PV) (K : PV → Prop) : Prop :=
 match as with
 | [(.data p0)] => w p0 (fun r0 r1 r2 => K (.tup [(.agg [(.data r0), (.data r1)]), (.int .i64 r2)]))
 | _ => False
def wp_ask_Open (as : List PV) (K : PV → Prop) : Prop := pw_ask_Open w_ask_Open as K
def lp_ask_Open (_ : T_ask_Check) (_ : T_ask_copied) : LP := fun _ _ _ _ =>
 False
def S0_ask_Open (a0 : T_ask_Check) (a1 : T_ask_copied) : SE := ⟨E, lookS [(n_ask_Check, pw_ask_Check a0), (n_ask_copied, pw_ask_copied a1)], lookI [], lp_ask_Open a0 a1⟩
theorem se0_ask_Open : SEOk (S0_ask_Open w_ask_Check w_ask_copied) := seOk_of ⟨ok_ask_Check, ok_ask_copied, trivial⟩ trivial
theorem eq_ask_Open (a0 a1 p0 K) : WP (S0_ask_Open a0 a1) 6 t_ask_Open [(.data p0)] K = wv_ask_Open a0 a1 p0 (fun r0 r1 r2 => K (.tup [(.agg [(.data r0), (.data r1)]), (.int .i64 r2)])) := by kernel_rfl
theorem ok_ask_Open : OkF E wp_ask_Open n_ask_Open := by
 intro as K h
 unfold wp_ask_Open pw_ask_Open at h
 split at h
 · exact WP_ok se0_ask_Open (LpOk_no (by kernel_rfl)) (by kernel_rfl) (by kernel_rfl) (fun _ => baseC_none (by kernel_rfl) _) ((eq_ask_Open ..).mpr h)
 · exact h.elim
abbrev T_ask_office_mark : Type := List PV → List PV → Int → Int → Int → Int → Int → (Int → Int → Int → Prop) → Prop
def wv_ask_office_mark (a0 : T_cake_Mark) (p0 _ : List PV) (p2 p3 p4 p5 p6 : Int) (K : Int → Int → Int → Prop) : Prop :=
 (asr (decide ((0 : Int) ≤ p2))
 (asr (decide (p2 < (((List.length p0) : Nat) : Int)))
 (asr (conf (.agg [.i .i64, .d, .d]) (List.getD p0 (p2.toNat) .nils))
 (a0 (intOfV (cellAt (List.getD p0 (p2.toNat) .nils) 0)) (datOfV (cellAt (List.getD p0 (p2.toNat) .nils) 1)) (datOfV (cellAt (List.getD p0 (p2.toNat) .nils) 2)) p3 p4 p5 p6 (fun yi0 yi1 yi2 => 
 (K yi0 yi1 yi2))))))
def w_ask_office_mark (p0 p1 : List PV) (p2 p3 p4 p5 p6 : Int) (K : Int → Int → Int → Prop) : Prop := wv_ask_office_mark w_cake_Mark p0 p1 p2 p3 p4 p5 p6 K
def pw_ask_office_mark (w : T_ask_office_mark) (as : List PV) (K : PV → Prop) : Prop :=
 match as with
 | [(.agg [(.data p0), (.data p1)]), (.int .i64 p2), (.agg [(.int .i64 p3), (.int .i64 p4)]), (.agg [(.int .i64 p5), (.int .i64 p6)])] => w p0 p1 p2 p3 p4 p5 p6 (fun r0 r1 r2 => K (.tup [(.agg [(.int .i64 r0), (.int .i64 r1)]), (.int .i64 r2)]))
 | _ => False
def wp_ask_office_mark (as : List PV) (K : PV → Prop) : Prop := pw_ask_office_mark w_ask_office_mark as K
def lp_ask_office_mark (_ : T_cake_Mark) : LP := fun _ _ _ _ =>
 False
def S0_ask_office_mark (a0 : T_cake_Mark) : SE := ⟨E, lookS [(n_cake_Mark, pw_cake_Mark a0)], lookI [], lp_ask_office_mark a0⟩
theorem se0_ask_office_mark : SEOk (S0_ask_office_mark w_cake_Mark) := seOk_of ⟨ok_cake_Mark, trivial⟩ trivial
theorem eq_ask_office_mark (a0 p0 p1 p2 p3 p4 p5 p6 K) : WP (S0_ask_office_mark a0) 6 t_ask_office_mark [(.agg [(.data p0), (.data p1)]), (.int .i64 p2), (.agg [(.int .i64 p3), (.int .i64 p4)]), (.agg [(.int .i64 p5), (.int .i64 p6)])] K = wv_ask_office_mark a0 p0 p1 p2 p3 p4 p5 p6 (fun r0 r1 r2 => K (.tup [(.agg [(.int .i64 r0), (.int .i64 r1)]), (.int .i64 r2)])) := by kernel_rfl
theorem ok_ask_office_mark : OkF E wp_ask_office_mark n_ask_office_mark := by
 intro as K h
 unfold wp_ask_office_mark pw_ask_office_mark at h
 split at h
 · exact WP_ok se0_ask_office_mark (LpOk_no (by kernel_rfl)) (by kernel_rfl) (by kernel_rfl) (fun _ => baseC_none (by kernel_rfl) _) ((eq_ask_office_mark ..).mpr h)
 · exact h.elim
abbrev T_ask_office_has : Type := List PV → List PV → Int → (Bool → Prop) → Prop
def wv_ask_office_has (p0 _ : List PV) (p2 : Int) (K : Bool → Prop) : Prop :=
 (cbr (decide (p2 ≥ (0 : Int)))
 (K (decide (p2 < (((List.length p0) : Nat) : Int))))
 (K false))
def w_ask_office_has (p0 p1 : List PV) (p2 : Int) (K : Bool → Prop) : Prop := wv_ask_office_has p0 p1 p2 K
def pw_ask_office_has (w : T_ask_office_has) (as : List PV) (K : PV → Prop) : Prop :=
 match as with
 | [(.agg [(.data p0), (.data p1)]), (.int .i64 p2)] => w p0 p1 p2 (fun r0 => K (.bool r0))
 | _ => False
def wp_ask_office_has (as : List PV) (K : PV → Prop) : Prop := pw_ask_office_has w_ask_office_has as K
def lp_ask_office_has : LP := fun _ _ _ _ =>
 False
def S0_ask_office_has : SE := ⟨E, lookS [], lookI [], lp_ask_office_has⟩
theorem se0_ask_office_has : SEOk (S0_ask_office_has) := seOk_of trivial trivial
theorem eq_ask_office_has ( p0 p1 p2 K) : WP (S0_ask_office_has) 6 t_ask_office_has [(.agg [(.data p0), (.data p1)]), (.int .i64 p2)] K = wv_ask_office_has p0 p1 p2 (fun r0 => K (.bool r0)) := by kernel_rfl
theorem ok_ask_office_has : OkF E wp_ask_office_has n_ask_office_has := by
 intro as K h
 unfold wp_ask_office_has pw_ask_office_has at h
 split at h
 · exact WP_ok se0_ask_office_has (LpOk_no (by kernel_rfl)) (by kernel_rfl) (by kernel_rfl) (fun _ => baseC_none (by kernel_rfl) _) ((eq_ask_office_has ..).mpr h)
 · exact h.elim
abbrev T_ask_Mark : Type := List PV → List PV → Int → Int → Int → Int → Int → (List PV → List PV → Int → Int → Int → Prop) → Prop
def wv_ask_Mark (a0 : T_ask_Check) (a1 : T_ask_office_has) (a2 : T_ask_office_mark) (a3 : T_ask_copied) (p0 p1 : List PV) (p2 p3 p4 p5 p6 : Int) (K : List PV → List PV → Int → Int → Int → Prop) : Prop :=
 (a0 p0 p1 (fun yi0 => 
 (cbr (yi0 != (0 : Int))
 (K ([] : List PV) ([] : List PV) (0 : Int) (0 : Int) yi0)
 (a1 p0 p1 p2 (fun yb1 => 
 (cbr (!yb1)
 (K ([] : List PV) ([] : List PV) (0 : Int) (0 : Int) (2 : Int))
 (a2 p0 p1 p2 p3 p4 p5 p6 (fun yi2 yi3 yi4 => 
 (cbr (yi4 != (0 : Int))
 (K ([] : List PV) ([] : List PV) (0 : Int) (0 : Int) yi4)
 (cbr (decide ((((List.length p1) : Nat) : Int) ≥ (2000 : Int)))
 (K ([] : List PV) ([] : List PV) (0 : Int) (0 : Int) (4 : Int))
 (asr (decide ((0 : Int) ≤ (IntKind.i64.wrap ((((List.length p1) : Nat) : Int) + (1 : Int)))))
 (asr (decide ((((IntKind.i64.wrap ((((List.length p1) : Nat) : Int) + (1 : Int))).toNat) + 64) * (64 + 1) ≤ room))
 (a3 p0 (fun yl5 => 
 (asr (headOk 8 p1)
 (asr (decide ((List.length (List.replicate ((IntKind.i64.wrap ((((List.length p1) : Nat) : Int) + (1 : Int))).toNat) ((.agg [(.int .i64 (0)), (.int .u8 (0)), (.int .i64 (0)), (.int .i64 (0)), (.int .i64 (0)), (.int .i64 (0)), (.int .i64 (0)), (.int .i64 (0))]) : PV))) = ((IntKind.i64.wrap ((((List.length p1) : Nat) : Int) + (1 : Int))).toNat)))
 (asr (decide (0 ≤ ((IntKind.i64.wrap ((((List.length p1) : Nat) : Int) + (1 : Int))).toNat)))
 (cbr (List.isEmpty p1)
 (asr (decide ((List.length (List.replicate ((IntKind.i64.wrap ((((List.length p1) : Nat) : Int) + (1 : Int))).toNat) ((.agg [(.int .i64 (0)), (.int .u8 (0)), (.int .i64 (0)), (.int .i64 (0)), (.int .i64 (0)), (.int .i64 (0)), (.int .i64 (0)), (.int .i64 (0))]) : PV))) = ((IntKind.i64.wrap ((((List.length p1) : Nat) : Int) + (1 : Int))).toNat)))
 (asr (decide (0 ≤ ((IntKind.i64.wrap ((((List.length p1) : Nat) : Int) + (1 : Int))).toNat)))
 (asr (decide (1 ≤ ((IntKind.i64.wrap ((((List.length p1) : Nat) : Int) + (1 : Int))).toNat)))
 (asr (decide ((List.length (([(.agg [(.int .i64 p2), (.int .u8 (2 : Int)), (.int .i64 p3), (.int .i64 p4), (.int .i64 p5), (.int .i64 p6), (.int .i64 yi2), (.int .i64 yi3)])] : List PV) ++ (List.drop 1 (List.replicate ((IntKind.i64.wrap ((((List.length p1) : Nat) : Int) + (1 : Int))).toNat) ((.agg [(.int .i64 (0)), (.int .u8 (0)), (.int .i64 (0)), (.int .i64 (0)), (.int .i64 (0)), (.int .i64 (0)), (.int .i64 (0)), (.int .i64 (0))]) : PV))))) = ((IntKind.i64.wrap ((((List.length p1) : Nat) : Int) + (1 : Int))).toNat)))
 (asr (decide (1 ≤ ((IntKind.i64.wrap ((((List.length p1) : Nat) : Int) + (1 : Int))).toNat)))
 (K yl5 (List.take 1 (([(.agg [(.int .i64 p2), (.int .u8 (2 : Int)), (.int .i64 p3), (.int .i64 p4), (.int .i64 p5), (.int .i64 p6), (.int .i64 yi2), (.int .i64 yi3)])] : List PV) ++ (List.drop 1 (List.replicate ((IntKind.i64.wrap ((((List.length p1) : Nat) : Int) + (1 : Int))).toNat) ((.agg [(.int .i64 (0)), (.int .u8 (0)), (.int .i64 (0)), (.int .i64 (0)), (.int .i64 (0)), (.int .i64 (0)), (.int .i64 (0)), (.int .i64 (0))]) : PV))))) yi2 yi3 (0 : Int)))))))
 (asr (decide ((0 + (List.length p1)) ≤ ((IntKind.i64.wrap ((((List.length p1) : Nat) : Int) + (1 : Int))).toNat)))
 (asr (decide ((List.length (p1 ++ (List.drop (0 + (List.length p1)) (List.replicate ((IntKind.i64.wrap ((((List.length p1) : Nat) : Int) + (1 : Int))).toNat) ((.agg [(.int .i64 (0)), (.int .u8 (0)), (.int .i64 (0)), (.int .i64 (0)), (.int .i64 (0)), (.int .i64 (0)), (.int .i64 (0)), (.int .i64 (0))]) : PV))))) = ((IntKind.i64.wrap ((((List.length p1) : Nat) : Int) + (1 : Int))).toNat)))
 (asr (decide ((0 + (0 + (List.length p1))) ≤ ((IntKind.i64.wrap ((((List.length p1) : Nat) : Int) + (1 : Int))).toNat)))
 (asr (decide (((0 + (List.length p1)) + 1) ≤ ((IntKind.i64.wrap ((((List.length p1) : Nat) : Int) + (1 : Int))).toNat)))
 (asr (decide ((List.length ((List.take (0 + (0 + (List.length p1))) (p1 ++ (List.drop (0 + (List.length p1)) (List.replicate ((IntKind.i64.wrap ((((List.length p1) : Nat) : Int) + (1 : Int))).toNat) ((.agg [(.int .i64 (0)), (.int .u8 (0)), (.int .i64 (0)), (.int .i64 (0)), (.int .i64 (0)), (.int .i64 (0)), (.int .i64 (0)), (.int .i64 (0))]) : PV))))) ++ (([(.agg [(.int .i64 p2), (.int .u8 (2 : Int)), (.int .i64 p3), (.int .i64 p4), (.int .i64 p5), (.int .i64 p6), (.int .i64 yi2), (.int .i64 yi3)])] : List PV) ++ (List.drop ((0 + (0 + (List.length p1))) + 1) (p1 ++ (List.drop (0 + (List.length p1)) (List.replicate ((IntKind.i64.wrap ((((List.length p1) : Nat) : Int) + (1 : Int))).toNat) ((.agg [(.int .i64 (0)), (.int .u8 (0)), (.int .i64 (0)), (.int .i64 (0)), (.int .i64 (0)), (.int .i64 (0)), (.int .i64 (0)), (.int .i64 (0))]) : PV)))))))) = ((IntKind.i64.wrap ((((List.length p1) : Nat) : Int) + (1 : Int))).toNat)))
 (asr (decide ((0 + ((0 + (List.length p1)) + 1)) ≤ ((IntKind.i64.wrap ((((List.length p1) : Nat) : Int) + (1 : Int))).toNat)))
 (K yl5 (List.take ((0 + (List.length p1)) + 1) ((List.take (0 + (0 + (List.length p1))) (p1 ++ (List.drop (0 + (List.length p1)) (List.replicate ((IntKind.i64.wrap ((((List.length p1) : Nat) : Int) + (1 : Int))).toNat) ((.agg [(.int .i64 (0)), (.int .u8 (0)), (.int .i64 (0)), (.int .i64 (0)), (.int .i64 (0)), (.int .i64 (0)), (.int .i64 (0)), (.int .i64 (0))]) : PV))))) ++ (([(.agg [(.int .i64 p2), (.int .u8 (2 : Int)), (.int .i64 p3), (.int .i64 p4), (.int .i64 p5), (.int .i64 p6), (.int .i64 yi2), (.int .i64 yi3)])] : List PV) ++ (List.drop ((0 + (0 + (List.length p1))) + 1) (p1 ++ (List.drop (0 + (List.length p1)) (List.replicate ((IntKind.i64.wrap ((((List.length p1) : Nat) : Int) + (1 : Int))).toNat) ((.agg [(.int .i64 (0)), (.int .u8 (0)), (.int .i64 (0)), (.int .i64 (0)), (.int .i64 (0)), (.int .i64 (0)), (.int .i64 (0)), (.int .i64 (0))]) : PV)))))))) yi2 yi3 (0 : Int))))))))))))))))))))))))))
def w_ask_Mark (p0 p1 : List PV) (p2 p3 p4 p5 p6 : Int) (K : List PV → List PV → Int → Int → Int → Prop) : Prop := wv_ask_Mark w_ask_Check w_ask_office_has w_ask_office_mark w_ask_copied p0 p1 p2 p3 p4 p5 p6 K
def pw_ask_Mark (w : T_ask_Mark) (as : List PV) (K : PV → Prop) : Prop :=
 match as with
 | [(.agg [(.data p0), (.data p1)]), (.int .i64 p2), (.agg [(.int .i64 p3), (.int .i64 p4)]), (.agg [(.int .i64 p5), (.int .i64 p6)])] => w p0 p1 p2 p3 p4 p5 p6 (fun r0 r1 r2 r3 r4 => K (.tup [(.agg [(.data r0), (.data r1)]), (.agg [(.int .i64 r2), (.int .i64 r3)]), (.int .i64 r4)]))
 | _ => False
def wp_ask_Mark (as : List PV) (K : PV → Prop) : Prop := pw_ask_Mark w_ask_Mark as K
def lp_ask_Mark (_ : T_ask_Check) (_ : T_ask_office_has) (_ : T_ask_office_mark) (_ : T_ask_copied) : LP := fun _ _ _ _ =>
 False
def S0_ask_Mark (a0 : T_ask_Check) (a1 : T_ask_office_has) (a2 : T_ask_office_mark) (a3 : T_ask_copied) : SE := ⟨E, lookS [(n_ask_Check, pw_ask_Check a0), (n_ask_office_has, pw_ask_office_has a1), (n_ask_office_mark, pw_ask_office_mark a2), (n_ask_copied, pw_ask_copied a3)], lookI [(n_ask_office_ask, t_ask_office_ask)], lp_ask_Mark a0 a1 a2 a3⟩
theorem se0_ask_Mark : SEOk (S0_ask_Mark w_ask_Check w_ask_office_has w_ask_office_mark w_ask_copied) := seOk_of ⟨ok_ask_Check, ok_ask_office_has, ok_ask_office_mark, ok_ask_copied, trivial⟩ ⟨⟨by kernel_rfl, by kernel_rfl, rfl, fun as => baseC_none (by kernel_rfl) as, (LpOk_no (by kernel_rfl))⟩, trivial⟩
theorem eq_ask_Mark (a0 a1 a2 a3 p0 p1 p2 p3 p4 p5 p6 K) : WP (S0_ask_Mark a0 a1 a2 a3) 6 t_ask_Mark [(.agg [(.data p0), (.data p1)]), (.int .i64 p2), (.agg [(.int .i64 p3), (.int .i64 p4)]), (.agg [(.int .i64 p5), (.int .i64 p6)])] K = wv_ask_Mark a0 a1 a2 a3 p0 p1 p2 p3 p4 p5 p6 (fun r0 r1 r2 r3 r4 => K (.tup [(.agg [(.data r0), (.data r1)]), (.agg [(.int .i64 r2), (.int .i64 r3)]), (.int .i64 r4)])) := by kernel_rfl
theorem ok_ask_Mark : OkF E wp_ask_Mark n_ask_Mark := by
 intro as K h
 unfold wp_ask_Mark pw_ask_Mark at h
 split at h
 · exact WP_ok se0_ask_Mark (LpOk_no (by kernel_rfl)) (by kernel_rfl) (by kernel_rfl) (fun _ => baseC_none (by kernel_rfl) _) ((eq_ask_Mark ..).mpr h)
 · exact h.elim
abbrev T_ask_office_value : Type := List PV → List PV → Int → Int → Int → Int → Int → (Int → Int → Int → Prop) → Prop
def wv_ask_office_value (a0 : T_cake_Value) (p0 _ : List PV) (p2 p3 p4 p5 p6 : Int) (K : Int → Int → Int → Prop) : Prop :=
 (asr (decide ((0 : Int) ≤ p2))
 (asr (decide (p2 < (((List.length p0) : Nat) : Int)))
 (asr (conf (.agg [.i .i64, .d, .d]) (List.getD p0 (p2.toNat) .nils))
 (a0 (intOfV (cellAt (List.getD p0 (p2.toNat) .nils) 0)) (datOfV (cellAt (List.getD p0 (p2.toNat) .nils) 1)) (datOfV (cellAt (List.getD p0 (p2.toNat) .nils) 2)) p3 p4 p5 p6 (fun yi0 yi1 yi2 => 
 (K yi0 yi1 yi2))))))
def w_ask_office_value (p0 p1 : List PV) (p2 p3 p4 p5 p6 : Int) (K : Int → Int → Int → Prop) : Prop := wv_ask_office_value w_cake_Value p0 p1 p2 p3 p4 p5 p6 K
def pw_ask_office_value (w : T_ask_office_value) (as : List PV) (K : PV → Prop) : Prop :=
 match as with
 | [(.agg [(.data p0), (.data p1)]), (.int .i64 p2), (.agg [(.int .i64 p3), (.int .i64 p4)]), (.agg [(.int .i64 p5), (.int .i64 p6)])] => w p0 p1 p2 p3 p4 p5 p6 (fun r0 r1 r2 => K (.tup [(.agg [(.int .i64 r0), (.int .i64 r1)]), (.int .i64 r2)]))
 | _ => False
def wp_ask_office_value (as : List PV) (K : PV → Prop) : Prop := pw_ask_office_value w_ask_office_value as K
def lp_ask_office_value (_ : T_cake_Value) : LP := fun _ _ _ _ =>
 False
def S0_ask_office_value (a0 : T_cake_Value) : SE := ⟨E, lookS [(n_cake_Value, pw_cake_Value a0)], lookI [], lp_ask_office_value a0⟩
theorem se0_ask_office_value : SEOk (S0_ask_office_value w_cake_Value) := seOk_of ⟨ok_cake_Value, trivial⟩ trivial
theorem eq_ask_office_value (a0 p0 p1 p2 p3 p4 p5 p6 K) : WP (S0_ask_office_value a0) 6 t_ask_office_value [(.agg [(.data p0), (.data p1)]), (.int .i64 p2), (.agg [(.int .i64 p3), (.int .i64 p4)]), (.agg [(.int .i64 p5), (.int .i64 p6)])] K = wv_ask_office_value a0 p0 p1 p2 p3 p4 p5 p6 (fun r0 r1 r2 => K (.tup [(.agg [(.int .i64 r0), (.int .i64 r1)]), (.int .i64 r2)])) := by kernel_rfl
theorem ok_ask_office_value : OkF E wp_ask_office_value n_ask_office_value := by
 intro as K h
 unfold wp_ask_office_value pw_ask_office_value at h
 split at h
 · exact WP_ok se0_ask_office_value (LpOk_no (by kernel_rfl)) (by kernel_rfl) (by kernel_rfl) (fun _ => baseC_none (by kernel_rfl) _) ((eq_ask_office_value ..).mpr h)
 · exact h.elim
abbrev T_ask_Value : Type := List PV → List PV → Int → Int → Int → Int → Int → (List PV → List PV → Int → Int → Int → Prop) → Prop
def wv_ask_Value (a0 : T_ask_Check) (a1 : T_ask_office_has) (a2 : T_ask_office_value) (a3 : T_ask_copied) (p0 p1 : List PV) (p2 p3 p4 p5 p6 : Int) (K : List PV → List PV → Int → Int → Int → Prop) : Prop :=
 (a0 p0 p1 (fun yi0 => 
 (cbr (yi0 != (0 : Int))
 (K ([] : List PV) ([] : List PV) (0 : Int) (0 : Int) yi0)
 (a1 p0 p1 p2 (fun yb1 => 
 (cbr (!yb1)
 (K ([] : List PV) ([] : List PV) (0 : Int) (0 : Int) (2 : Int))
 (a2 p0 p1 p2 p3 p4 p5 p6 (fun yi2 yi3 yi4 => 
 (cbr (yi4 != (0 : Int))
 (K ([] : List PV) ([] : List PV) (0 : Int) (0 : Int) yi4)
 (cbr (decide ((((List.length p1) : Nat) : Int) ≥ (2000 : Int)))
 (K ([] : List PV) ([] : List PV) (0 : Int) (0 : Int) (4 : Int))
 (asr (decide ((0 : Int) ≤ (IntKind.i64.wrap ((((List.length p1) : Nat) : Int) + (1 : Int)))))
 (asr (decide ((((IntKind.i64.wrap ((((List.length p1) : Nat) : Int) + (1 : Int))).toNat) + 64) * (64 + 1) ≤ room))
 (a3 p0 (fun yl5 => 
 (asr (headOk 8 p1)
 (asr (decide ((List.length (List.replicate ((IntKind.i64.wrap ((((List.length p1) : Nat) : Int) + (1 : Int))).toNat) ((.agg [(.int .i64 (0)), (.int .u8 (0)), (.int .i64 (0)), (.int .i64 (0)), (.int .i64 (0)), (.int .i64 (0)), (.int .i64 (0)), (.int .i64 (0))]) : PV))) = ((IntKind.i64.wrap ((((List.length p1) : Nat) : Int) + (1 : Int))).toNat)))
 (asr (decide (0 ≤ ((IntKind.i64.wrap ((((List.length p1) : Nat) : Int) + (1 : Int))).toNat)))
 (cbr (List.isEmpty p1)
 (asr (decide ((List.length (List.replicate ((IntKind.i64.wrap ((((List.length p1) : Nat) : Int) + (1 : Int))).toNat) ((.agg [(.int .i64 (0)), (.int .u8 (0)), (.int .i64 (0)), (.int .i64 (0)), (.int .i64 (0)), (.int .i64 (0)), (.int .i64 (0)), (.int .i64 (0))]) : PV))) = ((IntKind.i64.wrap ((((List.length p1) : Nat) : Int) + (1 : Int))).toNat)))
 (asr (decide (0 ≤ ((IntKind.i64.wrap ((((List.length p1) : Nat) : Int) + (1 : Int))).toNat)))
 (asr (decide (1 ≤ ((IntKind.i64.wrap ((((List.length p1) : Nat) : Int) + (1 : Int))).toNat)))
 (asr (decide ((List.length (([(.agg [(.int .i64 p2), (.int .u8 (1 : Int)), (.int .i64 p3), (.int .i64 p4), (.int .i64 p5), (.int .i64 p6), (.int .i64 yi2), (.int .i64 yi3)])] : List PV) ++ (List.drop 1 (List.replicate ((IntKind.i64.wrap ((((List.length p1) : Nat) : Int) + (1 : Int))).toNat) ((.agg [(.int .i64 (0)), (.int .u8 (0)), (.int .i64 (0)), (.int .i64 (0)), (.int .i64 (0)), (.int .i64 (0)), (.int .i64 (0)), (.int .i64 (0))]) : PV))))) = ((IntKind.i64.wrap ((((List.length p1) : Nat) : Int) + (1 : Int))).toNat)))
 (asr (decide (1 ≤ ((IntKind.i64.wrap ((((List.length p1) : Nat) : Int) + (1 : Int))).toNat)))
 (K yl5 (List.take 1 (([(.agg [(.int .i64 p2), (.int .u8 (1 : Int)), (.int .i64 p3), (.int .i64 p4), (.int .i64 p5), (.int .i64 p6), (.int .i64 yi2), (.int .i64 yi3)])] : List PV) ++ (List.drop 1 (List.replicate ((IntKind.i64.wrap ((((List.length p1) : Nat) : Int) + (1 : Int))).toNat) ((.agg [(.int .i64 (0)), (.int .u8 (0)), (.int .i64 (0)), (.int .i64 (0)), (.int .i64 (0)), (.int .i64 (0)), (.int .i64 (0)), (.int .i64 (0))]) : PV))))) yi2 yi3 (0 : Int)))))))
 (asr (decide ((0 + (List.length p1)) ≤ ((IntKind.i64.wrap ((((List.length p1) : Nat) : Int) + (1 : Int))).toNat)))
 (asr (decide ((List.length (p1 ++ (List.drop (0 + (List.length p1)) (List.replicate ((IntKind.i64.wrap ((((List.length p1) : Nat) : Int) + (1 : Int))).toNat) ((.agg [(.int .i64 (0)), (.int .u8 (0)), (.int .i64 (0)), (.int .i64 (0)), (.int .i64 (0)), (.int .i64 (0)), (.int .i64 (0)), (.int .i64 (0))]) : PV))))) = ((IntKind.i64.wrap ((((List.length p1) : Nat) : Int) + (1 : Int))).toNat)))
 (asr (decide ((0 + (0 + (List.length p1))) ≤ ((IntKind.i64.wrap ((((List.length p1) : Nat) : Int) + (1 : Int))).toNat)))
 (asr (decide (((0 + (List.length p1)) + 1) ≤ ((IntKind.i64.wrap ((((List.length p1) : Nat) : Int) + (1 : Int))).toNat)))
 (asr (decide ((List.length ((List.take (0 + (0 + (List.length p1))) (p1 ++ (List.drop (0 + (List.length p1)) (List.replicate ((IntKind.i64.wrap ((((List.length p1) : Nat) : Int) + (1 : Int))).toNat) ((.agg [(.int .i64 (0)), (.int .u8 (0)), (.int .i64 (0)), (.int .i64 (0)), (.int .i64 (0)), (.int .i64 (0)), (.int .i64 (0)), (.int .i64 (0))]) : PV))))) ++ (([(.agg [(.int .i64 p2), (.int .u8 (1 : Int)), (.int .i64 p3), (.int .i64 p4), (.int .i64 p5), (.int .i64 p6), (.int .i64 yi2), (.int .i64 yi3)])] : List PV) ++ (List.drop ((0 + (0 + (List.length p1))) + 1) (p1 ++ (List.drop (0 + (List.length p1)) (List.replicate ((IntKind.i64.wrap ((((List.length p1) : Nat) : Int) + (1 : Int))).toNat) ((.agg [(.int .i64 (0)), (.int .u8 (0)), (.int .i64 (0)), (.int .i64 (0)), (.int .i64 (0)), (.int .i64 (0)), (.int .i64 (0)), (.int .i64 (0))]) : PV)))))))) = ((IntKind.i64.wrap ((((List.length p1) : Nat) : Int) + (1 : Int))).toNat)))
 (asr (decide ((0 + ((0 + (List.length p1)) + 1)) ≤ ((IntKind.i64.wrap ((((List.length p1) : Nat) : Int) + (1 : Int))).toNat)))
 (K yl5 (List.take ((0 + (List.length p1)) + 1) ((List.take (0 + (0 + (List.length p1))) (p1 ++ (List.drop (0 + (List.length p1)) (List.replicate ((IntKind.i64.wrap ((((List.length p1) : Nat) : Int) + (1 : Int))).toNat) ((.agg [(.int .i64 (0)), (.int .u8 (0)), (.int .i64 (0)), (.int .i64 (0)), (.int .i64 (0)), (.int .i64 (0)), (.int .i64 (0)), (.int .i64 (0))]) : PV))))) ++ (([(.agg [(.int .i64 p2), (.int .u8 (1 : Int)), (.int .i64 p3), (.int .i64 p4), (.int .i64 p5), (.int .i64 p6), (.int .i64 yi2), (.int .i64 yi3)])] : List PV) ++ (List.drop ((0 + (0 + (List.length p1))) + 1) (p1 ++ (List.drop (0 + (List.length p1)) (List.replicate ((IntKind.i64.wrap ((((List.length p1) : Nat) : Int) + (1 : Int))).toNat) ((.agg [(.int .i64 (0)), (.int .u8 (0)), (.int .i64 (0)), (.int .i64 (0)), (.int .i64 (0)), (.int .i64 (0)), (.int .i64 (0)), (.int .i64 (0))]) : PV)))))))) yi2 yi3 (0 : Int))))))))))))))))))))))))))
def w_ask_Value (p0 p1 : List PV) (p2 p3 p4 p5 p6 : Int) (K : List PV → List PV → Int → Int → Int → Prop) : Prop := wv_ask_Value w_ask_Check w_ask_office_has w_ask_office_value w_ask_copied p0 p1 p2 p3 p4 p5 p6 K
def pw_ask_Value (w : T_ask_Value) (as : List PV) (K : PV → Prop) : Prop :=
 match as with
 | [(.agg [(.data p0), (.data p1)]), (.int .i64 p2), (.agg [(.int .i64 p3), (.int .i64 p4)]), (.agg [(.int .i64 p5), (.int .i64 p6)])] => w p0 p1 p2 p3 p4 p5 p6 (fun r0 r1 r2 r3 r4 => K (.tup [(.agg [(.data r0), (.data r1)]), (.agg [(.int .i64 r2), (.int .i64 r3)]), (.int .i64 r4)]))
 | _ => False
def wp_ask_Value (as : List PV) (K : PV → Prop) : Prop := pw_ask_Value w_ask_Value as K
def lp_ask_Value (_ : T_ask_Check) (_ : T_ask_office_has) (_ : T_ask_office_value) (_ : T_ask_copied) : LP := fun _ _ _ _ =>
 False
def S0_ask_Value (a0 : T_ask_Check) (a1 : T_ask_office_has) (a2 : T_ask_office_value) (a3 : T_ask_copied) : SE := ⟨E, lookS [(n_ask_Check, pw_ask_Check a0), (n_ask_office_has, pw_ask_office_has a1), (n_ask_office_value, pw_ask_office_value a2), (n_ask_copied, pw_ask_copied a3)], lookI [(n_ask_office_ask, t_ask_office_ask)], lp_ask_Value a0 a1 a2 a3⟩
theorem se0_ask_Value : SEOk (S0_ask_Value w_ask_Check w_ask_office_has w_ask_office_value w_ask_copied) := seOk_of ⟨ok_ask_Check, ok_ask_office_has, ok_ask_office_value, ok_ask_copied, trivial⟩ ⟨⟨by kernel_rfl, by kernel_rfl, rfl, fun as => baseC_none (by kernel_rfl) as, (LpOk_no (by kernel_rfl))⟩, trivial⟩
theorem eq_ask_Value (a0 a1 a2 a3 p0 p1 p2 p3 p4 p5 p6 K) : WP (S0_ask_Value a0 a1 a2 a3) 6 t_ask_Value [(.agg [(.data p0), (.data p1)]), (.int .i64 p2), (.agg [(.int .i64 p3), (.int .i64 p4)]), (.agg [(.int .i64 p5), (.int .i64 p6)])] K = wv_ask_Value a0 a1 a2 a3 p0 p1 p2 p3 p4 p5 p6 (fun r0 r1 r2 r3 r4 => K (.tup [(.agg [(.data r0), (.data r1)]), (.agg [(.int .i64 r2), (.int .i64 r3)]), (.int .i64 r4)])) := by kernel_rfl
theorem ok_ask_Value : OkF E wp_ask_Value n_ask_Value := by
 intro as K h
 unfold wp_ask_Value pw_ask_Value at h
 split at h
 · exact WP_ok se0_ask_Value (LpOk_no (by kernel_rfl)) (by kernel_rfl) (by kernel_rfl) (fun _ => baseC_none (by kernel_rfl) _) ((eq_ask_Value ..).mpr h)
 · exact h.elim
end Go.Pf.Vc
namespace Go.Pf.Vc
open Go Go.Pf
set_option linter.unusedVariables false
theorem det_ask_Check (p0 : List PV) (p1 : List PV) (r0 : Int) (h : ∀ K : Int → Prop, K r0 → w_ask_Check p0 p1 K) (K : Int → Prop) : w_ask_Check p0 p1 K = K r0 :=
 propext ⟨fun k => detC ok_ask_Check (as := [(.agg [(.data p0), (.data p1)])]) (x := (.int .i64 r0)) (fun K' k' => h (fun r0 => K' (.int .i64 r0)) k') (K := fun x => match x with | (.int .i64 r0) => K r0 | _ => False) k, h K⟩
theorem det_ask_copied (p0 : List PV) (r0 : List PV) (h : ∀ K : List PV → Prop, K r0 → w_ask_copied p0 K) (K : List PV → Prop) : w_ask_copied p0 K = K r0 :=
 propext ⟨fun k => detC ok_ask_copied (as := [(.data p0)]) (x := (.data r0)) (fun K' k' => h (fun r0 => K' (.data r0)) k') (K := fun x => match x with | (.data r0) => K r0 | _ => False) k, h K⟩
theorem det_ask_Mark (p0 : List PV) (p1 : List PV) (p2 : Int) (p3 : Int) (p4 : Int) (p5 : Int) (p6 : Int) (r0 : List PV) (r1 : List PV) (r2 : Int) (r3 : Int) (r4 : Int) (h : ∀ K : List PV → List PV → Int → Int → Int → Prop, K r0 r1 r2 r3 r4 → w_ask_Mark p0 p1 p2 p3 p4 p5 p6 K) (K : List PV → List PV → Int → Int → Int → Prop) : w_ask_Mark p0 p1 p2 p3 p4 p5 p6 K = K r0 r1 r2 r3 r4 :=
 propext ⟨fun k => detC ok_ask_Mark (as := [(.agg [(.data p0), (.data p1)]), (.int .i64 p2), (.agg [(.int .i64 p3), (.int .i64 p4)]), (.agg [(.int .i64 p5), (.int .i64 p6)])]) (x := (.tup [(.agg [(.data r0), (.data r1)]), (.agg [(.int .i64 r2), (.int .i64 r3)]), (.int .i64 r4)])) (fun K' k' => h (fun r0 r1 r2 r3 r4 => K' (.tup [(.agg [(.data r0), (.data r1)]), (.agg [(.int .i64 r2), (.int .i64 r3)]), (.int .i64 r4)])) k') (K := fun x => match x with | (.tup [(.agg [(.data r0), (.data r1)]), (.agg [(.int .i64 r2), (.int .i64 r3)]), (.int .i64 r4)]) => K r0 r1 r2 r3 r4 | _ => False) k, h K⟩
theorem det_ask_Value (p0 : List PV) (p1 : List PV) (p2 : Int) (p3 : Int) (p4 : Int) (p5 : Int) (p6 : Int) (r0 : List PV) (r1 : List PV) (r2 : Int) (r3 : Int) (r4 : Int) (h : ∀ K : List PV → List PV → Int → Int → Int → Prop, K r0 r1 r2 r3 r4 → w_ask_Value p0 p1 p2 p3 p4 p5 p6 K) (K : List PV → List PV → Int → Int → Int → Prop) : w_ask_Value p0 p1 p2 p3 p4 p5 p6 K = K r0 r1 r2 r3 r4 :=
 propext ⟨fun k => detC ok_ask_Value (as := [(.agg [(.data p0), (.data p1)]), (.int .i64 p2), (.agg [(.int .i64 p3), (.int .i64 p4)]), (.agg [(.int .i64 p5), (.int .i64 p6)])]) (x := (.tup [(.agg [(.data r0), (.data r1)]), (.agg [(.int .i64 r2), (.int .i64 r3)]), (.int .i64 r4)])) (fun K' k' => h (fun r0 r1 r2 r3 r4 => K' (.tup [(.agg [(.data r0), (.data r1)]), (.agg [(.int .i64 r2), (.int .i64 r3)]), (.int .i64 r4)])) k') (K := fun x => match x with | (.tup [(.agg [(.data r0), (.data r1)]), (.agg [(.int .i64 r2), (.int .i64 r3)]), (.int .i64 r4)]) => K r0 r1 r2 r3 r4 | _ => False) k, h K⟩
end Go.Pf.Vc
namespace Go.Pf.Vc
open Go Go.Pf
set_option maxRecDepth 100000
abbrev T_r01_Of : Type := Int → (Int → Int → Prop) → Prop
def wv_r01_Of (p0 : Int) (K : Int → Int → Prop) : Prop :=
 (K p0 (1 : Int))
def w_r01_Of (p0 : Int) (K : Int → Int → Prop) : Prop := wv_r01_Of p0 K
def pw_r01_Of (w : T_r01_Of) (as : List PV) (K : PV → Prop) : Prop :=
 match as with
 | [(.int .i64 p0)] => w p0 (fun r0 r1 => K (.agg [(.int .i64 r0), (.int .i64 r1)]))
 | _ => False
def wp_r01_Of (as : List PV) (K : PV → Prop) : Prop := pw_r01_Of w_r01_Of as K
def lp_r01_Of : LP := fun _ _ _ _ =>
 False
def S0_r01_Of : SE := ⟨E, lookS [], lookI [], lp_r01_Of⟩
theorem se0_r01_Of : SEOk (S0_r01_Of) := seOk_of trivial trivial
theorem eq_r01_Of ( p0 K) : WP (S0_r01_Of) 6 t_r01_Of [(.int .i64 p0)] K = wv_r01_Of p0 (fun r0 r1 => K (.agg [(.int .i64 r0), (.int .i64 r1)])) := by kernel_rfl
theorem ok_r01_Of : OkF E wp_r01_Of n_r01_Of := by
 intro as K h
 unfold wp_r01_Of pw_r01_Of at h
 split at h
 · exact WP_ok se0_r01_Of (LpOk_no (by kernel_rfl)) (by kernel_rfl) (by kernel_rfl) (fun _ => baseC_none (by kernel_rfl) _) ((eq_r01_Of ..).mpr h)
 · exact h.elim
abbrev T_r01_abs : Type := Int → (Int → Prop) → Prop
def wv_r01_abs (p0 : Int) (K : Int → Prop) : Prop :=
 (cbr (decide (p0 < (0 : Int)))
 (K (IntKind.u64.wrap ((IntKind.u64.wrap (IntKind.i64.wrap ((0 : Int) - (IntKind.i64.wrap (p0 + (1 : Int)))))) + (1 : Int))))
 (K (IntKind.u64.wrap p0)))
def w_r01_abs (p0 : Int) (K : Int → Prop) : Prop := wv_r01_abs p0 K
def pw_r01_abs (w : T_r01_abs) (as : List PV) (K : PV → Prop) : Prop :=
 match as with
 | [(.int .i64 p0)] => w p0 (fun r0 => K (.int .u64 r0))
 | _ => False
def wp_r01_abs (as : List PV) (K : PV → Prop) : Prop := pw_r01_abs w_r01_abs as K
def lp_r01_abs : LP := fun _ _ _ _ =>
 False
def S0_r01_abs : SE := ⟨E, lookS [], lookI [], lp_r01_abs⟩
theorem se0_r01_abs : SEOk (S0_r01_abs) := seOk_of trivial trivial
theorem eq_r01_abs ( p0 K) : WP (S0_r01_abs) 6 t_r01_abs [(.int .i64 p0)] K = wv_r01_abs p0 (fun r0 => K (.int .u64 r0)) := by kernel_rfl
theorem ok_r01_abs : OkF E wp_r01_abs n_r01_abs := by
 intro as K h
 unfold wp_r01_abs pw_r01_abs at h
 split at h
 · exact WP_ok se0_r01_abs (LpOk_no (by kernel_rfl)) (by kernel_rfl) (by kernel_rfl) (fun _ => baseC_none (by kernel_rfl) _) ((eq_r01_abs ..).mpr h)
 · exact h.elim
abbrev T_r01_gcd : Type := Int → Int → (Int → Prop) → Prop
def L_r01_gcd_0_0 (x0 : Int → Int → Bool → Prop) : Nat → Int → Int → Prop
 | 0, _, _ => False
 | n + 1, i0, i1 =>
 (cbr (i1 != (0 : Int))
 (asr (!(decide (i1 = (0 : Int))))
 (L_r01_gcd_0_0 x0 n i1 (Int.tmod i0 i1)))
 (x0 i0 i1 false))
def wv_r01_gcd (p0 p1 : Int) (K : Int → Prop) : Prop :=
 (∃ n : Nat, L_r01_gcd_0_0
 (fun yi0 _ _ => (K yi0))
 n p0 p1)
def w_r01_gcd (p0 p1 : Int) (K : Int → Prop) : Prop := wv_r01_gcd p0 p1 K
def pw_r01_gcd (w : T_r01_gcd) (as : List PV) (K : PV → Prop) : Prop :=
 match as with
 | [(.int .u64 p0), (.int .u64 p1)] => w p0 p1 (fun r0 => K (.int .u64 r0))
 | _ => False
def wp_r01_gcd (as : List PV) (K : PV → Prop) : Prop := pw_r01_gcd w_r01_gcd as K
def D_r01_gcd_0 (F : Frm) (H : Hp) (A0 : Int → Int → Prop) : Prop :=
 match F, H with
 | [(0, .v (.int .u64 i0)), (1, .v (.int .u64 i1))], [] => (A0 i0 i1)
 | _, _ => False
def R_r01_gcd_0 (Q : Ex → Frm → Hp → Prop) (n : Nat) (F : Frm) (H : Hp) : Prop := D_r01_gcd_0 F H (fun i0 i1 => L_r01_gcd_0_0 (fun i0 i1 b2 => Q (.exit 0) [(0, .v (.int .u64 i0)), (1, .v (.int .u64 i1)), (6, .v (.bool b2))] []) n i0 i1)
def lp_r01_gcd : LP := fun id F H Q =>
 bif Nat.beq id 16774900 then D_r01_gcd_0 F H (fun i0 i1 => ∃ n : Nat, L_r01_gcd_0_0 (fun i0 i1 b2 => Q (.exit 0) [(0, .v (.int .u64 i0)), (1, .v (.int .u64 i1)), (6, .v (.bool b2))] []) n i0 i1) else
 False
def S0_r01_gcd : SE := ⟨E, lookS [], lookI [], lp_r01_gcd⟩
theorem se0_r01_gcd : SEOk (S0_r01_gcd) := seOk_of trivial trivial
theorem body_r01_gcd_0_0 ( Q n i0 i1) : WC E (callW (S0_r01_gcd) 5) (lp_r01_gcd) b_16774900 [(0, .v (.int .u64 i0)), (1, .v (.int .u64 i1))] [] (fun x F' H' => match x with | .norm => R_r01_gcd_0 Q n F' H' | .exit i => Q (.exit i) F' H' | .ret => Q .ret F' H') = L_r01_gcd_0_0 (fun i0 i1 b2 => Q (.exit 0) [(0, .v (.int .u64 i0)), (1, .v (.int .u64 i1)), (6, .v (.bool b2))] []) (n + 1) i0 i1 := by kernel_rfl
theorem lpb_r01_gcd_0 : LpOk E (lp_r01_gcd) b_16774900 := (LpOk_no (by kernel_rfl))
theorem loop_r01_gcd_0 : ∀ F H Q, lp_r01_gcd 16774900 F H Q → LoopT E b_16774900 F H Q := by
 intro F H Q h
 have go := LoopT.intro (callW_ok se0_r01_gcd 5) lpb_r01_gcd_0 (R_r01_gcd_0 Q) (by
   intro F H h
   unfold R_r01_gcd_0 D_r01_gcd_0 at h
   split at h
   · exact h
   · exact h) (by
   intro n F H h
   unfold R_r01_gcd_0 D_r01_gcd_0 at h
   split at h
   · exact (body_r01_gcd_0_0 ..).mpr h
   · exact h.elim)
 have h : D_r01_gcd_0 F H _ := h
 unfold D_r01_gcd_0 at h
 split at h
 · obtain ⟨n, h⟩ := h; exact go n _ _ h
 · exact h.elim
theorem eq_r01_gcd ( p0 p1 K) : WP (S0_r01_gcd) 6 t_r01_gcd [(.int .u64 p0), (.int .u64 p1)] K = wv_r01_gcd p0 p1 (fun r0 => K (.int .u64 r0)) := by kernel_rfl
theorem ok_r01_gcd : OkF E wp_r01_gcd n_r01_gcd := by
 intro as K h
 unfold wp_r01_gcd pw_r01_gcd at h
 split at h
 · exact WP_ok se0_r01_gcd (LpOk_by (l := [(16774900, b_16774900)]) ⟨loop_r01_gcd_0, trivial⟩ (by kernel_rfl)) (by kernel_rfl) (by kernel_rfl) (fun _ => baseC_none (by kernel_rfl) _) ((eq_r01_gcd ..).mpr h)
 · exact h.elim
abbrev T_r01_made : Type := Bool → Int → Int → Int → Int → (Int → Int → Int → Prop) → Prop
def wv_r01_made (p0 : Bool) (p1 p2 p3 p4 : Int) (K : Int → Int → Int → Prop) : Prop :=
 (cbr (decide (p1 > (0 : Int)))
 (K (0 : Int) (0 : Int) (16 : Int))
 (cbr (decide (p3 > (0 : Int)))
 (K (0 : Int) (0 : Int) (16 : Int))
 (cbr (decide (p2 > (1000000000000000000 : Int)))
 (K (0 : Int) (0 : Int) (16 : Int))
 (cbr (decide (p4 > (1000000000000000000 : Int)))
 (K (0 : Int) (0 : Int) (16 : Int))
 (cbr p0
 (K (IntKind.i64.wrap ((0 : Int) - (IntKind.i64.wrap p2))) (IntKind.i64.wrap p4) (0 : Int))
 (K (IntKind.i64.wrap p2) (IntKind.i64.wrap p4) (0 : Int)))))))
def w_r01_made (p0 : Bool) (p1 p2 p3 p4 : Int) (K : Int → Int → Int → Prop) : Prop := wv_r01_made p0 p1 p2 p3 p4 K
def pw_r01_made (w : T_r01_made) (as : List PV) (K : PV → Prop) : Prop :=
 match as with
 | [(.bool p0), (.agg [(.int .u64 p1), (.int .u64 p2)]), (.agg [(.int .u64 p3), (.int .u64 p4)])] => w p0 p1 p2 p3 p4 (fun r0 r1 r2 => K (.tup [(.agg [(.int .i64 r0), (.int .i64 r1)]), (.int .i64 r2)]))
 | _ => False
def wp_r01_made (as : List PV) (K : PV → Prop) : Prop := pw_r01_made w_r01_made as K
def lp_r01_made : LP := fun _ _ _ _ =>
 False
def S0_r01_made : SE := ⟨E, lookS [], lookI [], lp_r01_made⟩
theorem se0_r01_made : SEOk (S0_r01_made) := seOk_of trivial trivial
theorem eq_r01_made ( p0 p1 p2 p3 p4 K) : WP (S0_r01_made) 6 t_r01_made [(.bool p0), (.agg [(.int .u64 p1), (.int .u64 p2)]), (.agg [(.int .u64 p3), (.int .u64 p4)])] K = wv_r01_made p0 p1 p2 p3 p4 (fun r0 r1 r2 => K (.tup [(.agg [(.int .i64 r0), (.int .i64 r1)]), (.int .i64 r2)])) := by kernel_rfl
theorem ok_r01_made : OkF E wp_r01_made n_r01_made := by
 intro as K h
 unfold wp_r01_made pw_r01_made at h
 split at h
 · exact WP_ok se0_r01_made (LpOk_no (by kernel_rfl)) (by kernel_rfl) (by kernel_rfl) (fun _ => baseC_none (by kernel_rfl) _) ((eq_r01_made ..).mpr h)
 · exact h.elim
abbrev T_r01_Make : Type := Int → Int → (Int → Int → Int → Prop) → Prop
def wv_r01_Make (a0 : T_r01_abs) (a1 : T_r01_gcd) (a2 : T_r01_made) (p0 p1 : Int) (K : Int → Int → Int → Prop) : Prop :=
 (cbr (p1 == (0 : Int))
 (K (0 : Int) (0 : Int) (18 : Int))
 (a0 p0 (fun yi0 => 
 (a0 p1 (fun yi1 => 
 (a1 yi0 yi1 (fun yi2 => 
 (asr (!(decide (yi2 = (0 : Int))))
 (asr (!(decide (yi2 = (0 : Int))))
 (a2 ((decide (p0 < (0 : Int))) != (decide (p1 < (0 : Int)))) (0 : Int) (IntKind.u64.wrap (Int.tdiv yi0 yi2)) (0 : Int) (IntKind.u64.wrap (Int.tdiv yi1 yi2)) (fun yi3 yi4 yi5 => 
 (K yi3 yi4 yi5))))))))))))
def w_r01_Make (p0 p1 : Int) (K : Int → Int → Int → Prop) : Prop := wv_r01_Make w_r01_abs w_r01_gcd w_r01_made p0 p1 K
def pw_r01_Make (w : T_r01_Make) (as : List PV) (K : PV → Prop) : Prop :=
 match as with
 | [(.int .i64 p0), (.int .i64 p1)] => w p0 p1 (fun r0 r1 r2 => K (.tup [(.agg [(.int .i64 r0), (.int .i64 r1)]), (.int .i64 r2)]))
 | _ => False
def wp_r01_Make (as : List PV) (K : PV → Prop) : Prop := pw_r01_Make w_r01_Make as K
def lp_r01_Make (_ : T_r01_abs) (_ : T_r01_gcd) (_ : T_r01_made) : LP := fun _ _ _ _ =>
 False
def S0_r01_Make (a0 : T_r01_abs) (a1 : T_r01_gcd) (a2 : T_r01_made) : SE := ⟨E, lookS [(n_r01_abs, pw_r01_abs a0), (n_r01_gcd, pw_r01_gcd a1), (n_r01_made, pw_r01_made a2)], lookI [], lp_r01_Make a0 a1 a2⟩
theorem se0_r01_Make : SEOk (S0_r01_Make w_r01_abs w_r01_gcd w_r01_made) := seOk_of ⟨ok_r01_abs, ok_r01_gcd, ok_r01_made, trivial⟩ trivial
theorem eq_r01_Make (a0 a1 a2 p0 p1 K) : WP (S0_r01_Make a0 a1 a2) 6 t_r01_Make [(.int .i64 p0), (.int .i64 p1)] K = wv_r01_Make a0 a1 a2 p0 p1 (fun r0 r1 r2 => K (.tup [(.agg [(.int .i64 r0), (.int .i64 r1)]), (.int .i64 r2)])) := by kernel_rfl
theorem ok_r01_Make : OkF E wp_r01_Make n_r01_Make := by
 intro as K h
 unfold wp_r01_Make pw_r01_Make at h
 split at h
 · exact WP_ok se0_r01_Make (LpOk_no (by kernel_rfl)) (by kernel_rfl) (by kernel_rfl) (fun _ => baseC_none (by kernel_rfl) _) ((eq_r01_Make ..).mpr h)
 · exact h.elim
abbrev T_r01_Check : Type := Int → Int → (Int → Prop) → Prop
def wv_r01_Check (a0 : T_r01_abs) (a1 : T_r01_gcd) (p0 p1 : Int) (K : Int → Prop) : Prop :=
 (cbr (decide (p1 < (1 : Int)))
 (K (8 : Int))
 (cbr (decide (p1 > (1000000000000000000 : Int)))
 (K (8 : Int))
 (cbr (decide (p0 < (-1000000000000000000 : Int)))
 (K (8 : Int))
 (cbr (decide (p0 > (1000000000000000000 : Int)))
 (K (8 : Int))
 (a0 p0 (fun yi0 => 
 (a1 yi0 (IntKind.u64.wrap p1) (fun yi1 => 
 (cbr (yi1 != (1 : Int))
 (K (8 : Int))
 (K (0 : Int)))))))))))
def w_r01_Check (p0 p1 : Int) (K : Int → Prop) : Prop := wv_r01_Check w_r01_abs w_r01_gcd p0 p1 K
def pw_r01_Check (w : T_r01_Check) (as : List PV) (K : PV → Prop) : Prop :=
 match as with
 | [(.agg [(.int .i64 p0), (.int .i64 p1)])] => w p0 p1 (fun r0 => K (.int .i64 r0))
 | _ => False
def wp_r01_Check (as : List PV) (K : PV → Prop) : Prop := pw_r01_Check w_r01_Check as K
def lp_r01_Check (_ : T_r01_abs) (_ : T_r01_gcd) : LP := fun _ _ _ _ =>
 False
def S0_r01_Check (a0 : T_r01_abs) (a1 : T_r01_gcd) : SE := ⟨E, lookS [(n_r01_abs, pw_r01_abs a0), (n_r01_gcd, pw_r01_gcd a1)], lookI [], lp_r01_Check a0 a1⟩
theorem se0_r01_Check : SEOk (S0_r01_Check w_r01_abs w_r01_gcd) := seOk_of ⟨ok_r01_abs, ok_r01_gcd, trivial⟩ trivial
theorem eq_r01_Check (a0 a1 p0 p1 K) : WP (S0_r01_Check a0 a1) 6 t_r01_Check [(.agg [(.int .i64 p0), (.int .i64 p1)])] K = wv_r01_Check a0 a1 p0 p1 (fun r0 => K (.int .i64 r0)) := by kernel_rfl
theorem ok_r01_Check : OkF E wp_r01_Check n_r01_Check := by
 intro as K h
 unfold wp_r01_Check pw_r01_Check at h
 split at h
 · exact WP_ok se0_r01_Check (LpOk_no (by kernel_rfl)) (by kernel_rfl) (by kernel_rfl) (fun _ => baseC_none (by kernel_rfl) _) ((eq_r01_Check ..).mpr h)
 · exact h.elim
abbrev T_r01_times : Type := Int → Int → (Int → Int → Prop) → Prop
def wv_r01_times (p0 p1 : Int) (K : Int → Int → Prop) : Prop :=
 (K (IntKind.u64.wrap ((IntKind.u64.wrap ((IntKind.u64.wrap ((Int.fdiv p0 4294967296) * (Int.fdiv p1 4294967296))) + (Int.fdiv (IntKind.u64.wrap ((Int.fdiv p0 4294967296) * (IntKind.u64.wrap (BitVec.ofInt IntKind.u64.bits p1 &&& BitVec.ofInt IntKind.u64.bits (4294967295 : Int)).toNat))) 4294967296))) + (Int.fdiv (IntKind.u64.wrap ((IntKind.u64.wrap ((IntKind.u64.wrap (BitVec.ofInt IntKind.u64.bits (IntKind.u64.wrap ((Int.fdiv p0 4294967296) * (IntKind.u64.wrap (BitVec.ofInt IntKind.u64.bits p1 &&& BitVec.ofInt IntKind.u64.bits (4294967295 : Int)).toNat))) &&& BitVec.ofInt IntKind.u64.bits (4294967295 : Int)).toNat) + (IntKind.u64.wrap ((IntKind.u64.wrap (BitVec.ofInt IntKind.u64.bits p0 &&& BitVec.ofInt IntKind.u64.bits (4294967295 : Int)).toNat) * (Int.fdiv p1 4294967296))))) + (Int.fdiv (IntKind.u64.wrap ((IntKind.u64.wrap (BitVec.ofInt IntKind.u64.bits p0 &&& BitVec.ofInt IntKind.u64.bits (4294967295 : Int)).toNat) * (IntKind.u64.wrap (BitVec.ofInt IntKind.u64.bits p1 &&& BitVec.ofInt IntKind.u64.bits (4294967295 : Int)).toNat))) 4294967296))) 4294967296))) (IntKind.u64.wrap (BitVec.ofInt IntKind.u64.bits (IntKind.u64.wrap ((IntKind.u64.wrap ((IntKind.u64.wrap ((IntKind.u64.wrap (BitVec.ofInt IntKind.u64.bits (IntKind.u64.wrap ((Int.fdiv p0 4294967296) * (IntKind.u64.wrap (BitVec.ofInt IntKind.u64.bits p1 &&& BitVec.ofInt IntKind.u64.bits (4294967295 : Int)).toNat))) &&& BitVec.ofInt IntKind.u64.bits (4294967295 : Int)).toNat) + (IntKind.u64.wrap ((IntKind.u64.wrap (BitVec.ofInt IntKind.u64.bits p0 &&& BitVec.ofInt IntKind.u64.bits (4294967295 : Int)).toNat) * (Int.fdiv p1 4294967296))))) + (Int.fdiv (IntKind.u64.wrap ((IntKind.u64.wrap (BitVec.ofInt IntKind.u64.bits p0 &&& BitVec.ofInt IntKind.u64.bits (4294967295 : Int)).toNat) * (IntKind.u64.wrap (BitVec.ofInt IntKind.u64.bits p1 &&& BitVec.ofInt IntKind.u64.bits (4294967295 : Int)).toNat))) 4294967296))) * (4294967296 : Int))) ||| BitVec.ofInt IntKind.u64.bits (IntKind.u64.wrap (BitVec.ofInt IntKind.u64.bits (IntKind.u64.wrap ((IntKind.u64.wrap (BitVec.ofInt IntKind.u64.bits p0 &&& BitVec.ofInt IntKind.u64.bits (4294967295 : Int)).toNat) * (IntKind.u64.wrap (BitVec.ofInt IntKind.u64.bits p1 &&& BitVec.ofInt IntKind.u64.bits (4294967295 : Int)).toNat))) &&& BitVec.ofInt IntKind.u64.bits (4294967295 : Int)).toNat)).toNat))
def w_r01_times (p0 p1 : Int) (K : Int → Int → Prop) : Prop := wv_r01_times p0 p1 K
def pw_r01_times (w : T_r01_times) (as : List PV) (K : PV → Prop) : Prop :=
 match as with
 | [(.int .u64 p0), (.int .u64 p1)] => w p0 p1 (fun r0 r1 => K (.agg [(.int .u64 r0), (.int .u64 r1)]))
 | _ => False
def wp_r01_times (as : List PV) (K : PV → Prop) : Prop := pw_r01_times w_r01_times as K
def lp_r01_times : LP := fun _ _ _ _ =>
 False
def S0_r01_times : SE := ⟨E, lookS [], lookI [], lp_r01_times⟩
theorem se0_r01_times : SEOk (S0_r01_times) := seOk_of trivial trivial
theorem eq_r01_times ( p0 p1 K) : WP (S0_r01_times) 6 t_r01_times [(.int .u64 p0), (.int .u64 p1)] K = wv_r01_times p0 p1 (fun r0 r1 => K (.agg [(.int .u64 r0), (.int .u64 r1)])) := by kernel_rfl
theorem ok_r01_times : OkF E wp_r01_times n_r01_times := by
 intro as K h
 unfold wp_r01_times pw_r01_times at h
 split at h
 · exact WP_ok se0_r01_times (LpOk_no (by kernel_rfl)) (by kernel_rfl) (by kernel_rfl) (fun _ => baseC_none (by kernel_rfl) _) ((eq_r01_times ..).mpr h)
 · exact h.elim
abbrev T_r01_less : Type := Int → Int → Int → Int → (Bool → Prop) → Prop
def wv_r01_less (p0 p1 p2 p3 : Int) (K : Bool → Prop) : Prop :=
 (cbr (decide (p0 < p2))
 (K true)
 (cbr (p0 == p2)
 (K (decide (p1 < p3)))
 (K false)))
def w_r01_less (p0 p1 p2 p3 : Int) (K : Bool → Prop) : Prop := wv_r01_less p0 p1 p2 p3 K
def pw_r01_less (w : T_r01_less) (as : List PV) (K : PV → Prop) : Prop :=
 match as with
 | [(.agg [(.int .u64 p0), (.int .u64 p1)]), (.agg [(.int .u64 p2), (.int .u64 p3)])] => w p0 p1 p2 p3 (fun r0 => K (.bool r0))
 | _ => False
def wp_r01_less (as : List PV) (K : PV → Prop) : Prop := pw_r01_less w_r01_less as K
def lp_r01_less : LP := fun _ _ _ _ =>
 False
def S0_r01_less : SE := ⟨E, lookS [], lookI [], lp_r01_less⟩
theorem se0_r01_less : SEOk (S0_r01_less) := seOk_of trivial trivial
theorem eq_r01_less ( p0 p1 p2 p3 K) : WP (S0_r01_less) 6 t_r01_less [(.agg [(.int .u64 p0), (.int .u64 p1)]), (.agg [(.int .u64 p2), (.int .u64 p3)])] K = wv_r01_less p0 p1 p2 p3 (fun r0 => K (.bool r0)) := by kernel_rfl
theorem ok_r01_less : OkF E wp_r01_less n_r01_less := by
 intro as K h
 unfold wp_r01_less pw_r01_less at h
 split at h
 · exact WP_ok se0_r01_less (LpOk_no (by kernel_rfl)) (by kernel_rfl) (by kernel_rfl) (fun _ => baseC_none (by kernel_rfl) _) ((eq_r01_less ..).mpr h)
 · exact h.elim
abbrev T_r01_Less : Type := Int → Int → Int → Int → (Bool → Prop) → Prop
def wv_r01_Less (a0 : T_r01_abs) (a1 : T_r01_times) (a2 : T_r01_less) (p0 p1 p2 p3 : Int) (K : Bool → Prop) : Prop :=
 (cbr ((decide (p0 < (0 : Int))) != (decide (p2 < (0 : Int))))
 (K (decide (p0 < (0 : Int))))
 (a0 p0 (fun yi0 => 
 (a1 yi0 (IntKind.u64.wrap p3) (fun yi1 yi2 => 
 (a0 p2 (fun yi3 => 
 (a1 yi3 (IntKind.u64.wrap p1) (fun yi4 yi5 => 
 (cbr (decide (p0 < (0 : Int)))
 (a2 yi4 yi5 yi1 yi2 (fun yb6 => 
 (K yb6)))
 (a2 yi1 yi2 yi4 yi5 (fun yb7 => 
 (K yb7)))))))))))))
def w_r01_Less (p0 p1 p2 p3 : Int) (K : Bool → Prop) : Prop := wv_r01_Less w_r01_abs w_r01_times w_r01_less p0 p1 p2 p3 K
def pw_r01_Less (w : T_r01_Less) (as : List PV) (K : PV → Prop) : Prop :=
 match as with
 | [(.agg [(.int .i64 p0), (.int .i64 p1)]), (.agg [(.int .i64 p2), (.int .i64 p3)])] => w p0 p1 p2 p3 (fun r0 => K (.bool r0))
 | _ => False
def wp_r01_Less (as : List PV) (K : PV → Prop) : Prop := pw_r01_Less w_r01_Less as K
def lp_r01_Less (_ : T_r01_abs) (_ : T_r01_times) (_ : T_r01_less) : LP := fun _ _ _ _ =>
 False
def S0_r01_Less (a0 : T_r01_abs) (a1 : T_r01_times) (a2 : T_r01_less) : SE := ⟨E, lookS [(n_r01_abs, pw_r01_abs a0), (n_r01_times, pw_r01_times a1), (n_r01_less, pw_r01_less a2)], lookI [], lp_r01_Less a0 a1 a2⟩
theorem se0_r01_Less : SEOk (S0_r01_Less w_r01_abs w_r01_times w_r01_less) := seOk_of ⟨ok_r01_abs, ok_r01_times, ok_r01_less, trivial⟩ trivial
theorem eq_r01_Less (a0 a1 a2 p0 p1 p2 p3 K) : WP (S0_r01_Less a0 a1 a2) 6 t_r01_Less [(.agg [(.int .i64 p0), (.int .i64 p1)]), (.agg [(.int .i64 p2), (.int .i64 p3)])] K = wv_r01_Less a0 a1 a2 p0 p1 p2 p3 (fun r0 => K (.bool r0)) := by kernel_rfl
theorem ok_r01_Less : OkF E wp_r01_Less n_r01_Less := by
 intro as K h
 unfold wp_r01_Less pw_r01_Less at h
 split at h
 · exact WP_ok se0_r01_Less (LpOk_no (by kernel_rfl)) (by kernel_rfl) (by kernel_rfl) (fun _ => baseC_none (by kernel_rfl) _) ((eq_r01_Less ..).mpr h)
 · exact h.elim
abbrev T_r01_Both : Type := Int → Int → Int → Int → (Int → Prop) → Prop
def wv_r01_Both (a0 : T_r01_Check) (p0 p1 p2 p3 : Int) (K : Int → Prop) : Prop :=
 (a0 p0 p1 (fun yi0 => 
 (cbr (yi0 != (0 : Int))
 (a0 p0 p1 (fun yi1 => 
 (K yi1)))
 (a0 p2 p3 (fun yi2 => 
 (K yi2))))))
def w_r01_Both (p0 p1 p2 p3 : Int) (K : Int → Prop) : Prop := wv_r01_Both w_r01_Check p0 p1 p2 p3 K
def pw_r01_Both (w : T_r01_Both) (as : List PV) (K : PV → Prop) : Prop :=
 match as with
 | [(.agg [(.int .i64 p0), (.int .i64 p1)]), (.agg [(.int .i64 p2), (.int .i64 p3)])] => w p0 p1 p2 p3 (fun r0 => K (.int .i64 r0))
 | _ => False
def wp_r01_Both (as : List PV) (K : PV → Prop) : Prop := pw_r01_Both w_r01_Both as K
def lp_r01_Both (_ : T_r01_Check) : LP := fun _ _ _ _ =>
 False
def S0_r01_Both (a0 : T_r01_Check) : SE := ⟨E, lookS [(n_r01_Check, pw_r01_Check a0)], lookI [], lp_r01_Both a0⟩
theorem se0_r01_Both : SEOk (S0_r01_Both w_r01_Check) := seOk_of ⟨ok_r01_Check, trivial⟩ trivial
theorem eq_r01_Both (a0 p0 p1 p2 p3 K) : WP (S0_r01_Both a0) 6 t_r01_Both [(.agg [(.int .i64 p0), (.int .i64 p1)]), (.agg [(.int .i64 p2), (.int .i64 p3)])] K = wv_r01_Both a0 p0 p1 p2 p3 (fun r0 => K (.int .i64 r0)) := by kernel_rfl
theorem ok_r01_Both : OkF E wp_r01_Both n_r01_Both := by
 intro as K h
 unfold wp_r01_Both pw_r01_Both at h
 split at h
 · exact WP_ok se0_r01_Both (LpOk_no (by kernel_rfl)) (by kernel_rfl) (by kernel_rfl) (fun _ => baseC_none (by kernel_rfl) _) ((eq_r01_Both ..).mpr h)
 · exact h.elim
abbrev T_r01_Neg : Type := Int → Int → (Int → Int → Prop) → Prop
def wv_r01_Neg (p0 p1 : Int) (K : Int → Int → Prop) : Prop :=
 (K (IntKind.i64.wrap ((0 : Int) - p0)) p1)
def w_r01_Neg (p0 p1 : Int) (K : Int → Int → Prop) : Prop := wv_r01_Neg p0 p1 K
def pw_r01_Neg (w : T_r01_Neg) (as : List PV) (K : PV → Prop) : Prop :=
 match as with
 | [(.agg [(.int .i64 p0), (.int .i64 p1)])] => w p0 p1 (fun r0 r1 => K (.agg [(.int .i64 r0), (.int .i64 r1)]))
 | _ => False
def wp_r01_Neg (as : List PV) (K : PV → Prop) : Prop := pw_r01_Neg w_r01_Neg as K
def lp_r01_Neg : LP := fun _ _ _ _ =>
 False
def S0_r01_Neg : SE := ⟨E, lookS [], lookI [], lp_r01_Neg⟩
theorem se0_r01_Neg : SEOk (S0_r01_Neg) := seOk_of trivial trivial
theorem eq_r01_Neg ( p0 p1 K) : WP (S0_r01_Neg) 6 t_r01_Neg [(.agg [(.int .i64 p0), (.int .i64 p1)])] K = wv_r01_Neg p0 p1 (fun r0 r1 => K (.agg [(.int .i64 r0), (.int .i64 r1)])) := by kernel_rfl
theorem ok_r01_Neg : OkF E wp_r01_Neg n_r01_Neg := by
 intro as K h
 unfold wp_r01_Neg pw_r01_Neg at h
 split at h
 · exact WP_ok se0_r01_Neg (LpOk_no (by kernel_rfl)) (by kernel_rfl) (by kernel_rfl) (fun _ => baseC_none (by kernel_rfl) _) ((eq_r01_Neg ..).mpr h)
 · exact h.elim
abbrev T_r01_plus : Type := Int → Int → Int → Int → (Int → Int → Prop) → Prop
def wv_r01_plus (p0 p1 p2 p3 : Int) (K : Int → Int → Prop) : Prop :=
 (cbr (decide ((IntKind.u64.wrap (p1 + p3)) < p1))
 (K (IntKind.u64.wrap ((IntKind.u64.wrap (p0 + p2)) + (1 : Int))) (IntKind.u64.wrap (p1 + p3)))
 (K (IntKind.u64.wrap (p0 + p2)) (IntKind.u64.wrap (p1 + p3))))
def w_r01_plus (p0 p1 p2 p3 : Int) (K : Int → Int → Prop) : Prop := wv_r01_plus p0 p1 p2 p3 K
def pw_r01_plus (w : T_r01_plus) (as : List PV) (K : PV → Prop) : Prop :=
 match as with
 | [(.agg [(.int .u64 p0), (.int .u64 p1)]), (.agg [(.int .u64 p2), (.int .u64 p3)])] => w p0 p1 p2 p3 (fun r0 r1 => K (.agg [(.int .u64 r0), (.int .u64 r1)]))
 | _ => False
def wp_r01_plus (as : List PV) (K : PV → Prop) : Prop := pw_r01_plus w_r01_plus as K
def lp_r01_plus : LP := fun _ _ _ _ =>
 False
def S0_r01_plus : SE := ⟨E, lookS [], lookI [], lp_r01_plus⟩
theorem se0_r01_plus : SEOk (S0_r01_plus) := seOk_of trivial trivial
theorem eq_r01_plus ( p0 p1 p2 p3 K) : WP (S0_r01_plus) 6 t_r01_plus [(.agg [(.int .u64 p0), (.int .u64 p1)]), (.agg [(.int .u64 p2), (.int .u64 p3)])] K = wv_r01_plus p0 p1 p2 p3 (fun r0 r1 => K (.agg [(.int .u64 r0), (.int .u64 r1)])) := by kernel_rfl
theorem ok_r01_plus : OkF E wp_r01_plus n_r01_plus := by
 intro as K h
 unfold wp_r01_plus pw_r01_plus at h
 split at h
 · exact WP_ok se0_r01_plus (LpOk_no (by kernel_rfl)) (by kernel_rfl) (by kernel_rfl) (fun _ => baseC_none (by kernel_rfl) _) ((eq_r01_plus ..).mpr h)
 · exact h.elim
abbrev T_r01_minus : Type := Int → Int → Int → Int → (Int → Int → Prop) → Prop
def wv_r01_minus (p0 p1 p2 p3 : Int) (K : Int → Int → Prop) : Prop :=
 (cbr (decide (p1 < p3))
 (K (IntKind.u64.wrap ((IntKind.u64.wrap (p0 - p2)) - (1 : Int))) (IntKind.u64.wrap (p1 - p3)))
 (K (IntKind.u64.wrap (p0 - p2)) (IntKind.u64.wrap (p1 - p3))))
def w_r01_minus (p0 p1 p2 p3 : Int) (K : Int → Int → Prop) : Prop := wv_r01_minus p0 p1 p2 p3 K
def pw_r01_minus (w : T_r01_minus) (as : List PV) (K : PV → Prop) : Prop :=
 match as with
 | [(.agg [(.int .u64 p0), (.int .u64 p1)]), (.agg [(.int .u64 p2), (.int .u64 p3)])] => w p0 p1 p2 p3 (fun r0 r1 => K (.agg [(.int .u64 r0), (.int .u64 r1)]))
 | _ => False
def wp_r01_minus (as : List PV) (K : PV → Prop) : Prop := pw_r01_minus w_r01_minus as K
def lp_r01_minus : LP := fun _ _ _ _ =>
 False
def S0_r01_minus : SE := ⟨E, lookS [], lookI [], lp_r01_minus⟩
theorem se0_r01_minus : SEOk (S0_r01_minus) := seOk_of trivial trivial
theorem eq_r01_minus ( p0 p1 p2 p3 K) : WP (S0_r01_minus) 6 t_r01_minus [(.agg [(.int .u64 p0), (.int .u64 p1)]), (.agg [(.int .u64 p2), (.int .u64 p3)])] K = wv_r01_minus p0 p1 p2 p3 (fun r0 r1 => K (.agg [(.int .u64 r0), (.int .u64 r1)])) := by kernel_rfl
theorem ok_r01_minus : OkF E wp_r01_minus n_r01_minus := by
 intro as K h
 unfold wp_r01_minus pw_r01_minus at h
 split at h
 · exact WP_ok se0_r01_minus (LpOk_no (by kernel_rfl)) (by kernel_rfl) (by kernel_rfl) (fun _ => baseC_none (by kernel_rfl) _) ((eq_r01_minus ..).mpr h)
 · exact h.elim
abbrev T_r01_split : Type := Int → Int → Int → (Int → Int → Int → Prop) → Prop
def L_r01_split_0_0 (a0 : T_r01_plus) (x0 : Int → Int → Int → Int → Int → Int → Int → Int → Int → Bool → Prop) : Nat → Int → Int → Int → Int → Int → Int → Int → Int → Int → Prop
 | 0, _, _, _, _, _, _, _, _, _ => False
 | n + 1, i0, i1, i2, i3, i4, i5, i6, i7, i8 =>
 (cbr (decide (i8 ≥ (0 : Int)))
 (asr (!(decide ((IntKind.i64.wrap (BitVec.ofInt IntKind.i64.bits i8 &&& BitVec.ofInt IntKind.i64.bits (63 : Int)).toNat) < (0 : Int))))
 (cbr (decide (i8 ≥ (64 : Int)))
 (asr (!(decide ((IntKind.i64.wrap (BitVec.ofInt IntKind.i64.bits i8 &&& BitVec.ofInt IntKind.i64.bits (63 : Int)).toNat) < (0 : Int))))
 (a0 i5 i6 i5 i6 (fun yi0 yi1 => 
 (cbr (decide ((IntKind.u64.wrap (BitVec.ofInt IntKind.u64.bits (IntKind.u64.wrap (i7 * (2 : Int))) ||| BitVec.ofInt IntKind.u64.bits (IntKind.u64.wrap (BitVec.ofInt IntKind.u64.bits (Int.fdiv i1 (2 ^ (min (IntKind.i64.wrap (BitVec.ofInt IntKind.i64.bits i8 &&& BitVec.ofInt IntKind.i64.bits (63 : Int)).toNat).toNat IntKind.u64.bits))) &&& BitVec.ofInt IntKind.u64.bits (1 : Int)).toNat)).toNat) ≥ i0))
 (L_r01_split_0_0 a0 x0 n i0 i1 i2 i3 i4 yi0 (IntKind.u64.wrap (BitVec.ofInt IntKind.u64.bits yi1 ||| BitVec.ofInt IntKind.u64.bits (1 : Int)).toNat) (IntKind.u64.wrap ((IntKind.u64.wrap (BitVec.ofInt IntKind.u64.bits (IntKind.u64.wrap (i7 * (2 : Int))) ||| BitVec.ofInt IntKind.u64.bits (IntKind.u64.wrap (BitVec.ofInt IntKind.u64.bits (Int.fdiv i1 (2 ^ (min (IntKind.i64.wrap (BitVec.ofInt IntKind.i64.bits i8 &&& BitVec.ofInt IntKind.i64.bits (63 : Int)).toNat).toNat IntKind.u64.bits))) &&& BitVec.ofInt IntKind.u64.bits (1 : Int)).toNat)).toNat) - i0)) (IntKind.i64.wrap (i8 - (1 : Int))))
 (L_r01_split_0_0 a0 x0 n i0 i1 i2 i3 i4 yi0 yi1 (IntKind.u64.wrap (BitVec.ofInt IntKind.u64.bits (IntKind.u64.wrap (i7 * (2 : Int))) ||| BitVec.ofInt IntKind.u64.bits (IntKind.u64.wrap (BitVec.ofInt IntKind.u64.bits (Int.fdiv i1 (2 ^ (min (IntKind.i64.wrap (BitVec.ofInt IntKind.i64.bits i8 &&& BitVec.ofInt IntKind.i64.bits (63 : Int)).toNat).toNat IntKind.u64.bits))) &&& BitVec.ofInt IntKind.u64.bits (1 : Int)).toNat)).toNat) (IntKind.i64.wrap (i8 - (1 : Int))))))))
 (a0 i5 i6 i5 i6 (fun yi2 yi3 => 
 (cbr (decide ((IntKind.u64.wrap (BitVec.ofInt IntKind.u64.bits (IntKind.u64.wrap (i7 * (2 : Int))) ||| BitVec.ofInt IntKind.u64.bits (IntKind.u64.wrap (BitVec.ofInt IntKind.u64.bits (Int.fdiv i2 (2 ^ (min (IntKind.i64.wrap (BitVec.ofInt IntKind.i64.bits i8 &&& BitVec.ofInt IntKind.i64.bits (63 : Int)).toNat).toNat IntKind.u64.bits))) &&& BitVec.ofInt IntKind.u64.bits (1 : Int)).toNat)).toNat) ≥ i0))
 (L_r01_split_0_0 a0 x0 n i0 i1 i2 i3 i4 yi2 (IntKind.u64.wrap (BitVec.ofInt IntKind.u64.bits yi3 ||| BitVec.ofInt IntKind.u64.bits (1 : Int)).toNat) (IntKind.u64.wrap ((IntKind.u64.wrap (BitVec.ofInt IntKind.u64.bits (IntKind.u64.wrap (i7 * (2 : Int))) ||| BitVec.ofInt IntKind.u64.bits (IntKind.u64.wrap (BitVec.ofInt IntKind.u64.bits (Int.fdiv i2 (2 ^ (min (IntKind.i64.wrap (BitVec.ofInt IntKind.i64.bits i8 &&& BitVec.ofInt IntKind.i64.bits (63 : Int)).toNat).toNat IntKind.u64.bits))) &&& BitVec.ofInt IntKind.u64.bits (1 : Int)).toNat)).toNat) - i0)) (IntKind.i64.wrap (i8 - (1 : Int))))
 (L_r01_split_0_0 a0 x0 n i0 i1 i2 i3 i4 yi2 yi3 (IntKind.u64.wrap (BitVec.ofInt IntKind.u64.bits (IntKind.u64.wrap (i7 * (2 : Int))) ||| BitVec.ofInt IntKind.u64.bits (IntKind.u64.wrap (BitVec.ofInt IntKind.u64.bits (Int.fdiv i2 (2 ^ (min (IntKind.i64.wrap (BitVec.ofInt IntKind.i64.bits i8 &&& BitVec.ofInt IntKind.i64.bits (63 : Int)).toNat).toNat IntKind.u64.bits))) &&& BitVec.ofInt IntKind.u64.bits (1 : Int)).toNat)).toNat) (IntKind.i64.wrap (i8 - (1 : Int)))))))))
 (x0 i0 i1 i2 i3 i4 i5 i6 i7 i8 false))
def wv_r01_split (a0 : T_r01_plus) (p0 p1 p2 : Int) (K : Int → Int → Int → Prop) : Prop :=
 (∃ n : Nat, L_r01_split_0_0 a0
 (fun _ _ _ _ _ yi9 yi10 yi11 _ _ => (K yi9 yi10 yi11))
 n p2 p0 p1 (0 : Int) (0 : Int) (0 : Int) (0 : Int) (0 : Int) (127 : Int))
def w_r01_split (p0 p1 p2 : Int) (K : Int → Int → Int → Prop) : Prop := wv_r01_split w_r01_plus p0 p1 p2 K
def pw_r01_split (w : T_r01_split) (as : List PV) (K : PV → Prop) : Prop :=
 match as with
 | [(.agg [(.int .u64 p0), (.int .u64 p1)]), (.int .u64 p2)] => w p0 p1 p2 (fun r0 r1 r2 => K (.tup [(.agg [(.int .u64 r0), (.int .u64 r1)]), (.int .u64 r2)]))
 | _ => False
def wp_r01_split (as : List PV) (K : PV → Prop) : Prop := pw_r01_split w_r01_split as K
def D_r01_split_0 (F : Frm) (H : Hp) (A0 : Int → Int → Int → Int → Int → Int → Int → Int → Int → Prop) : Prop :=
 match F, H with
 | [(1, .v (.int .u64 i0)), (2, .box (.agg [(.int .u64 i1), (.int .u64 i2)])), (4, .box (.agg [(.int .u64 i3), (.int .u64 i4)])), (6, .box (.agg [(.int .u64 i5), (.int .u64 i6)])), (7, .v (.int .u64 i7)), (8, .v (.int .i64 i8))], [] => (A0 i0 i1 i2 i3 i4 i5 i6 i7 i8)
 | _, _ => False
def R_r01_split_0 (a0 : T_r01_plus) (Q : Ex → Frm → Hp → Prop) (n : Nat) (F : Frm) (H : Hp) : Prop := D_r01_split_0 F H (fun i0 i1 i2 i3 i4 i5 i6 i7 i8 => L_r01_split_0_0 a0 (fun i0 i1 i2 i3 i4 i5 i6 i7 i8 b9 => Q (.exit 0) [(1, .v (.int .u64 i0)), (2, .box (.agg [(.int .u64 i1), (.int .u64 i2)])), (4, .box (.agg [(.int .u64 i3), (.int .u64 i4)])), (6, .box (.agg [(.int .u64 i5), (.int .u64 i6)])), (7, .v (.int .u64 i7)), (8, .v (.int .i64 i8)), (11, .v (.bool b9))] []) n i0 i1 i2 i3 i4 i5 i6 i7 i8)
def lp_r01_split (a0 : T_r01_plus) : LP := fun id F H Q =>
 bif Nat.beq id 22549700 then D_r01_split_0 F H (fun i0 i1 i2 i3 i4 i5 i6 i7 i8 => ∃ n : Nat, L_r01_split_0_0 a0 (fun i0 i1 i2 i3 i4 i5 i6 i7 i8 b9 => Q (.exit 0) [(1, .v (.int .u64 i0)), (2, .box (.agg [(.int .u64 i1), (.int .u64 i2)])), (4, .box (.agg [(.int .u64 i3), (.int .u64 i4)])), (6, .box (.agg [(.int .u64 i5), (.int .u64 i6)])), (7, .v (.int .u64 i7)), (8, .v (.int .i64 i8)), (11, .v (.bool b9))] []) n i0 i1 i2 i3 i4 i5 i6 i7 i8) else
 False
def S0_r01_split (a0 : T_r01_plus) : SE := ⟨E, lookS [(n_r01_plus, pw_r01_plus a0)], lookI [], lp_r01_split a0⟩
theorem se0_r01_split : SEOk (S0_r01_split w_r01_plus) := seOk_of ⟨ok_r01_plus, trivial⟩ trivial
theorem body_r01_split_0_0 (a0 Q n i0 i1 i2 i3 i4 i5 i6 i7 i8) : WC E (callW (S0_r01_split a0) 5) (lp_r01_split a0) b_22549700 [(1, .v (.int .u64 i0)), (2, .box (.agg [(.int .u64 i1), (.int .u64 i2)])), (4, .box (.agg [(.int .u64 i3), (.int .u64 i4)])), (6, .box (.agg [(.int .u64 i5), (.int .u64 i6)])), (7, .v (.int .u64 i7)), (8, .v (.int .i64 i8))] [] (fun x F' H' => match x with | .norm => R_r01_split_0 a0 Q n F' H' | .exit i => Q (.exit i) F' H' | .ret => Q .ret F' H') = L_r01_split_0_0 a0 (fun i0 i1 i2 i3 i4 i5 i6 i7 i8 b9 => Q (.exit 0) [(1, .v (.int .u64 i0)), (2, .box (.agg [(.int .u64 i1), (.int .u64 i2)])), (4, .box (.agg [(.int .u64 i3), (.int .u64 i4)])), (6, .box (.agg [(.int .u64 i5), (.int .u64 i6)])), (7, .v (.int .u64 i7)), (8, .v (.int .i64 i8)), (11, .v (.bool b9))] []) (n + 1) i0 i1 i2 i3 i4 i5 i6 i7 i8 := by kernel_rfl
theorem lpb_r01_split_0 : LpOk E (lp_r01_split w_r01_plus) b_22549700 := (LpOk_no (by kernel_rfl))
theorem loop_r01_split_0 : ∀ F H Q, lp_r01_split w_r01_plus 22549700 F H Q → LoopT E b_22549700 F H Q := by
 intro F H Q h
 have go := LoopT.intro (callW_ok se0_r01_split 5) lpb_r01_split_0 (R_r01_split_0 w_r01_plus Q) (by
   intro F H h
   unfold R_r01_split_0 D_r01_split_0 at h
   split at h
   · exact h
   · exact h) (by
   intro n F H h
   unfold R_r01_split_0 D_r01_split_0 at h
   split at h
   · exact (body_r01_split_0_0 ..).mpr h
   · exact h.elim)
 have h : D_r01_split_0 F H _ := h
 unfold D_r01_split_0 at h
 split at h
 · obtain ⟨n, h⟩ := h; exact go n _ _ h
 · exact h.elim
theorem eq_r01_split (a0 p0 p1 p2 K) : WP (S0_r01_split a0) 6 t_r01_split [(.agg [(.int .u64 p0), (.int .u64 p1)]), (.int .u64 p2)] K = wv_r01_split a0 p0 p1 p2 (fun r0 r1 r2 => K (.tup [(.agg [(.int .u64 r0), (.int .u64 r1)]), (.int .u64 r2)])) := by kernel_rfl
theorem ok_r01_split : OkF E wp_r01_split n_r01_split := by
 intro as K h
 unfold wp_r01_split pw_r01_split at h
 split at h
 · exact WP_ok se0_r01_split (LpOk_by (l := [(22549700, b_22549700)]) ⟨loop_r01_split_0, trivial⟩ (by kernel_rfl)) (by kernel_rfl) (by kernel_rfl) (fun _ => baseC_none (by kernel_rfl) _) ((eq_r01_split ..).mpr h)
 · exact h.elim
abbrev T_r01_Add : Type := Int → Int → Int → Int → (Int → Int → Int → Prop) → Prop
def wv_r01_Add (a0 : T_r01_Both) (a1 : T_r01_gcd) (a2 : T_r01_abs) (a3 : T_r01_times) (a4 : T_r01_plus) (a5 : T_r01_minus) (a6 : T_r01_less) (a7 : T_r01_split) (a8 : T_r01_made) (p0 p1 p2 p3 : Int) (K : Int → Int → Int → Prop) : Prop :=
 (a0 p0 p1 p2 p3 (fun yi0 => 
 (cbr (yi0 != (0 : Int))
 (a0 p0 p1 p2 p3 (fun yi1 => 
 (K (0 : Int) (0 : Int) yi1)))
 (a1 (IntKind.u64.wrap p1) (IntKind.u64.wrap p3) (fun yi2 => 
 (a2 p0 (fun yi3 => 
 (asr (!(decide (yi2 = (0 : Int))))
 (a3 yi3 (IntKind.u64.wrap (Int.tdiv (IntKind.u64.wrap p3) yi2)) (fun yi4 yi5 => 
 (a2 p2 (fun yi6 => 
 (asr (!(decide (yi2 = (0 : Int))))
 (a3 yi6 (IntKind.u64.wrap (Int.tdiv (IntKind.u64.wrap p1) yi2)) (fun yi7 yi8 => 
 (a4 yi4 yi5 yi7 yi8 (fun yi9 yi10 => 
 (cbr ((decide (p0 < (0 : Int))) != (decide (p2 < (0 : Int))))
 (a5 yi4 yi5 yi7 yi8 (fun yi11 yi12 => 
 (a6 yi4 yi5 yi7 yi8 (fun yb13 => 
 (cbr yb13
 (a5 yi7 yi8 yi4 yi5 (fun yi14 yi15 => 
 (cbr ((yi14 == (0 : Int)) && ((yi15 == (0 : Int)) && true))
 (K (0 : Int) (1 : Int) (0 : Int))
 (a7 yi14 yi15 yi2 (fun _ _ yi18 => 
 (a1 yi18 yi2 (fun yi19 => 
 (a7 yi14 yi15 yi19 (fun yi20 yi21 _ => 
 (asr (!(decide (yi2 = (0 : Int))))
 (asr (!(decide (yi19 = (0 : Int))))
 (a3 (IntKind.u64.wrap (Int.tdiv (IntKind.u64.wrap p1) yi2)) (IntKind.u64.wrap (Int.tdiv (IntKind.u64.wrap p3) yi19)) (fun yi23 yi24 => 
 (a8 (decide (p2 < (0 : Int))) yi20 yi21 yi23 yi24 (fun yi25 yi26 yi27 => 
 (K yi25 yi26 yi27))))))))))))))))
 (cbr ((yi11 == (0 : Int)) && ((yi12 == (0 : Int)) && true))
 (K (0 : Int) (1 : Int) (0 : Int))
 (a7 yi11 yi12 yi2 (fun _ _ yi30 => 
 (a1 yi30 yi2 (fun yi31 => 
 (a7 yi11 yi12 yi31 (fun yi32 yi33 _ => 
 (asr (!(decide (yi2 = (0 : Int))))
 (asr (!(decide (yi31 = (0 : Int))))
 (a3 (IntKind.u64.wrap (Int.tdiv (IntKind.u64.wrap p1) yi2)) (IntKind.u64.wrap (Int.tdiv (IntKind.u64.wrap p3) yi31)) (fun yi35 yi36 => 
 (a8 (decide (p0 < (0 : Int))) yi32 yi33 yi35 yi36 (fun yi37 yi38 yi39 => 
 (K yi37 yi38 yi39)))))))))))))))))))
 (cbr ((yi9 == (0 : Int)) && ((yi10 == (0 : Int)) && true))
 (K (0 : Int) (1 : Int) (0 : Int))
 (a7 yi9 yi10 yi2 (fun _ _ yi42 => 
 (a1 yi42 yi2 (fun yi43 => 
 (a7 yi9 yi10 yi43 (fun yi44 yi45 _ => 
 (asr (!(decide (yi2 = (0 : Int))))
 (asr (!(decide (yi43 = (0 : Int))))
 (a3 (IntKind.u64.wrap (Int.tdiv (IntKind.u64.wrap p1) yi2)) (IntKind.u64.wrap (Int.tdiv (IntKind.u64.wrap p3) yi43)) (fun yi47 yi48 => 
 (a8 (decide (p0 < (0 : Int))) yi44 yi45 yi47 yi48 (fun yi49 yi50 yi51 => 
 (K yi49 yi50 yi51))))))))))))))))))))))))))))))))
def w_r01_Add (p0 p1 p2 p3 : Int) (K : Int → Int → Int → Prop) : Prop := wv_r01_Add w_r01_Both w_r01_gcd w_r01_abs w_r01_times w_r01_plus w_r01_minus w_r01_less w_r01_split w_r01_made p0 p1 p2 p3 K
def pw_r01_Add (w : T_r01_Add) (as : List PV) (K : PV → Prop) : Prop :=
 match as with
 | [(.agg [(.int .i64 p0), (.int .i64 p1)]), (.agg [(.int .i64 p2), (.int .i64 p3)])] => w p0 p1 p2 p3 (fun r0 r1 r2 => K (.tup [(.agg [(.int .i64 r0), (.int .i64 r1)]), (.int .i64 r2)]))
 | _ => False
def wp_r01_Add (as : List PV) (K : PV → Prop) : Prop := pw_r01_Add w_r01_Add as K
def lp_r01_Add (_ : T_r01_Both) (_ : T_r01_gcd) (_ : T_r01_abs) (_ : T_r01_times) (_ : T_r01_plus) (_ : T_r01_minus) (_ : T_r01_less) (_ : T_r01_split) (_ : T_r01_made) : LP := fun _ _ _ _ =>
 False
def S0_r01_Add (a0 : T_r01_Both) (a1 : T_r01_gcd) (a2 : T_r01_abs) (a3 : T_r01_times) (a4 : T_r01_plus) (a5 : T_r01_minus) (a6 : T_r01_less) (a7 : T_r01_split) (a8 : T_r01_made) : SE := ⟨E, lookS [(n_r01_Both, pw_r01_Both a0), (n_r01_gcd, pw_r01_gcd a1), (n_r01_abs, pw_r01_abs a2), (n_r01_times, pw_r01_times a3), (n_r01_plus, pw_r01_plus a4), (n_r01_minus, pw_r01_minus a5), (n_r01_less, pw_r01_less a6), (n_r01_split, pw_r01_split a7), (n_r01_made, pw_r01_made a8)], lookI [], lp_r01_Add a0 a1 a2 a3 a4 a5 a6 a7 a8⟩
theorem se0_r01_Add : SEOk (S0_r01_Add w_r01_Both w_r01_gcd w_r01_abs w_r01_times w_r01_plus w_r01_minus w_r01_less w_r01_split w_r01_made) := seOk_of ⟨ok_r01_Both, ok_r01_gcd, ok_r01_abs, ok_r01_times, ok_r01_plus, ok_r01_minus, ok_r01_less, ok_r01_split, ok_r01_made, trivial⟩ trivial
theorem eq_r01_Add (a0 a1 a2 a3 a4 a5 a6 a7 a8 p0 p1 p2 p3 K) : WP (S0_r01_Add a0 a1 a2 a3 a4 a5 a6 a7 a8) 6 t_r01_Add [(.agg [(.int .i64 p0), (.int .i64 p1)]), (.agg [(.int .i64 p2), (.int .i64 p3)])] K = wv_r01_Add a0 a1 a2 a3 a4 a5 a6 a7 a8 p0 p1 p2 p3 (fun r0 r1 r2 => K (.tup [(.agg [(.int .i64 r0), (.int .i64 r1)]), (.int .i64 r2)])) := by kernel_rfl
theorem ok_r01_Add : OkF E wp_r01_Add n_r01_Add := by
 intro as K h
 unfold wp_r01_Add pw_r01_Add at h
 split at h
 · exact WP_ok se0_r01_Add (LpOk_no (by kernel_rfl)) (by kernel_rfl) (by kernel_rfl) (fun _ => baseC_none (by kernel_rfl) _) ((eq_r01_Add ..).mpr h)
 · exact h.elim
abbrev T_r01_Sub : Type := Int → Int → Int → Int → (Int → Int → Int → Prop) → Prop
def wv_r01_Sub (a0 : T_r01_Both) (a1 : T_r01_Neg) (a2 : T_r01_Add) (p0 p1 p2 p3 : Int) (K : Int → Int → Int → Prop) : Prop :=
 (a0 p0 p1 p2 p3 (fun yi0 => 
 (cbr (yi0 != (0 : Int))
 (a0 p0 p1 p2 p3 (fun yi1 => 
 (K (0 : Int) (0 : Int) yi1)))
 (a1 p2 p3 (fun yi2 yi3 => 
 (a2 p0 p1 yi2 yi3 (fun yi4 yi5 yi6 => 
 (K yi4 yi5 yi6))))))))
def w_r01_Sub (p0 p1 p2 p3 : Int) (K : Int → Int → Int → Prop) : Prop := wv_r01_Sub w_r01_Both w_r01_Neg w_r01_Add p0 p1 p2 p3 K
def pw_r01_Sub (w : T_r01_Sub) (as : List PV) (K : PV → Prop) : Prop :=
 match as with
 | [(.agg [(.int .i64 p0), (.int .i64 p1)]), (.agg [(.int .i64 p2), (.int .i64 p3)])] => w p0 p1 p2 p3 (fun r0 r1 r2 => K (.tup [(.agg [(.int .i64 r0), (.int .i64 r1)]), (.int .i64 r2)]))
 | _ => False
def wp_r01_Sub (as : List PV) (K : PV → Prop) : Prop := pw_r01_Sub w_r01_Sub as K
def lp_r01_Sub (_ : T_r01_Both) (_ : T_r01_Neg) (_ : T_r01_Add) : LP := fun _ _ _ _ =>
 False
def S0_r01_Sub (a0 : T_r01_Both) (a1 : T_r01_Neg) (a2 : T_r01_Add) : SE := ⟨E, lookS [(n_r01_Both, pw_r01_Both a0), (n_r01_Neg, pw_r01_Neg a1), (n_r01_Add, pw_r01_Add a2)], lookI [], lp_r01_Sub a0 a1 a2⟩
theorem se0_r01_Sub : SEOk (S0_r01_Sub w_r01_Both w_r01_Neg w_r01_Add) := seOk_of ⟨ok_r01_Both, ok_r01_Neg, ok_r01_Add, trivial⟩ trivial
theorem eq_r01_Sub (a0 a1 a2 p0 p1 p2 p3 K) : WP (S0_r01_Sub a0 a1 a2) 6 t_r01_Sub [(.agg [(.int .i64 p0), (.int .i64 p1)]), (.agg [(.int .i64 p2), (.int .i64 p3)])] K = wv_r01_Sub a0 a1 a2 p0 p1 p2 p3 (fun r0 r1 r2 => K (.tup [(.agg [(.int .i64 r0), (.int .i64 r1)]), (.int .i64 r2)])) := by kernel_rfl
theorem ok_r01_Sub : OkF E wp_r01_Sub n_r01_Sub := by
 intro as K h
 unfold wp_r01_Sub pw_r01_Sub at h
 split at h
 · exact WP_ok se0_r01_Sub (LpOk_no (by kernel_rfl)) (by kernel_rfl) (by kernel_rfl) (fun _ => baseC_none (by kernel_rfl) _) ((eq_r01_Sub ..).mpr h)
 · exact h.elim
abbrev T_r01_Mul : Type := Int → Int → Int → Int → (Int → Int → Int → Prop) → Prop
def wv_r01_Mul (a0 : T_r01_Both) (a1 : T_r01_abs) (a2 : T_r01_gcd) (a3 : T_r01_times) (a4 : T_r01_made) (p0 p1 p2 p3 : Int) (K : Int → Int → Int → Prop) : Prop :=
 (a0 p0 p1 p2 p3 (fun yi0 => 
 (cbr (yi0 != (0 : Int))
 (a0 p0 p1 p2 p3 (fun yi1 => 
 (K (0 : Int) (0 : Int) yi1)))
 (a1 p0 (fun yi2 => 
 (a2 yi2 (IntKind.u64.wrap p3) (fun yi3 => 
 (a1 p2 (fun yi4 => 
 (a2 yi4 (IntKind.u64.wrap p1) (fun yi5 => 
 (cbr ((decide (p0 < (0 : Int))) != (decide (p2 < (0 : Int))))
 (cbr (p0 != (0 : Int))
 (a1 p0 (fun yi6 => 
 (asr (!(decide (yi3 = (0 : Int))))
 (a1 p2 (fun yi7 => 
 (asr (!(decide (yi5 = (0 : Int))))
 (a3 (IntKind.u64.wrap (Int.tdiv yi6 yi3)) (IntKind.u64.wrap (Int.tdiv yi7 yi5)) (fun yi8 yi9 => 
 (asr (!(decide (yi5 = (0 : Int))))
 (asr (!(decide (yi3 = (0 : Int))))
 (a3 (IntKind.u64.wrap (Int.tdiv (IntKind.u64.wrap p1) yi5)) (IntKind.u64.wrap (Int.tdiv (IntKind.u64.wrap p3) yi3)) (fun yi10 yi11 => 
 (a4 (p2 != (0 : Int)) yi8 yi9 yi10 yi11 (fun yi12 yi13 yi14 => 
 (K yi12 yi13 yi14)))))))))))))))
 (a1 p0 (fun yi15 => 
 (asr (!(decide (yi3 = (0 : Int))))
 (a1 p2 (fun yi16 => 
 (asr (!(decide (yi5 = (0 : Int))))
 (a3 (IntKind.u64.wrap (Int.tdiv yi15 yi3)) (IntKind.u64.wrap (Int.tdiv yi16 yi5)) (fun yi17 yi18 => 
 (asr (!(decide (yi5 = (0 : Int))))
 (asr (!(decide (yi3 = (0 : Int))))
 (a3 (IntKind.u64.wrap (Int.tdiv (IntKind.u64.wrap p1) yi5)) (IntKind.u64.wrap (Int.tdiv (IntKind.u64.wrap p3) yi3)) (fun yi19 yi20 => 
 (a4 false yi17 yi18 yi19 yi20 (fun yi21 yi22 yi23 => 
 (K yi21 yi22 yi23))))))))))))))))
 (a1 p0 (fun yi24 => 
 (asr (!(decide (yi3 = (0 : Int))))
 (a1 p2 (fun yi25 => 
 (asr (!(decide (yi5 = (0 : Int))))
 (a3 (IntKind.u64.wrap (Int.tdiv yi24 yi3)) (IntKind.u64.wrap (Int.tdiv yi25 yi5)) (fun yi26 yi27 => 
 (asr (!(decide (yi5 = (0 : Int))))
 (asr (!(decide (yi3 = (0 : Int))))
 (a3 (IntKind.u64.wrap (Int.tdiv (IntKind.u64.wrap p1) yi5)) (IntKind.u64.wrap (Int.tdiv (IntKind.u64.wrap p3) yi3)) (fun yi28 yi29 => 
 (a4 false yi26 yi27 yi28 yi29 (fun yi30 yi31 yi32 => 
 (K yi30 yi31 yi32)))))))))))))))))))))))))))
def w_r01_Mul (p0 p1 p2 p3 : Int) (K : Int → Int → Int → Prop) : Prop := wv_r01_Mul w_r01_Both w_r01_abs w_r01_gcd w_r01_times w_r01_made p0 p1 p2 p3 K
def pw_r01_Mul (w : T_r01_Mul) (as : List PV) (K : PV → Prop) : Prop :=
 match as with
 | [(.agg [(.int .i64 p0), (.int .i64 p1)]), (.agg [(.int .i64 p2), (.int .i64 p3)])] => w p0 p1 p2 p3 (fun r0 r1 r2 => K (.tup [(.agg [(.int .i64 r0), (.int .i64 r1)]), (.int .i64 r2)]))
 | _ => False
def wp_r01_Mul (as : List PV) (K : PV → Prop) : Prop := pw_r01_Mul w_r01_Mul as K
def lp_r01_Mul (_ : T_r01_Both) (_ : T_r01_abs) (_ : T_r01_gcd) (_ : T_r01_times) (_ : T_r01_made) : LP := fun _ _ _ _ =>
 False
def S0_r01_Mul (a0 : T_r01_Both) (a1 : T_r01_abs) (a2 : T_r01_gcd) (a3 : T_r01_times) (a4 : T_r01_made) : SE := ⟨E, lookS [(n_r01_Both, pw_r01_Both a0), (n_r01_abs, pw_r01_abs a1), (n_r01_gcd, pw_r01_gcd a2), (n_r01_times, pw_r01_times a3), (n_r01_made, pw_r01_made a4)], lookI [], lp_r01_Mul a0 a1 a2 a3 a4⟩
theorem se0_r01_Mul : SEOk (S0_r01_Mul w_r01_Both w_r01_abs w_r01_gcd w_r01_times w_r01_made) := seOk_of ⟨ok_r01_Both, ok_r01_abs, ok_r01_gcd, ok_r01_times, ok_r01_made, trivial⟩ trivial
theorem eq_r01_Mul (a0 a1 a2 a3 a4 p0 p1 p2 p3 K) : WP (S0_r01_Mul a0 a1 a2 a3 a4) 6 t_r01_Mul [(.agg [(.int .i64 p0), (.int .i64 p1)]), (.agg [(.int .i64 p2), (.int .i64 p3)])] K = wv_r01_Mul a0 a1 a2 a3 a4 p0 p1 p2 p3 (fun r0 r1 r2 => K (.tup [(.agg [(.int .i64 r0), (.int .i64 r1)]), (.int .i64 r2)])) := by kernel_rfl
theorem ok_r01_Mul : OkF E wp_r01_Mul n_r01_Mul := by
 intro as K h
 unfold wp_r01_Mul pw_r01_Mul at h
 split at h
 · exact WP_ok se0_r01_Mul (LpOk_no (by kernel_rfl)) (by kernel_rfl) (by kernel_rfl) (fun _ => baseC_none (by kernel_rfl) _) ((eq_r01_Mul ..).mpr h)
 · exact h.elim
abbrev T_r01_Div : Type := Int → Int → Int → Int → (Int → Int → Int → Prop) → Prop
def wv_r01_Div (a0 : T_r01_Both) (a1 : T_r01_Mul) (p0 p1 p2 p3 : Int) (K : Int → Int → Int → Prop) : Prop :=
 (a0 p0 p1 p2 p3 (fun yi0 => 
 (cbr (yi0 != (0 : Int))
 (a0 p0 p1 p2 p3 (fun yi1 => 
 (K (0 : Int) (0 : Int) yi1)))
 (cbr (p2 == (0 : Int))
 (K (0 : Int) (0 : Int) (18 : Int))
 (cbr (decide (p2 < (0 : Int)))
 (a1 p0 p1 (IntKind.i64.wrap ((0 : Int) - p3)) (IntKind.i64.wrap ((0 : Int) - p2)) (fun yi2 yi3 yi4 => 
 (K yi2 yi3 yi4)))
 (a1 p0 p1 p3 p2 (fun yi5 yi6 yi7 => 
 (K yi5 yi6 yi7))))))))
def w_r01_Div (p0 p1 p2 p3 : Int) (K : Int → Int → Int → Prop) : Prop := wv_r01_Div w_r01_Both w_r01_Mul p0 p1 p2 p3 K
def pw_r01_Div (w : T_r01_Div) (as : List PV) (K : PV → Prop) : Prop :=
 match as with
 | [(.agg [(.int .i64 p0), (.int .i64 p1)]), (.agg [(.int .i64 p2), (.int .i64 p3)])] => w p0 p1 p2 p3 (fun r0 r1 r2 => K (.tup [(.agg [(.int .i64 r0), (.int .i64 r1)]), (.int .i64 r2)]))
 | _ => False
def wp_r01_Div (as : List PV) (K : PV → Prop) : Prop := pw_r01_Div w_r01_Div as K
def lp_r01_Div (_ : T_r01_Both) (_ : T_r01_Mul) : LP := fun _ _ _ _ =>
 False
def S0_r01_Div (a0 : T_r01_Both) (a1 : T_r01_Mul) : SE := ⟨E, lookS [(n_r01_Both, pw_r01_Both a0), (n_r01_Mul, pw_r01_Mul a1)], lookI [], lp_r01_Div a0 a1⟩
theorem se0_r01_Div : SEOk (S0_r01_Div w_r01_Both w_r01_Mul) := seOk_of ⟨ok_r01_Both, ok_r01_Mul, trivial⟩ trivial
theorem eq_r01_Div (a0 a1 p0 p1 p2 p3 K) : WP (S0_r01_Div a0 a1) 6 t_r01_Div [(.agg [(.int .i64 p0), (.int .i64 p1)]), (.agg [(.int .i64 p2), (.int .i64 p3)])] K = wv_r01_Div a0 a1 p0 p1 p2 p3 (fun r0 r1 r2 => K (.tup [(.agg [(.int .i64 r0), (.int .i64 r1)]), (.int .i64 r2)])) := by kernel_rfl
theorem ok_r01_Div : OkF E wp_r01_Div n_r01_Div := by
 intro as K h
 unfold wp_r01_Div pw_r01_Div at h
 split at h
 · exact WP_ok se0_r01_Div (LpOk_no (by kernel_rfl)) (by kernel_rfl) (by kernel_rfl) (fun _ => baseC_none (by kernel_rfl) _) ((eq_r01_Div ..).mpr h)
 · exact h.elim
end Go.Pf.Vc
namespace Go.Pf.Vc
open Go Go.Pf
set_option linter.unusedVariables false
theorem det_r01_gcd (p0 : Int) (p1 : Int) (r0 : Int) (h : ∀ K : Int → Prop, K r0 → w_r01_gcd p0 p1 K) (K : Int → Prop) : w_r01_gcd p0 p1 K = K r0 :=
 propext ⟨fun k => detC ok_r01_gcd (as := [(.int .u64 p0), (.int .u64 p1)]) (x := (.int .u64 r0)) (fun K' k' => h (fun r0 => K' (.int .u64 r0)) k') (K := fun x => match x with | (.int .u64 r0) => K r0 | _ => False) k, h K⟩
theorem det_r01_split (p0 : Int) (p1 : Int) (p2 : Int) (r0 : Int) (r1 : Int) (r2 : Int) (h : ∀ K : Int → Int → Int → Prop, K r0 r1 r2 → w_r01_split p0 p1 p2 K) (K : Int → Int → Int → Prop) : w_r01_split p0 p1 p2 K = K r0 r1 r2 :=
 propext ⟨fun k => detC ok_r01_split (as := [(.agg [(.int .u64 p0), (.int .u64 p1)]), (.int .u64 p2)]) (x := (.tup [(.agg [(.int .u64 r0), (.int .u64 r1)]), (.int .u64 r2)])) (fun K' k' => h (fun r0 r1 r2 => K' (.tup [(.agg [(.int .u64 r0), (.int .u64 r1)]), (.int .u64 r2)])) k') (K := fun x => match x with | (.tup [(.agg [(.int .u64 r0), (.int .u64 r1)]), (.int .u64 r2)]) => K r0 r1 r2 | _ => False) k, h K⟩
end Go.Pf.Vc
namespace Go.Pf.Vc
open Go Go.Pf
set_option maxRecDepth 100000
abbrev T_r02_Great : Type := Int → List PV → List PV → (Bool → Prop) → Prop
def wv_r02_Great (_ : Int) (p1 p2 : List PV) (K : Bool → Prop) : Prop :=
 (cbr (decide ((((List.length p1) : Nat) : Int) > (60 : Int)))
 (K true)
 (K (decide ((((List.length p2) : Nat) : Int) > (60 : Int)))))
def w_r02_Great (p0 : Int) (p1 p2 : List PV) (K : Bool → Prop) : Prop := wv_r02_Great p0 p1 p2 K
def pw_r02_Great (w : T_r02_Great) (as : List PV) (K : PV → Prop) : Prop :=
 match as with
 | [(.agg [(.int .i64 p0), (.data p1), (.data p2)])] => w p0 p1 p2 (fun r0 => K (.bool r0))
 | _ => False
def wp_r02_Great (as : List PV) (K : PV → Prop) : Prop := pw_r02_Great w_r02_Great as K
def lp_r02_Great : LP := fun _ _ _ _ =>
 False
def S0_r02_Great : SE := ⟨E, lookS [], lookI [], lp_r02_Great⟩
theorem se0_r02_Great : SEOk (S0_r02_Great) := seOk_of trivial trivial
theorem eq_r02_Great ( p0 p1 p2 K) : WP (S0_r02_Great) 6 t_r02_Great [(.agg [(.int .i64 p0), (.data p1), (.data p2)])] K = wv_r02_Great p0 p1 p2 (fun r0 => K (.bool r0)) := by kernel_rfl
theorem ok_r02_Great : OkF E wp_r02_Great n_r02_Great := by
 intro as K h
 unfold wp_r02_Great pw_r02_Great at h
 split at h
 · exact WP_ok se0_r02_Great (LpOk_no (by kernel_rfl)) (by kernel_rfl) (by kernel_rfl) (fun _ => baseC_none (by kernel_rfl) _) ((eq_r02_Great ..).mpr h)
 · exact h.elim
abbrev T_r02_Check : Type := Int → List PV → List PV → (Int → Prop) → Prop
def L_r02_Check_0_0 (x0 : Int → Prop) (x1 : Int → List PV → List PV → Bool → Int → Bool → Prop) : Nat → Int → List PV → List PV → Bool → Int → Prop
 | 0, _, _, _, _, _ => False
 | n + 1, i0, l1, l2, b3, i4 =>
 (cbr (decide (i4 < (((List.length l2) : Nat) : Int)))
 (asr (decide ((0 : Int) ≤ (IntKind.i64.wrap (i4 + (1 : Int)))))
 (asr (decide ((IntKind.i64.wrap (i4 + (1 : Int))) < (((List.length l1) : Nat) : Int)))
 (asr (conf (.one (.i .i64)) (List.getD l1 ((IntKind.i64.wrap (i4 + (1 : Int))).toNat) .nils))
 (asr (decide ((0 : Int) ≤ i4))
 (asr (decide (i4 < (((List.length l1) : Nat) : Int)))
 (asr (conf (.one (.i .i64)) (List.getD l1 (i4.toNat) .nils))
 (cbr (decide ((intOfV (List.getD l1 ((IntKind.i64.wrap (i4 + (1 : Int))).toNat) .nils)) ≤ (intOfV (List.getD l1 (i4.toNat) .nils))))
 (x0 (8 : Int))
 (asr (decide ((0 : Int) ≤ i4))
 (asr (decide (i4 < (((List.length l2) : Nat) : Int)))
 (asr (conf (.one (.i .i64)) (List.getD l2 (i4.toNat) .nils))
 (cbr (decide ((intOfV (List.getD l2 (i4.toNat) .nils)) < (0 : Int)))
 (x0 (8 : Int))
 (asr (decide ((0 : Int) ≤ i4))
 (asr (decide (i4 < (((List.length l2) : Nat) : Int)))
 (asr (conf (.one (.i .i64)) (List.getD l2 (i4.toNat) .nils))
 (cbr (decide ((intOfV (List.getD l2 (i4.toNat) .nils)) > (12 : Int)))
 (x0 (8 : Int))
 (cbr b3
 (L_r02_Check_0_0 x0 x1 n i0 l1 l2 true (IntKind.i64.wrap (i4 + (1 : Int))))
 (asr (decide ((0 : Int) ≤ i4))
 (asr (decide (i4 < (((List.length l2) : Nat) : Int)))
 (asr (conf (.one (.i .i64)) (List.getD l2 (i4.toNat) .nils))
 (L_r02_Check_0_0 x0 x1 n i0 l1 l2 (decide ((intOfV (List.getD l2 (i4.toNat) .nils)) > (0 : Int))) (IntKind.i64.wrap (i4 + (1 : Int)))))))))))))))))))))))
 (x1 i0 l1 l2 b3 i4 false))
def wv_r02_Check (p0 : Int) (p1 p2 : List PV) (K : Int → Prop) : Prop :=
 (cbr (decide (p0 > (1000 : Int)))
 (K (4 : Int))
 (cbr (decide ((((List.length p1) : Nat) : Int) > (40 : Int)))
 (K (4 : Int))
 (cbr (decide (p0 < (1 : Int)))
 (K (8 : Int))
 (cbr (decide ((((List.length p1) : Nat) : Int) < (2 : Int)))
 (K (8 : Int))
 (cbr ((((List.length p2) : Nat) : Int) != (IntKind.i64.wrap ((((List.length p1) : Nat) : Int) - (1 : Int))))
 (K (8 : Int))
 (asr (decide ((0 : Int) < (((List.length p1) : Nat) : Int)))
 (asr (conf (.one (.i .i64)) (List.getD p1 0 .nils))
 (cbr ((intOfV (List.getD p1 0 .nils)) != (0 : Int))
 (K (8 : Int))
 (asr (decide ((0 : Int) ≤ (IntKind.i64.wrap ((((List.length p1) : Nat) : Int) - (1 : Int)))))
 (asr (decide ((IntKind.i64.wrap ((((List.length p1) : Nat) : Int) - (1 : Int))) < (((List.length p1) : Nat) : Int)))
 (asr (conf (.one (.i .i64)) (List.getD p1 ((IntKind.i64.wrap ((((List.length p1) : Nat) : Int) - (1 : Int))).toNat) .nils))
 (cbr ((intOfV (List.getD p1 ((IntKind.i64.wrap ((((List.length p1) : Nat) : Int) - (1 : Int))).toNat) .nils)) != p0)
 (K (8 : Int))
 (∃ n : Nat, L_r02_Check_0_0
 (fun yi0 => (K yi0))
 (fun _ _ _ yb4 _ _ => (cbr (!yb4)
 (K (8 : Int))
 (K (0 : Int))))
 n p0 p1 p2 false (0 : Int))))))))))))))
def w_r02_Check (p0 : Int) (p1 p2 : List PV) (K : Int → Prop) : Prop := wv_r02_Check p0 p1 p2 K
def pw_r02_Check (w : T_r02_Check) (as : List PV) (K : PV → Prop) : Prop :=
 match as with
 | [(.agg [(.int .i64 p0), (.data p1), (.data p2)])] => w p0 p1 p2 (fun r0 => K (.int .i64 r0))
 | _ => False
def wp_r02_Check (as : List PV) (K : PV → Prop) : Prop := pw_r02_Check w_r02_Check as K
def D_r02_Check_0 (F : Frm) (H : Hp) (A0 : Int → List PV → List PV → Bool → Int → Prop) : Prop :=
 match F, H with
 | [(1, .box (.agg [(.int .i64 i0), (.data l1), (.data l2)])), (3, .v (.bool b3)), (4, .v (.int .i64 i4))], [] => (A0 i0 l1 l2 b3 i4)
 | _, _ => False
def R_r02_Check_0 (Q : Ex → Frm → Hp → Prop) (n : Nat) (F : Frm) (H : Hp) : Prop := D_r02_Check_0 F H (fun i0 l1 l2 b3 i4 => L_r02_Check_0_0 (fun i0 => Q .ret [(2, .v (.int .i64 i0))] []) (fun i0 l1 l2 b3 i4 b5 => Q (.exit 0) [(1, .box (.agg [(.int .i64 i0), (.data l1), (.data l2)])), (3, .v (.bool b3)), (4, .v (.int .i64 i4)), (57, .v (.bool b5))] []) n i0 l1 l2 b3 i4)
def lp_r02_Check : LP := fun id F H Q =>
 bif Nat.beq id 94526800 then D_r02_Check_0 F H (fun i0 l1 l2 b3 i4 => ∃ n : Nat, L_r02_Check_0_0 (fun i0 => Q .ret [(2, .v (.int .i64 i0))] []) (fun i0 l1 l2 b3 i4 b5 => Q (.exit 0) [(1, .box (.agg [(.int .i64 i0), (.data l1), (.data l2)])), (3, .v (.bool b3)), (4, .v (.int .i64 i4)), (57, .v (.bool b5))] []) n i0 l1 l2 b3 i4) else
 False
def S0_r02_Check : SE := ⟨E, lookS [], lookI [], lp_r02_Check⟩
theorem se0_r02_Check : SEOk (S0_r02_Check) := seOk_of trivial trivial
theorem body_r02_Check_0_0 ( Q n i0 l1 l2 b3 i4) : WC E (callW (S0_r02_Check) 5) (lp_r02_Check) b_94526800 [(1, .box (.agg [(.int .i64 i0), (.data l1), (.data l2)])), (3, .v (.bool b3)), (4, .v (.int .i64 i4))] [] (fun x F' H' => match x with | .norm => R_r02_Check_0 Q n F' H' | .exit i => Q (.exit i) F' H' | .ret => Q .ret F' H') = L_r02_Check_0_0 (fun i0 => Q .ret [(2, .v (.int .i64 i0))] []) (fun i0 l1 l2 b3 i4 b5 => Q (.exit 0) [(1, .box (.agg [(.int .i64 i0), (.data l1), (.data l2)])), (3, .v (.bool b3)), (4, .v (.int .i64 i4)), (57, .v (.bool b5))] []) (n + 1) i0 l1 l2 b3 i4 := by kernel_rfl
theorem lpb_r02_Check_0 : LpOk E (lp_r02_Check) b_94526800 := (LpOk_no (by kernel_rfl))
theorem loop_r02_Check_0 : ∀ F H Q, lp_r02_Check 94526800 F H Q → LoopT E b_94526800 F H Q := by
 intro F H Q h
 have go := LoopT.intro (callW_ok se0_r02_Check 5) lpb_r02_Check_0 (R_r02_Check_0 Q) (by
   intro F H h
   unfold R_r02_Check_0 D_r02_Check_0 at h
   split at h
   · exact h
   · exact h) (by
   intro n F H h
   unfold R_r02_Check_0 D_r02_Check_0 at h
   split at h
   · exact (body_r02_Check_0_0 ..).mpr h
   · exact h.elim)
 have h : D_r02_Check_0 F H _ := h
 unfold D_r02_Check_0 at h
 split at h
 · obtain ⟨n, h⟩ := h; exact go n _ _ h
 · exact h.elim
theorem eq_r02_Check ( p0 p1 p2 K) : WP (S0_r02_Check) 6 t_r02_Check [(.agg [(.int .i64 p0), (.data p1), (.data p2)])] K = wv_r02_Check p0 p1 p2 (fun r0 => K (.int .i64 r0)) := by kernel_rfl
theorem ok_r02_Check : OkF E wp_r02_Check n_r02_Check := by
 intro as K h
 unfold wp_r02_Check pw_r02_Check at h
 split at h
 · exact WP_ok se0_r02_Check (LpOk_by (l := [(94526800, b_94526800)]) ⟨loop_r02_Check_0, trivial⟩ (by kernel_rfl)) (by kernel_rfl) (by kernel_rfl) (fun _ => baseC_none (by kernel_rfl) _) ((eq_r02_Check ..).mpr h)
 · exact h.elim
abbrev T_r02_Twin : Type := Int → List PV → List PV → (Int → List PV → List PV → Prop) → Prop
def wv_r02_Twin (p0 : Int) (p1 p2 : List PV) (K : Int → List PV → List PV → Prop) : Prop :=
 (asr (headOk 1 p1)
 (cbr (List.isEmpty p1)
 (asr (headOk 1 p2)
 (cbr (List.isEmpty p2)
 (K p0 ([] : List PV) ([] : List PV))
 (asr (decide (((List.length p2) + 64) * (8 + 1) ≤ room))
 (asr (decide ((List.length p2) = (List.length p2)))
 (asr (decide ((0 + (List.length p2)) ≤ (List.length p2)))
 (K p0 ([] : List PV) (List.take (List.length p2) p2)))))))
 (asr (decide (((List.length p1) + 64) * (8 + 1) ≤ room))
 (asr (headOk 1 p2)
 (cbr (List.isEmpty p2)
 (asr (decide ((List.length p1) = (List.length p1)))
 (asr (decide ((0 + (List.length p1)) ≤ (List.length p1)))
 (K p0 (List.take (List.length p1) p1) ([] : List PV))))
 (asr (decide (((List.length p2) + 64) * (8 + 1) ≤ room))
 (asr (decide ((List.length p1) = (List.length p1)))
 (asr (decide ((0 + (List.length p1)) ≤ (List.length p1)))
 (asr (decide ((List.length p2) = (List.length p2)))
 (asr (decide ((0 + (List.length p2)) ≤ (List.length p2)))
 (K p0 (List.take (List.length p1) p1) (List.take (List.length p2) p2))))))))))))
def w_r02_Twin (p0 : Int) (p1 p2 : List PV) (K : Int → List PV → List PV → Prop) : Prop := wv_r02_Twin p0 p1 p2 K
def pw_r02_Twin (w : T_r02_Twin) (as : List PV) (K : PV → Prop) : Prop :=
 match as with
 | [(.agg [(.int .i64 p0), (.data p1), (.data p2)])] => w p0 p1 p2 (fun r0 r1 r2 => K (.agg [(.int .i64 r0), (.data r1), (.data r2)]))
 | _ => False
def wp_r02_Twin (as : List PV) (K : PV → Prop) : Prop := pw_r02_Twin w_r02_Twin as K
def lp_r02_Twin : LP := fun _ _ _ _ =>
 False
def S0_r02_Twin : SE := ⟨E, lookS [], lookI [], lp_r02_Twin⟩
theorem se0_r02_Twin : SEOk (S0_r02_Twin) := seOk_of trivial trivial
theorem eq_r02_Twin ( p0 p1 p2 K) : WP (S0_r02_Twin) 6 t_r02_Twin [(.agg [(.int .i64 p0), (.data p1), (.data p2)])] K = wv_r02_Twin p0 p1 p2 (fun r0 r1 r2 => K (.agg [(.int .i64 r0), (.data r1), (.data r2)])) := by kernel_rfl
theorem ok_r02_Twin : OkF E wp_r02_Twin n_r02_Twin := by
 intro as K h
 unfold wp_r02_Twin pw_r02_Twin at h
 split at h
 · exact WP_ok se0_r02_Twin (LpOk_no (by kernel_rfl)) (by kernel_rfl) (by kernel_rfl) (fun _ => baseC_none (by kernel_rfl) _) ((eq_r02_Twin ..).mpr h)
 · exact h.elim
abbrev T_r02_Whole : Type := Int → List PV → List PV → (Int → Prop) → Prop
def L_r02_Whole_0_0 (x0 : Int → List PV → List PV → Int → Int → Bool → Prop) : Nat → Int → List PV → List PV → Int → Int → Prop
 | 0, _, _, _, _, _ => False
 | n + 1, i0, l1, l2, i3, i4 =>
 (cbr (decide (i4 < (((List.length l2) : Nat) : Int)))
 (asr (decide ((0 : Int) ≤ i4))
 (asr (decide (i4 < (((List.length l2) : Nat) : Int)))
 (asr (conf (.one (.i .i64)) (List.getD l2 (i4.toNat) .nils))
 (asr (decide ((0 : Int) ≤ (IntKind.i64.wrap (i4 + (1 : Int)))))
 (asr (decide ((IntKind.i64.wrap (i4 + (1 : Int))) < (((List.length l1) : Nat) : Int)))
 (asr (conf (.one (.i .i64)) (List.getD l1 ((IntKind.i64.wrap (i4 + (1 : Int))).toNat) .nils))
 (asr (decide ((0 : Int) ≤ i4))
 (asr (decide (i4 < (((List.length l1) : Nat) : Int)))
 (asr (conf (.one (.i .i64)) (List.getD l1 (i4.toNat) .nils))
 (L_r02_Whole_0_0 x0 n i0 l1 l2 (IntKind.i64.wrap (i3 + (IntKind.i64.wrap ((intOfV (List.getD l2 (i4.toNat) .nils)) * (IntKind.i64.wrap ((intOfV (List.getD l1 ((IntKind.i64.wrap (i4 + (1 : Int))).toNat) .nils)) - (intOfV (List.getD l1 (i4.toNat) .nils)))))))) (IntKind.i64.wrap (i4 + (1 : Int)))))))))))))
 (x0 i0 l1 l2 i3 i4 false))
def wv_r02_Whole (p0 : Int) (p1 p2 : List PV) (K : Int → Prop) : Prop :=
 (∃ n : Nat, L_r02_Whole_0_0
 (fun _ _ _ yi3 _ _ => (K yi3))
 n p0 p1 p2 (0 : Int) (0 : Int))
def w_r02_Whole (p0 : Int) (p1 p2 : List PV) (K : Int → Prop) : Prop := wv_r02_Whole p0 p1 p2 K
def pw_r02_Whole (w : T_r02_Whole) (as : List PV) (K : PV → Prop) : Prop :=
 match as with
 | [(.agg [(.int .i64 p0), (.data p1), (.data p2)])] => w p0 p1 p2 (fun r0 => K (.int .i64 r0))
 | _ => False
def wp_r02_Whole (as : List PV) (K : PV → Prop) : Prop := pw_r02_Whole w_r02_Whole as K
def D_r02_Whole_0 (F : Frm) (H : Hp) (A0 : Int → List PV → List PV → Int → Int → Prop) : Prop :=
 match F, H with
 | [(1, .box (.agg [(.int .i64 i0), (.data l1), (.data l2)])), (3, .v (.int .i64 i3)), (4, .v (.int .i64 i4))], [] => (A0 i0 l1 l2 i3 i4)
 | _, _ => False
def R_r02_Whole_0 (Q : Ex → Frm → Hp → Prop) (n : Nat) (F : Frm) (H : Hp) : Prop := D_r02_Whole_0 F H (fun i0 l1 l2 i3 i4 => L_r02_Whole_0_0 (fun i0 l1 l2 i3 i4 b5 => Q (.exit 0) [(1, .box (.agg [(.int .i64 i0), (.data l1), (.data l2)])), (3, .v (.int .i64 i3)), (4, .v (.int .i64 i4)), (9, .v (.bool b5))] []) n i0 l1 l2 i3 i4)
def lp_r02_Whole : LP := fun id F H Q =>
 bif Nat.beq id 21661800 then D_r02_Whole_0 F H (fun i0 l1 l2 i3 i4 => ∃ n : Nat, L_r02_Whole_0_0 (fun i0 l1 l2 i3 i4 b5 => Q (.exit 0) [(1, .box (.agg [(.int .i64 i0), (.data l1), (.data l2)])), (3, .v (.int .i64 i3)), (4, .v (.int .i64 i4)), (9, .v (.bool b5))] []) n i0 l1 l2 i3 i4) else
 False
def S0_r02_Whole : SE := ⟨E, lookS [], lookI [], lp_r02_Whole⟩
theorem se0_r02_Whole : SEOk (S0_r02_Whole) := seOk_of trivial trivial
theorem body_r02_Whole_0_0 ( Q n i0 l1 l2 i3 i4) : WC E (callW (S0_r02_Whole) 5) (lp_r02_Whole) b_21661800 [(1, .box (.agg [(.int .i64 i0), (.data l1), (.data l2)])), (3, .v (.int .i64 i3)), (4, .v (.int .i64 i4))] [] (fun x F' H' => match x with | .norm => R_r02_Whole_0 Q n F' H' | .exit i => Q (.exit i) F' H' | .ret => Q .ret F' H') = L_r02_Whole_0_0 (fun i0 l1 l2 i3 i4 b5 => Q (.exit 0) [(1, .box (.agg [(.int .i64 i0), (.data l1), (.data l2)])), (3, .v (.int .i64 i3)), (4, .v (.int .i64 i4)), (9, .v (.bool b5))] []) (n + 1) i0 l1 l2 i3 i4 := by kernel_rfl
theorem lpb_r02_Whole_0 : LpOk E (lp_r02_Whole) b_21661800 := (LpOk_no (by kernel_rfl))
theorem loop_r02_Whole_0 : ∀ F H Q, lp_r02_Whole 21661800 F H Q → LoopT E b_21661800 F H Q := by
 intro F H Q h
 have go := LoopT.intro (callW_ok se0_r02_Whole 5) lpb_r02_Whole_0 (R_r02_Whole_0 Q) (by
   intro F H h
   unfold R_r02_Whole_0 D_r02_Whole_0 at h
   split at h
   · exact h
   · exact h) (by
   intro n F H h
   unfold R_r02_Whole_0 D_r02_Whole_0 at h
   split at h
   · exact (body_r02_Whole_0_0 ..).mpr h
   · exact h.elim)
 have h : D_r02_Whole_0 F H _ := h
 unfold D_r02_Whole_0 at h
 split at h
 · obtain ⟨n, h⟩ := h; exact go n _ _ h
 · exact h.elim
theorem eq_r02_Whole ( p0 p1 p2 K) : WP (S0_r02_Whole) 6 t_r02_Whole [(.agg [(.int .i64 p0), (.data p1), (.data p2)])] K = wv_r02_Whole p0 p1 p2 (fun r0 => K (.int .i64 r0)) := by kernel_rfl
theorem ok_r02_Whole : OkF E wp_r02_Whole n_r02_Whole := by
 intro as K h
 unfold wp_r02_Whole pw_r02_Whole at h
 split at h
 · exact WP_ok se0_r02_Whole (LpOk_by (l := [(21661800, b_21661800)]) ⟨loop_r02_Whole_0, trivial⟩ (by kernel_rfl)) (by kernel_rfl) (by kernel_rfl) (fun _ => baseC_none (by kernel_rfl) _) ((eq_r02_Whole ..).mpr h)
 · exact h.elim
abbrev T_r02_Point : Type := Int → Int → Int → (Bool → Prop) → Prop
def wv_r02_Point (a0 : T_r01_Check) (a1 : T_r01_Of) (a2 : T_r01_Less) (p0 p1 p2 : Int) (K : Bool → Prop) : Prop :=
 (a0 p1 p2 (fun yi0 => 
 (cbr (yi0 == (0 : Int))
 (cbr (decide (p1 ≥ (0 : Int)))
 (a1 p0 (fun yi1 yi2 => 
 (a2 yi1 yi2 p1 p2 (fun yb3 => 
 (K (!yb3))))))
 (K false))
 (K false))))
def w_r02_Point (p0 p1 p2 : Int) (K : Bool → Prop) : Prop := wv_r02_Point w_r01_Check w_r01_Of w_r01_Less p0 p1 p2 K
def pw_r02_Point (w : T_r02_Point) (as : List PV) (K : PV → Prop) : Prop :=
 match as with
 | [(.int .i64 p0), (.agg [(.int .i64 p1), (.int .i64 p2)])] => w p0 p1 p2 (fun r0 => K (.bool r0))
 | _ => False
def wp_r02_Point (as : List PV) (K : PV → Prop) : Prop := pw_r02_Point w_r02_Point as K
def lp_r02_Point (_ : T_r01_Check) (_ : T_r01_Of) (_ : T_r01_Less) : LP := fun _ _ _ _ =>
 False
def S0_r02_Point (a0 : T_r01_Check) (a1 : T_r01_Of) (a2 : T_r01_Less) : SE := ⟨E, lookS [(n_r01_Check, pw_r01_Check a0), (n_r01_Of, pw_r01_Of a1), (n_r01_Less, pw_r01_Less a2)], lookI [], lp_r02_Point a0 a1 a2⟩
theorem se0_r02_Point : SEOk (S0_r02_Point w_r01_Check w_r01_Of w_r01_Less) := seOk_of ⟨ok_r01_Check, ok_r01_Of, ok_r01_Less, trivial⟩ trivial
theorem eq_r02_Point (a0 a1 a2 p0 p1 p2 K) : WP (S0_r02_Point a0 a1 a2) 6 t_r02_Point [(.int .i64 p0), (.agg [(.int .i64 p1), (.int .i64 p2)])] K = wv_r02_Point a0 a1 a2 p0 p1 p2 (fun r0 => K (.bool r0)) := by kernel_rfl
theorem ok_r02_Point : OkF E wp_r02_Point n_r02_Point := by
 intro as K h
 unfold wp_r02_Point pw_r02_Point at h
 split at h
 · exact WP_ok se0_r02_Point (LpOk_no (by kernel_rfl)) (by kernel_rfl) (by kernel_rfl) (fun _ => baseC_none (by kernel_rfl) _) ((eq_r02_Point ..).mpr h)
 · exact h.elim
abbrev T_r02_later : Type := Int → Int → Int → Int → (Int → Int → Prop) → Prop
def wv_r02_later (a0 : T_r01_Less) (p0 p1 p2 p3 : Int) (K : Int → Int → Prop) : Prop :=
 (a0 p0 p1 p2 p3 (fun yb0 => 
 (cbr yb0
 (K p2 p3)
 (K p0 p1))))
def w_r02_later (p0 p1 p2 p3 : Int) (K : Int → Int → Prop) : Prop := wv_r02_later w_r01_Less p0 p1 p2 p3 K
def pw_r02_later (w : T_r02_later) (as : List PV) (K : PV → Prop) : Prop :=
 match as with
 | [(.agg [(.int .i64 p0), (.int .i64 p1)]), (.agg [(.int .i64 p2), (.int .i64 p3)])] => w p0 p1 p2 p3 (fun r0 r1 => K (.agg [(.int .i64 r0), (.int .i64 r1)]))
 | _ => False
def wp_r02_later (as : List PV) (K : PV → Prop) : Prop := pw_r02_later w_r02_later as K
def lp_r02_later (_ : T_r01_Less) : LP := fun _ _ _ _ =>
 False
def S0_r02_later (a0 : T_r01_Less) : SE := ⟨E, lookS [(n_r01_Less, pw_r01_Less a0)], lookI [], lp_r02_later a0⟩
theorem se0_r02_later : SEOk (S0_r02_later w_r01_Less) := seOk_of ⟨ok_r01_Less, trivial⟩ trivial
theorem eq_r02_later (a0 p0 p1 p2 p3 K) : WP (S0_r02_later a0) 6 t_r02_later [(.agg [(.int .i64 p0), (.int .i64 p1)]), (.agg [(.int .i64 p2), (.int .i64 p3)])] K = wv_r02_later a0 p0 p1 p2 p3 (fun r0 r1 => K (.agg [(.int .i64 r0), (.int .i64 r1)])) := by kernel_rfl
theorem ok_r02_later : OkF E wp_r02_later n_r02_later := by
 intro as K h
 unfold wp_r02_later pw_r02_later at h
 split at h
 · exact WP_ok se0_r02_later (LpOk_no (by kernel_rfl)) (by kernel_rfl) (by kernel_rfl) (fun _ => baseC_none (by kernel_rfl) _) ((eq_r02_later ..).mpr h)
 · exact h.elim
abbrev T_r02_sooner : Type := Int → Int → Int → Int → (Int → Int → Prop) → Prop
def wv_r02_sooner (a0 : T_r01_Less) (p0 p1 p2 p3 : Int) (K : Int → Int → Prop) : Prop :=
 (a0 p0 p1 p2 p3 (fun yb0 => 
 (cbr yb0
 (K p0 p1)
 (K p2 p3))))
def w_r02_sooner (p0 p1 p2 p3 : Int) (K : Int → Int → Prop) : Prop := wv_r02_sooner w_r01_Less p0 p1 p2 p3 K
def pw_r02_sooner (w : T_r02_sooner) (as : List PV) (K : PV → Prop) : Prop :=
 match as with
 | [(.agg [(.int .i64 p0), (.int .i64 p1)]), (.agg [(.int .i64 p2), (.int .i64 p3)])] => w p0 p1 p2 p3 (fun r0 r1 => K (.agg [(.int .i64 r0), (.int .i64 r1)]))
 | _ => False
def wp_r02_sooner (as : List PV) (K : PV → Prop) : Prop := pw_r02_sooner w_r02_sooner as K
def lp_r02_sooner (_ : T_r01_Less) : LP := fun _ _ _ _ =>
 False
def S0_r02_sooner (a0 : T_r01_Less) : SE := ⟨E, lookS [(n_r01_Less, pw_r01_Less a0)], lookI [], lp_r02_sooner a0⟩
theorem se0_r02_sooner : SEOk (S0_r02_sooner w_r01_Less) := seOk_of ⟨ok_r01_Less, trivial⟩ trivial
theorem eq_r02_sooner (a0 p0 p1 p2 p3 K) : WP (S0_r02_sooner a0) 6 t_r02_sooner [(.agg [(.int .i64 p0), (.int .i64 p1)]), (.agg [(.int .i64 p2), (.int .i64 p3)])] K = wv_r02_sooner a0 p0 p1 p2 p3 (fun r0 r1 => K (.agg [(.int .i64 r0), (.int .i64 r1)])) := by kernel_rfl
theorem ok_r02_sooner : OkF E wp_r02_sooner n_r02_sooner := by
 intro as K h
 unfold wp_r02_sooner pw_r02_sooner at h
 split at h
 · exact WP_ok se0_r02_sooner (LpOk_no (by kernel_rfl)) (by kernel_rfl) (by kernel_rfl) (fun _ => baseC_none (by kernel_rfl) _) ((eq_r02_sooner ..).mpr h)
 · exact h.elim
abbrev T_r02_worth : Type := Int → List PV → List PV → Int → Int → Int → Int → Int → (Int → Int → Int → Prop) → Prop
def wv_r02_worth (a0 : T_r01_Of) (a1 : T_r02_later) (a2 : T_r02_sooner) (a3 : T_r01_Less) (a4 : T_r01_Sub) (a5 : T_r01_Mul) (_ : Int) (p1 p2 : List PV) (p3 p4 p5 p6 p7 : Int) (K : Int → Int → Int → Prop) : Prop :=
 (asr (decide ((0 : Int) ≤ p3))
 (asr (decide (p3 < (((List.length p1) : Nat) : Int)))
 (asr (conf (.one (.i .i64)) (List.getD p1 (p3.toNat) .nils))
 (a0 (intOfV (List.getD p1 (p3.toNat) .nils)) (fun yi0 yi1 => 
 (a1 p4 p5 yi0 yi1 (fun yi2 yi3 => 
 (asr (decide ((0 : Int) ≤ (IntKind.i64.wrap (p3 + (1 : Int)))))
 (asr (decide ((IntKind.i64.wrap (p3 + (1 : Int))) < (((List.length p1) : Nat) : Int)))
 (asr (conf (.one (.i .i64)) (List.getD p1 ((IntKind.i64.wrap (p3 + (1 : Int))).toNat) .nils))
 (a0 (intOfV (List.getD p1 ((IntKind.i64.wrap (p3 + (1 : Int))).toNat) .nils)) (fun yi4 yi5 => 
 (a2 p6 p7 yi4 yi5 (fun yi6 yi7 => 
 (a3 yi2 yi3 yi6 yi7 (fun yb8 => 
 (cbr (!yb8)
 (K (0 : Int) (1 : Int) (0 : Int))
 (asr (decide ((0 : Int) ≤ p3))
 (asr (decide (p3 < (((List.length p2) : Nat) : Int)))
 (asr (conf (.one (.i .i64)) (List.getD p2 (p3.toNat) .nils))
 (cbr ((intOfV (List.getD p2 (p3.toNat) .nils)) == (0 : Int))
 (K (0 : Int) (1 : Int) (0 : Int))
 (a4 yi6 yi7 yi2 yi3 (fun yi9 yi10 yi11 => 
 (cbr (yi11 != (0 : Int))
 (K (0 : Int) (0 : Int) yi11)
 (asr (decide ((0 : Int) ≤ p3))
 (asr (decide (p3 < (((List.length p2) : Nat) : Int)))
 (asr (conf (.one (.i .i64)) (List.getD p2 (p3.toNat) .nils))
 (a0 (intOfV (List.getD p2 (p3.toNat) .nils)) (fun yi12 yi13 => 
 (a5 yi9 yi10 yi12 yi13 (fun yi14 yi15 yi16 => 
 (K yi14 yi15 yi16))))))))))))))))))))))))))))))))
def w_r02_worth (p0 : Int) (p1 p2 : List PV) (p3 p4 p5 p6 p7 : Int) (K : Int → Int → Int → Prop) : Prop := wv_r02_worth w_r01_Of w_r02_later w_r02_sooner w_r01_Less w_r01_Sub w_r01_Mul p0 p1 p2 p3 p4 p5 p6 p7 K
def pw_r02_worth (w : T_r02_worth) (as : List PV) (K : PV → Prop) : Prop :=
 match as with
 | [(.agg [(.int .i64 p0), (.data p1), (.data p2)]), (.int .i64 p3), (.agg [(.int .i64 p4), (.int .i64 p5)]), (.agg [(.int .i64 p6), (.int .i64 p7)])] => w p0 p1 p2 p3 p4 p5 p6 p7 (fun r0 r1 r2 => K (.tup [(.agg [(.int .i64 r0), (.int .i64 r1)]), (.int .i64 r2)]))
 | _ => False
def wp_r02_worth (as : List PV) (K : PV → Prop) : Prop := pw_r02_worth w_r02_worth as K
def lp_r02_worth (_ : T_r01_Of) (_ : T_r02_later) (_ : T_r02_sooner) (_ : T_r01_Less) (_ : T_r01_Sub) (_ : T_r01_Mul) : LP := fun _ _ _ _ =>
 False
def S0_r02_worth (a0 : T_r01_Of) (a1 : T_r02_later) (a2 : T_r02_sooner) (a3 : T_r01_Less) (a4 : T_r01_Sub) (a5 : T_r01_Mul) : SE := ⟨E, lookS [(n_r01_Of, pw_r01_Of a0), (n_r02_later, pw_r02_later a1), (n_r02_sooner, pw_r02_sooner a2), (n_r01_Less, pw_r01_Less a3), (n_r01_Sub, pw_r01_Sub a4), (n_r01_Mul, pw_r01_Mul a5)], lookI [], lp_r02_worth a0 a1 a2 a3 a4 a5⟩
theorem se0_r02_worth : SEOk (S0_r02_worth w_r01_Of w_r02_later w_r02_sooner w_r01_Less w_r01_Sub w_r01_Mul) := seOk_of ⟨ok_r01_Of, ok_r02_later, ok_r02_sooner, ok_r01_Less, ok_r01_Sub, ok_r01_Mul, trivial⟩ trivial
theorem eq_r02_worth (a0 a1 a2 a3 a4 a5 p0 p1 p2 p3 p4 p5 p6 p7 K) : WP (S0_r02_worth a0 a1 a2 a3 a4 a5) 6 t_r02_worth [(.agg [(.int .i64 p0), (.data p1), (.data p2)]), (.int .i64 p3), (.agg [(.int .i64 p4), (.int .i64 p5)]), (.agg [(.int .i64 p6), (.int .i64 p7)])] K = wv_r02_worth a0 a1 a2 a3 a4 a5 p0 p1 p2 p3 p4 p5 p6 p7 (fun r0 r1 r2 => K (.tup [(.agg [(.int .i64 r0), (.int .i64 r1)]), (.int .i64 r2)])) := by kernel_rfl
theorem ok_r02_worth : OkF E wp_r02_worth n_r02_worth := by
 intro as K h
 unfold wp_r02_worth pw_r02_worth at h
 split at h
 · exact WP_ok se0_r02_worth (LpOk_no (by kernel_rfl)) (by kernel_rfl) (by kernel_rfl) (fun _ => baseC_none (by kernel_rfl) _) ((eq_r02_worth ..).mpr h)
 · exact h.elim
abbrev T_r02_Value : Type := Int → List PV → List PV → Int → Int → Int → Int → (Int → Int → Int → Prop) → Prop
def L_r02_Value_0_0 (a0 : T_r02_Check) (a1 : T_r02_Point) (a2 : T_r01_Less) (a3 : T_r02_worth) (a4 : T_r01_Add) (x0 : Int → Int → Int → Prop) (x1 : Int → List PV → List PV → Int → Int → Int → Int → Int → Int → Int → Int → Int → Bool → Prop) : Nat → Int → List PV → List PV → Int → Int → Int → Int → Int → Int → Int → Int → Int → Prop
 | 0, _, _, _, _, _, _, _, _, _, _, _, _ => False
 | n + 1, i0, l1, l2, i3, i4, i5, i6, i7, i8, i9, i10, i11 =>
 (cbr (decide (i11 < (((List.length l2) : Nat) : Int)))
 (a3 i0 l1 l2 i11 i3 i4 i5 i6 (fun yi5 yi6 yi7 => 
 (cbr (yi7 != (0 : Int))
 (x0 (0 : Int) (0 : Int) yi7)
 (a4 i9 i10 yi5 yi6 (fun yi8 yi9 yi10 => 
 (cbr (yi10 != (0 : Int))
 (x0 (0 : Int) (0 : Int) yi10)
 (L_r02_Value_0_0 a0 a1 a2 a3 a4 x0 x1 n i0 l1 l2 i3 i4 i5 i6 i7 i8 yi8 yi9 (IntKind.i64.wrap (i11 + (1 : Int))))))))))
 (x1 i0 l1 l2 i3 i4 i5 i6 i7 i8 i9 i10 i11 false))
def wv_r02_Value (a0 : T_r02_Check) (a1 : T_r02_Point) (a2 : T_r01_Less) (a3 : T_r02_worth) (a4 : T_r01_Add) (p0 : Int) (p1 p2 : List PV) (p3 p4 p5 p6 : Int) (K : Int → Int → Int → Prop) : Prop :=
 (a0 p0 p1 p2 (fun yi0 => 
 (cbr (yi0 != (0 : Int))
 (a0 p0 p1 p2 (fun yi1 => 
 (K (0 : Int) (0 : Int) yi1)))
 (a1 p0 p3 p4 (fun yb2 => 
 (cbr (!yb2)
 (K (0 : Int) (0 : Int) (2 : Int))
 (a1 p0 p5 p6 (fun yb3 => 
 (cbr (!yb3)
 (K (0 : Int) (0 : Int) (2 : Int))
 (a2 p5 p6 p3 p4 (fun yb4 => 
 (cbr yb4
 (K (0 : Int) (0 : Int) (2 : Int))
 (∃ n : Nat, L_r02_Value_0_0 a0 a1 a2 a3 a4
 (fun yi11 yi12 yi13 => (K yi11 yi12 yi13))
 (fun _ _ _ _ _ _ _ _ _ yi23 yi24 _ _ => (K yi23 yi24 (0 : Int)))
 n p0 p1 p2 p3 p4 p5 p6 (0 : Int) (0 : Int) (0 : Int) (1 : Int) (0 : Int))))))))))))))
def w_r02_Value (p0 : Int) (p1 p2 : List PV) (p3 p4 p5 p6 : Int) (K : Int → Int → Int → Prop) : Prop := wv_r02_Value w_r02_Check w_r02_Point w_r01_Less w_r02_worth w_r01_Add p0 p1 p2 p3 p4 p5 p6 K
def pw_r02_Value (w : T_r02_Value) (as : List PV) (K : PV → Prop) : Prop :=
 match as with
 | [(.agg [(.int .i64 p0), (.data p1), (.data p2)]), (.agg [(.int .i64 p3), (.int .i64 p4)]), (.agg [(.int .i64 p5), (.int .i64 p6)])] => w p0 p1 p2 p3 p4 p5 p6 (fun r0 r1 r2 => K (.tup [(.agg [(.int .i64 r0), (.int .i64 r1)]), (.int .i64 r2)]))
 | _ => False
def wp_r02_Value (as : List PV) (K : PV → Prop) : Prop := pw_r02_Value w_r02_Value as K
def D_r02_Value_0 (F : Frm) (H : Hp) (A0 : Int → List PV → List PV → Int → Int → Int → Int → Int → Int → Int → Int → Int → Prop) : Prop :=
 match F, H with
 | [(3, .box (.agg [(.int .i64 i0), (.data l1), (.data l2)])), (4, .box (.agg [(.int .i64 i3), (.int .i64 i4)])), (5, .box (.agg [(.int .i64 i5), (.int .i64 i6)])), (6, .box (.agg [(.int .i64 i7), (.int .i64 i8)])), (8, .box (.agg [(.int .i64 i9), (.int .i64 i10)])), (9, .v (.int .i64 i11))], [] => (A0 i0 l1 l2 i3 i4 i5 i6 i7 i8 i9 i10 i11)
 | _, _ => False
def R_r02_Value_0 (a0 : T_r02_Check) (a1 : T_r02_Point) (a2 : T_r01_Less) (a3 : T_r02_worth) (a4 : T_r01_Add) (Q : Ex → Frm → Hp → Prop) (n : Nat) (F : Frm) (H : Hp) : Prop := D_r02_Value_0 F H (fun i0 l1 l2 i3 i4 i5 i6 i7 i8 i9 i10 i11 => L_r02_Value_0_0 a0 a1 a2 a3 a4 (fun i0 i1 i2 => Q .ret [(6, .box (.agg [(.int .i64 i0), (.int .i64 i1)])), (7, .v (.int .i64 i2))] []) (fun i0 l1 l2 i3 i4 i5 i6 i7 i8 i9 i10 i11 b12 => Q (.exit 0) [(3, .box (.agg [(.int .i64 i0), (.data l1), (.data l2)])), (4, .box (.agg [(.int .i64 i3), (.int .i64 i4)])), (5, .box (.agg [(.int .i64 i5), (.int .i64 i6)])), (6, .box (.agg [(.int .i64 i7), (.int .i64 i8)])), (8, .box (.agg [(.int .i64 i9), (.int .i64 i10)])), (9, .v (.int .i64 i11)), (41, .v (.bool b12))] []) n i0 l1 l2 i3 i4 i5 i6 i7 i8 i9 i10 i11)
def lp_r02_Value (a0 : T_r02_Check) (a1 : T_r02_Point) (a2 : T_r01_Less) (a3 : T_r02_worth) (a4 : T_r01_Add) : LP := fun id F H Q =>
 bif Nat.beq id 92446900 then D_r02_Value_0 F H (fun i0 l1 l2 i3 i4 i5 i6 i7 i8 i9 i10 i11 => ∃ n : Nat, L_r02_Value_0_0 a0 a1 a2 a3 a4 (fun i0 i1 i2 => Q .ret [(6, .box (.agg [(.int .i64 i0), (.int .i64 i1)])), (7, .v (.int .i64 i2))] []) (fun i0 l1 l2 i3 i4 i5 i6 i7 i8 i9 i10 i11 b12 => Q (.exit 0) [(3, .box (.agg [(.int .i64 i0), (.data l1), (.data l2)])), (4, .box (.agg [(.int .i64 i3), (.int .i64 i4)])), (5, .box (.agg [(.int .i64 i5), (.int .i64 i6)])), (6, .box (.agg [(.int .i64 i7), (.int .i64 i8)])), (8, .box (.agg [(.int .i64 i9), (.int .i64 i10)])), (9, .v (.int .i64 i11)), (41, .v (.bool b12))] []) n i0 l1 l2 i3 i4 i5 i6 i7 i8 i9 i10 i11) else
 False
def S0_r02_Value (a0 : T_r02_Check) (a1 : T_r02_Point) (a2 : T_r01_Less) (a3 : T_r02_worth) (a4 : T_r01_Add) : SE := ⟨E, lookS [(n_r02_Check, pw_r02_Check a0), (n_r02_Point, pw_r02_Point a1), (n_r01_Less, pw_r01_Less a2), (n_r02_worth, pw_r02_worth a3), (n_r01_Add, pw_r01_Add a4)], lookI [], lp_r02_Value a0 a1 a2 a3 a4⟩
theorem se0_r02_Value : SEOk (S0_r02_Value w_r02_Check w_r02_Point w_r01_Less w_r02_worth w_r01_Add) := seOk_of ⟨ok_r02_Check, ok_r02_Point, ok_r01_Less, ok_r02_worth, ok_r01_Add, trivial⟩ trivial
theorem body_r02_Value_0_0 (a0 a1 a2 a3 a4 Q n i0 l1 l2 i3 i4 i5 i6 i7 i8 i9 i10 i11) : WC E (callW (S0_r02_Value a0 a1 a2 a3 a4) 5) (lp_r02_Value a0 a1 a2 a3 a4) b_92446900 [(3, .box (.agg [(.int .i64 i0), (.data l1), (.data l2)])), (4, .box (.agg [(.int .i64 i3), (.int .i64 i4)])), (5, .box (.agg [(.int .i64 i5), (.int .i64 i6)])), (6, .box (.agg [(.int .i64 i7), (.int .i64 i8)])), (8, .box (.agg [(.int .i64 i9), (.int .i64 i10)])), (9, .v (.int .i64 i11))] [] (fun x F' H' => match x with | .norm => R_r02_Value_0 a0 a1 a2 a3 a4 Q n F' H' | .exit i => Q (.exit i) F' H' | .ret => Q .ret F' H') = L_r02_Value_0_0 a0 a1 a2 a3 a4 (fun i0 i1 i2 => Q .ret [(6, .box (.agg [(.int .i64 i0), (.int .i64 i1)])), (7, .v (.int .i64 i2))] []) (fun i0 l1 l2 i3 i4 i5 i6 i7 i8 i9 i10 i11 b12 => Q (.exit 0) [(3, .box (.agg [(.int .i64 i0), (.data l1), (.data l2)])), (4, .box (.agg [(.int .i64 i3), (.int .i64 i4)])), (5, .box (.agg [(.int .i64 i5), (.int .i64 i6)])), (6, .box (.agg [(.int .i64 i7), (.int .i64 i8)])), (8, .box (.agg [(.int .i64 i9), (.int .i64 i10)])), (9, .v (.int .i64 i11)), (41, .v (.bool b12))] []) (n + 1) i0 l1 l2 i3 i4 i5 i6 i7 i8 i9 i10 i11 := by kernel_rfl
theorem lpb_r02_Value_0 : LpOk E (lp_r02_Value w_r02_Check w_r02_Point w_r01_Less w_r02_worth w_r01_Add) b_92446900 := (LpOk_no (by kernel_rfl))
theorem loop_r02_Value_0 : ∀ F H Q, lp_r02_Value w_r02_Check w_r02_Point w_r01_Less w_r02_worth w_r01_Add 92446900 F H Q → LoopT E b_92446900 F H Q := by
 intro F H Q h
 have go := LoopT.intro (callW_ok se0_r02_Value 5) lpb_r02_Value_0 (R_r02_Value_0 w_r02_Check w_r02_Point w_r01_Less w_r02_worth w_r01_Add Q) (by
   intro F H h
   unfold R_r02_Value_0 D_r02_Value_0 at h
   split at h
   · exact h
   · exact h) (by
   intro n F H h
   unfold R_r02_Value_0 D_r02_Value_0 at h
   split at h
   · exact (body_r02_Value_0_0 ..).mpr h
   · exact h.elim)
 have h : D_r02_Value_0 F H _ := h
 unfold D_r02_Value_0 at h
 split at h
 · obtain ⟨n, h⟩ := h; exact go n _ _ h
 · exact h.elim
theorem eq_r02_Value (a0 a1 a2 a3 a4 p0 p1 p2 p3 p4 p5 p6 K) : WP (S0_r02_Value a0 a1 a2 a3 a4) 6 t_r02_Value [(.agg [(.int .i64 p0), (.data p1), (.data p2)]), (.agg [(.int .i64 p3), (.int .i64 p4)]), (.agg [(.int .i64 p5), (.int .i64 p6)])] K = wv_r02_Value a0 a1 a2 a3 a4 p0 p1 p2 p3 p4 p5 p6 (fun r0 r1 r2 => K (.tup [(.agg [(.int .i64 r0), (.int .i64 r1)]), (.int .i64 r2)])) := by kernel_rfl
theorem ok_r02_Value : OkF E wp_r02_Value n_r02_Value := by
 intro as K h
 unfold wp_r02_Value pw_r02_Value at h
 split at h
 · exact WP_ok se0_r02_Value (LpOk_by (l := [(92446900, b_92446900)]) ⟨loop_r02_Value_0, trivial⟩ (by kernel_rfl)) (by kernel_rfl) (by kernel_rfl) (fun _ => baseC_none (by kernel_rfl) _) ((eq_r02_Value ..).mpr h)
 · exact h.elim
abbrev T_r02_Mark : Type := Int → List PV → List PV → Int → Int → Int → Int → (Int → Int → Int → Prop) → Prop
def L_r02_Mark_0_0 (a0 : T_r02_Check) (a1 : T_r02_Point) (a2 : T_r01_Check) (a3 : T_r01_Of) (a4 : T_r01_Less) (a5 : T_r02_later) (a6 : T_r02_worth) (a7 : T_r01_Div) (a8 : T_r01_Add) (a9 : T_r01_Sub) (x0 : Int → Int → Int → Prop) (x1 : Int → List PV → List PV → Int → Int → Int → Int → Int → Int → Int → Int → Int → Bool → Prop) : Nat → Int → List PV → List PV → Int → Int → Int → Int → Int → Int → Int → Int → Int → Prop
 | 0, _, _, _, _, _, _, _, _, _, _, _, _ => False
 | n + 1, i0, l1, l2, i3, i4, i5, i6, i7, i8, i9, i10, i11 =>
 (cbr (decide (i11 < (((List.length l2) : Nat) : Int)))
 (cbr (decide (i5 > (0 : Int)))
 (asr (decide ((0 : Int) ≤ (IntKind.i64.wrap (i11 + (1 : Int)))))
 (asr (decide ((IntKind.i64.wrap (i11 + (1 : Int))) < (((List.length l1) : Nat) : Int)))
 (asr (conf (.one (.i .i64)) (List.getD l1 ((IntKind.i64.wrap (i11 + (1 : Int))).toNat) .nils))
 (a3 (intOfV (List.getD l1 ((IntKind.i64.wrap (i11 + (1 : Int))).toNat) .nils)) (fun yi4 yi5 => 
 (a4 i9 i10 yi4 yi5 (fun yb6 => 
 (cbr (!yb6)
 (a5 i9 i10 yi4 yi5 (fun yi7 yi8 => 
 (L_r02_Mark_0_0 a0 a1 a2 a3 a4 a5 a6 a7 a8 a9 x0 x1 n i0 l1 l2 i3 i4 i5 i6 i7 i8 yi7 yi8 (IntKind.i64.wrap (i11 + (1 : Int))))))
 (asr (decide ((0 : Int) ≤ i11))
 (asr (decide (i11 < (((List.length l2) : Nat) : Int)))
 (asr (conf (.one (.i .i64)) (List.getD l2 (i11.toNat) .nils))
 (cbr ((intOfV (List.getD l2 (i11.toNat) .nils)) == (0 : Int))
 (a5 i9 i10 yi4 yi5 (fun yi9 yi10 => 
 (L_r02_Mark_0_0 a0 a1 a2 a3 a4 a5 a6 a7 a8 a9 x0 x1 n i0 l1 l2 i3 i4 i5 i6 i7 i8 yi9 yi10 (IntKind.i64.wrap (i11 + (1 : Int))))))
 (a6 i0 l1 l2 i11 i9 i10 yi4 yi5 (fun yi11 yi12 yi13 => 
 (cbr (yi13 != (0 : Int))
 (x0 (0 : Int) (0 : Int) yi13)
 (a4 yi11 yi12 i5 i6 (fun yb14 => 
 (cbr (!yb14)
 (asr (decide ((0 : Int) ≤ i11))
 (asr (decide (i11 < (((List.length l2) : Nat) : Int)))
 (asr (conf (.one (.i .i64)) (List.getD l2 (i11.toNat) .nils))
 (a3 (intOfV (List.getD l2 (i11.toNat) .nils)) (fun yi15 yi16 => 
 (a7 i5 i6 yi15 yi16 (fun yi17 yi18 yi19 => 
 (cbr (yi19 != (0 : Int))
 (x0 (0 : Int) (0 : Int) yi19)
 (a8 i9 i10 yi17 yi18 (fun yi20 yi21 yi22 => 
 (x0 yi20 yi21 yi22)))))))))))
 (a9 i5 i6 yi11 yi12 (fun yi23 yi24 yi25 => 
 (cbr (yi25 != (0 : Int))
 (x0 (0 : Int) (0 : Int) yi25)
 (L_r02_Mark_0_0 a0 a1 a2 a3 a4 a5 a6 a7 a8 a9 x0 x1 n i0 l1 l2 i3 i4 yi23 yi24 i7 i8 yi4 yi5 (IntKind.i64.wrap (i11 + (1 : Int)))))))))))))))))))))))))
 (x1 i0 l1 l2 i3 i4 i5 i6 i7 i8 i9 i10 i11 false))
 (x1 i0 l1 l2 i3 i4 i5 i6 i7 i8 i9 i10 i11 false))
def wv_r02_Mark (a0 : T_r02_Check) (a1 : T_r02_Point) (a2 : T_r01_Check) (a3 : T_r01_Of) (a4 : T_r01_Less) (a5 : T_r02_later) (a6 : T_r02_worth) (a7 : T_r01_Div) (a8 : T_r01_Add) (a9 : T_r01_Sub) (p0 : Int) (p1 p2 : List PV) (p3 p4 p5 p6 : Int) (K : Int → Int → Int → Prop) : Prop :=
 (a0 p0 p1 p2 (fun yi0 => 
 (cbr (yi0 != (0 : Int))
 (a0 p0 p1 p2 (fun yi1 => 
 (K (0 : Int) (0 : Int) yi1)))
 (a1 p0 p3 p4 (fun yb2 => 
 (cbr (!yb2)
 (K (0 : Int) (0 : Int) (2 : Int))
 (a2 p5 p6 (fun yi3 => 
 (cbr (yi3 != (0 : Int))
 (K (0 : Int) (0 : Int) (2 : Int))
 (cbr (decide (p5 < (0 : Int)))
 (K (0 : Int) (0 : Int) (2 : Int))
 (∃ n : Nat, L_r02_Mark_0_0 a0 a1 a2 a3 a4 a5 a6 a7 a8 a9
 (fun yi26 yi27 yi28 => (K yi26 yi27 yi28))
 (fun _ _ _ yi32 yi33 yi34 _ _ _ _ _ _ _ => (cbr (decide (yi34 > (0 : Int)))
 (K (0 : Int) (0 : Int) (6 : Int))
 (K yi32 yi33 (0 : Int))))
 n p0 p1 p2 p3 p4 p5 p6 (0 : Int) (0 : Int) p3 p4 (0 : Int))))))))))))
def w_r02_Mark (p0 : Int) (p1 p2 : List PV) (p3 p4 p5 p6 : Int) (K : Int → Int → Int → Prop) : Prop := wv_r02_Mark w_r02_Check w_r02_Point w_r01_Check w_r01_Of w_r01_Less w_r02_later w_r02_worth w_r01_Div w_r01_Add w_r01_Sub p0 p1 p2 p3 p4 p5 p6 K
def pw_r02_Mark (w : T_r02_Mark) (as : List PV) (K : PV → Prop) : Prop :=
 match as with
 | [(.agg [(.int .i64 p0), (.data p1), (.data p2)]), (.agg [(.int .i64 p3), (.int .i64 p4)]), (.agg [(.int .i64 p5), (.int .i64 p6)])] => w p0 p1 p2 p3 p4 p5 p6 (fun r0 r1 r2 => K (.tup [(.agg [(.int .i64 r0), (.int .i64 r1)]), (.int .i64 r2)]))
 | _ => False
def wp_r02_Mark (as : List PV) (K : PV → Prop) : Prop := pw_r02_Mark w_r02_Mark as K
def D_r02_Mark_0 (F : Frm) (H : Hp) (A0 : Int → List PV → List PV → Int → Int → Int → Int → Int → Int → Int → Int → Int → Prop) : Prop :=
 match F, H with
 | [(3, .box (.agg [(.int .i64 i0), (.data l1), (.data l2)])), (4, .box (.agg [(.int .i64 i3), (.int .i64 i4)])), (5, .box (.agg [(.int .i64 i5), (.int .i64 i6)])), (6, .box (.agg [(.int .i64 i7), (.int .i64 i8)])), (8, .box (.agg [(.int .i64 i9), (.int .i64 i10)])), (9, .v (.int .i64 i11))], [] => (A0 i0 l1 l2 i3 i4 i5 i6 i7 i8 i9 i10 i11)
 | _, _ => False
def R_r02_Mark_0 (a0 : T_r02_Check) (a1 : T_r02_Point) (a2 : T_r01_Check) (a3 : T_r01_Of) (a4 : T_r01_Less) (a5 : T_r02_later) (a6 : T_r02_worth) (a7 : T_r01_Div) (a8 : T_r01_Add) (a9 : T_r01_Sub) (Q : Ex → Frm → Hp → Prop) (n : Nat) (F : Frm) (H : Hp) : Prop := D_r02_Mark_0 F H (fun i0 l1 l2 i3 i4 i5 i6 i7 i8 i9 i10 i11 => L_r02_Mark_0_0 a0 a1 a2 a3 a4 a5 a6 a7 a8 a9 (fun i0 i1 i2 => Q .ret [(6, .box (.agg [(.int .i64 i0), (.int .i64 i1)])), (7, .v (.int .i64 i2))] []) (fun i0 l1 l2 i3 i4 i5 i6 i7 i8 i9 i10 i11 b12 => Q (.exit 0) [(3, .box (.agg [(.int .i64 i0), (.data l1), (.data l2)])), (4, .box (.agg [(.int .i64 i3), (.int .i64 i4)])), (5, .box (.agg [(.int .i64 i5), (.int .i64 i6)])), (6, .box (.agg [(.int .i64 i7), (.int .i64 i8)])), (8, .box (.agg [(.int .i64 i9), (.int .i64 i10)])), (9, .v (.int .i64 i11)), (47, .v (.bool b12))] []) n i0 l1 l2 i3 i4 i5 i6 i7 i8 i9 i10 i11)
def lp_r02_Mark (a0 : T_r02_Check) (a1 : T_r02_Point) (a2 : T_r01_Check) (a3 : T_r01_Of) (a4 : T_r01_Less) (a5 : T_r02_later) (a6 : T_r02_worth) (a7 : T_r01_Div) (a8 : T_r01_Add) (a9 : T_r01_Sub) : LP := fun id F H Q =>
 bif Nat.beq id 63725400 then D_r02_Mark_0 F H (fun i0 l1 l2 i3 i4 i5 i6 i7 i8 i9 i10 i11 => ∃ n : Nat, L_r02_Mark_0_0 a0 a1 a2 a3 a4 a5 a6 a7 a8 a9 (fun i0 i1 i2 => Q .ret [(6, .box (.agg [(.int .i64 i0), (.int .i64 i1)])), (7, .v (.int .i64 i2))] []) (fun i0 l1 l2 i3 i4 i5 i6 i7 i8 i9 i10 i11 b12 => Q (.exit 0) [(3, .box (.agg [(.int .i64 i0), (.data l1), (.data l2)])), (4, .box (.agg [(.int .i64 i3), (.int .i64 i4)])), (5, .box (.agg [(.int .i64 i5), (.int .i64 i6)])), (6, .box (.agg [(.int .i64 i7), (.int .i64 i8)])), (8, .box (.agg [(.int .i64 i9), (.int .i64 i10)])), (9, .v (.int .i64 i11)), (47, .v (.bool b12))] []) n i0 l1 l2 i3 i4 i5 i6 i7 i8 i9 i10 i11) else
 False
def S0_r02_Mark (a0 : T_r02_Check) (a1 : T_r02_Point) (a2 : T_r01_Check) (a3 : T_r01_Of) (a4 : T_r01_Less) (a5 : T_r02_later) (a6 : T_r02_worth) (a7 : T_r01_Div) (a8 : T_r01_Add) (a9 : T_r01_Sub) : SE := ⟨E, lookS [(n_r02_Check, pw_r02_Check a0), (n_r02_Point, pw_r02_Point a1), (n_r01_Check, pw_r01_Check a2), (n_r01_Of, pw_r01_Of a3), (n_r01_Less, pw_r01_Less a4), (n_r02_later, pw_r02_later a5), (n_r02_worth, pw_r02_worth a6), (n_r01_Div, pw_r01_Div a7), (n_r01_Add, pw_r01_Add a8), (n_r01_Sub, pw_r01_Sub a9)], lookI [], lp_r02_Mark a0 a1 a2 a3 a4 a5 a6 a7 a8 a9⟩
theorem se0_r02_Mark : SEOk (S0_r02_Mark w_r02_Check w_r02_Point w_r01_Check w_r01_Of w_r01_Less w_r02_later w_r02_worth w_r01_Div w_r01_Add w_r01_Sub) := seOk_of ⟨ok_r02_Check, ok_r02_Point, ok_r01_Check, ok_r01_Of, ok_r01_Less, ok_r02_later, ok_r02_worth, ok_r01_Div, ok_r01_Add, ok_r01_Sub, trivial⟩ trivial
theorem body_r02_Mark_0_0 (a0 a1 a2 a3 a4 a5 a6 a7 a8 a9 Q n i0 l1 l2 i3 i4 i5 i6 i7 i8 i9 i10 i11) : WC E (callW (S0_r02_Mark a0 a1 a2 a3 a4 a5 a6 a7 a8 a9) 5) (lp_r02_Mark a0 a1 a2 a3 a4 a5 a6 a7 a8 a9) b_63725400 [(3, .box (.agg [(.int .i64 i0), (.data l1), (.data l2)])), (4, .box (.agg [(.int .i64 i3), (.int .i64 i4)])), (5, .box (.agg [(.int .i64 i5), (.int .i64 i6)])), (6, .box (.agg [(.int .i64 i7), (.int .i64 i8)])), (8, .box (.agg [(.int .i64 i9), (.int .i64 i10)])), (9, .v (.int .i64 i11))] [] (fun x F' H' => match x with | .norm => R_r02_Mark_0 a0 a1 a2 a3 a4 a5 a6 a7 a8 a9 Q n F' H' | .exit i => Q (.exit i) F' H' | .ret => Q .ret F' H') = L_r02_Mark_0_0 a0 a1 a2 a3 a4 a5 a6 a7 a8 a9 (fun i0 i1 i2 => Q .ret [(6, .box (.agg [(.int .i64 i0), (.int .i64 i1)])), (7, .v (.int .i64 i2))] []) (fun i0 l1 l2 i3 i4 i5 i6 i7 i8 i9 i10 i11 b12 => Q (.exit 0) [(3, .box (.agg [(.int .i64 i0), (.data l1), (.data l2)])), (4, .box (.agg [(.int .i64 i3), (.int .i64 i4)])), (5, .box (.agg [(.int .i64 i5), (.int .i64 i6)])), (6, .box (.agg [(.int .i64 i7), (.int .i64 i8)])), (8, .box (.agg [(.int .i64 i9), (.int .i64 i10)])), (9, .v (.int .i64 i11)), (47, .v (.bool b12))] []) (n + 1) i0 l1 l2 i3 i4 i5 i6 i7 i8 i9 i10 i11 := by kernel_rfl
theorem lpb_r02_Mark_0 : LpOk E (lp_r02_Mark w_r02_Check w_r02_Point w_r01_Check w_r01_Of w_r01_Less w_r02_later w_r02_worth w_r01_Div w_r01_Add w_r01_Sub) b_63725400 := (LpOk_no (by kernel_rfl))
theorem loop_r02_Mark_0 : ∀ F H Q, lp_r02_Mark w_r02_Check w_r02_Point w_r01_Check w_r01_Of w_r01_Less w_r02_later w_r02_worth w_r01_Div w_r01_Add w_r01_Sub 63725400 F H Q → LoopT E b_63725400 F H Q := by
 intro F H Q h
 have go := LoopT.intro (callW_ok se0_r02_Mark 5) lpb_r02_Mark_0 (R_r02_Mark_0 w_r02_Check w_r02_Point w_r01_Check w_r01_Of w_r01_Less w_r02_later w_r02_worth w_r01_Div w_r01_Add w_r01_Sub Q) (by
   intro F H h
   unfold R_r02_Mark_0 D_r02_Mark_0 at h
   split at h
   · exact h
   · exact h) (by
   intro n F H h
   unfold R_r02_Mark_0 D_r02_Mark_0 at h
   split at h
   · exact (body_r02_Mark_0_0 ..).mpr h
   · exact h.elim)
 have h : D_r02_Mark_0 F H _ := h
 unfold D_r02_Mark_0 at h
 split at h
 · obtain ⟨n, h⟩ := h; exact go n _ _ h
 · exact h.elim
theorem eq_r02_Mark (a0 a1 a2 a3 a4 a5 a6 a7 a8 a9 p0 p1 p2 p3 p4 p5 p6 K) : WP (S0_r02_Mark a0 a1 a2 a3 a4 a5 a6 a7 a8 a9) 6 t_r02_Mark [(.agg [(.int .i64 p0), (.data p1), (.data p2)]), (.agg [(.int .i64 p3), (.int .i64 p4)]), (.agg [(.int .i64 p5), (.int .i64 p6)])] K = wv_r02_Mark a0 a1 a2 a3 a4 a5 a6 a7 a8 a9 p0 p1 p2 p3 p4 p5 p6 (fun r0 r1 r2 => K (.tup [(.agg [(.int .i64 r0), (.int .i64 r1)]), (.int .i64 r2)])) := by kernel_rfl
theorem ok_r02_Mark : OkF E wp_r02_Mark n_r02_Mark := by
 intro as K h
 unfold wp_r02_Mark pw_r02_Mark at h
 split at h
 · exact WP_ok se0_r02_Mark (LpOk_by (l := [(63725400, b_63725400)]) ⟨loop_r02_Mark_0, trivial⟩ (by kernel_rfl)) (by kernel_rfl) (by kernel_rfl) (fun _ => baseC_none (by kernel_rfl) _) ((eq_r02_Mark ..).mpr h)
 · exact h.elim
abbrev T_r02_Same : Type := Int → List PV → List PV → Int → List PV → List PV → (Bool → Prop) → Prop
def L_r02_Same_0_0 (x12537700_0 : Bool → Prop) (x12537700_1 : Int → List PV → List PV → Int → List PV → List PV → Int → Bool → Prop) : Nat → Int → List PV → List PV → Int → List PV → List PV → Int → Prop
 | 0, _, _, _, _, _, _, _ => False
 | n12537700 + 1, i0, l1, l2, i3, l4, l5, i6 =>
 (cbr (decide (i6 < (((List.length l1) : Nat) : Int)))
 (asr (decide ((0 : Int) ≤ i6))
 (asr (decide (i6 < (((List.length l1) : Nat) : Int)))
 (asr (conf (.one (.i .i64)) (List.getD l1 (i6.toNat) .nils))
 (asr (decide ((0 : Int) ≤ i6))
 (asr (decide (i6 < (((List.length l4) : Nat) : Int)))
 (asr (conf (.one (.i .i64)) (List.getD l4 (i6.toNat) .nils))
 (cbr ((intOfV (List.getD l1 (i6.toNat) .nils)) != (intOfV (List.getD l4 (i6.toNat) .nils)))
 (x12537700_0 false)
 (L_r02_Same_0_0 x12537700_0 x12537700_1 n12537700 i0 l1 l2 i3 l4 l5 (IntKind.i64.wrap (i6 + (1 : Int)))))))))))
 (x12537700_1 i0 l1 l2 i3 l4 l5 i6 false))
def L_r02_Same_1_0 (x12537701_0 : Bool → Prop) (x12537701_1 : Int → List PV → List PV → Int → List PV → List PV → Int → Bool → Prop) : Nat → Int → List PV → List PV → Int → List PV → List PV → Int → Prop
 | 0, _, _, _, _, _, _, _ => False
 | n12537701 + 1, i0, l1, l2, i3, l4, l5, i6 =>
 (cbr (decide (i6 < (((List.length l2) : Nat) : Int)))
 (asr (decide ((0 : Int) ≤ i6))
 (asr (decide (i6 < (((List.length l2) : Nat) : Int)))
 (asr (conf (.one (.i .i64)) (List.getD l2 (i6.toNat) .nils))
 (asr (decide ((0 : Int) ≤ i6))
 (asr (decide (i6 < (((List.length l5) : Nat) : Int)))
 (asr (conf (.one (.i .i64)) (List.getD l5 (i6.toNat) .nils))
 (cbr ((intOfV (List.getD l2 (i6.toNat) .nils)) != (intOfV (List.getD l5 (i6.toNat) .nils)))
 (x12537701_0 false)
 (L_r02_Same_1_0 x12537701_0 x12537701_1 n12537701 i0 l1 l2 i3 l4 l5 (IntKind.i64.wrap (i6 + (1 : Int)))))))))))
 (x12537701_1 i0 l1 l2 i3 l4 l5 i6 false))
def wv_r02_Same (p0 : Int) (p1 p2 : List PV) (p3 : Int) (p4 p5 : List PV) (K : Bool → Prop) : Prop :=
 (cbr (p0 != p3)
 (K false)
 (cbr ((((List.length p1) : Nat) : Int) != (((List.length p4) : Nat) : Int))
 (K false)
 (cbr ((((List.length p2) : Nat) : Int) != (((List.length p5) : Nat) : Int))
 (K false)
 (∃ n12537700 : Nat, L_r02_Same_0_0
 (fun yb0 => (K yb0))
 (fun yi1 yl2 yl3 yi4 yl5 yl6 _ _ => (∃ n12537701 : Nat, L_r02_Same_1_0
 (fun yb9 => (K yb9))
 (fun _ _ _ _ _ _ _ _ => (K true))
 n12537701 yi1 yl2 yl3 yi4 yl5 yl6 (0 : Int)))
 n12537700 p0 p1 p2 p3 p4 p5 (0 : Int)))))
def w_r02_Same (p0 : Int) (p1 p2 : List PV) (p3 : Int) (p4 p5 : List PV) (K : Bool → Prop) : Prop := wv_r02_Same p0 p1 p2 p3 p4 p5 K
def pw_r02_Same (w : T_r02_Same) (as : List PV) (K : PV → Prop) : Prop :=
 match as with
 | [(.agg [(.int .i64 p0), (.data p1), (.data p2)]), (.agg [(.int .i64 p3), (.data p4), (.data p5)])] => w p0 p1 p2 p3 p4 p5 (fun r0 => K (.bool r0))
 | _ => False
def wp_r02_Same (as : List PV) (K : PV → Prop) : Prop := pw_r02_Same w_r02_Same as K
def D_r02_Same_0 (F : Frm) (H : Hp) (A0 : Int → List PV → List PV → Int → List PV → List PV → Int → Prop) : Prop :=
 match F, H with
 | [(2, .box (.agg [(.int .i64 i0), (.data l1), (.data l2)])), (3, .box (.agg [(.int .i64 i3), (.data l4), (.data l5)])), (5, .v (.int .i64 i6))], [] => (A0 i0 l1 l2 i3 l4 l5 i6)
 | _, _ => False
def D_r02_Same_1 (F : Frm) (H : Hp) (A0 : Int → List PV → List PV → Int → List PV → List PV → Int → Prop) : Prop :=
 match F, H with
 | [(2, .box (.agg [(.int .i64 i0), (.data l1), (.data l2)])), (3, .box (.agg [(.int .i64 i3), (.data l4), (.data l5)])), (6, .v (.int .i64 i6))], [] => (A0 i0 l1 l2 i3 l4 l5 i6)
 | _, _ => False
def R_r02_Same_0 (Q : Ex → Frm → Hp → Prop) (n : Nat) (F : Frm) (H : Hp) : Prop := D_r02_Same_0 F H (fun i0 l1 l2 i3 l4 l5 i6 => L_r02_Same_0_0 (fun b0 => Q .ret [(4, .v (.bool b0))] []) (fun i0 l1 l2 i3 l4 l5 i6 b7 => Q (.exit 0) [(2, .box (.agg [(.int .i64 i0), (.data l1), (.data l2)])), (3, .box (.agg [(.int .i64 i3), (.data l4), (.data l5)])), (5, .v (.int .i64 i6)), (34, .v (.bool b7))] []) n i0 l1 l2 i3 l4 l5 i6)
def R_r02_Same_1 (Q : Ex → Frm → Hp → Prop) (n : Nat) (F : Frm) (H : Hp) : Prop := D_r02_Same_1 F H (fun i0 l1 l2 i3 l4 l5 i6 => L_r02_Same_1_0 (fun b0 => Q .ret [(4, .v (.bool b0))] []) (fun i0 l1 l2 i3 l4 l5 i6 b7 => Q (.exit 2) [(2, .box (.agg [(.int .i64 i0), (.data l1), (.data l2)])), (3, .box (.agg [(.int .i64 i3), (.data l4), (.data l5)])), (6, .v (.int .i64 i6)), (52, .v (.bool b7))] []) n i0 l1 l2 i3 l4 l5 i6)
def lp_r02_Same : LP := fun id F H Q =>
 bif Nat.beq id 12537700 then D_r02_Same_0 F H (fun i0 l1 l2 i3 l4 l5 i6 => ∃ n : Nat, L_r02_Same_0_0 (fun b0 => Q .ret [(4, .v (.bool b0))] []) (fun i0 l1 l2 i3 l4 l5 i6 b7 => Q (.exit 0) [(2, .box (.agg [(.int .i64 i0), (.data l1), (.data l2)])), (3, .box (.agg [(.int .i64 i3), (.data l4), (.data l5)])), (5, .v (.int .i64 i6)), (34, .v (.bool b7))] []) n i0 l1 l2 i3 l4 l5 i6) else
 bif Nat.beq id 12537701 then D_r02_Same_1 F H (fun i0 l1 l2 i3 l4 l5 i6 => ∃ n : Nat, L_r02_Same_1_0 (fun b0 => Q .ret [(4, .v (.bool b0))] []) (fun i0 l1 l2 i3 l4 l5 i6 b7 => Q (.exit 2) [(2, .box (.agg [(.int .i64 i0), (.data l1), (.data l2)])), (3, .box (.agg [(.int .i64 i3), (.data l4), (.data l5)])), (6, .v (.int .i64 i6)), (52, .v (.bool b7))] []) n i0 l1 l2 i3 l4 l5 i6) else
 False
def S0_r02_Same : SE := ⟨E, lookS [], lookI [], lp_r02_Same⟩
theorem se0_r02_Same : SEOk (S0_r02_Same) := seOk_of trivial trivial
theorem body_r02_Same_0_0 ( Q n i0 l1 l2 i3 l4 l5 i6) : WC E (callW (S0_r02_Same) 5) (lp_r02_Same) b_12537700 [(2, .box (.agg [(.int .i64 i0), (.data l1), (.data l2)])), (3, .box (.agg [(.int .i64 i3), (.data l4), (.data l5)])), (5, .v (.int .i64 i6))] [] (fun x F' H' => match x with | .norm => R_r02_Same_0 Q n F' H' | .exit i => Q (.exit i) F' H' | .ret => Q .ret F' H') = L_r02_Same_0_0 (fun b0 => Q .ret [(4, .v (.bool b0))] []) (fun i0 l1 l2 i3 l4 l5 i6 b7 => Q (.exit 0) [(2, .box (.agg [(.int .i64 i0), (.data l1), (.data l2)])), (3, .box (.agg [(.int .i64 i3), (.data l4), (.data l5)])), (5, .v (.int .i64 i6)), (34, .v (.bool b7))] []) (n + 1) i0 l1 l2 i3 l4 l5 i6 := by kernel_rfl
theorem lpb_r02_Same_0 : LpOk E (lp_r02_Same) b_12537700 := (LpOk_no (by kernel_rfl))
theorem loop_r02_Same_0 : ∀ F H Q, lp_r02_Same 12537700 F H Q → LoopT E b_12537700 F H Q := by
 intro F H Q h
 have go := LoopT.intro (callW_ok se0_r02_Same 5) lpb_r02_Same_0 (R_r02_Same_0 Q) (by
   intro F H h
   unfold R_r02_Same_0 D_r02_Same_0 at h
   split at h
   · exact h
   · exact h) (by
   intro n F H h
   unfold R_r02_Same_0 D_r02_Same_0 at h
   split at h
   · exact (body_r02_Same_0_0 ..).mpr h
   · exact h.elim)
 have h : D_r02_Same_0 F H _ := h
 unfold D_r02_Same_0 at h
 split at h
 · obtain ⟨n, h⟩ := h; exact go n _ _ h
 · exact h.elim
theorem body_r02_Same_1_0 ( Q n i0 l1 l2 i3 l4 l5 i6) : WC E (callW (S0_r02_Same) 5) (lp_r02_Same) b_12537701 [(2, .box (.agg [(.int .i64 i0), (.data l1), (.data l2)])), (3, .box (.agg [(.int .i64 i3), (.data l4), (.data l5)])), (6, .v (.int .i64 i6))] [] (fun x F' H' => match x with | .norm => R_r02_Same_1 Q n F' H' | .exit i => Q (.exit i) F' H' | .ret => Q .ret F' H') = L_r02_Same_1_0 (fun b0 => Q .ret [(4, .v (.bool b0))] []) (fun i0 l1 l2 i3 l4 l5 i6 b7 => Q (.exit 2) [(2, .box (.agg [(.int .i64 i0), (.data l1), (.data l2)])), (3, .box (.agg [(.int .i64 i3), (.data l4), (.data l5)])), (6, .v (.int .i64 i6)), (52, .v (.bool b7))] []) (n + 1) i0 l1 l2 i3 l4 l5 i6 := by kernel_rfl
theorem lpb_r02_Same_1 : LpOk E (lp_r02_Same) b_12537701 := (LpOk_no (by kernel_rfl))
theorem loop_r02_Same_1 : ∀ F H Q, lp_r02_Same 12537701 F H Q → LoopT E b_12537701 F H Q := by
 intro F H Q h
 have go := LoopT.intro (callW_ok se0_r02_Same 5) lpb_r02_Same_1 (R_r02_Same_1 Q) (by
   intro F H h
   unfold R_r02_Same_1 D_r02_Same_1 at h
   split at h
   · exact h
   · exact h) (by
   intro n F H h
   unfold R_r02_Same_1 D_r02_Same_1 at h
   split at h
   · exact (body_r02_Same_1_0 ..).mpr h
   · exact h.elim)
 have h : D_r02_Same_1 F H _ := h
 unfold D_r02_Same_1 at h
 split at h
 · obtain ⟨n, h⟩ := h; exact go n _ _ h
 · exact h.elim
theorem eq_r02_Same ( p0 p1 p2 p3 p4 p5 K) : WP (S0_r02_Same) 6 t_r02_Same [(.agg [(.int .i64 p0), (.data p1), (.data p2)]), (.agg [(.int .i64 p3), (.data p4), (.data p5)])] K = wv_r02_Same p0 p1 p2 p3 p4 p5 (fun r0 => K (.bool r0)) := by kernel_rfl
theorem ok_r02_Same : OkF E wp_r02_Same n_r02_Same := by
 intro as K h
 unfold wp_r02_Same pw_r02_Same at h
 split at h
 · exact WP_ok se0_r02_Same (LpOk_by (l := [(12537700, b_12537700), (12537701, b_12537701)]) ⟨loop_r02_Same_0, loop_r02_Same_1, trivial⟩ (by kernel_rfl)) (by kernel_rfl) (by kernel_rfl) (fun _ => baseC_none (by kernel_rfl) _) ((eq_r02_Same ..).mpr h)
 · exact h.elim
end Go.Pf.Vc
namespace Go.Pf.Vc
open Go Go.Pf
set_option linter.unusedVariables false
theorem det_r02_Check (p0 : Int) (p1 : List PV) (p2 : List PV) (r0 : Int) (h : ∀ K : Int → Prop, K r0 → w_r02_Check p0 p1 p2 K) (K : Int → Prop) : w_r02_Check p0 p1 p2 K = K r0 :=
 propext ⟨fun k => detC ok_r02_Check (as := [(.agg [(.int .i64 p0), (.data p1), (.data p2)])]) (x := (.int .i64 r0)) (fun K' k' => h (fun r0 => K' (.int .i64 r0)) k') (K := fun x => match x with | (.int .i64 r0) => K r0 | _ => False) k, h K⟩
theorem det_r02_Whole (p0 : Int) (p1 : List PV) (p2 : List PV) (r0 : Int) (h : ∀ K : Int → Prop, K r0 → w_r02_Whole p0 p1 p2 K) (K : Int → Prop) : w_r02_Whole p0 p1 p2 K = K r0 :=
 propext ⟨fun k => detC ok_r02_Whole (as := [(.agg [(.int .i64 p0), (.data p1), (.data p2)])]) (x := (.int .i64 r0)) (fun K' k' => h (fun r0 => K' (.int .i64 r0)) k') (K := fun x => match x with | (.int .i64 r0) => K r0 | _ => False) k, h K⟩
theorem det_r02_Value (p0 : Int) (p1 : List PV) (p2 : List PV) (p3 : Int) (p4 : Int) (p5 : Int) (p6 : Int) (r0 : Int) (r1 : Int) (r2 : Int) (h : ∀ K : Int → Int → Int → Prop, K r0 r1 r2 → w_r02_Value p0 p1 p2 p3 p4 p5 p6 K) (K : Int → Int → Int → Prop) : w_r02_Value p0 p1 p2 p3 p4 p5 p6 K = K r0 r1 r2 :=
 propext ⟨fun k => detC ok_r02_Value (as := [(.agg [(.int .i64 p0), (.data p1), (.data p2)]), (.agg [(.int .i64 p3), (.int .i64 p4)]), (.agg [(.int .i64 p5), (.int .i64 p6)])]) (x := (.tup [(.agg [(.int .i64 r0), (.int .i64 r1)]), (.int .i64 r2)])) (fun K' k' => h (fun r0 r1 r2 => K' (.tup [(.agg [(.int .i64 r0), (.int .i64 r1)]), (.int .i64 r2)])) k') (K := fun x => match x with | (.tup [(.agg [(.int .i64 r0), (.int .i64 r1)]), (.int .i64 r2)]) => K r0 r1 r2 | _ => False) k, h K⟩
theorem det_r02_Mark (p0 : Int) (p1 : List PV) (p2 : List PV) (p3 : Int) (p4 : Int) (p5 : Int) (p6 : Int) (r0 : Int) (r1 : Int) (r2 : Int) (h : ∀ K : Int → Int → Int → Prop, K r0 r1 r2 → w_r02_Mark p0 p1 p2 p3 p4 p5 p6 K) (K : Int → Int → Int → Prop) : w_r02_Mark p0 p1 p2 p3 p4 p5 p6 K = K r0 r1 r2 :=
 propext ⟨fun k => detC ok_r02_Mark (as := [(.agg [(.int .i64 p0), (.data p1), (.data p2)]), (.agg [(.int .i64 p3), (.int .i64 p4)]), (.agg [(.int .i64 p5), (.int .i64 p6)])]) (x := (.tup [(.agg [(.int .i64 r0), (.int .i64 r1)]), (.int .i64 r2)])) (fun K' k' => h (fun r0 r1 r2 => K' (.tup [(.agg [(.int .i64 r0), (.int .i64 r1)]), (.int .i64 r2)])) k') (K := fun x => match x with | (.tup [(.agg [(.int .i64 r0), (.int .i64 r1)]), (.int .i64 r2)]) => K r0 r1 r2 | _ => False) k, h K⟩
theorem det_r02_Same (p0 : Int) (p1 : List PV) (p2 : List PV) (p3 : Int) (p4 : List PV) (p5 : List PV) (r0 : Bool) (h : ∀ K : Bool → Prop, K r0 → w_r02_Same p0 p1 p2 p3 p4 p5 K) (K : Bool → Prop) : w_r02_Same p0 p1 p2 p3 p4 p5 K = K r0 :=
 propext ⟨fun k => detC ok_r02_Same (as := [(.agg [(.int .i64 p0), (.data p1), (.data p2)]), (.agg [(.int .i64 p3), (.data p4), (.data p5)])]) (x := (.bool r0)) (fun K' k' => h (fun r0 => K' (.bool r0)) k') (K := fun x => match x with | (.bool r0) => K r0 | _ => False) k, h K⟩
end Go.Pf.Vc
namespace Go.Pf.Vc
open Go Go.Pf
set_option maxRecDepth 100000
abbrev T_r04_GreatCakes : Type := List PV → (Bool → Prop) → Prop
def L_r04_GreatCakes_0_0 (a0 : T_r02_Great) (x0 : Bool → Prop) (x1 : List PV → Int → Bool → Prop) : Nat → List PV → Int → Prop
 | 0, _, _ => False
 | n + 1, l0, i1 =>
 (cbr (decide (i1 < (((List.length l0) : Nat) : Int)))
 (asr (decide ((0 : Int) ≤ i1))
 (asr (decide (i1 < (((List.length l0) : Nat) : Int)))
 (asr (conf (.agg [.i .i64, .d, .d]) (List.getD l0 (i1.toNat) .nils))
 (a0 (intOfV (cellAt (List.getD l0 (i1.toNat) .nils) 0)) (datOfV (cellAt (List.getD l0 (i1.toNat) .nils) 1)) (datOfV (cellAt (List.getD l0 (i1.toNat) .nils) 2)) (fun yb0 => 
 (cbr yb0
 (x0 true)
 (L_r04_GreatCakes_0_0 a0 x0 x1 n l0 (IntKind.i64.wrap (i1 + (1 : Int))))))))))
 (x1 l0 i1 false))
def wv_r04_GreatCakes (a0 : T_r02_Great) (p0 : List PV) (K : Bool → Prop) : Prop :=
 (∃ n : Nat, L_r04_GreatCakes_0_0 a0
 (fun yb1 => (K yb1))
 (fun yl2 _ _ => (K (decide ((((List.length yl2) : Nat) : Int) > (10 : Int)))))
 n p0 (0 : Int))
def w_r04_GreatCakes (p0 : List PV) (K : Bool → Prop) : Prop := wv_r04_GreatCakes w_r02_Great p0 K
def pw_r04_GreatCakes (w : T_r04_GreatCakes) (as : List PV) (K : PV → Prop) : Prop :=
 match as with
 | [(.data p0)] => w p0 (fun r0 => K (.bool r0))
 | _ => False
def wp_r04_GreatCakes (as : List PV) (K : PV → Prop) : Prop := pw_r04_GreatCakes w_r04_GreatCakes as K
def D_r04_GreatCakes_0 (F : Frm) (H : Hp) (A0 : List PV → Int → Prop) : Prop :=
 match F, H with
 | [(0, .v (.data l0)), (3, .v (.int .i64 i1))], [] => (A0 l0 i1)
 | _, _ => False
def R_r04_GreatCakes_0 (a0 : T_r02_Great) (Q : Ex → Frm → Hp → Prop) (n : Nat) (F : Frm) (H : Hp) : Prop := D_r04_GreatCakes_0 F H (fun l0 i1 => L_r04_GreatCakes_0_0 a0 (fun b0 => Q .ret [(2, .v (.bool b0))] []) (fun l0 i1 b2 => Q (.exit 0) [(0, .v (.data l0)), (3, .v (.int .i64 i1)), (7, .v (.bool b2))] []) n l0 i1)
def lp_r04_GreatCakes (a0 : T_r02_Great) : LP := fun id F H Q =>
 bif Nat.beq id 4277600 then D_r04_GreatCakes_0 F H (fun l0 i1 => ∃ n : Nat, L_r04_GreatCakes_0_0 a0 (fun b0 => Q .ret [(2, .v (.bool b0))] []) (fun l0 i1 b2 => Q (.exit 0) [(0, .v (.data l0)), (3, .v (.int .i64 i1)), (7, .v (.bool b2))] []) n l0 i1) else
 False
def S0_r04_GreatCakes (a0 : T_r02_Great) : SE := ⟨E, lookS [(n_r02_Great, pw_r02_Great a0)], lookI [], lp_r04_GreatCakes a0⟩
theorem se0_r04_GreatCakes : SEOk (S0_r04_GreatCakes w_r02_Great) := seOk_of ⟨ok_r02_Great, trivial⟩ trivial
theorem body_r04_GreatCakes_0_0 (a0 Q n l0 i1) : WC E (callW (S0_r04_GreatCakes a0) 5) (lp_r04_GreatCakes a0) b_4277600 [(0, .v (.data l0)), (3, .v (.int .i64 i1))] [] (fun x F' H' => match x with | .norm => R_r04_GreatCakes_0 a0 Q n F' H' | .exit i => Q (.exit i) F' H' | .ret => Q .ret F' H') = L_r04_GreatCakes_0_0 a0 (fun b0 => Q .ret [(2, .v (.bool b0))] []) (fun l0 i1 b2 => Q (.exit 0) [(0, .v (.data l0)), (3, .v (.int .i64 i1)), (7, .v (.bool b2))] []) (n + 1) l0 i1 := by kernel_rfl
theorem lpb_r04_GreatCakes_0 : LpOk E (lp_r04_GreatCakes w_r02_Great) b_4277600 := (LpOk_no (by kernel_rfl))
theorem loop_r04_GreatCakes_0 : ∀ F H Q, lp_r04_GreatCakes w_r02_Great 4277600 F H Q → LoopT E b_4277600 F H Q := by
 intro F H Q h
 have go := LoopT.intro (callW_ok se0_r04_GreatCakes 5) lpb_r04_GreatCakes_0 (R_r04_GreatCakes_0 w_r02_Great Q) (by
   intro F H h
   unfold R_r04_GreatCakes_0 D_r04_GreatCakes_0 at h
   split at h
   · exact h
   · exact h) (by
   intro n F H h
   unfold R_r04_GreatCakes_0 D_r04_GreatCakes_0 at h
   split at h
   · exact (body_r04_GreatCakes_0_0 ..).mpr h
   · exact h.elim)
 have h : D_r04_GreatCakes_0 F H _ := h
 unfold D_r04_GreatCakes_0 at h
 split at h
 · obtain ⟨n, h⟩ := h; exact go n _ _ h
 · exact h.elim
theorem eq_r04_GreatCakes (a0 p0 K) : WP (S0_r04_GreatCakes a0) 6 t_r04_GreatCakes [(.data p0)] K = wv_r04_GreatCakes a0 p0 (fun r0 => K (.bool r0)) := by kernel_rfl
theorem ok_r04_GreatCakes : OkF E wp_r04_GreatCakes n_r04_GreatCakes := by
 intro as K h
 unfold wp_r04_GreatCakes pw_r04_GreatCakes at h
 split at h
 · exact WP_ok se0_r04_GreatCakes (LpOk_by (l := [(4277600, b_4277600)]) ⟨loop_r04_GreatCakes_0, trivial⟩ (by kernel_rfl)) (by kernel_rfl) (by kernel_rfl) (fun _ => baseC_none (by kernel_rfl) _) ((eq_r04_GreatCakes ..).mpr h)
 · exact h.elim
abbrev T_r04_Check : Type := List PV → List PV → (Int → Prop) → Prop
def L_r04_Check_0_0 (a0 : T_r02_Check) (x6981300_0 : Int → Prop) (x6981300_1 : List PV → List PV → Int → Bool → Prop) : Nat → List PV → List PV → Int → Prop
 | 0, _, _, _ => False
 | n6981300 + 1, l0, l1, i2 =>
 (cbr (decide (i2 < (((List.length l0) : Nat) : Int)))
 (asr (decide ((0 : Int) ≤ i2))
 (asr (decide (i2 < (((List.length l0) : Nat) : Int)))
 (asr (conf (.agg [.i .i64, .d, .d]) (List.getD l0 (i2.toNat) .nils))
 (a0 (intOfV (cellAt (List.getD l0 (i2.toNat) .nils) 0)) (datOfV (cellAt (List.getD l0 (i2.toNat) .nils) 1)) (datOfV (cellAt (List.getD l0 (i2.toNat) .nils) 2)) (fun yi0 => 
 (cbr (yi0 != (0 : Int))
 (asr (decide ((0 : Int) ≤ i2))
 (asr (decide (i2 < (((List.length l0) : Nat) : Int)))
 (asr (conf (.agg [.i .i64, .d, .d]) (List.getD l0 (i2.toNat) .nils))
 (a0 (intOfV (cellAt (List.getD l0 (i2.toNat) .nils) 0)) (datOfV (cellAt (List.getD l0 (i2.toNat) .nils) 1)) (datOfV (cellAt (List.getD l0 (i2.toNat) .nils) 2)) (fun yi1 => 
 (x6981300_0 yi1))))))
 (L_r04_Check_0_0 a0 x6981300_0 x6981300_1 n6981300 l0 l1 (IntKind.i64.wrap (i2 + (1 : Int))))))))))
 (x6981300_1 l0 l1 i2 false))
def L_r04_Check_1_0 (a0 : T_r02_Check) (x6981301_0 : Int → Prop) (x6981301_1 : List PV → List PV → Int → Bool → Prop) : Nat → List PV → List PV → Int → Prop
 | 0, _, _, _ => False
 | n6981301 + 1, l0, l1, i2 =>
 (cbr (decide (i2 < (((List.length l0) : Nat) : Int)))
 (asr (decide ((0 : Int) ≤ i2))
 (asr (decide (i2 < (((List.length l0) : Nat) : Int)))
 (asr (conf (.agg [.i .i64, .d, .d]) (List.getD l0 (i2.toNat) .nils))
 (asr (decide ((0 : Int) < (((List.length l0) : Nat) : Int)))
 (asr (conf (.agg [.i .i64, .d, .d]) (List.getD l0 0 .nils))
 (cbr ((intOfV (cellAt (List.getD l0 (i2.toNat) .nils) 0)) != (intOfV (cellAt (List.getD l0 0 .nils) 0)))
 (x6981301_0 (8 : Int))
 (L_r04_Check_1_0 a0 x6981301_0 x6981301_1 n6981301 l0 l1 (IntKind.i64.wrap (i2 + (1 : Int))))))))))
 (x6981301_1 l0 l1 i2 false))
def wv_r04_Check (a0 : T_r02_Check) (p0 p1 : List PV) (K : Int → Prop) : Prop :=
 (cbr (decide ((((List.length p0) : Nat) : Int) > (6 : Int)))
 (K (4 : Int))
 (cbr (decide ((((List.length p1) : Nat) : Int) > (2000 : Int)))
 (K (4 : Int))
 (cbr ((((List.length p0) : Nat) : Int) == (0 : Int))
 (K (8 : Int))
 (∃ n6981300 : Nat, L_r04_Check_0_0 a0
 (fun yi2 => (K yi2))
 (fun yl3 yl4 _ _ => (∃ n6981301 : Nat, L_r04_Check_1_0 a0
 (fun yi7 => (K yi7))
 (fun _ _ _ _ => (K (0 : Int)))
 n6981301 yl3 yl4 (0 : Int)))
 n6981300 p0 p1 (0 : Int)))))
def w_r04_Check (p0 p1 : List PV) (K : Int → Prop) : Prop := wv_r04_Check w_r02_Check p0 p1 K
def pw_r04_Check (w : T_r04_Check) (as : List PV) (K : PV → Prop) : Prop :=
 match as with
 | [(.agg [(.data p0), (.data p1)])] => w p0 p1 (fun r0 => K (.int .i64 r0))
 | _ => False
def wp_r04_Check (as : List PV) (K : PV → Prop) : Prop := pw_r04_Check w_r04_Check as K
def D_r04_Check_0 (F : Frm) (H : Hp) (A0 : List PV → List PV → Int → Prop) : Prop :=
 match F, H with
 | [(1, .box (.agg [(.data l0), (.data l1)])), (3, .v (.int .i64 i2))], [] => (A0 l0 l1 i2)
 | _, _ => False
def D_r04_Check_1 (F : Frm) (H : Hp) (A0 : List PV → List PV → Int → Prop) : Prop :=
 match F, H with
 | [(1, .box (.agg [(.data l0), (.data l1)])), (4, .v (.int .i64 i2))], [] => (A0 l0 l1 i2)
 | _, _ => False
def R_r04_Check_0 (a0 : T_r02_Check) (Q : Ex → Frm → Hp → Prop) (n : Nat) (F : Frm) (H : Hp) : Prop := D_r04_Check_0 F H (fun l0 l1 i2 => L_r04_Check_0_0 a0 (fun i0 => Q .ret [(2, .v (.int .i64 i0))] []) (fun l0 l1 i2 b3 => Q (.exit 0) [(1, .box (.agg [(.data l0), (.data l1)])), (3, .v (.int .i64 i2)), (23, .v (.bool b3))] []) n l0 l1 i2)
def R_r04_Check_1 (a0 : T_r02_Check) (Q : Ex → Frm → Hp → Prop) (n : Nat) (F : Frm) (H : Hp) : Prop := D_r04_Check_1 F H (fun l0 l1 i2 => L_r04_Check_1_0 a0 (fun i0 => Q .ret [(2, .v (.int .i64 i0))] []) (fun l0 l1 i2 b3 => Q (.exit 2) [(1, .box (.agg [(.data l0), (.data l1)])), (4, .v (.int .i64 i2)), (43, .v (.bool b3))] []) n l0 l1 i2)
def lp_r04_Check (a0 : T_r02_Check) : LP := fun id F H Q =>
 bif Nat.beq id 6981300 then D_r04_Check_0 F H (fun l0 l1 i2 => ∃ n : Nat, L_r04_Check_0_0 a0 (fun i0 => Q .ret [(2, .v (.int .i64 i0))] []) (fun l0 l1 i2 b3 => Q (.exit 0) [(1, .box (.agg [(.data l0), (.data l1)])), (3, .v (.int .i64 i2)), (23, .v (.bool b3))] []) n l0 l1 i2) else
 bif Nat.beq id 6981301 then D_r04_Check_1 F H (fun l0 l1 i2 => ∃ n : Nat, L_r04_Check_1_0 a0 (fun i0 => Q .ret [(2, .v (.int .i64 i0))] []) (fun l0 l1 i2 b3 => Q (.exit 2) [(1, .box (.agg [(.data l0), (.data l1)])), (4, .v (.int .i64 i2)), (43, .v (.bool b3))] []) n l0 l1 i2) else
 False
def S0_r04_Check (a0 : T_r02_Check) : SE := ⟨E, lookS [(n_r02_Check, pw_r02_Check a0)], lookI [], lp_r04_Check a0⟩
theorem se0_r04_Check : SEOk (S0_r04_Check w_r02_Check) := seOk_of ⟨ok_r02_Check, trivial⟩ trivial
theorem body_r04_Check_0_0 (a0 Q n l0 l1 i2) : WC E (callW (S0_r04_Check a0) 5) (lp_r04_Check a0) b_6981300 [(1, .box (.agg [(.data l0), (.data l1)])), (3, .v (.int .i64 i2))] [] (fun x F' H' => match x with | .norm => R_r04_Check_0 a0 Q n F' H' | .exit i => Q (.exit i) F' H' | .ret => Q .ret F' H') = L_r04_Check_0_0 a0 (fun i0 => Q .ret [(2, .v (.int .i64 i0))] []) (fun l0 l1 i2 b3 => Q (.exit 0) [(1, .box (.agg [(.data l0), (.data l1)])), (3, .v (.int .i64 i2)), (23, .v (.bool b3))] []) (n + 1) l0 l1 i2 := by kernel_rfl
theorem lpb_r04_Check_0 : LpOk E (lp_r04_Check w_r02_Check) b_6981300 := (LpOk_no (by kernel_rfl))
theorem loop_r04_Check_0 : ∀ F H Q, lp_r04_Check w_r02_Check 6981300 F H Q → LoopT E b_6981300 F H Q := by
 intro F H Q h
 have go := LoopT.intro (callW_ok se0_r04_Check 5) lpb_r04_Check_0 (R_r04_Check_0 w_r02_Check Q) (by
   intro F H h
   unfold R_r04_Check_0 D_r04_Check_0 at h
   split at h
   · exact h
   · exact h) (by
   intro n F H h
   unfold R_r04_Check_0 D_r04_Check_0 at h
   split at h
   · exact (body_r04_Check_0_0 ..).mpr h
   · exact h.elim)
 have h : D_r04_Check_0 F H _ := h
 unfold D_r04_Check_0 at h
 split at h
 · obtain ⟨n, h⟩ := h; exact go n _ _ h
 · exact h.elim
theorem body_r04_Check_1_0 (a0 Q n l0 l1 i2) : WC E (callW (S0_r04_Check a0) 5) (lp_r04_Check a0) b_6981301 [(1, .box (.agg [(.data l0), (.data l1)])), (4, .v (.int .i64 i2))] [] (fun x F' H' => match x with | .norm => R_r04_Check_1 a0 Q n F' H' | .exit i => Q (.exit i) F' H' | .ret => Q .ret F' H') = L_r04_Check_1_0 a0 (fun i0 => Q .ret [(2, .v (.int .i64 i0))] []) (fun l0 l1 i2 b3 => Q (.exit 2) [(1, .box (.agg [(.data l0), (.data l1)])), (4, .v (.int .i64 i2)), (43, .v (.bool b3))] []) (n + 1) l0 l1 i2 := by kernel_rfl
theorem lpb_r04_Check_1 : LpOk E (lp_r04_Check w_r02_Check) b_6981301 := (LpOk_no (by kernel_rfl))
theorem loop_r04_Check_1 : ∀ F H Q, lp_r04_Check w_r02_Check 6981301 F H Q → LoopT E b_6981301 F H Q := by
 intro F H Q h
 have go := LoopT.intro (callW_ok se0_r04_Check 5) lpb_r04_Check_1 (R_r04_Check_1 w_r02_Check Q) (by
   intro F H h
   unfold R_r04_Check_1 D_r04_Check_1 at h
   split at h
   · exact h
   · exact h) (by
   intro n F H h
   unfold R_r04_Check_1 D_r04_Check_1 at h
   split at h
   · exact (body_r04_Check_1_0 ..).mpr h
   · exact h.elim)
 have h : D_r04_Check_1 F H _ := h
 unfold D_r04_Check_1 at h
 split at h
 · obtain ⟨n, h⟩ := h; exact go n _ _ h
 · exact h.elim
theorem eq_r04_Check (a0 p0 p1 K) : WP (S0_r04_Check a0) 6 t_r04_Check [(.agg [(.data p0), (.data p1)])] K = wv_r04_Check a0 p0 p1 (fun r0 => K (.int .i64 r0)) := by kernel_rfl
theorem ok_r04_Check : OkF E wp_r04_Check n_r04_Check := by
 intro as K h
 unfold wp_r04_Check pw_r04_Check at h
 split at h
 · exact WP_ok se0_r04_Check (LpOk_by (l := [(6981300, b_6981300), (6981301, b_6981301)]) ⟨loop_r04_Check_0, loop_r04_Check_1, trivial⟩ (by kernel_rfl)) (by kernel_rfl) (by kernel_rfl) (fun _ => baseC_none (by kernel_rfl) _) ((eq_r04_Check ..).mpr h)
 · exact h.elim
abbrev T_r04_Twins : Type := List PV → (List PV → Prop) → Prop
mutual
def L_r04_Twins_0_0 (a0 : T_r02_Twin) (x0 : List PV → List PV → Int → Bool → Prop) (x1 : List PV → Int → Bool → Prop) : Nat → List PV → Int → Prop
 | 0, _, _ => False
 | n + 1, l0, i1 =>
 (cbr (decide (i1 < (((List.length l0) : Nat) : Int)))
 (asr (decide ((0 : Int) ≤ i1))
 (asr (decide (i1 < (((List.length l0) : Nat) : Int)))
 (asr (conf (.agg [.i .i64, .d, .d]) (List.getD l0 (i1.toNat) .nils))
 (a0 (intOfV (cellAt (List.getD l0 (i1.toNat) .nils) 0)) (datOfV (cellAt (List.getD l0 (i1.toNat) .nils) 1)) (datOfV (cellAt (List.getD l0 (i1.toNat) .nils) 2)) (fun yi0 yl1 yl2 => 
 (asr (decide ((List.length ([(.agg [(.int .i64 yi0), (.data yl1), (.data yl2)])] : List PV)) = List.length ([(.agg [(.int .i64 yi0), (.data yl1), (.data yl2)])] : List PV)) && decide ((List.length ([(.agg [(.int .i64 yi0), (.data yl1), (.data yl2)])] : List PV)) = List.length ([(.agg [(.int .i64 yi0), (.data yl1), (.data yl2)])] : List PV)))
 (L_r04_Twins_0_1 a0 x0 x1 n ([(.agg [(.int .i64 yi0), (.data yl1), (.data yl2)])] : List PV) l0 (IntKind.i64.wrap (i1 + (1 : Int))))))))))
 (x1 l0 i1 false))
def L_r04_Twins_0_1 (a0 : T_r02_Twin) (x0 : List PV → List PV → Int → Bool → Prop) (x1 : List PV → Int → Bool → Prop) : Nat → List PV → List PV → Int → Prop
 | 0, _, _, _ => False
 | n + 1, l0, l1, i4 =>
 (cbr (decide (i4 < (((List.length l1) : Nat) : Int)))
 (asr (decide ((0 : Int) ≤ i4))
 (asr (decide (i4 < (((List.length l1) : Nat) : Int)))
 (asr (conf (.agg [.i .i64, .d, .d]) (List.getD l1 (i4.toNat) .nils))
 (a0 (intOfV (cellAt (List.getD l1 (i4.toNat) .nils) 0)) (datOfV (cellAt (List.getD l1 (i4.toNat) .nils) 1)) (datOfV (cellAt (List.getD l1 (i4.toNat) .nils) 2)) (fun yi3 yl4 yl5 => 
 (asr (decide ((List.length l0) = (List.length l0)))
 (asr (decide ((0 + (List.length l0)) ≤ (List.length l0)))
 (asr (!(decide (((0 + (List.length l0)) + 1) ≤ (List.length l0))))
 (asr (decide ((List.length l0) = (List.length l0)))
 (asr (decide ((((List.length l0) + 1) + 64) * (56 + 1) ≤ room))
 (asr (decide ((List.length (l0 ++ ([(.agg [(.int .i64 yi3), (.data yl4), (.data yl5)])] : List PV))) = List.length (l0 ++ ([(.agg [(.int .i64 yi3), (.data yl4), (.data yl5)])] : List PV))) && decide ((List.length (l0 ++ ([(.agg [(.int .i64 yi3), (.data yl4), (.data yl5)])] : List PV))) = List.length (l0 ++ ([(.agg [(.int .i64 yi3), (.data yl4), (.data yl5)])] : List PV))))
 (L_r04_Twins_0_1 a0 x0 x1 n (l0 ++ ([(.agg [(.int .i64 yi3), (.data yl4), (.data yl5)])] : List PV)) l1 (IntKind.i64.wrap (i4 + (1 : Int)))))))))))))))
 (x0 l0 l1 i4 false))
end
def wv_r04_Twins (a0 : T_r02_Twin) (p0 : List PV) (K : List PV → Prop) : Prop :=
 (∃ n : Nat, L_r04_Twins_0_0 a0
 (fun yl6 _ _ _ => (asr (decide ((List.length yl6) = (List.length yl6)))
 (asr (decide ((0 + (List.length yl6)) ≤ (List.length yl6)))
 (K (List.take (List.length yl6) yl6)))))
 (fun _ _ _ => (K ([] : List PV)))
 n p0 (0 : Int))
def w_r04_Twins (p0 : List PV) (K : List PV → Prop) : Prop := wv_r04_Twins w_r02_Twin p0 K
def pw_r04_Twins (w : T_r04_Twins) (as : List PV) (K : PV → Prop) : Prop :=
 match as with
 | [(.data p0)] => w p0 (fun r0 => K (.data r0))
 | _ => False
def wp_r04_Twins (as : List PV) (K : PV → Prop) : Prop := pw_r04_Twins w_r04_Twins as K
def D_r04_Twins_0 (F : Frm) (H : Hp) (A0 : List PV → Int → Prop) (A1 : List PV → List PV → Int → Prop) : Prop :=
 match F, H with
 | [(0, .v (.data l0)), (3, .v .nils), (4, .v (.int .i64 i1))], [] => (A0 l0 i1)
 | [(0, .v (.data l1)), (3, .v (.own 0 0 t2 t3 none)), (4, .v (.int .i64 i4))], [⟨false, true, 3, l0⟩] => asr (decide (t2 = List.length l0) && decide (t3 = List.length l0)) (A1 l0 l1 i4)
 | _, _ => False
def R_r04_Twins_0 (a0 : T_r02_Twin) (Q : Ex → Frm → Hp → Prop) (n : Nat) (F : Frm) (H : Hp) : Prop := D_r04_Twins_0 F H (fun l0 i1 => L_r04_Twins_0_0 a0 (fun l0 l1 i4 b5 => Q (.exit 0) [(0, .v (.data l1)), (3, .v (.own 0 0 (List.length l0) (List.length l0) none)), (4, .v (.int .i64 i4)), (8, .v (.bool b5))] [⟨false, true, 3, l0⟩]) (fun l0 i1 b2 => Q (.exit 0) [(0, .v (.data l0)), (3, .v .nils), (4, .v (.int .i64 i1)), (8, .v (.bool b2))] []) n l0 i1) (fun l0 l1 i4 => L_r04_Twins_0_1 a0 (fun l0 l1 i4 b5 => Q (.exit 0) [(0, .v (.data l1)), (3, .v (.own 0 0 (List.length l0) (List.length l0) none)), (4, .v (.int .i64 i4)), (8, .v (.bool b5))] [⟨false, true, 3, l0⟩]) (fun l0 i1 b2 => Q (.exit 0) [(0, .v (.data l0)), (3, .v .nils), (4, .v (.int .i64 i1)), (8, .v (.bool b2))] []) n l0 l1 i4)
def lp_r04_Twins (a0 : T_r02_Twin) : LP := fun id F H Q =>
 bif Nat.beq id 44560800 then D_r04_Twins_0 F H (fun l0 i1 => ∃ n : Nat, L_r04_Twins_0_0 a0 (fun l0 l1 i4 b5 => Q (.exit 0) [(0, .v (.data l1)), (3, .v (.own 0 0 (List.length l0) (List.length l0) none)), (4, .v (.int .i64 i4)), (8, .v (.bool b5))] [⟨false, true, 3, l0⟩]) (fun l0 i1 b2 => Q (.exit 0) [(0, .v (.data l0)), (3, .v .nils), (4, .v (.int .i64 i1)), (8, .v (.bool b2))] []) n l0 i1) (fun l0 l1 i4 => ∃ n : Nat, L_r04_Twins_0_1 a0 (fun l0 l1 i4 b5 => Q (.exit 0) [(0, .v (.data l1)), (3, .v (.own 0 0 (List.length l0) (List.length l0) none)), (4, .v (.int .i64 i4)), (8, .v (.bool b5))] [⟨false, true, 3, l0⟩]) (fun l0 i1 b2 => Q (.exit 0) [(0, .v (.data l0)), (3, .v .nils), (4, .v (.int .i64 i1)), (8, .v (.bool b2))] []) n l0 l1 i4) else
 False
def S0_r04_Twins (a0 : T_r02_Twin) : SE := ⟨E, lookS [(n_r02_Twin, pw_r02_Twin a0)], lookI [], lp_r04_Twins a0⟩
theorem se0_r04_Twins : SEOk (S0_r04_Twins w_r02_Twin) := seOk_of ⟨ok_r02_Twin, trivial⟩ trivial
theorem body_r04_Twins_0_0 (a0 Q n l0 i1) : WC E (callW (S0_r04_Twins a0) 5) (lp_r04_Twins a0) b_44560800 [(0, .v (.data l0)), (3, .v .nils), (4, .v (.int .i64 i1))] [] (fun x F' H' => match x with | .norm => R_r04_Twins_0 a0 Q n F' H' | .exit i => Q (.exit i) F' H' | .ret => Q .ret F' H') = L_r04_Twins_0_0 a0 (fun l0 l1 i4 b5 => Q (.exit 0) [(0, .v (.data l1)), (3, .v (.own 0 0 (List.length l0) (List.length l0) none)), (4, .v (.int .i64 i4)), (8, .v (.bool b5))] [⟨false, true, 3, l0⟩]) (fun l0 i1 b2 => Q (.exit 0) [(0, .v (.data l0)), (3, .v .nils), (4, .v (.int .i64 i1)), (8, .v (.bool b2))] []) (n + 1) l0 i1 := by kernel_rfl
theorem body_r04_Twins_0_1 (a0 Q n l0 l1 i4) : WC E (callW (S0_r04_Twins a0) 5) (lp_r04_Twins a0) b_44560800 [(0, .v (.data l1)), (3, .v (.own 0 0 (List.length l0) (List.length l0) none)), (4, .v (.int .i64 i4))] [⟨false, true, 3, l0⟩] (fun x F' H' => match x with | .norm => R_r04_Twins_0 a0 Q n F' H' | .exit i => Q (.exit i) F' H' | .ret => Q .ret F' H') = L_r04_Twins_0_1 a0 (fun l0 l1 i4 b5 => Q (.exit 0) [(0, .v (.data l1)), (3, .v (.own 0 0 (List.length l0) (List.length l0) none)), (4, .v (.int .i64 i4)), (8, .v (.bool b5))] [⟨false, true, 3, l0⟩]) (fun l0 i1 b2 => Q (.exit 0) [(0, .v (.data l0)), (3, .v .nils), (4, .v (.int .i64 i1)), (8, .v (.bool b2))] []) (n + 1) l0 l1 i4 := by kernel_rfl
theorem lpb_r04_Twins_0 : LpOk E (lp_r04_Twins w_r02_Twin) b_44560800 := (LpOk_no (by kernel_rfl))
theorem loop_r04_Twins_0 : ∀ F H Q, lp_r04_Twins w_r02_Twin 44560800 F H Q → LoopT E b_44560800 F H Q := by
 intro F H Q h
 have go := LoopT.intro (callW_ok se0_r04_Twins 5) lpb_r04_Twins_0 (R_r04_Twins_0 w_r02_Twin Q) (by
   intro F H h
   unfold R_r04_Twins_0 D_r04_Twins_0 at h
   split at h
   · exact h
   · obtain ⟨hg, k⟩ := asr_iff.1 h
     clear h
     have h := k
     clear k
     try simp only [Bool.and_eq_true, decide_eq_true_eq] at hg
     obtain ⟨g0, g1⟩ := hg; subst g0; subst g1; exact h
   · exact h) (by
   intro n F H h
   unfold R_r04_Twins_0 D_r04_Twins_0 at h
   split at h
   · exact (body_r04_Twins_0_0 ..).mpr h
   · obtain ⟨hg, k⟩ := asr_iff.1 h
     clear h
     have h := k
     clear k
     try simp only [Bool.and_eq_true, decide_eq_true_eq] at hg
     obtain ⟨g0, g1⟩ := hg; subst g0; subst g1; exact (body_r04_Twins_0_1 ..).mpr h
   · exact h.elim)
 have h : D_r04_Twins_0 F H _ _ := h
 unfold D_r04_Twins_0 at h
 split at h
 · obtain ⟨n, h⟩ := h; exact go n _ _ h
 · obtain ⟨hg, n, h⟩ := asr_iff.1 h; exact go n _ _ (asr_iff.2 ⟨hg, h⟩)
 · exact h.elim
theorem eq_r04_Twins (a0 p0 K) : WP (S0_r04_Twins a0) 6 t_r04_Twins [(.data p0)] K = wv_r04_Twins a0 p0 (fun r0 => K (.data r0)) := by kernel_rfl
theorem ok_r04_Twins : OkF E wp_r04_Twins n_r04_Twins := by
 intro as K h
 unfold wp_r04_Twins pw_r04_Twins at h
 split at h
 · exact WP_ok se0_r04_Twins (LpOk_by (l := [(44560800, b_44560800)]) ⟨loop_r04_Twins_0, trivial⟩ (by kernel_rfl)) (by kernel_rfl) (by kernel_rfl) (fun _ => baseC_none (by kernel_rfl) _) ((eq_r04_Twins ..).mpr h)
 · exact h.elim
abbrev T_r04_Agent : Type := List PV → List PV → Int → (Bool → Prop) → Prop
def wv_r04_Agent (p0 _ : List PV) (p2 : Int) (K : Bool → Prop) : Prop :=
 (cbr (decide (p2 ≥ (0 : Int)))
 (K (decide (p2 < (((List.length p0) : Nat) : Int))))
 (K false))
def w_r04_Agent (p0 p1 : List PV) (p2 : Int) (K : Bool → Prop) : Prop := wv_r04_Agent p0 p1 p2 K
def pw_r04_Agent (w : T_r04_Agent) (as : List PV) (K : PV → Prop) : Prop :=
 match as with
 | [(.agg [(.data p0), (.data p1)]), (.int .i64 p2)] => w p0 p1 p2 (fun r0 => K (.bool r0))
 | _ => False
def wp_r04_Agent (as : List PV) (K : PV → Prop) : Prop := pw_r04_Agent w_r04_Agent as K
def lp_r04_Agent : LP := fun _ _ _ _ =>
 False
def S0_r04_Agent : SE := ⟨E, lookS [], lookI [], lp_r04_Agent⟩
theorem se0_r04_Agent : SEOk (S0_r04_Agent) := seOk_of trivial trivial
theorem eq_r04_Agent ( p0 p1 p2 K) : WP (S0_r04_Agent) 6 t_r04_Agent [(.agg [(.data p0), (.data p1)]), (.int .i64 p2)] K = wv_r04_Agent p0 p1 p2 (fun r0 => K (.bool r0)) := by kernel_rfl
theorem ok_r04_Agent : OkF E wp_r04_Agent n_r04_Agent := by
 intro as K h
 unfold wp_r04_Agent pw_r04_Agent at h
 split at h
 · exact WP_ok se0_r04_Agent (LpOk_no (by kernel_rfl)) (by kernel_rfl) (by kernel_rfl) (fun _ => baseC_none (by kernel_rfl) _) ((eq_r04_Agent ..).mpr h)
 · exact h.elim
abbrev T_r04_answer : Type := List PV → Int → Int → Int → Int → Int → Int → Int → Int → (Int → Int → Int → Prop) → Prop
def wv_r04_answer (a0 : T_r02_Value) (a1 : T_r02_Mark) (p0 : List PV) (p1 p2 p3 p4 p5 p6 _ _ : Int) (K : Int → Int → Int → Prop) : Prop :=
 (cbr (p2 == (1 : Int))
 (asr (decide ((0 : Int) ≤ p1))
 (asr (decide (p1 < (((List.length p0) : Nat) : Int)))
 (asr (conf (.agg [.i .i64, .d, .d]) (List.getD p0 (p1.toNat) .nils))
 (a0 (intOfV (cellAt (List.getD p0 (p1.toNat) .nils) 0)) (datOfV (cellAt (List.getD p0 (p1.toNat) .nils) 1)) (datOfV (cellAt (List.getD p0 (p1.toNat) .nils) 2)) p3 p4 p5 p6 (fun yi0 yi1 yi2 => 
 (K yi0 yi1 yi2))))))
 (asr (decide ((0 : Int) ≤ p1))
 (asr (decide (p1 < (((List.length p0) : Nat) : Int)))
 (asr (conf (.agg [.i .i64, .d, .d]) (List.getD p0 (p1.toNat) .nils))
 (a1 (intOfV (cellAt (List.getD p0 (p1.toNat) .nils) 0)) (datOfV (cellAt (List.getD p0 (p1.toNat) .nils) 1)) (datOfV (cellAt (List.getD p0 (p1.toNat) .nils) 2)) p3 p4 p5 p6 (fun yi3 yi4 yi5 => 
 (K yi3 yi4 yi5)))))))
def w_r04_answer (p0 : List PV) (p1 p2 p3 p4 p5 p6 p7 p8 : Int) (K : Int → Int → Int → Prop) : Prop := wv_r04_answer w_r02_Value w_r02_Mark p0 p1 p2 p3 p4 p5 p6 p7 p8 K
def pw_r04_answer (w : T_r04_answer) (as : List PV) (K : PV → Prop) : Prop :=
 match as with
 | [(.data p0), (.agg [(.int .i64 p1), (.int .u8 p2), (.int .i64 p3), (.int .i64 p4), (.int .i64 p5), (.int .i64 p6), (.int .i64 p7), (.int .i64 p8)])] => w p0 p1 p2 p3 p4 p5 p6 p7 p8 (fun r0 r1 r2 => K (.tup [(.agg [(.int .i64 r0), (.int .i64 r1)]), (.int .i64 r2)]))
 | _ => False
def wp_r04_answer (as : List PV) (K : PV → Prop) : Prop := pw_r04_answer w_r04_answer as K
def lp_r04_answer (_ : T_r02_Value) (_ : T_r02_Mark) : LP := fun _ _ _ _ =>
 False
def S0_r04_answer (a0 : T_r02_Value) (a1 : T_r02_Mark) : SE := ⟨E, lookS [(n_r02_Value, pw_r02_Value a0), (n_r02_Mark, pw_r02_Mark a1)], lookI [], lp_r04_answer a0 a1⟩
theorem se0_r04_answer : SEOk (S0_r04_answer w_r02_Value w_r02_Mark) := seOk_of ⟨ok_r02_Value, ok_r02_Mark, trivial⟩ trivial
theorem eq_r04_answer (a0 a1 p0 p1 p2 p3 p4 p5 p6 p7 p8 K) : WP (S0_r04_answer a0 a1) 6 t_r04_answer [(.data p0), (.agg [(.int .i64 p1), (.int .u8 p2), (.int .i64 p3), (.int .i64 p4), (.int .i64 p5), (.int .i64 p6), (.int .i64 p7), (.int .i64 p8)])] K = wv_r04_answer a0 a1 p0 p1 p2 p3 p4 p5 p6 p7 p8 (fun r0 r1 r2 => K (.tup [(.agg [(.int .i64 r0), (.int .i64 r1)]), (.int .i64 r2)])) := by kernel_rfl
theorem ok_r04_answer : OkF E wp_r04_answer n_r04_answer := by
 intro as K h
 unfold wp_r04_answer pw_r04_answer at h
 split at h
 · exact WP_ok se0_r04_answer (LpOk_no (by kernel_rfl)) (by kernel_rfl) (by kernel_rfl) (fun _ => baseC_none (by kernel_rfl) _) ((eq_r04_answer ..).mpr h)
 · exact h.elim
abbrev T_r04_asked : Type := List PV → List PV → Int → Int → Int → Int → Int → Int → Int → Int → (List PV → List PV → Int → Int → Int → Prop) → Prop
def wv_r04_asked (a0 : T_r04_Check) (a1 : T_r04_Agent) (a2 : T_r04_answer) (a3 : T_r04_Twins) (p0 p1 : List PV) (p2 p3 p4 p5 p6 p7 p8 p9 : Int) (K : List PV → List PV → Int → Int → Int → Prop) : Prop :=
 (a0 p0 p1 (fun yi0 => 
 (cbr (yi0 != (0 : Int))
 (a0 p0 p1 (fun yi1 => 
 (K ([] : List PV) ([] : List PV) (0 : Int) (0 : Int) yi1)))
 (a1 p0 p1 p2 (fun yb2 => 
 (cbr (!yb2)
 (K ([] : List PV) ([] : List PV) (0 : Int) (0 : Int) (2 : Int))
 (a2 p0 p2 p3 p4 p5 p6 p7 p8 p9 (fun yi3 yi4 yi5 => 
 (cbr (yi5 != (0 : Int))
 (K ([] : List PV) ([] : List PV) (0 : Int) (0 : Int) yi5)
 (cbr ((((List.length p1) : Nat) : Int) == (2000 : Int))
 (K ([] : List PV) ([] : List PV) (0 : Int) (0 : Int) (4 : Int))
 (a3 p0 (fun yl6 => 
 (asr (headOk 8 p1)
 (cbr (List.isEmpty p1)
 (K yl6 ([(.agg [(.int .i64 p2), (.int .u8 p3), (.int .i64 p4), (.int .i64 p5), (.int .i64 p6), (.int .i64 p7), (.int .i64 yi3), (.int .i64 yi4)])] : List PV) yi3 yi4 (0 : Int))
 (asr (decide (((List.length p1) + 64) * (64 + 1) ≤ room))
 (asr (decide ((List.length p1) = (List.length p1)))
 (asr (decide ((0 + (List.length p1)) ≤ (List.length p1)))
 (asr (!(decide (((0 + (List.length p1)) + 1) ≤ (List.length p1))))
 (asr (decide ((List.length p1) = (List.length p1)))
 (asr (decide ((((List.length p1) + 1) + 64) * (64 + 1) ≤ room))
 (asr (decide ((List.length (p1 ++ ([(.agg [(.int .i64 p2), (.int .u8 p3), (.int .i64 p4), (.int .i64 p5), (.int .i64 p6), (.int .i64 p7), (.int .i64 yi3), (.int .i64 yi4)])] : List PV))) = (List.length (p1 ++ ([(.agg [(.int .i64 p2), (.int .u8 p3), (.int .i64 p4), (.int .i64 p5), (.int .i64 p6), (.int .i64 p7), (.int .i64 yi3), (.int .i64 yi4)])] : List PV)))))
 (asr (decide ((0 + (List.length (p1 ++ ([(.agg [(.int .i64 p2), (.int .u8 p3), (.int .i64 p4), (.int .i64 p5), (.int .i64 p6), (.int .i64 p7), (.int .i64 yi3), (.int .i64 yi4)])] : List PV)))) ≤ (List.length (p1 ++ ([(.agg [(.int .i64 p2), (.int .u8 p3), (.int .i64 p4), (.int .i64 p5), (.int .i64 p6), (.int .i64 p7), (.int .i64 yi3), (.int .i64 yi4)])] : List PV)))))
 (K yl6 (List.take (List.length (p1 ++ ([(.agg [(.int .i64 p2), (.int .u8 p3), (.int .i64 p4), (.int .i64 p5), (.int .i64 p6), (.int .i64 p7), (.int .i64 yi3), (.int .i64 yi4)])] : List PV))) (p1 ++ ([(.agg [(.int .i64 p2), (.int .u8 p3), (.int .i64 p4), (.int .i64 p5), (.int .i64 p6), (.int .i64 p7), (.int .i64 yi3), (.int .i64 yi4)])] : List PV))) yi3 yi4 (0 : Int))))))))))))))))))))))))
def w_r04_asked (p0 p1 : List PV) (p2 p3 p4 p5 p6 p7 p8 p9 : Int) (K : List PV → List PV → Int → Int → Int → Prop) : Prop := wv_r04_asked w_r04_Check w_r04_Agent w_r04_answer w_r04_Twins p0 p1 p2 p3 p4 p5 p6 p7 p8 p9 K
def pw_r04_asked (w : T_r04_asked) (as : List PV) (K : PV → Prop) : Prop :=
 match as with
 | [(.agg [(.data p0), (.data p1)]), (.agg [(.int .i64 p2), (.int .u8 p3), (.int .i64 p4), (.int .i64 p5), (.int .i64 p6), (.int .i64 p7), (.int .i64 p8), (.int .i64 p9)])] => w p0 p1 p2 p3 p4 p5 p6 p7 p8 p9 (fun r0 r1 r2 r3 r4 => K (.tup [(.agg [(.data r0), (.data r1)]), (.agg [(.int .i64 r2), (.int .i64 r3)]), (.int .i64 r4)]))
 | _ => False
def wp_r04_asked (as : List PV) (K : PV → Prop) : Prop := pw_r04_asked w_r04_asked as K
def lp_r04_asked (_ : T_r04_Check) (_ : T_r04_Agent) (_ : T_r04_answer) (_ : T_r04_Twins) : LP := fun _ _ _ _ =>
 False
def S0_r04_asked (a0 : T_r04_Check) (a1 : T_r04_Agent) (a2 : T_r04_answer) (a3 : T_r04_Twins) : SE := ⟨E, lookS [(n_r04_Check, pw_r04_Check a0), (n_r04_Agent, pw_r04_Agent a1), (n_r04_answer, pw_r04_answer a2), (n_r04_Twins, pw_r04_Twins a3)], lookI [], lp_r04_asked a0 a1 a2 a3⟩
theorem se0_r04_asked : SEOk (S0_r04_asked w_r04_Check w_r04_Agent w_r04_answer w_r04_Twins) := seOk_of ⟨ok_r04_Check, ok_r04_Agent, ok_r04_answer, ok_r04_Twins, trivial⟩ trivial
theorem eq_r04_asked (a0 a1 a2 a3 p0 p1 p2 p3 p4 p5 p6 p7 p8 p9 K) : WP (S0_r04_asked a0 a1 a2 a3) 6 t_r04_asked [(.agg [(.data p0), (.data p1)]), (.agg [(.int .i64 p2), (.int .u8 p3), (.int .i64 p4), (.int .i64 p5), (.int .i64 p6), (.int .i64 p7), (.int .i64 p8), (.int .i64 p9)])] K = wv_r04_asked a0 a1 a2 a3 p0 p1 p2 p3 p4 p5 p6 p7 p8 p9 (fun r0 r1 r2 r3 r4 => K (.tup [(.agg [(.data r0), (.data r1)]), (.agg [(.int .i64 r2), (.int .i64 r3)]), (.int .i64 r4)])) := by kernel_rfl
theorem ok_r04_asked : OkF E wp_r04_asked n_r04_asked := by
 intro as K h
 unfold wp_r04_asked pw_r04_asked at h
 split at h
 · exact WP_ok se0_r04_asked (LpOk_no (by kernel_rfl)) (by kernel_rfl) (by kernel_rfl) (fun _ => baseC_none (by kernel_rfl) _) ((eq_r04_asked ..).mpr h)
 · exact h.elim
abbrev T_r04_Mark : Type := List PV → List PV → Int → Int → Int → Int → Int → (List PV → List PV → Int → Int → Int → Prop) → Prop
def wv_r04_Mark (a0 : T_r04_asked) (p0 p1 : List PV) (p2 p3 p4 p5 p6 : Int) (K : List PV → List PV → Int → Int → Int → Prop) : Prop :=
 (a0 p0 p1 p2 (2 : Int) p3 p4 p5 p6 (0 : Int) (0 : Int) (fun yl0 yl1 yi2 yi3 yi4 => 
 (K yl0 yl1 yi2 yi3 yi4)))
def w_r04_Mark (p0 p1 : List PV) (p2 p3 p4 p5 p6 : Int) (K : List PV → List PV → Int → Int → Int → Prop) : Prop := wv_r04_Mark w_r04_asked p0 p1 p2 p3 p4 p5 p6 K
def pw_r04_Mark (w : T_r04_Mark) (as : List PV) (K : PV → Prop) : Prop :=
 match as with
 | [(.agg [(.data p0), (.data p1)]), (.int .i64 p2), (.agg [(.int .i64 p3), (.int .i64 p4)]), (.agg [(.int .i64 p5), (.int .i64 p6)])] => w p0 p1 p2 p3 p4 p5 p6 (fun r0 r1 r2 r3 r4 => K (.tup [(.agg [(.data r0), (.data r1)]), (.agg [(.int .i64 r2), (.int .i64 r3)]), (.int .i64 r4)]))
 | _ => False
def wp_r04_Mark (as : List PV) (K : PV → Prop) : Prop := pw_r04_Mark w_r04_Mark as K
def lp_r04_Mark (_ : T_r04_asked) : LP := fun _ _ _ _ =>
 False
def S0_r04_Mark (a0 : T_r04_asked) : SE := ⟨E, lookS [(n_r04_asked, pw_r04_asked a0)], lookI [], lp_r04_Mark a0⟩
theorem se0_r04_Mark : SEOk (S0_r04_Mark w_r04_asked) := seOk_of ⟨ok_r04_asked, trivial⟩ trivial
theorem eq_r04_Mark (a0 p0 p1 p2 p3 p4 p5 p6 K) : WP (S0_r04_Mark a0) 6 t_r04_Mark [(.agg [(.data p0), (.data p1)]), (.int .i64 p2), (.agg [(.int .i64 p3), (.int .i64 p4)]), (.agg [(.int .i64 p5), (.int .i64 p6)])] K = wv_r04_Mark a0 p0 p1 p2 p3 p4 p5 p6 (fun r0 r1 r2 r3 r4 => K (.tup [(.agg [(.data r0), (.data r1)]), (.agg [(.int .i64 r2), (.int .i64 r3)]), (.int .i64 r4)])) := by kernel_rfl
theorem ok_r04_Mark : OkF E wp_r04_Mark n_r04_Mark := by
 intro as K h
 unfold wp_r04_Mark pw_r04_Mark at h
 split at h
 · exact WP_ok se0_r04_Mark (LpOk_no (by kernel_rfl)) (by kernel_rfl) (by kernel_rfl) (fun _ => baseC_none (by kernel_rfl) _) ((eq_r04_Mark ..).mpr h)
 · exact h.elim
abbrev T_r04_Value : Type := List PV → List PV → Int → Int → Int → Int → Int → (List PV → List PV → Int → Int → Int → Prop) → Prop
def wv_r04_Value (a0 : T_r04_asked) (p0 p1 : List PV) (p2 p3 p4 p5 p6 : Int) (K : List PV → List PV → Int → Int → Int → Prop) : Prop :=
 (a0 p0 p1 p2 (1 : Int) p3 p4 p5 p6 (0 : Int) (0 : Int) (fun yl0 yl1 yi2 yi3 yi4 => 
 (K yl0 yl1 yi2 yi3 yi4)))
def w_r04_Value (p0 p1 : List PV) (p2 p3 p4 p5 p6 : Int) (K : List PV → List PV → Int → Int → Int → Prop) : Prop := wv_r04_Value w_r04_asked p0 p1 p2 p3 p4 p5 p6 K
def pw_r04_Value (w : T_r04_Value) (as : List PV) (K : PV → Prop) : Prop :=
 match as with
 | [(.agg [(.data p0), (.data p1)]), (.int .i64 p2), (.agg [(.int .i64 p3), (.int .i64 p4)]), (.agg [(.int .i64 p5), (.int .i64 p6)])] => w p0 p1 p2 p3 p4 p5 p6 (fun r0 r1 r2 r3 r4 => K (.tup [(.agg [(.data r0), (.data r1)]), (.agg [(.int .i64 r2), (.int .i64 r3)]), (.int .i64 r4)]))
 | _ => False
def wp_r04_Value (as : List PV) (K : PV → Prop) : Prop := pw_r04_Value w_r04_Value as K
def lp_r04_Value (_ : T_r04_asked) : LP := fun _ _ _ _ =>
 False
def S0_r04_Value (a0 : T_r04_asked) : SE := ⟨E, lookS [(n_r04_asked, pw_r04_asked a0)], lookI [], lp_r04_Value a0⟩
theorem se0_r04_Value : SEOk (S0_r04_Value w_r04_asked) := seOk_of ⟨ok_r04_asked, trivial⟩ trivial
theorem eq_r04_Value (a0 p0 p1 p2 p3 p4 p5 p6 K) : WP (S0_r04_Value a0) 6 t_r04_Value [(.agg [(.data p0), (.data p1)]), (.int .i64 p2), (.agg [(.int .i64 p3), (.int .i64 p4)]), (.agg [(.int .i64 p5), (.int .i64 p6)])] K = wv_r04_Value a0 p0 p1 p2 p3 p4 p5 p6 (fun r0 r1 r2 r3 r4 => K (.tup [(.agg [(.data r0), (.data r1)]), (.agg [(.int .i64 r2), (.int .i64 r3)]), (.int .i64 r4)])) := by kernel_rfl
theorem ok_r04_Value : OkF E wp_r04_Value n_r04_Value := by
 intro as K h
 unfold wp_r04_Value pw_r04_Value at h
 split at h
 · exact WP_ok se0_r04_Value (LpOk_no (by kernel_rfl)) (by kernel_rfl) (by kernel_rfl) (fun _ => baseC_none (by kernel_rfl) _) ((eq_r04_Value ..).mpr h)
 · exact h.elim
abbrev T_r04_SameCakes : Type := List PV → List PV → (Bool → Prop) → Prop
def L_r04_SameCakes_0_0 (a0 : T_r02_Same) (x0 : Bool → Prop) (x1 : List PV → List PV → Int → Bool → Prop) : Nat → List PV → List PV → Int → Prop
 | 0, _, _, _ => False
 | n + 1, l0, l1, i2 =>
 (cbr (decide (i2 < (((List.length l0) : Nat) : Int)))
 (asr (decide ((0 : Int) ≤ i2))
 (asr (decide (i2 < (((List.length l0) : Nat) : Int)))
 (asr (conf (.agg [.i .i64, .d, .d]) (List.getD l0 (i2.toNat) .nils))
 (asr (decide ((0 : Int) ≤ i2))
 (asr (decide (i2 < (((List.length l1) : Nat) : Int)))
 (asr (conf (.agg [.i .i64, .d, .d]) (List.getD l1 (i2.toNat) .nils))
 (a0 (intOfV (cellAt (List.getD l0 (i2.toNat) .nils) 0)) (datOfV (cellAt (List.getD l0 (i2.toNat) .nils) 1)) (datOfV (cellAt (List.getD l0 (i2.toNat) .nils) 2)) (intOfV (cellAt (List.getD l1 (i2.toNat) .nils) 0)) (datOfV (cellAt (List.getD l1 (i2.toNat) .nils) 1)) (datOfV (cellAt (List.getD l1 (i2.toNat) .nils) 2)) (fun yb0 => 
 (cbr (!yb0)
 (x0 false)
 (L_r04_SameCakes_0_0 a0 x0 x1 n l0 l1 (IntKind.i64.wrap (i2 + (1 : Int)))))))))))))
 (x1 l0 l1 i2 false))
def wv_r04_SameCakes (a0 : T_r02_Same) (p0 p1 : List PV) (K : Bool → Prop) : Prop :=
 (cbr ((((List.length p0) : Nat) : Int) != (((List.length p1) : Nat) : Int))
 (K false)
 (∃ n : Nat, L_r04_SameCakes_0_0 a0
 (fun yb1 => (K yb1))
 (fun _ _ _ _ => (K true))
 n p0 p1 (0 : Int)))
def w_r04_SameCakes (p0 p1 : List PV) (K : Bool → Prop) : Prop := wv_r04_SameCakes w_r02_Same p0 p1 K
def pw_r04_SameCakes (w : T_r04_SameCakes) (as : List PV) (K : PV → Prop) : Prop :=
 match as with
 | [(.data p0), (.data p1)] => w p0 p1 (fun r0 => K (.bool r0))
 | _ => False
def wp_r04_SameCakes (as : List PV) (K : PV → Prop) : Prop := pw_r04_SameCakes w_r04_SameCakes as K
def D_r04_SameCakes_0 (F : Frm) (H : Hp) (A0 : List PV → List PV → Int → Prop) : Prop :=
 match F, H with
 | [(0, .v (.data l0)), (1, .v (.data l1)), (5, .v (.int .i64 i2))], [] => (A0 l0 l1 i2)
 | _, _ => False
def R_r04_SameCakes_0 (a0 : T_r02_Same) (Q : Ex → Frm → Hp → Prop) (n : Nat) (F : Frm) (H : Hp) : Prop := D_r04_SameCakes_0 F H (fun l0 l1 i2 => L_r04_SameCakes_0_0 a0 (fun b0 => Q .ret [(4, .v (.bool b0))] []) (fun l0 l1 i2 b3 => Q (.exit 0) [(0, .v (.data l0)), (1, .v (.data l1)), (5, .v (.int .i64 i2)), (14, .v (.bool b3))] []) n l0 l1 i2)
def lp_r04_SameCakes (a0 : T_r02_Same) : LP := fun id F H Q =>
 bif Nat.beq id 41322700 then D_r04_SameCakes_0 F H (fun l0 l1 i2 => ∃ n : Nat, L_r04_SameCakes_0_0 a0 (fun b0 => Q .ret [(4, .v (.bool b0))] []) (fun l0 l1 i2 b3 => Q (.exit 0) [(0, .v (.data l0)), (1, .v (.data l1)), (5, .v (.int .i64 i2)), (14, .v (.bool b3))] []) n l0 l1 i2) else
 False
def S0_r04_SameCakes (a0 : T_r02_Same) : SE := ⟨E, lookS [(n_r02_Same, pw_r02_Same a0)], lookI [], lp_r04_SameCakes a0⟩
theorem se0_r04_SameCakes : SEOk (S0_r04_SameCakes w_r02_Same) := seOk_of ⟨ok_r02_Same, trivial⟩ trivial
theorem body_r04_SameCakes_0_0 (a0 Q n l0 l1 i2) : WC E (callW (S0_r04_SameCakes a0) 5) (lp_r04_SameCakes a0) b_41322700 [(0, .v (.data l0)), (1, .v (.data l1)), (5, .v (.int .i64 i2))] [] (fun x F' H' => match x with | .norm => R_r04_SameCakes_0 a0 Q n F' H' | .exit i => Q (.exit i) F' H' | .ret => Q .ret F' H') = L_r04_SameCakes_0_0 a0 (fun b0 => Q .ret [(4, .v (.bool b0))] []) (fun l0 l1 i2 b3 => Q (.exit 0) [(0, .v (.data l0)), (1, .v (.data l1)), (5, .v (.int .i64 i2)), (14, .v (.bool b3))] []) (n + 1) l0 l1 i2 := by kernel_rfl
theorem lpb_r04_SameCakes_0 : LpOk E (lp_r04_SameCakes w_r02_Same) b_41322700 := (LpOk_no (by kernel_rfl))
theorem loop_r04_SameCakes_0 : ∀ F H Q, lp_r04_SameCakes w_r02_Same 41322700 F H Q → LoopT E b_41322700 F H Q := by
 intro F H Q h
 have go := LoopT.intro (callW_ok se0_r04_SameCakes 5) lpb_r04_SameCakes_0 (R_r04_SameCakes_0 w_r02_Same Q) (by
   intro F H h
   unfold R_r04_SameCakes_0 D_r04_SameCakes_0 at h
   split at h
   · exact h
   · exact h) (by
   intro n F H h
   unfold R_r04_SameCakes_0 D_r04_SameCakes_0 at h
   split at h
   · exact (body_r04_SameCakes_0_0 ..).mpr h
   · exact h.elim)
 have h : D_r04_SameCakes_0 F H _ := h
 unfold D_r04_SameCakes_0 at h
 split at h
 · obtain ⟨n, h⟩ := h; exact go n _ _ h
 · exact h.elim
theorem eq_r04_SameCakes (a0 p0 p1 K) : WP (S0_r04_SameCakes a0) 6 t_r04_SameCakes [(.data p0), (.data p1)] K = wv_r04_SameCakes a0 p0 p1 (fun r0 => K (.bool r0)) := by kernel_rfl
theorem ok_r04_SameCakes : OkF E wp_r04_SameCakes n_r04_SameCakes := by
 intro as K h
 unfold wp_r04_SameCakes pw_r04_SameCakes at h
 split at h
 · exact WP_ok se0_r04_SameCakes (LpOk_by (l := [(41322700, b_41322700)]) ⟨loop_r04_SameCakes_0, trivial⟩ (by kernel_rfl)) (by kernel_rfl) (by kernel_rfl) (fun _ => baseC_none (by kernel_rfl) _) ((eq_r04_SameCakes ..).mpr h)
 · exact h.elim
abbrev T_r04_SameLogs : Type := List PV → List PV → (Bool → Prop) → Prop
def L_r04_SameLogs_0_0 (x0 : Bool → Prop) (x1 : List PV → List PV → Int → Bool → Prop) : Nat → List PV → List PV → Int → Prop
 | 0, _, _, _ => False
 | n + 1, l0, l1, i2 =>
 (cbr (decide (i2 < (((List.length l0) : Nat) : Int)))
 (asr (decide ((0 : Int) ≤ i2))
 (asr (decide (i2 < (((List.length l0) : Nat) : Int)))
 (asr (conf (.agg [.i .i64, .i .u8, .i .i64, .i .i64, .i .i64, .i .i64, .i .i64, .i .i64]) (List.getD l0 (i2.toNat) .nils))
 (asr (decide ((0 : Int) ≤ i2))
 (asr (decide (i2 < (((List.length l1) : Nat) : Int)))
 (asr (conf (.agg [.i .i64, .i .u8, .i .i64, .i .i64, .i .i64, .i .i64, .i .i64, .i .i64]) (List.getD l1 (i2.toNat) .nils))
 (cbr (!(((intOfV (cellAt (List.getD l0 (i2.toNat) .nils) 0)) == (intOfV (cellAt (List.getD l1 (i2.toNat) .nils) 0))) && (((intOfV (cellAt (List.getD l0 (i2.toNat) .nils) 1)) == (intOfV (cellAt (List.getD l1 (i2.toNat) .nils) 1))) && (((intOfV (cellAt (List.getD l0 (i2.toNat) .nils) 2)) == (intOfV (cellAt (List.getD l1 (i2.toNat) .nils) 2))) && (((intOfV (cellAt (List.getD l0 (i2.toNat) .nils) 3)) == (intOfV (cellAt (List.getD l1 (i2.toNat) .nils) 3))) && (((intOfV (cellAt (List.getD l0 (i2.toNat) .nils) 4)) == (intOfV (cellAt (List.getD l1 (i2.toNat) .nils) 4))) && (((intOfV (cellAt (List.getD l0 (i2.toNat) .nils) 5)) == (intOfV (cellAt (List.getD l1 (i2.toNat) .nils) 5))) && (((intOfV (cellAt (List.getD l0 (i2.toNat) .nils) 6)) == (intOfV (cellAt (List.getD l1 (i2.toNat) .nils) 6))) && (((intOfV (cellAt (List.getD l0 (i2.toNat) .nils) 7)) == (intOfV (cellAt (List.getD l1 (i2.toNat) .nils) 7))) && true)))))))))
 (x0 false)
 (L_r04_SameLogs_0_0 x0 x1 n l0 l1 (IntKind.i64.wrap (i2 + (1 : Int)))))))))))
 (x1 l0 l1 i2 false))
def wv_r04_SameLogs (p0 p1 : List PV) (K : Bool → Prop) : Prop :=
 (cbr ((((List.length p0) : Nat) : Int) != (((List.length p1) : Nat) : Int))
 (K false)
 (∃ n : Nat, L_r04_SameLogs_0_0
 (fun yb0 => (K yb0))
 (fun _ _ _ _ => (K true))
 n p0 p1 (0 : Int)))
def w_r04_SameLogs (p0 p1 : List PV) (K : Bool → Prop) : Prop := wv_r04_SameLogs p0 p1 K
def pw_r04_SameLogs (w : T_r04_SameLogs) (as : List PV) (K : PV → Prop) : Prop :=
 match as with
 | [(.data p0), (.data p1)] => w p0 p1 (fun r0 => K (.bool r0))
 | _ => False
def wp_r04_SameLogs (as : List PV) (K : PV → Prop) : Prop := pw_r04_SameLogs w_r04_SameLogs as K
def D_r04_SameLogs_0 (F : Frm) (H : Hp) (A0 : List PV → List PV → Int → Prop) : Prop :=
 match F, H with
 | [(0, .v (.data l0)), (1, .v (.data l1)), (5, .v (.int .i64 i2))], [] => (A0 l0 l1 i2)
 | _, _ => False
def R_r04_SameLogs_0 (Q : Ex → Frm → Hp → Prop) (n : Nat) (F : Frm) (H : Hp) : Prop := D_r04_SameLogs_0 F H (fun l0 l1 i2 => L_r04_SameLogs_0_0 (fun b0 => Q .ret [(4, .v (.bool b0))] []) (fun l0 l1 i2 b3 => Q (.exit 0) [(0, .v (.data l0)), (1, .v (.data l1)), (5, .v (.int .i64 i2)), (14, .v (.bool b3))] []) n l0 l1 i2)
def lp_r04_SameLogs : LP := fun id F H Q =>
 bif Nat.beq id 11728400 then D_r04_SameLogs_0 F H (fun l0 l1 i2 => ∃ n : Nat, L_r04_SameLogs_0_0 (fun b0 => Q .ret [(4, .v (.bool b0))] []) (fun l0 l1 i2 b3 => Q (.exit 0) [(0, .v (.data l0)), (1, .v (.data l1)), (5, .v (.int .i64 i2)), (14, .v (.bool b3))] []) n l0 l1 i2) else
 False
def S0_r04_SameLogs : SE := ⟨E, lookS [], lookI [], lp_r04_SameLogs⟩
theorem se0_r04_SameLogs : SEOk (S0_r04_SameLogs) := seOk_of trivial trivial
theorem body_r04_SameLogs_0_0 ( Q n l0 l1 i2) : WC E (callW (S0_r04_SameLogs) 5) (lp_r04_SameLogs) b_11728400 [(0, .v (.data l0)), (1, .v (.data l1)), (5, .v (.int .i64 i2))] [] (fun x F' H' => match x with | .norm => R_r04_SameLogs_0 Q n F' H' | .exit i => Q (.exit i) F' H' | .ret => Q .ret F' H') = L_r04_SameLogs_0_0 (fun b0 => Q .ret [(4, .v (.bool b0))] []) (fun l0 l1 i2 b3 => Q (.exit 0) [(0, .v (.data l0)), (1, .v (.data l1)), (5, .v (.int .i64 i2)), (14, .v (.bool b3))] []) (n + 1) l0 l1 i2 := by kernel_rfl
theorem lpb_r04_SameLogs_0 : LpOk E (lp_r04_SameLogs) b_11728400 := (LpOk_no (by kernel_rfl))
theorem loop_r04_SameLogs_0 : ∀ F H Q, lp_r04_SameLogs 11728400 F H Q → LoopT E b_11728400 F H Q := by
 intro F H Q h
 have go := LoopT.intro (callW_ok se0_r04_SameLogs 5) lpb_r04_SameLogs_0 (R_r04_SameLogs_0 Q) (by
   intro F H h
   unfold R_r04_SameLogs_0 D_r04_SameLogs_0 at h
   split at h
   · exact h
   · exact h) (by
   intro n F H h
   unfold R_r04_SameLogs_0 D_r04_SameLogs_0 at h
   split at h
   · exact (body_r04_SameLogs_0_0 ..).mpr h
   · exact h.elim)
 have h : D_r04_SameLogs_0 F H _ := h
 unfold D_r04_SameLogs_0 at h
 split at h
 · obtain ⟨n, h⟩ := h; exact go n _ _ h
 · exact h.elim
theorem eq_r04_SameLogs ( p0 p1 K) : WP (S0_r04_SameLogs) 6 t_r04_SameLogs [(.data p0), (.data p1)] K = wv_r04_SameLogs p0 p1 (fun r0 => K (.bool r0)) := by kernel_rfl
theorem ok_r04_SameLogs : OkF E wp_r04_SameLogs n_r04_SameLogs := by
 intro as K h
 unfold wp_r04_SameLogs pw_r04_SameLogs at h
 split at h
 · exact WP_ok se0_r04_SameLogs (LpOk_by (l := [(11728400, b_11728400)]) ⟨loop_r04_SameLogs_0, trivial⟩ (by kernel_rfl)) (by kernel_rfl) (by kernel_rfl) (fun _ => baseC_none (by kernel_rfl) _) ((eq_r04_SameLogs ..).mpr h)
 · exact h.elim
abbrev T_r04_Same : Type := List PV → List PV → List PV → List PV → (Bool → Prop) → Prop
def wv_r04_Same (a0 : T_r04_SameCakes) (a1 : T_r04_SameLogs) (p0 p1 p2 p3 : List PV) (K : Bool → Prop) : Prop :=
 (a0 p0 p2 (fun yb0 => 
 (cbr yb0
 (a1 p1 p3 (fun yb1 => 
 (K yb1)))
 (K false))))
def w_r04_Same (p0 p1 p2 p3 : List PV) (K : Bool → Prop) : Prop := wv_r04_Same w_r04_SameCakes w_r04_SameLogs p0 p1 p2 p3 K
def pw_r04_Same (w : T_r04_Same) (as : List PV) (K : PV → Prop) : Prop :=
 match as with
 | [(.agg [(.data p0), (.data p1)]), (.agg [(.data p2), (.data p3)])] => w p0 p1 p2 p3 (fun r0 => K (.bool r0))
 | _ => False
def wp_r04_Same (as : List PV) (K : PV → Prop) : Prop := pw_r04_Same w_r04_Same as K
def lp_r04_Same (_ : T_r04_SameCakes) (_ : T_r04_SameLogs) : LP := fun _ _ _ _ =>
 False
def S0_r04_Same (a0 : T_r04_SameCakes) (a1 : T_r04_SameLogs) : SE := ⟨E, lookS [(n_r04_SameCakes, pw_r04_SameCakes a0), (n_r04_SameLogs, pw_r04_SameLogs a1)], lookI [], lp_r04_Same a0 a1⟩
theorem se0_r04_Same : SEOk (S0_r04_Same w_r04_SameCakes w_r04_SameLogs) := seOk_of ⟨ok_r04_SameCakes, ok_r04_SameLogs, trivial⟩ trivial
theorem eq_r04_Same (a0 a1 p0 p1 p2 p3 K) : WP (S0_r04_Same a0 a1) 6 t_r04_Same [(.agg [(.data p0), (.data p1)]), (.agg [(.data p2), (.data p3)])] K = wv_r04_Same a0 a1 p0 p1 p2 p3 (fun r0 => K (.bool r0)) := by kernel_rfl
theorem ok_r04_Same : OkF E wp_r04_Same n_r04_Same := by
 intro as K h
 unfold wp_r04_Same pw_r04_Same at h
 split at h
 · exact WP_ok se0_r04_Same (LpOk_no (by kernel_rfl)) (by kernel_rfl) (by kernel_rfl) (fun _ => baseC_none (by kernel_rfl) _) ((eq_r04_Same ..).mpr h)
 · exact h.elim
end Go.Pf.Vc
namespace Go.Pf.Vc
open Go Go.Pf
set_option linter.unusedVariables false
theorem det_r04_GreatCakes (p0 : List PV) (r0 : Bool) (h : ∀ K : Bool → Prop, K r0 → w_r04_GreatCakes p0 K) (K : Bool → Prop) : w_r04_GreatCakes p0 K = K r0 :=
 propext ⟨fun k => detC ok_r04_GreatCakes (as := [(.data p0)]) (x := (.bool r0)) (fun K' k' => h (fun r0 => K' (.bool r0)) k') (K := fun x => match x with | (.bool r0) => K r0 | _ => False) k, h K⟩
theorem det_r04_Check (p0 : List PV) (p1 : List PV) (r0 : Int) (h : ∀ K : Int → Prop, K r0 → w_r04_Check p0 p1 K) (K : Int → Prop) : w_r04_Check p0 p1 K = K r0 :=
 propext ⟨fun k => detC ok_r04_Check (as := [(.agg [(.data p0), (.data p1)])]) (x := (.int .i64 r0)) (fun K' k' => h (fun r0 => K' (.int .i64 r0)) k') (K := fun x => match x with | (.int .i64 r0) => K r0 | _ => False) k, h K⟩
theorem det_r04_Twins (p0 : List PV) (r0 : List PV) (h : ∀ K : List PV → Prop, K r0 → w_r04_Twins p0 K) (K : List PV → Prop) : w_r04_Twins p0 K = K r0 :=
 propext ⟨fun k => detC ok_r04_Twins (as := [(.data p0)]) (x := (.data r0)) (fun K' k' => h (fun r0 => K' (.data r0)) k') (K := fun x => match x with | (.data r0) => K r0 | _ => False) k, h K⟩
theorem det_r04_asked (p0 : List PV) (p1 : List PV) (p2 : Int) (p3 : Int) (p4 : Int) (p5 : Int) (p6 : Int) (p7 : Int) (p8 : Int) (p9 : Int) (r0 : List PV) (r1 : List PV) (r2 : Int) (r3 : Int) (r4 : Int) (h : ∀ K : List PV → List PV → Int → Int → Int → Prop, K r0 r1 r2 r3 r4 → w_r04_asked p0 p1 p2 p3 p4 p5 p6 p7 p8 p9 K) (K : List PV → List PV → Int → Int → Int → Prop) : w_r04_asked p0 p1 p2 p3 p4 p5 p6 p7 p8 p9 K = K r0 r1 r2 r3 r4 :=
 propext ⟨fun k => detC ok_r04_asked (as := [(.agg [(.data p0), (.data p1)]), (.agg [(.int .i64 p2), (.int .u8 p3), (.int .i64 p4), (.int .i64 p5), (.int .i64 p6), (.int .i64 p7), (.int .i64 p8), (.int .i64 p9)])]) (x := (.tup [(.agg [(.data r0), (.data r1)]), (.agg [(.int .i64 r2), (.int .i64 r3)]), (.int .i64 r4)])) (fun K' k' => h (fun r0 r1 r2 r3 r4 => K' (.tup [(.agg [(.data r0), (.data r1)]), (.agg [(.int .i64 r2), (.int .i64 r3)]), (.int .i64 r4)])) k') (K := fun x => match x with | (.tup [(.agg [(.data r0), (.data r1)]), (.agg [(.int .i64 r2), (.int .i64 r3)]), (.int .i64 r4)]) => K r0 r1 r2 r3 r4 | _ => False) k, h K⟩
theorem det_r04_SameCakes (p0 : List PV) (p1 : List PV) (r0 : Bool) (h : ∀ K : Bool → Prop, K r0 → w_r04_SameCakes p0 p1 K) (K : Bool → Prop) : w_r04_SameCakes p0 p1 K = K r0 :=
 propext ⟨fun k => detC ok_r04_SameCakes (as := [(.data p0), (.data p1)]) (x := (.bool r0)) (fun K' k' => h (fun r0 => K' (.bool r0)) k') (K := fun x => match x with | (.bool r0) => K r0 | _ => False) k, h K⟩
theorem det_r04_SameLogs (p0 : List PV) (p1 : List PV) (r0 : Bool) (h : ∀ K : Bool → Prop, K r0 → w_r04_SameLogs p0 p1 K) (K : Bool → Prop) : w_r04_SameLogs p0 p1 K = K r0 :=
 propext ⟨fun k => detC ok_r04_SameLogs (as := [(.data p0), (.data p1)]) (x := (.bool r0)) (fun K' k' => h (fun r0 => K' (.bool r0)) k') (K := fun x => match x with | (.bool r0) => K r0 | _ => False) k, h K⟩
end Go.Pf.Vc
namespace Go.Pf.Vc
open Go Go.Pf
set_option maxRecDepth 100000
abbrev T_r03_Same : Type := List PV → List PV → (Bool → Prop) → Prop
def L_r03_Same_0_0 (x0 : Bool → Prop) (x1 : List PV → List PV → Int → Bool → Prop) : Nat → List PV → List PV → Int → Prop
 | 0, _, _, _ => False
 | n + 1, l0, l1, i2 =>
 (cbr (decide (i2 < (((List.length l0) : Nat) : Int)))
 (asr (decide ((0 : Int) ≤ i2))
 (asr (decide (i2 < (((List.length l0) : Nat) : Int)))
 (asr (conf (.agg [.i .i64, .i .i64, .i .i64, .i .i64]) (List.getD l0 (i2.toNat) .nils))
 (asr (decide ((0 : Int) ≤ i2))
 (asr (decide (i2 < (((List.length l1) : Nat) : Int)))
 (asr (conf (.agg [.i .i64, .i .i64, .i .i64, .i .i64]) (List.getD l1 (i2.toNat) .nils))
 (cbr (!(((intOfV (cellAt (List.getD l0 (i2.toNat) .nils) 0)) == (intOfV (cellAt (List.getD l1 (i2.toNat) .nils) 0))) && (((intOfV (cellAt (List.getD l0 (i2.toNat) .nils) 1)) == (intOfV (cellAt (List.getD l1 (i2.toNat) .nils) 1))) && (((intOfV (cellAt (List.getD l0 (i2.toNat) .nils) 2)) == (intOfV (cellAt (List.getD l1 (i2.toNat) .nils) 2))) && (((intOfV (cellAt (List.getD l0 (i2.toNat) .nils) 3)) == (intOfV (cellAt (List.getD l1 (i2.toNat) .nils) 3))) && true)))))
 (x0 false)
 (L_r03_Same_0_0 x0 x1 n l0 l1 (IntKind.i64.wrap (i2 + (1 : Int)))))))))))
 (x1 l0 l1 i2 false))
def wv_r03_Same (p0 p1 : List PV) (K : Bool → Prop) : Prop :=
 (cbr ((((List.length p0) : Nat) : Int) != (((List.length p1) : Nat) : Int))
 (K false)
 (∃ n : Nat, L_r03_Same_0_0
 (fun yb0 => (K yb0))
 (fun _ _ _ _ => (K true))
 n p0 p1 (0 : Int)))
def w_r03_Same (p0 p1 : List PV) (K : Bool → Prop) : Prop := wv_r03_Same p0 p1 K
def pw_r03_Same (w : T_r03_Same) (as : List PV) (K : PV → Prop) : Prop :=
 match as with
 | [(.data p0), (.data p1)] => w p0 p1 (fun r0 => K (.bool r0))
 | _ => False
def wp_r03_Same (as : List PV) (K : PV → Prop) : Prop := pw_r03_Same w_r03_Same as K
def D_r03_Same_0 (F : Frm) (H : Hp) (A0 : List PV → List PV → Int → Prop) : Prop :=
 match F, H with
 | [(0, .v (.data l0)), (1, .v (.data l1)), (5, .v (.int .i64 i2))], [] => (A0 l0 l1 i2)
 | _, _ => False
def R_r03_Same_0 (Q : Ex → Frm → Hp → Prop) (n : Nat) (F : Frm) (H : Hp) : Prop := D_r03_Same_0 F H (fun l0 l1 i2 => L_r03_Same_0_0 (fun b0 => Q .ret [(4, .v (.bool b0))] []) (fun l0 l1 i2 b3 => Q (.exit 0) [(0, .v (.data l0)), (1, .v (.data l1)), (5, .v (.int .i64 i2)), (14, .v (.bool b3))] []) n l0 l1 i2)
def lp_r03_Same : LP := fun id F H Q =>
 bif Nat.beq id 27088800 then D_r03_Same_0 F H (fun l0 l1 i2 => ∃ n : Nat, L_r03_Same_0_0 (fun b0 => Q .ret [(4, .v (.bool b0))] []) (fun l0 l1 i2 b3 => Q (.exit 0) [(0, .v (.data l0)), (1, .v (.data l1)), (5, .v (.int .i64 i2)), (14, .v (.bool b3))] []) n l0 l1 i2) else
 False
def S0_r03_Same : SE := ⟨E, lookS [], lookI [], lp_r03_Same⟩
theorem se0_r03_Same : SEOk (S0_r03_Same) := seOk_of trivial trivial
theorem body_r03_Same_0_0 ( Q n l0 l1 i2) : WC E (callW (S0_r03_Same) 5) (lp_r03_Same) b_27088800 [(0, .v (.data l0)), (1, .v (.data l1)), (5, .v (.int .i64 i2))] [] (fun x F' H' => match x with | .norm => R_r03_Same_0 Q n F' H' | .exit i => Q (.exit i) F' H' | .ret => Q .ret F' H') = L_r03_Same_0_0 (fun b0 => Q .ret [(4, .v (.bool b0))] []) (fun l0 l1 i2 b3 => Q (.exit 0) [(0, .v (.data l0)), (1, .v (.data l1)), (5, .v (.int .i64 i2)), (14, .v (.bool b3))] []) (n + 1) l0 l1 i2 := by kernel_rfl
theorem lpb_r03_Same_0 : LpOk E (lp_r03_Same) b_27088800 := (LpOk_no (by kernel_rfl))
theorem loop_r03_Same_0 : ∀ F H Q, lp_r03_Same 27088800 F H Q → LoopT E b_27088800 F H Q := by
 intro F H Q h
 have go := LoopT.intro (callW_ok se0_r03_Same 5) lpb_r03_Same_0 (R_r03_Same_0 Q) (by
   intro F H h
   unfold R_r03_Same_0 D_r03_Same_0 at h
   split at h
   · exact h
   · exact h) (by
   intro n F H h
   unfold R_r03_Same_0 D_r03_Same_0 at h
   split at h
   · exact (body_r03_Same_0_0 ..).mpr h
   · exact h.elim)
 have h : D_r03_Same_0 F H _ := h
 unfold D_r03_Same_0 at h
 split at h
 · obtain ⟨n, h⟩ := h; exact go n _ _ h
 · exact h.elim
theorem eq_r03_Same ( p0 p1 K) : WP (S0_r03_Same) 6 t_r03_Same [(.data p0), (.data p1)] K = wv_r03_Same p0 p1 (fun r0 => K (.bool r0)) := by kernel_rfl
theorem ok_r03_Same : OkF E wp_r03_Same n_r03_Same := by
 intro as K h
 unfold wp_r03_Same pw_r03_Same at h
 split at h
 · exact WP_ok se0_r03_Same (LpOk_by (l := [(27088800, b_27088800)]) ⟨loop_r03_Same_0, trivial⟩ (by kernel_rfl)) (by kernel_rfl) (by kernel_rfl) (fun _ => baseC_none (by kernel_rfl) _) ((eq_r03_Same ..).mpr h)
 · exact h.elim
abbrev T_r06_Same : Type := List PV → List PV → (Bool → Prop) → Prop
def L_r06_Same_0_0 (a0 : T_r03_Same) (x0 : Bool → Prop) (x1 : List PV → List PV → Int → Bool → Prop) : Nat → List PV → List PV → Int → Prop
 | 0, _, _, _ => False
 | n + 1, l0, l1, i2 =>
 (cbr (decide (i2 < (((List.length l0) : Nat) : Int)))
 (asr (decide ((0 : Int) ≤ i2))
 (asr (decide (i2 < (((List.length l0) : Nat) : Int)))
 (asr (conf (.one (.d)) (List.getD l0 (i2.toNat) .nils))
 (asr (decide ((0 : Int) ≤ i2))
 (asr (decide (i2 < (((List.length l1) : Nat) : Int)))
 (asr (conf (.one (.d)) (List.getD l1 (i2.toNat) .nils))
 (a0 (datOfV (List.getD l0 (i2.toNat) .nils)) (datOfV (List.getD l1 (i2.toNat) .nils)) (fun yb0 => 
 (cbr (!yb0)
 (x0 false)
 (L_r06_Same_0_0 a0 x0 x1 n l0 l1 (IntKind.i64.wrap (i2 + (1 : Int)))))))))))))
 (x1 l0 l1 i2 false))
def wv_r06_Same (a0 : T_r03_Same) (p0 p1 : List PV) (K : Bool → Prop) : Prop :=
 (cbr ((((List.length p0) : Nat) : Int) != (((List.length p1) : Nat) : Int))
 (K false)
 (∃ n : Nat, L_r06_Same_0_0 a0
 (fun yb1 => (K yb1))
 (fun _ _ _ _ => (K true))
 n p0 p1 (0 : Int)))
def w_r06_Same (p0 p1 : List PV) (K : Bool → Prop) : Prop := wv_r06_Same w_r03_Same p0 p1 K
def pw_r06_Same (w : T_r06_Same) (as : List PV) (K : PV → Prop) : Prop :=
 match as with
 | [(.agg [(.data p0)]), (.agg [(.data p1)])] => w p0 p1 (fun r0 => K (.bool r0))
 | _ => False
def wp_r06_Same (as : List PV) (K : PV → Prop) : Prop := pw_r06_Same w_r06_Same as K
def D_r06_Same_0 (F : Frm) (H : Hp) (A0 : List PV → List PV → Int → Prop) : Prop :=
 match F, H with
 | [(2, .box (.agg [(.data l0)])), (3, .box (.agg [(.data l1)])), (5, .v (.int .i64 i2))], [] => (A0 l0 l1 i2)
 | _, _ => False
def R_r06_Same_0 (a0 : T_r03_Same) (Q : Ex → Frm → Hp → Prop) (n : Nat) (F : Frm) (H : Hp) : Prop := D_r06_Same_0 F H (fun l0 l1 i2 => L_r06_Same_0_0 a0 (fun b0 => Q .ret [(4, .v (.bool b0))] []) (fun l0 l1 i2 b3 => Q (.exit 0) [(2, .box (.agg [(.data l0)])), (3, .box (.agg [(.data l1)])), (5, .v (.int .i64 i2)), (17, .v (.bool b3))] []) n l0 l1 i2)
def lp_r06_Same (a0 : T_r03_Same) : LP := fun id F H Q =>
 bif Nat.beq id 70742100 then D_r06_Same_0 F H (fun l0 l1 i2 => ∃ n : Nat, L_r06_Same_0_0 a0 (fun b0 => Q .ret [(4, .v (.bool b0))] []) (fun l0 l1 i2 b3 => Q (.exit 0) [(2, .box (.agg [(.data l0)])), (3, .box (.agg [(.data l1)])), (5, .v (.int .i64 i2)), (17, .v (.bool b3))] []) n l0 l1 i2) else
 False
def S0_r06_Same (a0 : T_r03_Same) : SE := ⟨E, lookS [(n_r03_Same, pw_r03_Same a0)], lookI [], lp_r06_Same a0⟩
theorem se0_r06_Same : SEOk (S0_r06_Same w_r03_Same) := seOk_of ⟨ok_r03_Same, trivial⟩ trivial
theorem body_r06_Same_0_0 (a0 Q n l0 l1 i2) : WC E (callW (S0_r06_Same a0) 5) (lp_r06_Same a0) b_70742100 [(2, .box (.agg [(.data l0)])), (3, .box (.agg [(.data l1)])), (5, .v (.int .i64 i2))] [] (fun x F' H' => match x with | .norm => R_r06_Same_0 a0 Q n F' H' | .exit i => Q (.exit i) F' H' | .ret => Q .ret F' H') = L_r06_Same_0_0 a0 (fun b0 => Q .ret [(4, .v (.bool b0))] []) (fun l0 l1 i2 b3 => Q (.exit 0) [(2, .box (.agg [(.data l0)])), (3, .box (.agg [(.data l1)])), (5, .v (.int .i64 i2)), (17, .v (.bool b3))] []) (n + 1) l0 l1 i2 := by kernel_rfl
theorem lpb_r06_Same_0 : LpOk E (lp_r06_Same w_r03_Same) b_70742100 := (LpOk_no (by kernel_rfl))
theorem loop_r06_Same_0 : ∀ F H Q, lp_r06_Same w_r03_Same 70742100 F H Q → LoopT E b_70742100 F H Q := by
 intro F H Q h
 have go := LoopT.intro (callW_ok se0_r06_Same 5) lpb_r06_Same_0 (R_r06_Same_0 w_r03_Same Q) (by
   intro F H h
   unfold R_r06_Same_0 D_r06_Same_0 at h
   split at h
   · exact h
   · exact h) (by
   intro n F H h
   unfold R_r06_Same_0 D_r06_Same_0 at h
   split at h
   · exact (body_r06_Same_0_0 ..).mpr h
   · exact h.elim)
 have h : D_r06_Same_0 F H _ := h
 unfold D_r06_Same_0 at h
 split at h
 · obtain ⟨n, h⟩ := h; exact go n _ _ h
 · exact h.elim
theorem eq_r06_Same (a0 p0 p1 K) : WP (S0_r06_Same a0) 6 t_r06_Same [(.agg [(.data p0)]), (.agg [(.data p1)])] K = wv_r06_Same a0 p0 p1 (fun r0 => K (.bool r0)) := by kernel_rfl
theorem ok_r06_Same : OkF E wp_r06_Same n_r06_Same := by
 intro as K h
 unfold wp_r06_Same pw_r06_Same at h
 split at h
 · exact WP_ok se0_r06_Same (LpOk_by (l := [(70742100, b_70742100)]) ⟨loop_r06_Same_0, trivial⟩ (by kernel_rfl)) (by kernel_rfl) (by kernel_rfl) (fun _ => baseC_none (by kernel_rfl) _) ((eq_r06_Same ..).mpr h)
 · exact h.elim
end Go.Pf.Vc
namespace Go.Pf.Vc
open Go Go.Pf
set_option linter.unusedVariables false
theorem det_r03_Same (p0 : List PV) (p1 : List PV) (r0 : Bool) (h : ∀ K : Bool → Prop, K r0 → w_r03_Same p0 p1 K) (K : Bool → Prop) : w_r03_Same p0 p1 K = K r0 :=
 propext ⟨fun k => detC ok_r03_Same (as := [(.data p0), (.data p1)]) (x := (.bool r0)) (fun K' k' => h (fun r0 => K' (.bool r0)) k') (K := fun x => match x with | (.bool r0) => K r0 | _ => False) k, h K⟩
theorem det_r06_Same (p0 : List PV) (p1 : List PV) (r0 : Bool) (h : ∀ K : Bool → Prop, K r0 → w_r06_Same p0 p1 K) (K : Bool → Prop) : w_r06_Same p0 p1 K = K r0 :=
 propext ⟨fun k => detC ok_r06_Same (as := [(.agg [(.data p0)]), (.agg [(.data p1)])]) (x := (.bool r0)) (fun K' k' => h (fun r0 => K' (.bool r0)) k') (K := fun x => match x with | (.bool r0) => K r0 | _ => False) k, h K⟩
end Go.Pf.Vc
namespace Go.Pf.Vc
open Go Go.Pf
set_option maxRecDepth 100000
abbrev T_choose_Start : Type := List PV → Int → (List PV → List PV → Int → Int → Int → Int → Bool → Int → Prop) → Prop
def wv_choose_Start (a0 : T_ask_Open) (p0 : List PV) (p1 : Int) (K : List PV → List PV → Int → Int → Int → Int → Bool → Int → Prop) : Prop :=
 (a0 p0 (fun yl0 yl1 yi2 => 
 (cbr (yi2 != (0 : Int))
 (K ([] : List PV) ([] : List PV) (0 : Int) (0 : Int) (0 : Int) (0 : Int) false yi2)
 (cbr ((((List.length p0) : Nat) : Int) != (2 : Int))
 (K ([] : List PV) ([] : List PV) (0 : Int) (0 : Int) (0 : Int) (0 : Int) false (2 : Int))
 (cbr (decide (p1 < (0 : Int)))
 (K ([] : List PV) ([] : List PV) (0 : Int) (0 : Int) (0 : Int) (0 : Int) false (2 : Int))
 (cbr (decide (p1 > (1 : Int)))
 (K ([] : List PV) ([] : List PV) (0 : Int) (0 : Int) (0 : Int) (0 : Int) false (2 : Int))
 (K yl0 yl1 p1 (0 : Int) (0 : Int) (1 : Int) false (0 : Int))))))))
def w_choose_Start (p0 : List PV) (p1 : Int) (K : List PV → List PV → Int → Int → Int → Int → Bool → Int → Prop) : Prop := wv_choose_Start w_ask_Open p0 p1 K
def pw_choose_Start (w : T_choose_Start) (as : List PV) (K : PV → Prop) : Prop :=
 match as with
 | [(.data p0), (.int .i64 p1)] => w p0 p1 (fun r0 r1 r2 r3 r4 r5 r6 r7 => K (.tup [(.agg [(.data r0), (.data r1), (.int .i64 r2), (.int .i64 r3), (.int .i64 r4), (.int .i64 r5), (.bool r6)]), (.int .i64 r7)]))
 | _ => False
def wp_choose_Start (as : List PV) (K : PV → Prop) : Prop := pw_choose_Start w_choose_Start as K
def lp_choose_Start (_ : T_ask_Open) : LP := fun _ _ _ _ =>
 False
def S0_choose_Start (a0 : T_ask_Open) : SE := ⟨E, lookS [(n_ask_Open, pw_ask_Open a0)], lookI [], lp_choose_Start a0⟩
theorem se0_choose_Start : SEOk (S0_choose_Start w_ask_Open) := seOk_of ⟨ok_ask_Open, trivial⟩ trivial
theorem eq_choose_Start (a0 p0 p1 K) : WP (S0_choose_Start a0) 6 t_choose_Start [(.data p0), (.int .i64 p1)] K = wv_choose_Start a0 p0 p1 (fun r0 r1 r2 r3 r4 r5 r6 r7 => K (.tup [(.agg [(.data r0), (.data r1), (.int .i64 r2), (.int .i64 r3), (.int .i64 r4), (.int .i64 r5), (.bool r6)]), (.int .i64 r7)])) := by kernel_rfl
theorem ok_choose_Start : OkF E wp_choose_Start n_choose_Start := by
 intro as K h
 unfold wp_choose_Start pw_choose_Start at h
 split at h
 · exact WP_ok se0_choose_Start (LpOk_no (by kernel_rfl)) (by kernel_rfl) (by kernel_rfl) (fun _ => baseC_none (by kernel_rfl) _) ((eq_choose_Start ..).mpr h)
 · exact h.elim
abbrev T_choose_half : Type := Int → List PV → List PV → (Int → Int → Prop) → Prop
def wv_choose_half (a0 : T_cake_Total) (a1 : T_ratio_Make) (p0 : Int) (p1 p2 : List PV) (K : Int → Int → Prop) : Prop :=
 (a0 p0 p1 p2 (fun yi0 _ => 
 (a1 yi0 (2 : Int) (fun yi2 yi3 _ => 
 (K yi2 yi3)))))
def w_choose_half (p0 : Int) (p1 p2 : List PV) (K : Int → Int → Prop) : Prop := wv_choose_half w_cake_Total w_ratio_Make p0 p1 p2 K
def pw_choose_half (w : T_choose_half) (as : List PV) (K : PV → Prop) : Prop :=
 match as with
 | [(.agg [(.int .i64 p0), (.data p1), (.data p2)])] => w p0 p1 p2 (fun r0 r1 => K (.agg [(.int .i64 r0), (.int .i64 r1)]))
 | _ => False
def wp_choose_half (as : List PV) (K : PV → Prop) : Prop := pw_choose_half w_choose_half as K
def lp_choose_half (_ : T_cake_Total) (_ : T_ratio_Make) : LP := fun _ _ _ _ =>
 False
def S0_choose_half (a0 : T_cake_Total) (a1 : T_ratio_Make) : SE := ⟨E, lookS [(n_cake_Total, pw_cake_Total a0), (n_ratio_Make, pw_ratio_Make a1)], lookI [], lp_choose_half a0 a1⟩
theorem se0_choose_half : SEOk (S0_choose_half w_cake_Total w_ratio_Make) := seOk_of ⟨ok_cake_Total, ok_ratio_Make, trivial⟩ trivial
theorem eq_choose_half (a0 a1 p0 p1 p2 K) : WP (S0_choose_half a0 a1) 6 t_choose_half [(.agg [(.int .i64 p0), (.data p1), (.data p2)])] K = wv_choose_half a0 a1 p0 p1 p2 (fun r0 r1 => K (.agg [(.int .i64 r0), (.int .i64 r1)])) := by kernel_rfl
theorem ok_choose_half : OkF E wp_choose_half n_choose_half := by
 intro as K h
 unfold wp_choose_half pw_choose_half at h
 split at h
 · exact WP_ok se0_choose_half (LpOk_no (by kernel_rfl)) (by kernel_rfl) (by kernel_rfl) (fun _ => baseC_none (by kernel_rfl) _) ((eq_choose_half ..).mpr h)
 · exact h.elim
abbrev T_choose_step : Type := List PV → List PV → Int → Int → Int → Int → Bool → (List PV → List PV → Int → Int → Int → Int → Bool → Prop) → Prop
def wv_choose_step (a0 : T_choose_half) (a1 : T_ask_Mark) (a2 : T_ask_Value) (a3 : T_ratio_Cmp) (p0 p1 : List PV) (p2 p3 p4 p5 : Int) (p6 : Bool) (K : List PV → List PV → Int → Int → Int → Int → Bool → Prop) : Prop :=
 (cbr (p3 == (0 : Int))
 (asr (decide ((0 : Int) ≤ p2))
 (asr (decide (p2 < (((List.length p0) : Nat) : Int)))
 (asr (conf (.agg [.i .i64, .d, .d]) (List.getD p0 (p2.toNat) .nils))
 (a0 (intOfV (cellAt (List.getD p0 (p2.toNat) .nils) 0)) (datOfV (cellAt (List.getD p0 (p2.toNat) .nils) 1)) (datOfV (cellAt (List.getD p0 (p2.toNat) .nils) 2)) (fun yi0 yi1 => 
 (a1 p0 p1 p2 (0 : Int) (1 : Int) yi0 yi1 (fun yl2 yl3 yi4 yi5 _ => 
 (K yl2 yl3 p2 (1 : Int) yi4 yi5 p6))))))))
 (a2 p0 p1 (IntKind.i64.wrap ((1 : Int) - p2)) (0 : Int) (1 : Int) p4 p5 (fun yl7 yl8 yi9 yi10 _ => 
 (asr (decide ((0 : Int) ≤ (IntKind.i64.wrap ((1 : Int) - p2))))
 (asr (decide ((IntKind.i64.wrap ((1 : Int) - p2)) < (((List.length p0) : Nat) : Int)))
 (asr (conf (.agg [.i .i64, .d, .d]) (List.getD p0 ((IntKind.i64.wrap ((1 : Int) - p2)).toNat) .nils))
 (a0 (intOfV (cellAt (List.getD p0 ((IntKind.i64.wrap ((1 : Int) - p2)).toNat) .nils) 0)) (datOfV (cellAt (List.getD p0 ((IntKind.i64.wrap ((1 : Int) - p2)).toNat) .nils) 1)) (datOfV (cellAt (List.getD p0 ((IntKind.i64.wrap ((1 : Int) - p2)).toNat) .nils) 2)) (fun yi12 yi13 => 
 (a3 yi9 yi10 yi12 yi13 (fun yi14 _ => 
 (K yl7 yl8 p2 (2 : Int) p4 p5 (decide (yi14 ≥ (0 : Int))))))))))))))
def w_choose_step (p0 p1 : List PV) (p2 p3 p4 p5 : Int) (p6 : Bool) (K : List PV → List PV → Int → Int → Int → Int → Bool → Prop) : Prop := wv_choose_step w_choose_half w_ask_Mark w_ask_Value w_ratio_Cmp p0 p1 p2 p3 p4 p5 p6 K
def pw_choose_step (w : T_choose_step) (as : List PV) (K : PV → Prop) : Prop :=
 match as with
 | [(.agg [(.data p0), (.data p1), (.int .i64 p2), (.int .i64 p3), (.int .i64 p4), (.int .i64 p5), (.bool p6)])] => w p0 p1 p2 p3 p4 p5 p6 (fun r0 r1 r2 r3 r4 r5 r6 => K (.agg [(.data r0), (.data r1), (.int .i64 r2), (.int .i64 r3), (.int .i64 r4), (.int .i64 r5), (.bool r6)]))
 | _ => False
def wp_choose_step (as : List PV) (K : PV → Prop) : Prop := pw_choose_step w_choose_step as K
def lp_choose_step (_ : T_choose_half) (_ : T_ask_Mark) (_ : T_ask_Value) (_ : T_ratio_Cmp) : LP := fun _ _ _ _ =>
 False
def S0_choose_step (a0 : T_choose_half) (a1 : T_ask_Mark) (a2 : T_ask_Value) (a3 : T_ratio_Cmp) : SE := ⟨E, lookS [(n_choose_half, pw_choose_half a0), (n_ask_Mark, pw_ask_Mark a1), (n_ask_Value, pw_ask_Value a2), (n_ratio_Cmp, pw_ratio_Cmp a3)], lookI [], lp_choose_step a0 a1 a2 a3⟩
theorem se0_choose_step : SEOk (S0_choose_step w_choose_half w_ask_Mark w_ask_Value w_ratio_Cmp) := seOk_of ⟨ok_choose_half, ok_ask_Mark, ok_ask_Value, ok_ratio_Cmp, trivial⟩ trivial
theorem eq_choose_step (a0 a1 a2 a3 p0 p1 p2 p3 p4 p5 p6 K) : WP (S0_choose_step a0 a1 a2 a3) 6 t_choose_step [(.agg [(.data p0), (.data p1), (.int .i64 p2), (.int .i64 p3), (.int .i64 p4), (.int .i64 p5), (.bool p6)])] K = wv_choose_step a0 a1 a2 a3 p0 p1 p2 p3 p4 p5 p6 (fun r0 r1 r2 r3 r4 r5 r6 => K (.agg [(.data r0), (.data r1), (.int .i64 r2), (.int .i64 r3), (.int .i64 r4), (.int .i64 r5), (.bool r6)])) := by kernel_rfl
theorem ok_choose_step : OkF E wp_choose_step n_choose_step := by
 intro as K h
 unfold wp_choose_step pw_choose_step at h
 split at h
 · exact WP_ok se0_choose_step (LpOk_no (by kernel_rfl)) (by kernel_rfl) (by kernel_rfl) (fun _ => baseC_none (by kernel_rfl) _) ((eq_choose_step ..).mpr h)
 · exact h.elim
abbrev T_choose_Check : Type := List PV → List PV → Int → Int → Int → Int → Bool → (Int → Prop) → Prop
mutual
def L_choose_Check_0_0 (a0 : T_ask_Check) (a1 : T_choose_Start) (a2 : T_choose_step) (a3 : T_s_Equal_api_Query_api_Query) (x0 : List PV → List PV → Int → Int → Int → Int → Bool → List PV → List PV → Int → Int → Int → Int → Bool → Bool → Prop) : Nat → List PV → List PV → Int → Int → Int → Int → Bool → List PV → List PV → Int → Int → Int → Int → Bool → Int → Bool → Prop
 | 0, _, _, _, _, _, _, _, _, _, _, _, _, _, _, _, _ => False
 | n + 1, l0, l1, i2, i3, i4, i5, b6, l7, l8, i9, i10, i11, i12, b13, _, _ =>
 (cbr (decide (i10 < (if (2 : Int) < i3 then (2 : Int) else i3)))
 (a2 l7 l8 i9 i10 i11 i12 b13 (fun yl9 yl10 yi11 yi12 yi13 yi14 yb15 => 
 (L_choose_Check_0_1 a0 a1 a2 a3 x0 n l0 l1 i2 i3 i4 i5 b6 yl9 yl10 yi11 yi12 yi13 yi14 yb15)))
 (x0 l0 l1 i2 i3 i4 i5 b6 l7 l8 i9 i10 i11 i12 b13 false))
def L_choose_Check_0_1 (a0 : T_ask_Check) (a1 : T_choose_Start) (a2 : T_choose_step) (a3 : T_s_Equal_api_Query_api_Query) (x0 : List PV → List PV → Int → Int → Int → Int → Bool → List PV → List PV → Int → Int → Int → Int → Bool → Bool → Prop) : Nat → List PV → List PV → Int → Int → Int → Int → Bool → List PV → List PV → Int → Int → Int → Int → Bool → Prop
 | 0, _, _, _, _, _, _, _, _, _, _, _, _, _, _ => False
 | n + 1, l0, l1, i2, i3, i4, i5, b6, l7, l8, i9, i10, i11, i12, b13 =>
 (cbr (decide (i10 < (if (2 : Int) < i3 then (2 : Int) else i3)))
 (a2 l7 l8 i9 i10 i11 i12 b13 (fun yl16 yl17 yi18 yi19 yi20 yi21 yb22 => 
 (L_choose_Check_0_1 a0 a1 a2 a3 x0 n l0 l1 i2 i3 i4 i5 b6 yl16 yl17 yi18 yi19 yi20 yi21 yb22)))
 (x0 l0 l1 i2 i3 i4 i5 b6 l7 l8 i9 i10 i11 i12 b13 false))
end
def wv_choose_Check (a0 : T_ask_Check) (a1 : T_choose_Start) (a2 : T_choose_step) (a3 : T_s_Equal_api_Query_api_Query) (p0 p1 : List PV) (p2 p3 p4 p5 : Int) (p6 : Bool) (K : Int → Prop) : Prop :=
 (a0 p0 p1 (fun yi0 => 
 (cbr (yi0 != (0 : Int))
 (K yi0)
 (a1 p0 p2 (fun yl1 yl2 yi3 yi4 yi5 yi6 yb7 yi8 => 
 (cbr (yi8 != (0 : Int))
 (K yi8)
 (∃ n : Nat, L_choose_Check_0_0 a0 a1 a2 a3
 (fun _ yl24 _ yi26 yi27 yi28 yb29 _ yl31 _ yi33 yi34 yi35 yb36 _ => (cbr (yi33 != yi26)
 (K (8 : Int))
 (cbr (!((yi34 == yi27) && ((yi35 == yi28) && true)))
 (K (8 : Int))
 (cbr (yb36 != yb29)
 (K (8 : Int))
 (a3 yl31 yl24 (fun yb38 => 
 (cbr (!yb38)
 (K (8 : Int))
 (K (0 : Int)))))))))
 n p0 p1 p2 p3 p4 p5 p6 yl1 yl2 yi3 yi4 yi5 yi6 yb7 yi8 false)))))))
def w_choose_Check (p0 p1 : List PV) (p2 p3 p4 p5 : Int) (p6 : Bool) (K : Int → Prop) : Prop := wv_choose_Check w_ask_Check w_choose_Start w_choose_step w_s_Equal_api_Query_api_Query p0 p1 p2 p3 p4 p5 p6 K
def pw_choose_Check (w : T_choose_Check) (as : List PV) (K : PV → Prop) : Prop :=
 match as with
 | [(.agg [(.data p0), (.data p1), (.int .i64 p2), (.int .i64 p3), (.int .i64 p4), (.int .i64 p5), (.bool p6)])] => w p0 p1 p2 p3 p4 p5 p6 (fun r0 => K (.int .i64 r0))
 | _ => False
def wp_choose_Check (as : List PV) (K : PV → Prop) : Prop := pw_choose_Check w_choose_Check as K
def D_choose_Check_0 (F : Frm) (H : Hp) (A0 : List PV → List PV → Int → Int → Int → Int → Bool → List PV → List PV → Int → Int → Int → Int → Bool → Int → Bool → Prop) (A1 : List PV → List PV → Int → Int → Int → Int → Bool → List PV → List PV → Int → Int → Int → Int → Bool → Prop) : Prop :=
 match F, H with
 | [(1, .box (.agg [(.data l0), (.data l1), (.int .i64 i2), (.int .i64 i3), (.int .i64 i4), (.int .i64 i5), (.bool b6)])), (4, .box (.agg [(.data l7), (.data l8), (.int .i64 i9), (.int .i64 i10), (.int .i64 i11), (.int .i64 i12), (.bool b13)])), (5, .v (.int .i64 i14)), (22, .v (.bool b15))], [] => (A0 l0 l1 i2 i3 i4 i5 b6 l7 l8 i9 i10 i11 i12 b13 i14 b15)
 | [(1, .box (.agg [(.data l0), (.data l1), (.int .i64 i2), (.int .i64 i3), (.int .i64 i4), (.int .i64 i5), (.bool b6)])), (4, .box (.agg [(.data l7), (.data l8), (.int .i64 i9), (.int .i64 i10), (.int .i64 i11), (.int .i64 i12), (.bool b13)]))], [] => (A1 l0 l1 i2 i3 i4 i5 b6 l7 l8 i9 i10 i11 i12 b13)
 | _, _ => False
def R_choose_Check_0 (a0 : T_ask_Check) (a1 : T_choose_Start) (a2 : T_choose_step) (a3 : T_s_Equal_api_Query_api_Query) (Q : Ex → Frm → Hp → Prop) (n : Nat) (F : Frm) (H : Hp) : Prop := D_choose_Check_0 F H (fun l0 l1 i2 i3 i4 i5 b6 l7 l8 i9 i10 i11 i12 b13 i14 b15 => L_choose_Check_0_0 a0 a1 a2 a3 (fun l0 l1 i2 i3 i4 i5 b6 l7 l8 i9 i10 i11 i12 b13 b14 => Q (.exit 0) [(1, .box (.agg [(.data l0), (.data l1), (.int .i64 i2), (.int .i64 i3), (.int .i64 i4), (.int .i64 i5), (.bool b6)])), (4, .box (.agg [(.data l7), (.data l8), (.int .i64 i9), (.int .i64 i10), (.int .i64 i11), (.int .i64 i12), (.bool b13)])), (29, .v (.bool b14))] []) n l0 l1 i2 i3 i4 i5 b6 l7 l8 i9 i10 i11 i12 b13 i14 b15) (fun l0 l1 i2 i3 i4 i5 b6 l7 l8 i9 i10 i11 i12 b13 => L_choose_Check_0_1 a0 a1 a2 a3 (fun l0 l1 i2 i3 i4 i5 b6 l7 l8 i9 i10 i11 i12 b13 b14 => Q (.exit 0) [(1, .box (.agg [(.data l0), (.data l1), (.int .i64 i2), (.int .i64 i3), (.int .i64 i4), (.int .i64 i5), (.bool b6)])), (4, .box (.agg [(.data l7), (.data l8), (.int .i64 i9), (.int .i64 i10), (.int .i64 i11), (.int .i64 i12), (.bool b13)])), (29, .v (.bool b14))] []) n l0 l1 i2 i3 i4 i5 b6 l7 l8 i9 i10 i11 i12 b13)
def lp_choose_Check (a0 : T_ask_Check) (a1 : T_choose_Start) (a2 : T_choose_step) (a3 : T_s_Equal_api_Query_api_Query) : LP := fun id F H Q =>
 bif Nat.beq id 87884100 then D_choose_Check_0 F H (fun l0 l1 i2 i3 i4 i5 b6 l7 l8 i9 i10 i11 i12 b13 i14 b15 => ∃ n : Nat, L_choose_Check_0_0 a0 a1 a2 a3 (fun l0 l1 i2 i3 i4 i5 b6 l7 l8 i9 i10 i11 i12 b13 b14 => Q (.exit 0) [(1, .box (.agg [(.data l0), (.data l1), (.int .i64 i2), (.int .i64 i3), (.int .i64 i4), (.int .i64 i5), (.bool b6)])), (4, .box (.agg [(.data l7), (.data l8), (.int .i64 i9), (.int .i64 i10), (.int .i64 i11), (.int .i64 i12), (.bool b13)])), (29, .v (.bool b14))] []) n l0 l1 i2 i3 i4 i5 b6 l7 l8 i9 i10 i11 i12 b13 i14 b15) (fun l0 l1 i2 i3 i4 i5 b6 l7 l8 i9 i10 i11 i12 b13 => ∃ n : Nat, L_choose_Check_0_1 a0 a1 a2 a3 (fun l0 l1 i2 i3 i4 i5 b6 l7 l8 i9 i10 i11 i12 b13 b14 => Q (.exit 0) [(1, .box (.agg [(.data l0), (.data l1), (.int .i64 i2), (.int .i64 i3), (.int .i64 i4), (.int .i64 i5), (.bool b6)])), (4, .box (.agg [(.data l7), (.data l8), (.int .i64 i9), (.int .i64 i10), (.int .i64 i11), (.int .i64 i12), (.bool b13)])), (29, .v (.bool b14))] []) n l0 l1 i2 i3 i4 i5 b6 l7 l8 i9 i10 i11 i12 b13) else
 False
def S0_choose_Check (a0 : T_ask_Check) (a1 : T_choose_Start) (a2 : T_choose_step) (a3 : T_s_Equal_api_Query_api_Query) : SE := ⟨E, lookS [(n_ask_Check, pw_ask_Check a0), (n_choose_Start, pw_choose_Start a1), (n_choose_step, pw_choose_step a2), (n_s_Equal_api_Query_api_Query, pw_s_Equal_api_Query_api_Query a3)], lookI [], lp_choose_Check a0 a1 a2 a3⟩
theorem se0_choose_Check : SEOk (S0_choose_Check w_ask_Check w_choose_Start w_choose_step w_s_Equal_api_Query_api_Query) := seOk_of ⟨ok_ask_Check, ok_choose_Start, ok_choose_step, ok_s_Equal_api_Query_api_Query, trivial⟩ trivial
theorem body_choose_Check_0_0 (a0 a1 a2 a3 Q n l0 l1 i2 i3 i4 i5 b6 l7 l8 i9 i10 i11 i12 b13 i14 b15) : WC E (callW (S0_choose_Check a0 a1 a2 a3) 5) (lp_choose_Check a0 a1 a2 a3) b_87884100 [(1, .box (.agg [(.data l0), (.data l1), (.int .i64 i2), (.int .i64 i3), (.int .i64 i4), (.int .i64 i5), (.bool b6)])), (4, .box (.agg [(.data l7), (.data l8), (.int .i64 i9), (.int .i64 i10), (.int .i64 i11), (.int .i64 i12), (.bool b13)])), (5, .v (.int .i64 i14)), (22, .v (.bool b15))] [] (fun x F' H' => match x with | .norm => R_choose_Check_0 a0 a1 a2 a3 Q n F' H' | .exit i => Q (.exit i) F' H' | .ret => Q .ret F' H') = L_choose_Check_0_0 a0 a1 a2 a3 (fun l0 l1 i2 i3 i4 i5 b6 l7 l8 i9 i10 i11 i12 b13 b14 => Q (.exit 0) [(1, .box (.agg [(.data l0), (.data l1), (.int .i64 i2), (.int .i64 i3), (.int .i64 i4), (.int .i64 i5), (.bool b6)])), (4, .box (.agg [(.data l7), (.data l8), (.int .i64 i9), (.int .i64 i10), (.int .i64 i11), (.int .i64 i12), (.bool b13)])), (29, .v (.bool b14))] []) (n + 1) l0 l1 i2 i3 i4 i5 b6 l7 l8 i9 i10 i11 i12 b13 i14 b15 := by kernel_rfl
theorem body_choose_Check_0_1 (a0 a1 a2 a3 Q n l0 l1 i2 i3 i4 i5 b6 l7 l8 i9 i10 i11 i12 b13) : WC E (callW (S0_choose_Check a0 a1 a2 a3) 5) (lp_choose_Check a0 a1 a2 a3) b_87884100 [(1, .box (.agg [(.data l0), (.data l1), (.int .i64 i2), (.int .i64 i3), (.int .i64 i4), (.int .i64 i5), (.bool b6)])), (4, .box (.agg [(.data l7), (.data l8), (.int .i64 i9), (.int .i64 i10), (.int .i64 i11), (.int .i64 i12), (.bool b13)]))] [] (fun x F' H' => match x with | .norm => R_choose_Check_0 a0 a1 a2 a3 Q n F' H' | .exit i => Q (.exit i) F' H' | .ret => Q .ret F' H') = L_choose_Check_0_1 a0 a1 a2 a3 (fun l0 l1 i2 i3 i4 i5 b6 l7 l8 i9 i10 i11 i12 b13 b14 => Q (.exit 0) [(1, .box (.agg [(.data l0), (.data l1), (.int .i64 i2), (.int .i64 i3), (.int .i64 i4), (.int .i64 i5), (.bool b6)])), (4, .box (.agg [(.data l7), (.data l8), (.int .i64 i9), (.int .i64 i10), (.int .i64 i11), (.int .i64 i12), (.bool b13)])), (29, .v (.bool b14))] []) (n + 1) l0 l1 i2 i3 i4 i5 b6 l7 l8 i9 i10 i11 i12 b13 := by kernel_rfl
theorem lpb_choose_Check_0 : LpOk E (lp_choose_Check w_ask_Check w_choose_Start w_choose_step w_s_Equal_api_Query_api_Query) b_87884100 := (LpOk_no (by kernel_rfl))
theorem loop_choose_Check_0 : ∀ F H Q, lp_choose_Check w_ask_Check w_choose_Start w_choose_step w_s_Equal_api_Query_api_Query 87884100 F H Q → LoopT E b_87884100 F H Q := by
 intro F H Q h
 have go := LoopT.intro (callW_ok se0_choose_Check 5) lpb_choose_Check_0 (R_choose_Check_0 w_ask_Check w_choose_Start w_choose_step w_s_Equal_api_Query_api_Query Q) (by
   intro F H h
   unfold R_choose_Check_0 D_choose_Check_0 at h
   split at h
   · exact h
   · exact h
   · exact h) (by
   intro n F H h
   unfold R_choose_Check_0 D_choose_Check_0 at h
   split at h
   · exact (body_choose_Check_0_0 ..).mpr h
   · exact (body_choose_Check_0_1 ..).mpr h
   · exact h.elim)
 have h : D_choose_Check_0 F H _ _ := h
 unfold D_choose_Check_0 at h
 split at h
 · obtain ⟨n, h⟩ := h; exact go n _ _ h
 · obtain ⟨n, h⟩ := h; exact go n _ _ h
 · exact h.elim
theorem eq_choose_Check (a0 a1 a2 a3 p0 p1 p2 p3 p4 p5 p6 K) : WP (S0_choose_Check a0 a1 a2 a3) 6 t_choose_Check [(.agg [(.data p0), (.data p1), (.int .i64 p2), (.int .i64 p3), (.int .i64 p4), (.int .i64 p5), (.bool p6)])] K = wv_choose_Check a0 a1 a2 a3 p0 p1 p2 p3 p4 p5 p6 (fun r0 => K (.int .i64 r0)) := by kernel_rfl
theorem ok_choose_Check : OkF E wp_choose_Check n_choose_Check := by
 intro as K h
 unfold wp_choose_Check pw_choose_Check at h
 split at h
 · exact WP_ok se0_choose_Check (LpOk_by (l := [(87884100, b_87884100)]) ⟨loop_choose_Check_0, trivial⟩ (by kernel_rfl)) (by kernel_rfl) (by kernel_rfl) (fun _ => baseC_none (by kernel_rfl) _) ((eq_choose_Check ..).mpr h)
 · exact h.elim
abbrev T_choose_Division : Type := List PV → List PV → Int → Int → Int → Int → Bool → (List PV → Int → Prop) → Prop
def wv_choose_Division (a0 : T_choose_Check) (p0 p1 : List PV) (p2 p3 p4 p5 : Int) (p6 : Bool) (K : List PV → Int → Prop) : Prop :=
 (a0 p0 p1 p2 p3 p4 p5 p6 (fun yi0 => 
 (cbr (yi0 != (0 : Int))
 (K ([] : List PV) yi0)
 (cbr (decide (p3 < (2 : Int)))
 (K ([] : List PV) (36 : Int))
 (cbr p6
 (asr (decide ((0 : Int) ≤ (IntKind.i64.wrap ((1 : Int) - p2))))
 (asr (decide ((IntKind.i64.wrap ((1 : Int) - p2)) < (2 : Int)))
 (asr (decide ((0 + ((IntKind.i64.wrap ((1 : Int) - p2)).toNat)) < 2))
 (asr (conf (.one (.d)) (List.getD ([(.data ([] : List PV)), (.data ([] : List PV))] : List PV) (0 + ((IntKind.i64.wrap ((1 : Int) - p2)).toNat)) .nils))
 (asr (decide ((0 : Int) < (((List.length p0) : Nat) : Int)))
 (asr (conf (.agg [.i .i64, .d, .d]) (List.getD p0 0 .nils))
 (asr (decide ((0 : Int) ≤ (IntKind.i64.wrap ((1 : Int) - (IntKind.i64.wrap ((1 : Int) - p2))))))
 (asr (decide ((IntKind.i64.wrap ((1 : Int) - (IntKind.i64.wrap ((1 : Int) - p2)))) < (2 : Int)))
 (asr (decide ((List.length (List.set ([(.data ([] : List PV)), (.data ([] : List PV))] : List PV) (0 + ((IntKind.i64.wrap ((1 : Int) - p2)).toNat)) (.data ([(.agg [(.int .i64 (0 : Int)), (.int .i64 (1 : Int)), (.int .i64 p4), (.int .i64 p5)])] : List PV)))) = 2))
 (asr (decide ((0 + ((IntKind.i64.wrap ((1 : Int) - (IntKind.i64.wrap ((1 : Int) - p2)))).toNat)) < (List.length (List.set ([(.data ([] : List PV)), (.data ([] : List PV))] : List PV) (0 + ((IntKind.i64.wrap ((1 : Int) - p2)).toNat)) (.data ([(.agg [(.int .i64 (0 : Int)), (.int .i64 (1 : Int)), (.int .i64 p4), (.int .i64 p5)])] : List PV))))))
 (asr (conf (.one (.d)) (List.getD (List.set ([(.data ([] : List PV)), (.data ([] : List PV))] : List PV) (0 + ((IntKind.i64.wrap ((1 : Int) - p2)).toNat)) (.data ([(.agg [(.int .i64 (0 : Int)), (.int .i64 (1 : Int)), (.int .i64 p4), (.int .i64 p5)])] : List PV))) (0 + ((IntKind.i64.wrap ((1 : Int) - (IntKind.i64.wrap ((1 : Int) - p2)))).toNat)) .nils))
 (asr (decide ((List.length (List.set (List.set ([(.data ([] : List PV)), (.data ([] : List PV))] : List PV) (0 + ((IntKind.i64.wrap ((1 : Int) - p2)).toNat)) (.data ([(.agg [(.int .i64 (0 : Int)), (.int .i64 (1 : Int)), (.int .i64 p4), (.int .i64 p5)])] : List PV))) (0 + ((IntKind.i64.wrap ((1 : Int) - (IntKind.i64.wrap ((1 : Int) - p2)))).toNat)) (.data ([(.agg [(.int .i64 p4), (.int .i64 p5), (.int .i64 (intOfV (cellAt (List.getD p0 0 .nils) 0))), (.int .i64 (1 : Int))])] : List PV)))) = 2))
 (K (List.take 2 (List.set (List.set ([(.data ([] : List PV)), (.data ([] : List PV))] : List PV) (0 + ((IntKind.i64.wrap ((1 : Int) - p2)).toNat)) (.data ([(.agg [(.int .i64 (0 : Int)), (.int .i64 (1 : Int)), (.int .i64 p4), (.int .i64 p5)])] : List PV))) (0 + ((IntKind.i64.wrap ((1 : Int) - (IntKind.i64.wrap ((1 : Int) - p2)))).toNat)) (.data ([(.agg [(.int .i64 p4), (.int .i64 p5), (.int .i64 (intOfV (cellAt (List.getD p0 0 .nils) 0))), (.int .i64 (1 : Int))])] : List PV)))) (0 : Int))))))))))))))
 (asr (decide ((0 : Int) ≤ p2))
 (asr (decide (p2 < (2 : Int)))
 (asr (decide ((0 + (p2.toNat)) < 2))
 (asr (conf (.one (.d)) (List.getD ([(.data ([] : List PV)), (.data ([] : List PV))] : List PV) (0 + (p2.toNat)) .nils))
 (asr (decide ((0 : Int) < (((List.length p0) : Nat) : Int)))
 (asr (conf (.agg [.i .i64, .d, .d]) (List.getD p0 0 .nils))
 (asr (decide ((0 : Int) ≤ (IntKind.i64.wrap ((1 : Int) - p2))))
 (asr (decide ((IntKind.i64.wrap ((1 : Int) - p2)) < (2 : Int)))
 (asr (decide ((List.length (List.set ([(.data ([] : List PV)), (.data ([] : List PV))] : List PV) (0 + (p2.toNat)) (.data ([(.agg [(.int .i64 (0 : Int)), (.int .i64 (1 : Int)), (.int .i64 p4), (.int .i64 p5)])] : List PV)))) = 2))
 (asr (decide ((0 + ((IntKind.i64.wrap ((1 : Int) - p2)).toNat)) < (List.length (List.set ([(.data ([] : List PV)), (.data ([] : List PV))] : List PV) (0 + (p2.toNat)) (.data ([(.agg [(.int .i64 (0 : Int)), (.int .i64 (1 : Int)), (.int .i64 p4), (.int .i64 p5)])] : List PV))))))
 (asr (conf (.one (.d)) (List.getD (List.set ([(.data ([] : List PV)), (.data ([] : List PV))] : List PV) (0 + (p2.toNat)) (.data ([(.agg [(.int .i64 (0 : Int)), (.int .i64 (1 : Int)), (.int .i64 p4), (.int .i64 p5)])] : List PV))) (0 + ((IntKind.i64.wrap ((1 : Int) - p2)).toNat)) .nils))
 (asr (decide ((List.length (List.set (List.set ([(.data ([] : List PV)), (.data ([] : List PV))] : List PV) (0 + (p2.toNat)) (.data ([(.agg [(.int .i64 (0 : Int)), (.int .i64 (1 : Int)), (.int .i64 p4), (.int .i64 p5)])] : List PV))) (0 + ((IntKind.i64.wrap ((1 : Int) - p2)).toNat)) (.data ([(.agg [(.int .i64 p4), (.int .i64 p5), (.int .i64 (intOfV (cellAt (List.getD p0 0 .nils) 0))), (.int .i64 (1 : Int))])] : List PV)))) = 2))
 (K (List.take 2 (List.set (List.set ([(.data ([] : List PV)), (.data ([] : List PV))] : List PV) (0 + (p2.toNat)) (.data ([(.agg [(.int .i64 (0 : Int)), (.int .i64 (1 : Int)), (.int .i64 p4), (.int .i64 p5)])] : List PV))) (0 + ((IntKind.i64.wrap ((1 : Int) - p2)).toNat)) (.data ([(.agg [(.int .i64 p4), (.int .i64 p5), (.int .i64 (intOfV (cellAt (List.getD p0 0 .nils) 0))), (.int .i64 (1 : Int))])] : List PV)))) (0 : Int)))))))))))))))))))
def w_choose_Division (p0 p1 : List PV) (p2 p3 p4 p5 : Int) (p6 : Bool) (K : List PV → Int → Prop) : Prop := wv_choose_Division w_choose_Check p0 p1 p2 p3 p4 p5 p6 K
def pw_choose_Division (w : T_choose_Division) (as : List PV) (K : PV → Prop) : Prop :=
 match as with
 | [(.agg [(.data p0), (.data p1), (.int .i64 p2), (.int .i64 p3), (.int .i64 p4), (.int .i64 p5), (.bool p6)])] => w p0 p1 p2 p3 p4 p5 p6 (fun r0 r1 => K (.tup [(.agg [(.data r0)]), (.int .i64 r1)]))
 | _ => False
def wp_choose_Division (as : List PV) (K : PV → Prop) : Prop := pw_choose_Division w_choose_Division as K
def lp_choose_Division (_ : T_choose_Check) : LP := fun _ _ _ _ =>
 False
def S0_choose_Division (a0 : T_choose_Check) : SE := ⟨E, lookS [(n_choose_Check, pw_choose_Check a0)], lookI [], lp_choose_Division a0⟩
theorem se0_choose_Division : SEOk (S0_choose_Division w_choose_Check) := seOk_of ⟨ok_choose_Check, trivial⟩ trivial
theorem eq_choose_Division (a0 p0 p1 p2 p3 p4 p5 p6 K) : WP (S0_choose_Division a0) 6 t_choose_Division [(.agg [(.data p0), (.data p1), (.int .i64 p2), (.int .i64 p3), (.int .i64 p4), (.int .i64 p5), (.bool p6)])] K = wv_choose_Division a0 p0 p1 p2 p3 p4 p5 p6 (fun r0 r1 => K (.tup [(.agg [(.data r0)]), (.int .i64 r1)])) := by kernel_rfl
theorem ok_choose_Division : OkF E wp_choose_Division n_choose_Division := by
 intro as K h
 unfold wp_choose_Division pw_choose_Division at h
 split at h
 · exact WP_ok se0_choose_Division (LpOk_no (by kernel_rfl)) (by kernel_rfl) (by kernel_rfl) (fun _ => baseC_none (by kernel_rfl) _) ((eq_choose_Division ..).mpr h)
 · exact h.elim
abbrev T_choose_Run : Type := List PV → Int → (List PV → List PV → Int → Prop) → Prop
end Go.Pf.Vc
