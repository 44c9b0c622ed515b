/- Part 3 of what the statement rests on: a verified evaluator over pure values, the conditions of the program's functions, and their plain laws. -/
import Derived.Test.YtniodknidoemfaaKsW2
namespace Go.Pf.Vc
open Go Go.Pf
set_option maxRecDepth 100000
mutual
def L_ask_copied_0_0 (a0 : T_s_Clone_int_int) (x0 : List PV → List PV → Int → Int → Bool → Prop) (x1 : List PV → Int → Int → Bool → Prop) : Nat → List PV → Int → Int → Prop
 | 0, _, _, _ => False
 | n + 1, l0, i1, i2 =>
 (cbr (decide (i2 < i1))
 (asr (decide ((0 : Int) ≤ i2))
 (asr (decide (i2 < (((List.length l0) : Nat) : Int)))
 (asr (conf (.agg [.i .i64, .d, .d]) (List.getD l0 (i2.toNat) .nils))
 (a0 (datOfV (cellAt (List.getD l0 (i2.toNat) .nils) 1)) (fun yl0 => 
 (a0 (datOfV (cellAt (List.getD l0 (i2.toNat) .nils) 2)) (fun yl1 => 
 (asr (decide ((List.length ([(.agg [(.int .i64 (intOfV (cellAt (List.getD l0 (i2.toNat) .nils) 0))), (.data yl0), (.data yl1)])] : List PV)) = List.length ([(.agg [(.int .i64 (intOfV (cellAt (List.getD l0 (i2.toNat) .nils) 0))), (.data yl0), (.data yl1)])] : List PV)) && decide ((List.length ([(.agg [(.int .i64 (intOfV (cellAt (List.getD l0 (i2.toNat) .nils) 0))), (.data yl0), (.data yl1)])] : List PV)) = List.length ([(.agg [(.int .i64 (intOfV (cellAt (List.getD l0 (i2.toNat) .nils) 0))), (.data yl0), (.data yl1)])] : List PV)))
 (L_ask_copied_0_1 a0 x0 x1 n ([(.agg [(.int .i64 (intOfV (cellAt (List.getD l0 (i2.toNat) .nils) 0))), (.data yl0), (.data yl1)])] : List PV) l0 i1 (IntKind.i64.wrap (i2 + (1 : Int))))))))))))
 (x1 l0 i1 i2 false))
def L_ask_copied_0_1 (a0 : T_s_Clone_int_int) (x0 : List PV → List PV → Int → Int → Bool → Prop) (x1 : List PV → Int → Int → Bool → Prop) : Nat → List PV → List PV → Int → Int → Prop
 | 0, _, _, _, _ => False
 | n + 1, l0, l3, i4, i5 =>
 (cbr (decide (i5 < i4))
 (asr (decide ((0 : Int) ≤ i5))
 (asr (decide (i5 < (((List.length l3) : Nat) : Int)))
 (asr (conf (.agg [.i .i64, .d, .d]) (List.getD l3 (i5.toNat) .nils))
 (a0 (datOfV (cellAt (List.getD l3 (i5.toNat) .nils) 1)) (fun yl2 => 
 (a0 (datOfV (cellAt (List.getD l3 (i5.toNat) .nils) 2)) (fun yl3 => 
 (asr (decide ((List.length l0) = (List.length l0)))
 (asr (decide ((0 + (List.length l0)) ≤ (List.length l0)))
 (asr (!(decide (((0 + (List.length l0)) + 1) ≤ (List.length l0))))
 (asr (decide ((List.length l0) = (List.length l0)))
 (asr (decide ((((List.length l0) + 1) + 64) * (56 + 1) ≤ room))
 (asr (decide ((List.length (l0 ++ ([(.agg [(.int .i64 (intOfV (cellAt (List.getD l3 (i5.toNat) .nils) 0))), (.data yl2), (.data yl3)])] : List PV))) = List.length (l0 ++ ([(.agg [(.int .i64 (intOfV (cellAt (List.getD l3 (i5.toNat) .nils) 0))), (.data yl2), (.data yl3)])] : List PV))) && decide ((List.length (l0 ++ ([(.agg [(.int .i64 (intOfV (cellAt (List.getD l3 (i5.toNat) .nils) 0))), (.data yl2), (.data yl3)])] : List PV))) = List.length (l0 ++ ([(.agg [(.int .i64 (intOfV (cellAt (List.getD l3 (i5.toNat) .nils) 0))), (.data yl2), (.data yl3)])] : List PV))))
 (L_ask_copied_0_1 a0 x0 x1 n (l0 ++ ([(.agg [(.int .i64 (intOfV (cellAt (List.getD l3 (i5.toNat) .nils) 0))), (.data yl2), (.data yl3)])] : List PV)) l3 i4 (IntKind.i64.wrap (i5 + (1 : Int)))))))))))))))))
 (x0 l0 l3 i4 i5 false))
end
def wv_ask_copied (a0 : T_s_Clone_int_int) (p0 : List PV) (K : List PV → Prop) : Prop :=
 (∃ n : Nat, L_ask_copied_0_0 a0
 (fun yl4 _ _ _ _ => (asr (decide ((List.length yl4) = (List.length yl4)))
 (asr (decide ((0 + (List.length yl4)) ≤ (List.length yl4)))
 (K (List.take (List.length yl4) yl4)))))
 (fun _ _ _ _ => (K ([] : List PV)))
 n p0 (((List.length p0) : Nat) : Int) (0 : Int))
def w_ask_copied (p0 : List PV) (K : List PV → Prop) : Prop := wv_ask_copied w_s_Clone_int_int p0 K
def pw_ask_copied (w : T_ask_copied) (as : List PV) (K : PV → Prop) : Prop :=
 match as with
 | [(.data p0)] => w p0 (fun r0 => K (.data r0))
 | _ => False
def wp_ask_copied (as : List PV) (K : PV → Prop) : Prop := pw_ask_copied w_ask_copied as K
def D_ask_copied_0 (F : Frm) (H : Hp) (A0 : List PV → Int → Int → Prop) (A1 : List PV → List PV → Int → Int → Prop) : Prop :=
 match F, H with
 | [(3, .v .nils), (6, .v (.data l0)), (7, .v (.int .i64 i1)), (8, .v (.int .i64 i2))], [] => (A0 l0 i1 i2)
 | [(3, .v (.own 0 0 t1 t2 none)), (6, .v (.data l3)), (7, .v (.int .i64 i4)), (8, .v (.int .i64 i5))], [⟨false, true, 3, l0⟩] => asr (decide (t1 = List.length l0) && decide (t2 = List.length l0)) (A1 l0 l3 i4 i5)
 | _, _ => False
def R_ask_copied_0 (a0 : T_s_Clone_int_int) (Q : Ex → Frm → Hp → Prop) (n : Nat) (F : Frm) (H : Hp) : Prop := D_ask_copied_0 F H (fun l0 i1 i2 => L_ask_copied_0_0 a0 (fun l0 l3 i4 i5 b6 => Q (.exit 0) [(3, .v (.own 0 0 (List.length l0) (List.length l0) none)), (6, .v (.data l3)), (7, .v (.int .i64 i4)), (8, .v (.int .i64 i5)), (9, .v (.bool b6))] [⟨false, true, 3, l0⟩]) (fun l0 i1 i2 b3 => Q (.exit 0) [(3, .v .nils), (6, .v (.data l0)), (7, .v (.int .i64 i1)), (8, .v (.int .i64 i2)), (9, .v (.bool b3))] []) n l0 i1 i2) (fun l0 l3 i4 i5 => L_ask_copied_0_1 a0 (fun l0 l3 i4 i5 b6 => Q (.exit 0) [(3, .v (.own 0 0 (List.length l0) (List.length l0) none)), (6, .v (.data l3)), (7, .v (.int .i64 i4)), (8, .v (.int .i64 i5)), (9, .v (.bool b6))] [⟨false, true, 3, l0⟩]) (fun l0 i1 i2 b3 => Q (.exit 0) [(3, .v .nils), (6, .v (.data l0)), (7, .v (.int .i64 i1)), (8, .v (.int .i64 i2)), (9, .v (.bool b3))] []) n l0 l3 i4 i5)
def lp_ask_copied (a0 : T_s_Clone_int_int) : LP := fun id F H Q =>
 bif Nat.beq id 94933800 then D_ask_copied_0 F H (fun l0 i1 i2 => ∃ n : Nat, L_ask_copied_0_0 a0 (fun l0 l3 i4 i5 b6 => Q (.exit 0) [(3, .v (.own 0 0 (List.length l0) (List.length l0) none)), (6, .v (.data l3)), (7, .v (.int .i64 i4)), (8, .v (.int .i64 i5)), (9, .v (.bool b6))] [⟨false, true, 3, l0⟩]) (fun l0 i1 i2 b3 => Q (.exit 0) [(3, .v .nils), (6, .v (.data l0)), (7, .v (.int .i64 i1)), (8, .v (.int .i64 i2)), (9, .v (.bool b3))] []) n l0 i1 i2) (fun l0 l3 i4 i5 => ∃ n : Nat, L_ask_copied_0_1 a0 (fun l0 l3 i4 i5 b6 => Q (.exit 0) [(3, .v (.own 0 0 (List.length l0) (List.length l0) none)), (6, .v (.data l3)), (7, .v (.int .i64 i4)), (8, .v (.int .i64 i5)), (9, .v (.bool b6))] [⟨false, true, 3, l0⟩]) (fun l0 i1 i2 b3 => Q (.exit 0) [(3, .v .nils), (6, .v (.data l0)), (7, .v (.int .i64 i1)), (8, .v (.int .i64 i2)), (9, .v (.bool b3))] []) n l0 l3 i4 i5) else
 False
def S0_ask_copied (a0 : T_s_Clone_int_int) : SE := ⟨E, lookS [(n_s_Clone_int_int, pw_s_Clone_int_int a0)], lookI [], lp_ask_copied a0⟩
theorem se0_ask_copied : SEOk (S0_ask_copied w_s_Clone_int_int) := seOk_of ⟨ok_s_Clone_int_int, trivial⟩ trivial
theorem body_ask_copied_0_0 (a0 Q n l0 i1 i2) : WC E (callW (S0_ask_copied a0) 5) (lp_ask_copied a0) b_94933800 [(3, .v .nils), (6, .v (.data l0)), (7, .v (.int .i64 i1)), (8, .v (.int .i64 i2))] [] (fun x F' H' => match x with | .norm => R_ask_copied_0 a0 Q n F' H' | .exit i => Q (.exit i) F' H' | .ret => Q .ret F' H') = L_ask_copied_0_0 a0 (fun l0 l3 i4 i5 b6 => Q (.exit 0) [(3, .v (.own 0 0 (List.length l0) (List.length l0) none)), (6, .v (.data l3)), (7, .v (.int .i64 i4)), (8, .v (.int .i64 i5)), (9, .v (.bool b6))] [⟨false, true, 3, l0⟩]) (fun l0 i1 i2 b3 => Q (.exit 0) [(3, .v .nils), (6, .v (.data l0)), (7, .v (.int .i64 i1)), (8, .v (.int .i64 i2)), (9, .v (.bool b3))] []) (n + 1) l0 i1 i2 := by kernel_rfl
theorem body_ask_copied_0_1 (a0 Q n l0 l3 i4 i5) : WC E (callW (S0_ask_copied a0) 5) (lp_ask_copied a0) b_94933800 [(3, .v (.own 0 0 (List.length l0) (List.length l0) none)), (6, .v (.data l3)), (7, .v (.int .i64 i4)), (8, .v (.int .i64 i5))] [⟨false, true, 3, l0⟩] (fun x F' H' => match x with | .norm => R_ask_copied_0 a0 Q n F' H' | .exit i => Q (.exit i) F' H' | .ret => Q .ret F' H') = L_ask_copied_0_1 a0 (fun l0 l3 i4 i5 b6 => Q (.exit 0) [(3, .v (.own 0 0 (List.length l0) (List.length l0) none)), (6, .v (.data l3)), (7, .v (.int .i64 i4)), (8, .v (.int .i64 i5)), (9, .v (.bool b6))] [⟨false, true, 3, l0⟩]) (fun l0 i1 i2 b3 => Q (.exit 0) [(3, .v .nils), (6, .v (.data l0)), (7, .v (.int .i64 i1)), (8, .v (.int .i64 i2)), (9, .v (.bool b3))] []) (n + 1) l0 l3 i4 i5 := by kernel_rfl
theorem lpb_ask_copied_0 : LpOk E (lp_ask_copied w_s_Clone_int_int) b_94933800 := (LpOk_no (by kernel_rfl))
theorem loop_ask_copied_0 : ∀ F H Q, lp_ask_copied w_s_Clone_int_int 94933800 F H Q → LoopT E b_94933800 F H Q := by
 intro F H Q h
 have go := LoopT.intro (callW_ok se0_ask_copied 5) lpb_ask_copied_0 (R_ask_copied_0 w_s_Clone_int_int Q) (by
   intro F H h
   unfold R_ask_copied_0 D_ask_copied_0 at h
   split at h
   · exact h
   · obtain ⟨hg, k⟩ := asr_iff.1 h
     clear h
     have h := k
     clear k
     try simp only [Bool.and_eq_true, decide_eq_true_eq] at hg
     obtain ⟨g0, g1⟩ := hg; subst g0; subst g1; exact h
   · exact h) (by
   intro n F H h
   unfold R_ask_copied_0 D_ask_copied_0 at h
   split at h
   · exact (body_ask_copied_0_0 ..).mpr h
   · obtain ⟨hg, k⟩ := asr_iff.1 h
     clear h
     have h := k
     clear k
     try simp only [Bool.and_eq_true, decide_eq_true_eq] at hg
     obtain ⟨g0, g1⟩ := hg; subst g0; subst g1; exact (body_ask_copied_0_1 ..).mpr h
   · exact h.elim)
 have h : D_ask_copied_0 F H _ _ := h
 unfold D_ask_copied_0 at h
 split at h
 · obtain ⟨n, h⟩ := h; exact go n _ _ h
 · obtain ⟨hg, n, h⟩ := asr_iff.1 h; exact go n _ _ (asr_iff.2 ⟨hg, h⟩)
 · exact h.elim
theorem eq_ask_copied (a0 p0 K) : WP (S0_ask_copied a0) 6 t_ask_copied [(.data p0)] K = wv_ask_copied a0 p0 (fun r0 => K (.data r0)) := by kernel_rfl
theorem ok_ask_copied : OkF E wp_ask_copied n_ask_copied := by
 intro as K h
 unfold wp_ask_copied pw_ask_copied at h
 split at h
 · exact WP_ok se0_ask_copied (LpOk_by (l := [(94933800, b_94933800)]) ⟨loop_ask_copied_0, trivial⟩ (by kernel_rfl)) (by kernel_rfl) (by kernel_rfl) (fun _ => baseC_none (by kernel_rfl) _) ((eq_ask_copied ..).mpr h)
 · exact h.elim
abbrev T_ask_Open : Type := List PV → (List PV → List PV → Int → Prop) → Prop
def wv_ask_Open (a0 : T_ask_Check) (a1 : T_ask_copied) (p0 : List PV) (K : List PV → List PV → Int → Prop) : Prop :=
 (a0 p0 ([] : List PV) (fun yi0 => 
 (cbr (yi0 != (0 : Int))
 (K ([] : List PV) ([] : List PV) yi0)
 (a1 p0 (fun yl1 => 
 (K yl1 ([] : List PV) (0 : Int)))))))
def w_ask_Open (p0 : List PV) (K : List PV → List PV → Int → Prop) : Prop := wv_ask_Open w_ask_Check w_ask_copied p0 K
def pw_ask_Open (w : T_ask_Open) (as : List PV) (K : PV → Prop) : Prop :=
 match as with
 | [(.data p0)] => w p0 (fun r0 r1 r2 => K (.tup [(.agg [(.data r0), (.data r1)]), (.int .i64 r2)]))
 | _ => False
def wp_ask_Open (as : List PV) (K : PV → Prop) : Prop := pw_ask_Open w_ask_Open as K
def lp_ask_Open (_ : T_ask_Check) (_ : T_ask_copied) : LP := fun _ _ _ _ =>
 False
def S0_ask_Open (a0 : T_ask_Check) (a1 : T_ask_copied) : SE := ⟨E, lookS [(n_ask_Check, pw_ask_Check a0), (n_ask_copied, pw_ask_copied a1)], lookI [], lp_ask_Open a0 a1⟩
theorem se0_ask_Open : SEOk (S0_ask_Open w_ask_Check w_ask_copied) := seOk_of ⟨ok_ask_Check, ok_ask_copied, trivial⟩ trivial
theorem eq_ask_Open (a0 a1 p0 K) : WP (S0_ask_Open a0 a1) 6 t_ask_Open [(.data p0)] K = wv_ask_Open a0 a1 p0 (fun r0 r1 r2 => K (.tup [(.agg [(.data r0), (.data r1)]), (.int .i64 r2)])) := by kernel_rfl
theorem ok_ask_Open : OkF E wp_ask_Open n_ask_Open := by
 intro as K h
 unfold wp_ask_Open pw_ask_Open at h
 split at h
 · exact WP_ok se0_ask_Open (LpOk_no (by kernel_rfl)) (by kernel_rfl) (by kernel_rfl) (fun _ => baseC_none (by kernel_rfl) _) ((eq_ask_Open ..).mpr h)
 · exact h.elim
abbrev T_ask_office_mark : Type := List PV → List PV → Int → Int → Int → Int → Int → (Int → Int → Int → Prop) → Prop
def wv_ask_office_mark (a0 : T_cake_Mark) (p0 _ : List PV) (p2 p3 p4 p5 p6 : Int) (K : Int → Int → Int → Prop) : Prop :=
 (asr (decide ((0 : Int) ≤ p2))
 (asr (decide (p2 < (((List.length p0) : Nat) : Int)))
 (asr (conf (.agg [.i .i64, .d, .d]) (List.getD p0 (p2.toNat) .nils))
 (a0 (intOfV (cellAt (List.getD p0 (p2.toNat) .nils) 0)) (datOfV (cellAt (List.getD p0 (p2.toNat) .nils) 1)) (datOfV (cellAt (List.getD p0 (p2.toNat) .nils) 2)) p3 p4 p5 p6 (fun yi0 yi1 yi2 => 
 (K yi0 yi1 yi2))))))
def w_ask_office_mark (p0 p1 : List PV) (p2 p3 p4 p5 p6 : Int) (K : Int → Int → Int → Prop) : Prop := wv_ask_office_mark w_cake_Mark p0 p1 p2 p3 p4 p5 p6 K
def pw_ask_office_mark (w : T_ask_office_mark) (as : List PV) (K : PV → Prop) : Prop :=
 match as with
 | [(.agg [(.data p0), (.data p1)]), (.int .i64 p2), (.agg [(.int .i64 p3), (.int .i64 p4)]), (.agg [(.int .i64 p5), (.int .i64 p6)])] => w p0 p1 p2 p3 p4 p5 p6 (fun r0 r1 r2 => K (.tup [(.agg [(.int .i64 r0), (.int .i64 r1)]), (.int .i64 r2)]))
 | _ => False
def wp_ask_office_mark (as : List PV) (K : PV → Prop) : Prop := pw_ask_office_mark w_ask_office_mark as K
def lp_ask_office_mark (_ : T_cake_Mark) : LP := fun _ _ _ _ =>
 False
def S0_ask_office_mark (a0 : T_cake_Mark) : SE := ⟨E, lookS [(n_cake_Mark, pw_cake_Mark a0)], lookI [], lp_ask_office_mark a0⟩
theorem se0_ask_office_mark : SEOk (S0_ask_office_mark w_cake_Mark) := seOk_of ⟨ok_cake_Mark, trivial⟩ trivial
theorem eq_ask_office_mark (a0 p0 p1 p2 p3 p4 p5 p6 K) : WP (S0_ask_office_mark a0) 6 t_ask_office_mark [(.agg [(.data p0), (.data p1)]), (.int .i64 p2), (.agg [(.int .i64 p3), (.int .i64 p4)]), (.agg [(.int .i64 p5), (.int .i64 p6)])] K = wv_ask_office_mark a0 p0 p1 p2 p3 p4 p5 p6 (fun r0 r1 r2 => K (.tup [(.agg [(.int .i64 r0), (.int .i64 r1)]), (.int .i64 r2)])) := by kernel_rfl
theorem ok_ask_office_mark : OkF E wp_ask_office_mark n_ask_office_mark := by
 intro as K h
 unfold wp_ask_office_mark pw_ask_office_mark at h
 split at h
 · exact WP_ok se0_ask_office_mark (LpOk_no (by kernel_rfl)) (by kernel_rfl) (by kernel_rfl) (fun _ => baseC_none (by kernel_rfl) _) ((eq_ask_office_mark ..).mpr h)
 · exact h.elim
abbrev T_ask_office_has : Type := List PV → List PV → Int → (Bool → Prop) → Prop
def wv_ask_office_has (p0 _ : List PV) (p2 : Int) (K : Bool → Prop) : Prop :=
 (cbr (decide (p2 ≥ (0 : Int)))
 (K (decide (p2 < (((List.length p0) : Nat) : Int))))
 (K false))
def w_ask_office_has (p0 p1 : List PV) (p2 : Int) (K : Bool → Prop) : Prop := wv_ask_office_has p0 p1 p2 K
def pw_ask_office_has (w : T_ask_office_has) (as : List PV) (K : PV → Prop) : Prop :=
 match as with
 | [(.agg [(.data p0), (.data p1)]), (.int .i64 p2)] => w p0 p1 p2 (fun r0 => K (.bool r0))
 | _ => False
def wp_ask_office_has (as : List PV) (K : PV → Prop) : Prop := pw_ask_office_has w_ask_office_has as K
def lp_ask_office_has : LP := fun _ _ _ _ =>
 False
def S0_ask_office_has : SE := ⟨E, lookS [], lookI [], lp_ask_office_has⟩
theorem se0_ask_office_has : SEOk (S0_ask_office_has) := seOk_of trivial trivial
theorem eq_ask_office_has ( p0 p1 p2 K) : WP (S0_ask_office_has) 6 t_ask_office_has [(.agg [(.data p0), (.data p1)]), (.int .i64 p2)] K = wv_ask_office_has p0 p1 p2 (fun r0 => K (.bool r0)) := by kernel_rfl
theorem ok_ask_office_has : OkF E wp_ask_office_has n_ask_office_has := by
 intro as K h
 unfold wp_ask_office_has pw_ask_office_has at h
 split at h
 · exact WP_ok se0_ask_office_has (LpOk_no (by kernel_rfl)) (by kernel_rfl) (by kernel_rfl) (fun _ => baseC_none (by kernel_rfl) _) ((eq_ask_office_has ..).mpr h)
 · exact h.elim
abbrev T_ask_Mark : Type := List PV → List PV → Int → Int → Int → Int → Int → (List PV → List PV → Int → Int → Int → Prop) → Prop
def wv_ask_Mark (a0 : T_ask_Check) (a1 : T_ask_office_has) (a2 : T_ask_office_mark) (a3 : T_ask_copied) (p0 p1 : List PV) (p2 p3 p4 p5 p6 : Int) (K : List PV → List PV → Int → Int → Int → Prop) : Prop :=
 (a0 p0 p1 (fun yi0 => 
 (cbr (yi0 != (0 : Int))
 (K ([] : List PV) ([] : List PV) (0 : Int) (0 : Int) yi0)
 (a1 p0 p1 p2 (fun yb1 => 
 (cbr (!yb1)
 (K ([] : List PV) ([] : List PV) (0 : Int) (0 : Int) (2 : Int))
 (a2 p0 p1 p2 p3 p4 p5 p6 (fun yi2 yi3 yi4 => 
 (cbr (yi4 != (0 : Int))
 (K ([] : List PV) ([] : List PV) (0 : Int) (0 : Int) yi4)
 (cbr (decide ((((List.length p1) : Nat) : Int) ≥ (2000 : Int)))
 (K ([] : List PV) ([] : List PV) (0 : Int) (0 : Int) (4 : Int))
 (asr (decide ((0 : Int) ≤ (IntKind.i64.wrap ((((List.length p1) : Nat) : Int) + (1 : Int)))))
 (asr (decide ((((IntKind.i64.wrap ((((List.length p1) : Nat) : Int) + (1 : Int))).toNat) + 64) * (64 + 1) ≤ room))
 (a3 p0 (fun yl5 => 
 (asr (headOk 8 p1)
 (asr (decide ((List.length (List.replicate ((IntKind.i64.wrap ((((List.length p1) : Nat) : Int) + (1 : Int))).toNat) ((.agg [(.int .i64 (0)), (.int .u8 (0)), (.int .i64 (0)), (.int .i64 (0)), (.int .i64 (0)), (.int .i64 (0)), (.int .i64 (0)), (.int .i64 (0))]) : PV))) = ((IntKind.i64.wrap ((((List.length p1) : Nat) : Int) + (1 : Int))).toNat)))
 (asr (decide (0 ≤ ((IntKind.i64.wrap ((((List.length p1) : Nat) : Int) + (1 : Int))).toNat)))
 (cbr (List.isEmpty p1)
 (asr (decide ((List.length (List.replicate ((IntKind.i64.wrap ((((List.length p1) : Nat) : Int) + (1 : Int))).toNat) ((.agg [(.int .i64 (0)), (.int .u8 (0)), (.int .i64 (0)), (.int .i64 (0)), (.int .i64 (0)), (.int .i64 (0)), (.int .i64 (0)), (.int .i64 (0))]) : PV))) = ((IntKind.i64.wrap ((((List.length p1) : Nat) : Int) + (1 : Int))).toNat)))
 (asr (decide (0 ≤ ((IntKind.i64.wrap ((((List.length p1) : Nat) : Int) + (1 : Int))).toNat)))
 (asr (decide (1 ≤ ((IntKind.i64.wrap ((((List.length p1) : Nat) : Int) + (1 : Int))).toNat)))
 (asr (decide ((List.length (([(.agg [(.int .i64 p2), (.int .u8 (2 : Int)), (.int .i64 p3), (.int .i64 p4), (.int .i64 p5), (.int .i64 p6), (.int .i64 yi2), (.int .i64 yi3)])] : List PV) ++ (List.drop 1 (List.replicate ((IntKind.i64.wrap ((((List.length p1) : Nat) : Int) + (1 : Int))).toNat) ((.agg [(.int .i64 (0)), (.int .u8 (0)), (.int .i64 (0)), (.int .i64 (0)), (.int .i64 (0)), (.int .i64 (0)), (.int .i64 (0)), (.int .i64 (0))]) : PV))))) = ((IntKind.i64.wrap ((((List.length p1) : Nat) : Int) + (1 : Int))).toNat)))
 (asr (decide (1 ≤ ((IntKind.i64.wrap ((((List.length p1) : Nat) : Int) + (1 : Int))).toNat)))
 (K yl5 (List.take 1 (([(.agg [(.int .i64 p2), (.int .u8 (2 : Int)), (.int .i64 p3), (.int .i64 p4), (.int .i64 p5), (.int .i64 p6), (.int .i64 yi2), (.int .i64 yi3)])] : List PV) ++ (List.drop 1 (List.replicate ((IntKind.i64.wrap ((((List.length p1) : Nat) : Int) + (1 : Int))).toNat) ((.agg [(.int .i64 (0)), (.int .u8 (0)), (.int .i64 (0)), (.int .i64 (0)), (.int .i64 (0)), (.int .i64 (0)), (.int .i64 (0)), (.int .i64 (0))]) : PV))))) yi2 yi3 (0 : Int)))))))
 (asr (decide ((0 + (List.length p1)) ≤ ((IntKind.i64.wrap ((((List.length p1) : Nat) : Int) + (1 : Int))).toNat)))
 (asr (decide ((List.length (p1 ++ (List.drop (0 + (List.length p1)) (List.replicate ((IntKind.i64.wrap ((((List.length p1) : Nat) : Int) + (1 : Int))).toNat) ((.agg [(.int .i64 (0)), (.int .u8 (0)), (.int .i64 (0)), (.int .i64 (0)), (.int .i64 (0)), (.int .i64 (0)), (.int .i64 (0)), (.int .i64 (0))]) : PV))))) = ((IntKind.i64.wrap ((((List.length p1) : Nat) : Int) + (1 : Int))).toNat)))
 (asr (decide ((0 + (0 + (List.length p1))) ≤ ((IntKind.i64.wrap ((((List.length p1) : Nat) : Int) + (1 : Int))).toNat)))
 (asr (decide (((0 + (List.length p1)) + 1) ≤ ((IntKind.i64.wrap ((((List.length p1) : Nat) : Int) + (1 : Int))).toNat)))
 (asr (decide ((List.length ((List.take (0 + (0 + (List.length p1))) (p1 ++ (List.drop (0 + (List.length p1)) (List.replicate ((IntKind.i64.wrap ((((List.length p1) : Nat) : Int) + (1 : Int))).toNat) ((.agg [(.int .i64 (0)), (.int .u8 (0)), (.int .i64 (0)), (.int .i64 (0)), (.int .i64 (0)), (.int .i64 (0)), (.int .i64 (0)), (.int .i64 (0))]) : PV))))) ++ (([(.agg [(.int .i64 p2), (.int .u8 (2 : Int)), (.int .i64 p3), (.int .i64 p4), (.int .i64 p5), (.int .i64 p6), (.int .i64 yi2), (.int .i64 yi3)])] : List PV) ++ (List.drop ((0 + (0 + (List.length p1))) + 1) (p1 ++ (List.drop (0 + (List.length p1)) (List.replicate ((IntKind.i64.wrap ((((List.length p1) : Nat) : Int) + (1 : Int))).toNat) ((.agg [(.int .i64 (0)), (.int .u8 (0)), (.int .i64 (0)), (.int .i64 (0)), (.int .i64 (0)), (.int .i64 (0)), (.int .i64 (0)), (.int .i64 (0))]) : PV)))))))) = ((IntKind.i64.wrap ((((List.length p1) : Nat) : Int) + (1 : Int))).toNat)))
 (asr (decide ((0 + ((0 + (List.length p1)) + 1)) ≤ ((IntKind.i64.wrap ((((List.length p1) : Nat) : Int) + (1 : Int))).toNat)))
 (K yl5 (List.take ((0 + (List.length p1)) + 1) ((List.take (0 + (0 + (List.length p1))) (p1 ++ (List.drop (0 + (List.length p1)) (List.replicate ((IntKind.i64.wrap ((((List.length p1) : Nat) : Int) + (1 : Int))).toNat) ((.agg [(.int .i64 (0)), (.int .u8 (0)), (.int .i64 (0)), (.int .i64 (0)), (.int .i64 (0)), (.int .i64 (0)), (.int .i64 (0)), (.int .i64 (0))]) : PV))))) ++ (([(.agg [(.int .i64 p2), (.int .u8 (2 : Int)), (.int .i64 p3), (.int .i64 p4), (.int .i64 p5), (.int .i64 p6), (.int .i64 yi2), (.int .i64 yi3)])] : List PV) ++ (List.drop ((0 + (0 + (List.length p1))) + 1) (p1 ++ (List.drop (0 + (List.length p1)) (List.replicate ((IntKind.i64.wrap ((((List.length p1) : Nat) : Int) + (1 : Int))).toNat) ((.agg [(.int .i64 (0)), (.int .u8 (0)), (.int .i64 (0)), (.int .i64 (0)), (.int .i64 (0)), (.int .i64 (0)), (.int .i64 (0)), (.int .i64 (0))]) : PV)))))))) yi2 yi3 (0 : Int))))))))))))))))))))))))))
def w_ask_Mark (p0 p1 : List PV) (p2 p3 p4 p5 p6 : Int) (K : List PV → List PV → Int → Int → Int → Prop) : Prop := wv_ask_Mark w_ask_Check w_ask_office_has w_ask_office_mark w_ask_copied p0 p1 p2 p3 p4 p5 p6 K
def pw_ask_Mark (w : T_ask_Mark) (as : List PV) (K : PV → Prop) : Prop :=
 match as with
 | [(.agg [(.data p0), (.data p1)]), (.int .i64 p2), (.agg [(.int .i64 p3), (.int .i64 p4)]), (.agg [(.int .i64 p5), (.int .i64 p6)])] => w p0 p1 p2 p3 p4 p5 p6 (fun r0 r1 r2 r3 r4 => K (.tup [(.agg [(.data r0), (.data r1)]), (.agg [(.int .i64 r2), (.int .i64 r3)]), (.int .i64 r4)]))
 | _ => False
def wp_ask_Mark (as : List PV) (K : PV → Prop) : Prop := pw_ask_Mark w_ask_Mark as K
def lp_ask_Mark (_ : T_ask_Check) (_ : T_ask_office_has) (_ : T_ask_office_mark) (_ : T_ask_copied) : LP := fun _ _ _ _ =>
 False
def S0_ask_Mark (a0 : T_ask_Check) (a1 : T_ask_office_has) (a2 : T_ask_office_mark) (a3 : T_ask_copied) : SE := ⟨E, lookS [(n_ask_Check, pw_ask_Check a0), (n_ask_office_has, pw_ask_office_has a1), (n_ask_office_mark, pw_ask_office_mark a2), (n_ask_copied, pw_ask_copied a3)], lookI [(n_ask_office_ask, t_ask_office_ask)], lp_ask_Mark a0 a1 a2 a3⟩
theorem se0_ask_Mark : SEOk (S0_ask_Mark w_ask_Check w_ask_office_has w_ask_office_mark w_ask_copied) := seOk_of ⟨ok_ask_Check, ok_ask_office_has, ok_ask_office_mark, ok_ask_copied, trivial⟩ ⟨⟨by kernel_rfl, by kernel_rfl, rfl, fun as => baseC_none (by kernel_rfl) as, (LpOk_no (by kernel_rfl))⟩, trivial⟩
theorem eq_ask_Mark (a0 a1 a2 a3 p0 p1 p2 p3 p4 p5 p6 K) : WP (S0_ask_Mark a0 a1 a2 a3) 6 t_ask_Mark [(.agg [(.data p0), (.data p1)]), (.int .i64 p2), (.agg [(.int .i64 p3), (.int .i64 p4)]), (.agg [(.int .i64 p5), (.int .i64 p6)])] K = wv_ask_Mark a0 a1 a2 a3 p0 p1 p2 p3 p4 p5 p6 (fun r0 r1 r2 r3 r4 => K (.tup [(.agg [(.data r0), (.data r1)]), (.agg [(.int .i64 r2), (.int .i64 r3)]), (.int .i64 r4)])) := by kernel_rfl
theorem ok_ask_Mark : OkF E wp_ask_Mark n_ask_Mark := by
 intro as K h
 unfold wp_ask_Mark pw_ask_Mark at h
 split at h
 · exact WP_ok se0_ask_Mark (LpOk_no (by kernel_rfl)) (by kernel_rfl) (by kernel_rfl) (fun _ => baseC_none (by kernel_rfl) _) ((eq_ask_Mark ..).mpr h)
 · exact h.elim
end Go.Pf.Vc
namespace Go.Pf.Vc
open Go Go.Pf
set_option linter.unusedVariables false
theorem det_ask_Check (p0 : List PV) (p1 : List PV) (r0 : Int) (h : ∀ K : Int → Prop, K r0 → w_ask_Check p0 p1 K) (K : Int → Prop) : w_ask_Check p0 p1 K = K r0 :=
 propext ⟨fun k => detC ok_ask_Check (as := [(.agg [(.data p0), (.data p1)])]) (x := (.int .i64 r0)) (fun K' k' => h (fun r0 => K' (.int .i64 r0)) k') (K := fun x => match x with | (.int .i64 r0) => K r0 | _ => False) k, h K⟩
theorem det_ask_copied (p0 : List PV) (r0 : List PV) (h : ∀ K : List PV → Prop, K r0 → w_ask_copied p0 K) (K : List PV → Prop) : w_ask_copied p0 K = K r0 :=
 propext ⟨fun k => detC ok_ask_copied (as := [(.data p0)]) (x := (.data r0)) (fun K' k' => h (fun r0 => K' (.data r0)) k') (K := fun x => match x with | (.data r0) => K r0 | _ => False) k, h K⟩
theorem det_ask_Mark (p0 : List PV) (p1 : List PV) (p2 : Int) (p3 : Int) (p4 : Int) (p5 : Int) (p6 : Int) (r0 : List PV) (r1 : List PV) (r2 : Int) (r3 : Int) (r4 : Int) (h : ∀ K : List PV → List PV → Int → Int → Int → Prop, K r0 r1 r2 r3 r4 → w_ask_Mark p0 p1 p2 p3 p4 p5 p6 K) (K : List PV → List PV → Int → Int → Int → Prop) : w_ask_Mark p0 p1 p2 p3 p4 p5 p6 K = K r0 r1 r2 r3 r4 :=
 propext ⟨fun k => detC ok_ask_Mark (as := [(.agg [(.data p0), (.data p1)]), (.int .i64 p2), (.agg [(.int .i64 p3), (.int .i64 p4)]), (.agg [(.int .i64 p5), (.int .i64 p6)])]) (x := (.tup [(.agg [(.data r0), (.data r1)]), (.agg [(.int .i64 r2), (.int .i64 r3)]), (.int .i64 r4)])) (fun K' k' => h (fun r0 r1 r2 r3 r4 => K' (.tup [(.agg [(.data r0), (.data r1)]), (.agg [(.int .i64 r2), (.int .i64 r3)]), (.int .i64 r4)])) k') (K := fun x => match x with | (.tup [(.agg [(.data r0), (.data r1)]), (.agg [(.int .i64 r2), (.int .i64 r3)]), (.int .i64 r4)]) => K r0 r1 r2 r3 r4 | _ => False) k, h K⟩
end Go.Pf.Vc
namespace Go.Pf.Vc
open Go Go.Pf
set_option maxRecDepth 100000
abbrev T_knife_whole : Type := Int → (Int → Int → Prop) → Prop
def wv_knife_whole (p0 : Int) (K : Int → Int → Prop) : Prop :=
 (K p0 (1 : Int))
def w_knife_whole (p0 : Int) (K : Int → Int → Prop) : Prop := wv_knife_whole p0 K
def pw_knife_whole (w : T_knife_whole) (as : List PV) (K : PV → Prop) : Prop :=
 match as with
 | [(.int .i64 p0)] => w p0 (fun r0 r1 => K (.agg [(.int .i64 r0), (.int .i64 r1)]))
 | _ => False
def wp_knife_whole (as : List PV) (K : PV → Prop) : Prop := pw_knife_whole w_knife_whole as K
def lp_knife_whole : LP := fun _ _ _ _ =>
 False
def S0_knife_whole : SE := ⟨E, lookS [], lookI [], lp_knife_whole⟩
theorem se0_knife_whole : SEOk (S0_knife_whole) := seOk_of trivial trivial
theorem eq_knife_whole ( p0 K) : WP (S0_knife_whole) 6 t_knife_whole [(.int .i64 p0)] K = wv_knife_whole p0 (fun r0 r1 => K (.agg [(.int .i64 r0), (.int .i64 r1)])) := by kernel_rfl
theorem ok_knife_whole : OkF E wp_knife_whole n_knife_whole := by
 intro as K h
 unfold wp_knife_whole pw_knife_whole at h
 split at h
 · exact WP_ok se0_knife_whole (LpOk_no (by kernel_rfl)) (by kernel_rfl) (by kernel_rfl) (fun _ => baseC_none (by kernel_rfl) _) ((eq_knife_whole ..).mpr h)
 · exact h.elim
abbrev T_knife_part : Type := Int → List PV → List PV → Int → (Int → Int → Prop) → Prop
def wv_knife_part (a0 : T_cake_Total) (a1 : T_ratio_Make) (p0 : Int) (p1 p2 : List PV) (p3 : Int) (K : Int → Int → Prop) : Prop :=
 (a0 p0 p1 p2 (fun yi0 _ => 
 (a1 yi0 p3 (fun yi2 yi3 _ => 
 (K yi2 yi3)))))
def w_knife_part (p0 : Int) (p1 p2 : List PV) (p3 : Int) (K : Int → Int → Prop) : Prop := wv_knife_part w_cake_Total w_ratio_Make p0 p1 p2 p3 K
def pw_knife_part (w : T_knife_part) (as : List PV) (K : PV → Prop) : Prop :=
 match as with
 | [(.agg [(.int .i64 p0), (.data p1), (.data p2)]), (.int .i64 p3)] => w p0 p1 p2 p3 (fun r0 r1 => K (.agg [(.int .i64 r0), (.int .i64 r1)]))
 | _ => False
def wp_knife_part (as : List PV) (K : PV → Prop) : Prop := pw_knife_part w_knife_part as K
def lp_knife_part (_ : T_cake_Total) (_ : T_ratio_Make) : LP := fun _ _ _ _ =>
 False
def S0_knife_part (a0 : T_cake_Total) (a1 : T_ratio_Make) : SE := ⟨E, lookS [(n_cake_Total, pw_cake_Total a0), (n_ratio_Make, pw_ratio_Make a1)], lookI [], lp_knife_part a0 a1⟩
theorem se0_knife_part : SEOk (S0_knife_part w_cake_Total w_ratio_Make) := seOk_of ⟨ok_cake_Total, ok_ratio_Make, trivial⟩ trivial
theorem eq_knife_part (a0 a1 p0 p1 p2 p3 K) : WP (S0_knife_part a0 a1) 6 t_knife_part [(.agg [(.int .i64 p0), (.data p1), (.data p2)]), (.int .i64 p3)] K = wv_knife_part a0 a1 p0 p1 p2 p3 (fun r0 r1 => K (.agg [(.int .i64 r0), (.int .i64 r1)])) := by kernel_rfl
theorem ok_knife_part : OkF E wp_knife_part n_knife_part := by
 intro as K h
 unfold wp_knife_part pw_knife_part at h
 split at h
 · exact WP_ok se0_knife_part (LpOk_no (by kernel_rfl)) (by kernel_rfl) (by kernel_rfl) (fun _ => baseC_none (by kernel_rfl) _) ((eq_knife_part ..).mpr h)
 · exact h.elim
abbrev T_knife_less : Type := Int → Int → Int → Int → (Bool → Prop) → Prop
def wv_knife_less (a0 : T_ratio_Cmp) (p0 p1 p2 p3 : Int) (K : Bool → Prop) : Prop :=
 (a0 p0 p1 p2 p3 (fun yi0 _ => 
 (K (decide (yi0 < (0 : Int))))))
def w_knife_less (p0 p1 p2 p3 : Int) (K : Bool → Prop) : Prop := wv_knife_less w_ratio_Cmp p0 p1 p2 p3 K
def pw_knife_less (w : T_knife_less) (as : List PV) (K : PV → Prop) : Prop :=
 match as with
 | [(.agg [(.int .i64 p0), (.int .i64 p1)]), (.agg [(.int .i64 p2), (.int .i64 p3)])] => w p0 p1 p2 p3 (fun r0 => K (.bool r0))
 | _ => False
def wp_knife_less (as : List PV) (K : PV → Prop) : Prop := pw_knife_less w_knife_less as K
def lp_knife_less (_ : T_ratio_Cmp) : LP := fun _ _ _ _ =>
 False
def S0_knife_less (a0 : T_ratio_Cmp) : SE := ⟨E, lookS [(n_ratio_Cmp, pw_ratio_Cmp a0)], lookI [], lp_knife_less a0⟩
theorem se0_knife_less : SEOk (S0_knife_less w_ratio_Cmp) := seOk_of ⟨ok_ratio_Cmp, trivial⟩ trivial
theorem eq_knife_less (a0 p0 p1 p2 p3 K) : WP (S0_knife_less a0) 6 t_knife_less [(.agg [(.int .i64 p0), (.int .i64 p1)]), (.agg [(.int .i64 p2), (.int .i64 p3)])] K = wv_knife_less a0 p0 p1 p2 p3 (fun r0 => K (.bool r0)) := by kernel_rfl
theorem ok_knife_less : OkF E wp_knife_less n_knife_less := by
 intro as K h
 unfold wp_knife_less pw_knife_less at h
 split at h
 · exact WP_ok se0_knife_less (LpOk_no (by kernel_rfl)) (by kernel_rfl) (by kernel_rfl) (fun _ => baseC_none (by kernel_rfl) _) ((eq_knife_less ..).mpr h)
 · exact h.elim
abbrev T_knife_Spans : Type := List PV → (List PV → List PV → List PV → Int → Prop) → Prop
def L_knife_Spans_0_0 (a0 : T_ask_Open) (a1 : T_knife_whole) (a2 : T_knife_part) (a3 : T_ask_Mark) (a4 : T_knife_less) (x29600600_0 : List PV → List PV → List PV → List PV → Nat → Nat → Nat → Int → Int → Bool → Prop) : Nat → List PV → List PV → List PV → List PV → Nat → Nat → Nat → Int → Int → Prop
 | 0, _, _, _, _, _, _, _, _, _ => False
 | n29600600 + 1, l0, l1, l2, l3, n4, n5, n6, i7, i8 =>
 (cbr (decide (i8 < i7))
 (asr (decide ((List.length l0) = n5))
 (asr (decide ((0 + n4) ≤ n5))
 (asr (decide ((n4 + 1) ≤ n6))
 (L_knife_Spans_0_0 a0 a1 a2 a3 a4 x29600600_0 n29600600 ((List.take (0 + n4) l0) ++ (([(.int .i64 i8)] : List PV) ++ (List.drop ((0 + n4) + 1) l0))) l1 l2 l3 (n4 + 1) n5 n6 i7 (IntKind.i64.wrap (i8 + (1 : Int)))))))
 (x29600600_0 l0 l1 l2 l3 n4 n5 n6 i7 i8 false))
mutual
def L_knife_Spans_2_0 (a0 : T_ask_Open) (a1 : T_knife_whole) (a2 : T_knife_part) (a3 : T_ask_Mark) (a4 : T_knife_less) (x29600601_0 : List PV → List PV → Int → Prop) (x29600601_1 : List PV → List PV → List PV → Nat → Nat → Nat → List PV → List PV → Nat → Nat → Nat → Int → Int → Int → Int → Int → Nat → Nat → Nat → Int → Int → Bool → Prop) (x29600601_2 : List PV → List PV → List PV → Int → Prop) (x29600601_3 : List PV → List PV → List PV → List PV → Nat → Nat → Nat → List PV → List PV → Nat → Nat → Nat → Int → Int → Int → Int → Int → Nat → Nat → Nat → Int → Int → Bool → Prop) : Nat → List PV → List PV → List PV → Nat → Nat → Nat → List PV → List PV → Nat → Nat → Nat → Int → Int → Int → Int → Int → Nat → Nat → Nat → Int → Int → Prop
 | 0, _, _, _, _, _, _, _, _, _, _, _, _, _, _, _, _, _, _, _, _, _ => False
 | n29600601 + 1, l0, l1, l2, n3, n4, n5, l6, l7, n8, n9, n10, i11, i12, i13, i14, i15, n16, n17, n18, i19, i20 =>
 (cbr (decide (i20 < i19))
 (asr (decide ((0 : Int) ≤ i20))
 (asr (decide (i20 < ((n16 : Nat) : Int)))
 (asr (decide ((List.length l0) = n17))
 (asr (decide ((0 + (i20.toNat)) < (List.length l0)))
 (asr (conf (.one (.i .i64)) (List.getD l0 (0 + (i20.toNat)) .nils))
 (asr (decide ((0 : Int) ≤ (intOfV (List.getD l0 (0 + (i20.toNat)) .nils))))
 (asr (decide ((intOfV (List.getD l0 (0 + (i20.toNat)) .nils)) < (((List.length l2) : Nat) : Int)))
 (asr (conf (.agg [.i .i64, .d, .d]) (List.getD l2 ((intOfV (List.getD l0 (0 + (i20.toNat)) .nils)).toNat) .nils))
 (a2 (intOfV (cellAt (List.getD l2 ((intOfV (List.getD l0 (0 + (i20.toNat)) .nils)).toNat) .nils) 0)) (datOfV (cellAt (List.getD l2 ((intOfV (List.getD l0 (0 + (i20.toNat)) .nils)).toNat) .nils) 1)) (datOfV (cellAt (List.getD l2 ((intOfV (List.getD l0 (0 + (i20.toNat)) .nils)).toNat) .nils) 2)) (((List.length l2) : Nat) : Int) (fun yi15 yi16 => 
 (a3 l6 l7 (intOfV (List.getD l0 (0 + (i20.toNat)) .nils)) i11 i12 yi15 yi16 (fun yl17 yl18 yi19 yi20 yi21 => 
 (cbr (yi21 != (0 : Int))
 (x29600601_0 l0 l1 yi21)
 (cbr (i20 == (0 : Int))
 (L_knife_Spans_2_0 a0 a1 a2 a3 a4 x29600601_0 x29600601_1 x29600601_2 x29600601_3 n29600601 l0 l1 l2 n3 n4 n5 yl17 yl18 n8 n9 n10 i11 i12 i20 yi19 yi20 n16 n17 n18 i19 (IntKind.i64.wrap (i20 + (1 : Int))))
 (a4 yi19 yi20 i14 i15 (fun yb22 => 
 (cbr yb22
 (L_knife_Spans_2_0 a0 a1 a2 a3 a4 x29600601_0 x29600601_1 x29600601_2 x29600601_3 n29600601 l0 l1 l2 n3 n4 n5 yl17 yl18 n8 n9 n10 i11 i12 i20 yi19 yi20 n16 n17 n18 i19 (IntKind.i64.wrap (i20 + (1 : Int))))
 (L_knife_Spans_2_0 a0 a1 a2 a3 a4 x29600601_0 x29600601_1 x29600601_2 x29600601_3 n29600601 l0 l1 l2 n3 n4 n5 yl17 yl18 n8 n9 n10 i11 i12 i13 i14 i15 n16 n17 n18 i19 (IntKind.i64.wrap (i20 + (1 : Int)))))))))))))))))))))
 (x29600601_1 l0 l1 l2 n3 n4 n5 l6 l7 n8 n9 n10 i11 i12 i13 i14 i15 n16 n17 n18 i19 i20 false))
def L_knife_Spans_2_1 (a0 : T_ask_Open) (a1 : T_knife_whole) (a2 : T_knife_part) (a3 : T_ask_Mark) (a4 : T_knife_less) (x29600601_0 : List PV → List PV → Int → Prop) (x29600601_1 : List PV → List PV → List PV → Nat → Nat → Nat → List PV → List PV → Nat → Nat → Nat → Int → Int → Int → Int → Int → Nat → Nat → Nat → Int → Int → Bool → Prop) (x29600601_2 : List PV → List PV → List PV → Int → Prop) (x29600601_3 : List PV → List PV → List PV → List PV → Nat → Nat → Nat → List PV → List PV → Nat → Nat → Nat → Int → Int → Int → Int → Int → Nat → Nat → Nat → Int → Int → Bool → Prop) : Nat → List PV → List PV → List PV → List PV → Nat → Nat → Nat → List PV → List PV → Nat → Nat → Nat → Int → Int → Int → Int → Int → Nat → Nat → Nat → Int → Int → Prop
 | 0, _, _, _, _, _, _, _, _, _, _, _, _, _, _, _, _, _, _, _, _, _, _ => False
 | n29600601 + 1, l0, l1, l2, l3, n4, n5, n6, l9, l10, n11, n12, n13, i14, i15, i16, i17, i18, n19, n20, n21, i22, i23 =>
 (cbr (decide (i23 < i22))
 (asr (decide ((0 : Int) ≤ i23))
 (asr (decide (i23 < ((n19 : Nat) : Int)))
 (asr (decide ((List.length l0) = n20))
 (asr (decide ((0 + (i23.toNat)) < (List.length l0)))
 (asr (conf (.one (.i .i64)) (List.getD l0 (0 + (i23.toNat)) .nils))
 (asr (decide ((0 : Int) ≤ (intOfV (List.getD l0 (0 + (i23.toNat)) .nils))))
 (asr (decide ((intOfV (List.getD l0 (0 + (i23.toNat)) .nils)) < (((List.length l3) : Nat) : Int)))
 (asr (conf (.agg [.i .i64, .d, .d]) (List.getD l3 ((intOfV (List.getD l0 (0 + (i23.toNat)) .nils)).toNat) .nils))
 (a2 (intOfV (cellAt (List.getD l3 ((intOfV (List.getD l0 (0 + (i23.toNat)) .nils)).toNat) .nils) 0)) (datOfV (cellAt (List.getD l3 ((intOfV (List.getD l0 (0 + (i23.toNat)) .nils)).toNat) .nils) 1)) (datOfV (cellAt (List.getD l3 ((intOfV (List.getD l0 (0 + (i23.toNat)) .nils)).toNat) .nils) 2)) (((List.length l3) : Nat) : Int) (fun yi48 yi49 => 
 (a3 l9 l10 (intOfV (List.getD l0 (0 + (i23.toNat)) .nils)) i14 i15 yi48 yi49 (fun yl50 yl51 yi52 yi53 yi54 => 
 (cbr (yi54 != (0 : Int))
 (x29600601_2 l0 l1 l2 yi54)
 (cbr (i23 == (0 : Int))
 (asr (decide ((List.length l2) = List.length l2) && decide ((List.length l2) = List.length l2))
 (L_knife_Spans_2_1 a0 a1 a2 a3 a4 x29600601_0 x29600601_1 x29600601_2 x29600601_3 n29600601 l0 l1 l2 l3 n4 n5 n6 yl50 yl51 n11 n12 n13 i14 i15 i23 yi52 yi53 n19 n20 n21 i22 (IntKind.i64.wrap (i23 + (1 : Int)))))
 (a4 yi52 yi53 i17 i18 (fun yb55 => 
 (cbr yb55
 (asr (decide ((List.length l2) = List.length l2) && decide ((List.length l2) = List.length l2))
 (L_knife_Spans_2_1 a0 a1 a2 a3 a4 x29600601_0 x29600601_1 x29600601_2 x29600601_3 n29600601 l0 l1 l2 l3 n4 n5 n6 yl50 yl51 n11 n12 n13 i14 i15 i23 yi52 yi53 n19 n20 n21 i22 (IntKind.i64.wrap (i23 + (1 : Int)))))
 (asr (decide ((List.length l2) = List.length l2) && decide ((List.length l2) = List.length l2))
 (L_knife_Spans_2_1 a0 a1 a2 a3 a4 x29600601_0 x29600601_1 x29600601_2 x29600601_3 n29600601 l0 l1 l2 l3 n4 n5 n6 yl50 yl51 n11 n12 n13 i14 i15 i16 i17 i18 n19 n20 n21 i22 (IntKind.i64.wrap (i23 + (1 : Int))))))))))))))))))))))
 (x29600601_3 l0 l1 l2 l3 n4 n5 n6 l9 l10 n11 n12 n13 i14 i15 i16 i17 i18 n19 n20 n21 i22 i23 false))
end
mutual
def L_knife_Spans_1_0 (a0 : T_ask_Open) (a1 : T_knife_whole) (a2 : T_knife_part) (a3 : T_ask_Mark) (a4 : T_knife_less) (x29600602_0 : List PV → List PV → Int → Prop) (x29600602_1 : List PV → List PV → List PV → Int → Prop) (x29600602_2 : List PV → List PV → List PV → List PV → Nat → Nat → Nat → List PV → List PV → Nat → Nat → Nat → Int → Int → Bool → Prop) (x29600602_3 : List PV → List PV → List PV → Nat → Nat → Nat → List PV → List PV → Nat → Nat → Nat → Int → Int → Bool → Prop) : Nat → List PV → List PV → List PV → Nat → Nat → Nat → List PV → List PV → Nat → Nat → Nat → Int → Int → Prop
 | 0, _, _, _, _, _, _, _, _, _, _, _, _, _ => False
 | n29600602 + 1, l0, l1, l2, n3, n4, n5, l6, l7, n8, n9, n10, i11, i12 =>
 (cbr (decide (((n8 : Nat) : Int) > (1 : Int)))
 (∃ n29600601 : Nat, L_knife_Spans_2_0 a0 a1 a2 a3 a4
 (fun yl23 yl24 yi25 => (x29600602_0 yl23 yl24 yi25))
 (fun yl26 yl27 yl28 yn29 yn30 yn31 yl32 yl33 yn34 yn35 yn36 yi37 yi38 yi39 yi40 yi41 _ _ _ _ _ _ => (asr (decide ((0 : Int) ≤ yi39))
 (asr (decide (yi39 < ((yn34 : Nat) : Int)))
 (asr (decide ((List.length yl26) = yn35))
 (asr (decide ((0 + (yi39.toNat)) < (List.length yl26)))
 (asr (conf (.one (.i .i64)) (List.getD yl26 (0 + (yi39.toNat)) .nils))
 (asr (decide ((0 : Int) ≤ (intOfV (List.getD yl26 (0 + (yi39.toNat)) .nils))))
 (asr (decide ((intOfV (List.getD yl26 (0 + (yi39.toNat)) .nils)) < ((yn29 : Nat) : Int)))
 (asr (decide ((List.length yl27) = yn30))
 (asr (decide ((0 + ((intOfV (List.getD yl26 (0 + (yi39.toNat)) .nils)).toNat)) < (List.length yl27)))
 (asr (conf (.one (.d)) (List.getD yl27 (0 + ((intOfV (List.getD yl26 (0 + (yi39.toNat)) .nils)).toNat)) .nils))
 (asr (decide ((0 : Int) ≤ yi39))
 (asr ((decide (yi39 ≤ ((yn34 : Nat) : Int))) || (decide (yi39 ≤ ((yn36 : Nat) : Int))))
 (asr (decide ((0 : Int) ≤ (IntKind.i64.wrap (yi39 + (1 : Int)))))
 (asr (decide ((IntKind.i64.wrap (yi39 + (1 : Int))) ≤ ((yn34 : Nat) : Int)))
 (asr ((decide (((yn34 : Nat) : Int) ≤ ((yn34 : Nat) : Int))) || (decide (((yn34 : Nat) : Int) ≤ ((yn36 : Nat) : Int))))
 (asr (decide ((List.length yl26) = yn35))
 (asr (decide (((0 + ((IntKind.i64.wrap (yi39 + (1 : Int))).toNat)) + ((((yn34 : Nat) : Int) - (IntKind.i64.wrap (yi39 + (1 : Int)))).toNat)) ≤ yn35))
 (asr (headOk 1 (List.take ((((yn34 : Nat) : Int) - (IntKind.i64.wrap (yi39 + (1 : Int)))).toNat) (List.drop (0 + ((IntKind.i64.wrap (yi39 + (1 : Int))).toNat)) yl26)))
 (asr (decide ((List.length yl26) = yn35))
 (asr (decide ((0 + ((yi39 - (0 : Int)).toNat)) ≤ yn35))
 (cbr (List.isEmpty (List.take ((((yn34 : Nat) : Int) - (IntKind.i64.wrap (yi39 + (1 : Int)))).toNat) (List.drop (0 + ((IntKind.i64.wrap (yi39 + (1 : Int))).toNat)) yl26)))
 (asr (decide ((List.length ([(.int .i64 (intOfV (List.getD yl26 (0 + (yi39.toNat)) .nils)))] : List PV)) = List.length ([(.int .i64 (intOfV (List.getD yl26 (0 + (yi39.toNat)) .nils)))] : List PV)) && decide ((List.length ([(.int .i64 (intOfV (List.getD yl26 (0 + (yi39.toNat)) .nils)))] : List PV)) = List.length ([(.int .i64 (intOfV (List.getD yl26 (0 + (yi39.toNat)) .nils)))] : List PV)))
 (L_knife_Spans_1_1 a0 a1 a2 a3 a4 x29600602_0 x29600602_1 x29600602_2 x29600602_3 n29600602 yl26 (List.set yl27 (0 + ((intOfV (List.getD yl26 (0 + (yi39.toNat)) .nils)).toNat)) (.data ([(.agg [(.int .i64 yi37), (.int .i64 yi38), (.int .i64 yi40), (.int .i64 yi41)])] : List PV))) ([(.int .i64 (intOfV (List.getD yl26 (0 + (yi39.toNat)) .nils)))] : List PV) yl28 yn29 yn30 yn31 yl32 yl33 ((yi39 - (0 : Int)).toNat) yn35 (yn36 - 0) yi40 yi41))
 (asr (decide ((((yi39 - (0 : Int)).toNat) + (List.length (List.take ((((yn34 : Nat) : Int) - (IntKind.i64.wrap (yi39 + (1 : Int)))).toNat) (List.drop (0 + ((IntKind.i64.wrap (yi39 + (1 : Int))).toNat)) yl26)))) ≤ (yn36 - 0)))
 (asr (decide ((List.length ([(.int .i64 (intOfV (List.getD yl26 (0 + (yi39.toNat)) .nils)))] : List PV)) = List.length ([(.int .i64 (intOfV (List.getD yl26 (0 + (yi39.toNat)) .nils)))] : List PV)) && decide ((List.length ([(.int .i64 (intOfV (List.getD yl26 (0 + (yi39.toNat)) .nils)))] : List PV)) = List.length ([(.int .i64 (intOfV (List.getD yl26 (0 + (yi39.toNat)) .nils)))] : List PV)))
 (L_knife_Spans_1_1 a0 a1 a2 a3 a4 x29600602_0 x29600602_1 x29600602_2 x29600602_3 n29600602 ((List.take (0 + ((yi39 - (0 : Int)).toNat)) yl26) ++ ((List.take ((((yn34 : Nat) : Int) - (IntKind.i64.wrap (yi39 + (1 : Int)))).toNat) (List.drop (0 + ((IntKind.i64.wrap (yi39 + (1 : Int))).toNat)) yl26)) ++ (List.drop ((0 + ((yi39 - (0 : Int)).toNat)) + (List.length (List.take ((((yn34 : Nat) : Int) - (IntKind.i64.wrap (yi39 + (1 : Int)))).toNat) (List.drop (0 + ((IntKind.i64.wrap (yi39 + (1 : Int))).toNat)) yl26)))) yl26))) (List.set yl27 (0 + ((intOfV (List.getD yl26 (0 + (yi39.toNat)) .nils)).toNat)) (.data ([(.agg [(.int .i64 yi37), (.int .i64 yi38), (.int .i64 yi40), (.int .i64 yi41)])] : List PV))) ([(.int .i64 (intOfV (List.getD yl26 (0 + (yi39.toNat)) .nils)))] : List PV) yl28 yn29 yn30 yn31 yl32 yl33 (((yi39 - (0 : Int)).toNat) + (List.length (List.take ((((yn34 : Nat) : Int) - (IntKind.i64.wrap (yi39 + (1 : Int)))).toNat) (List.drop (0 + ((IntKind.i64.wrap (yi39 + (1 : Int))).toNat)) yl26)))) yn35 (yn36 - 0) yi40 yi41)))))))))))))))))))))))))
 (fun yl108 yl109 yl110 yi111 => (x29600602_1 yl108 yl109 yl110 yi111))
 (fun yl112 yl113 yl114 yl115 yn116 yn117 yn118 yl119 yl120 yn121 yn122 yn123 yi124 yi125 yi126 yi127 yi128 _ _ _ _ _ _ => (asr (decide ((0 : Int) ≤ yi126))
 (asr (decide (yi126 < ((yn121 : Nat) : Int)))
 (asr (decide ((List.length yl112) = yn122))
 (asr (decide ((0 + (yi126.toNat)) < (List.length yl112)))
 (asr (conf (.one (.i .i64)) (List.getD yl112 (0 + (yi126.toNat)) .nils))
 (asr (decide ((0 : Int) ≤ (intOfV (List.getD yl112 (0 + (yi126.toNat)) .nils))))
 (asr (decide ((intOfV (List.getD yl112 (0 + (yi126.toNat)) .nils)) < ((yn116 : Nat) : Int)))
 (asr (decide ((List.length yl113) = yn117))
 (asr (decide ((0 + ((intOfV (List.getD yl112 (0 + (yi126.toNat)) .nils)).toNat)) < (List.length yl113)))
 (asr (conf (.one (.d)) (List.getD yl113 (0 + ((intOfV (List.getD yl112 (0 + (yi126.toNat)) .nils)).toNat)) .nils))
 (asr (decide ((List.length yl114) = (List.length yl114)))
 (asr (decide ((0 + (List.length yl114)) ≤ (List.length yl114)))
 (asr (!(decide (((0 + (List.length yl114)) + 1) ≤ (List.length yl114))))
 (asr (decide ((List.length yl114) = (List.length yl114)))
 (asr (decide ((((List.length yl114) + 1) + 64) * (8 + 1) ≤ room))
 (asr (decide ((0 : Int) ≤ yi126))
 (asr ((decide (yi126 ≤ ((yn121 : Nat) : Int))) || (decide (yi126 ≤ ((yn123 : Nat) : Int))))
 (asr (decide ((0 : Int) ≤ (IntKind.i64.wrap (yi126 + (1 : Int)))))
 (asr (decide ((IntKind.i64.wrap (yi126 + (1 : Int))) ≤ ((yn121 : Nat) : Int)))
 (asr ((decide (((yn121 : Nat) : Int) ≤ ((yn121 : Nat) : Int))) || (decide (((yn121 : Nat) : Int) ≤ ((yn123 : Nat) : Int))))
 (asr (decide ((List.length yl112) = yn122))
 (asr (decide (((0 + ((IntKind.i64.wrap (yi126 + (1 : Int))).toNat)) + ((((yn121 : Nat) : Int) - (IntKind.i64.wrap (yi126 + (1 : Int)))).toNat)) ≤ yn122))
 (asr (headOk 1 (List.take ((((yn121 : Nat) : Int) - (IntKind.i64.wrap (yi126 + (1 : Int)))).toNat) (List.drop (0 + ((IntKind.i64.wrap (yi126 + (1 : Int))).toNat)) yl112)))
 (asr (decide ((List.length yl112) = yn122))
 (asr (decide ((0 + ((yi126 - (0 : Int)).toNat)) ≤ yn122))
 (cbr (List.isEmpty (List.take ((((yn121 : Nat) : Int) - (IntKind.i64.wrap (yi126 + (1 : Int)))).toNat) (List.drop (0 + ((IntKind.i64.wrap (yi126 + (1 : Int))).toNat)) yl112)))
 (asr (decide ((List.length (yl114 ++ ([(.int .i64 (intOfV (List.getD yl112 (0 + (yi126.toNat)) .nils)))] : List PV))) = List.length (yl114 ++ ([(.int .i64 (intOfV (List.getD yl112 (0 + (yi126.toNat)) .nils)))] : List PV))) && decide ((List.length (yl114 ++ ([(.int .i64 (intOfV (List.getD yl112 (0 + (yi126.toNat)) .nils)))] : List PV))) = List.length (yl114 ++ ([(.int .i64 (intOfV (List.getD yl112 (0 + (yi126.toNat)) .nils)))] : List PV))))
 (L_knife_Spans_1_1 a0 a1 a2 a3 a4 x29600602_0 x29600602_1 x29600602_2 x29600602_3 n29600602 yl112 (List.set yl113 (0 + ((intOfV (List.getD yl112 (0 + (yi126.toNat)) .nils)).toNat)) (.data ([(.agg [(.int .i64 yi124), (.int .i64 yi125), (.int .i64 yi127), (.int .i64 yi128)])] : List PV))) (yl114 ++ ([(.int .i64 (intOfV (List.getD yl112 (0 + (yi126.toNat)) .nils)))] : List PV)) yl115 yn116 yn117 yn118 yl119 yl120 ((yi126 - (0 : Int)).toNat) yn122 (yn123 - 0) yi127 yi128))
 (asr (decide ((((yi126 - (0 : Int)).toNat) + (List.length (List.take ((((yn121 : Nat) : Int) - (IntKind.i64.wrap (yi126 + (1 : Int)))).toNat) (List.drop (0 + ((IntKind.i64.wrap (yi126 + (1 : Int))).toNat)) yl112)))) ≤ (yn123 - 0)))
 (asr (decide ((List.length (yl114 ++ ([(.int .i64 (intOfV (List.getD yl112 (0 + (yi126.toNat)) .nils)))] : List PV))) = List.length (yl114 ++ ([(.int .i64 (intOfV (List.getD yl112 (0 + (yi126.toNat)) .nils)))] : List PV))) && decide ((List.length (yl114 ++ ([(.int .i64 (intOfV (List.getD yl112 (0 + (yi126.toNat)) .nils)))] : List PV))) = List.length (yl114 ++ ([(.int .i64 (intOfV (List.getD yl112 (0 + (yi126.toNat)) .nils)))] : List PV))))
 (L_knife_Spans_1_1 a0 a1 a2 a3 a4 x29600602_0 x29600602_1 x29600602_2 x29600602_3 n29600602 ((List.take (0 + ((yi126 - (0 : Int)).toNat)) yl112) ++ ((List.take ((((yn121 : Nat) : Int) - (IntKind.i64.wrap (yi126 + (1 : Int)))).toNat) (List.drop (0 + ((IntKind.i64.wrap (yi126 + (1 : Int))).toNat)) yl112)) ++ (List.drop ((0 + ((yi126 - (0 : Int)).toNat)) + (List.length (List.take ((((yn121 : Nat) : Int) - (IntKind.i64.wrap (yi126 + (1 : Int)))).toNat) (List.drop (0 + ((IntKind.i64.wrap (yi126 + (1 : Int))).toNat)) yl112)))) yl112))) (List.set yl113 (0 + ((intOfV (List.getD yl112 (0 + (yi126.toNat)) .nils)).toNat)) (.data ([(.agg [(.int .i64 yi124), (.int .i64 yi125), (.int .i64 yi127), (.int .i64 yi128)])] : List PV))) (yl114 ++ ([(.int .i64 (intOfV (List.getD yl112 (0 + (yi126.toNat)) .nils)))] : List PV)) yl115 yn116 yn117 yn118 yl119 yl120 (((yi126 - (0 : Int)).toNat) + (List.length (List.take ((((yn121 : Nat) : Int) - (IntKind.i64.wrap (yi126 + (1 : Int)))).toNat) (List.drop (0 + ((IntKind.i64.wrap (yi126 + (1 : Int))).toNat)) yl112)))) yn122 (yn123 - 0) yi127 yi128))))))))))))))))))))))))))))))
 n29600601 l0 l1 l2 n3 n4 n5 l6 l7 n8 n9 n10 i11 i12 (0 : Int) (0 : Int) (0 : Int) n8 n9 n10 ((n8 : Nat) : Int) (0 : Int))
 (x29600602_3 l0 l1 l2 n3 n4 n5 l6 l7 n8 n9 n10 i11 i12 false))
def L_knife_Spans_1_1 (a0 : T_ask_Open) (a1 : T_knife_whole) (a2 : T_knife_part) (a3 : T_ask_Mark) (a4 : T_knife_less) (x29600602_0 : List PV → List PV → Int → Prop) (x29600602_1 : List PV → List PV → List PV → Int → Prop) (x29600602_2 : List PV → List PV → List PV → List PV → Nat → Nat → Nat → List PV → List PV → Nat → Nat → Nat → Int → Int → Bool → Prop) (x29600602_3 : List PV → List PV → List PV → Nat → Nat → Nat → List PV → List PV → Nat → Nat → Nat → Int → Int → Bool → Prop) : Nat → List PV → List PV → List PV → List PV → Nat → Nat → Nat → List PV → List PV → Nat → Nat → Nat → Int → Int → Prop
 | 0, _, _, _, _, _, _, _, _, _, _, _, _, _, _ => False
 | n29600602 + 1, l0, l1, l2, l3, n4, n5, n6, l9, l10, n11, n12, n13, i14, i15 =>
 (cbr (decide (((n11 : Nat) : Int) > (1 : Int)))
 (asr (decide ((List.length l2) = List.length l2) && decide ((List.length l2) = List.length l2))
 (∃ n29600601 : Nat, L_knife_Spans_2_1 a0 a1 a2 a3 a4
 (fun yl56 yl57 yi58 => (x29600602_0 yl56 yl57 yi58))
 (fun yl59 yl60 yl61 yn62 yn63 yn64 yl65 yl66 yn67 yn68 yn69 yi70 yi71 yi72 yi73 yi74 _ _ _ _ _ _ => (asr (decide ((0 : Int) ≤ yi72))
 (asr (decide (yi72 < ((yn67 : Nat) : Int)))
 (asr (decide ((List.length yl59) = yn68))
 (asr (decide ((0 + (yi72.toNat)) < (List.length yl59)))
 (asr (conf (.one (.i .i64)) (List.getD yl59 (0 + (yi72.toNat)) .nils))
 (asr (decide ((0 : Int) ≤ (intOfV (List.getD yl59 (0 + (yi72.toNat)) .nils))))
 (asr (decide ((intOfV (List.getD yl59 (0 + (yi72.toNat)) .nils)) < ((yn62 : Nat) : Int)))
 (asr (decide ((List.length yl60) = yn63))
 (asr (decide ((0 + ((intOfV (List.getD yl59 (0 + (yi72.toNat)) .nils)).toNat)) < (List.length yl60)))
 (asr (conf (.one (.d)) (List.getD yl60 (0 + ((intOfV (List.getD yl59 (0 + (yi72.toNat)) .nils)).toNat)) .nils))
 (asr (decide ((0 : Int) ≤ yi72))
 (asr ((decide (yi72 ≤ ((yn67 : Nat) : Int))) || (decide (yi72 ≤ ((yn69 : Nat) : Int))))
 (asr (decide ((0 : Int) ≤ (IntKind.i64.wrap (yi72 + (1 : Int)))))
 (asr (decide ((IntKind.i64.wrap (yi72 + (1 : Int))) ≤ ((yn67 : Nat) : Int)))
 (asr ((decide (((yn67 : Nat) : Int) ≤ ((yn67 : Nat) : Int))) || (decide (((yn67 : Nat) : Int) ≤ ((yn69 : Nat) : Int))))
 (asr (decide ((List.length yl59) = yn68))
 (asr (decide (((0 + ((IntKind.i64.wrap (yi72 + (1 : Int))).toNat)) + ((((yn67 : Nat) : Int) - (IntKind.i64.wrap (yi72 + (1 : Int)))).toNat)) ≤ yn68))
 (asr (headOk 1 (List.take ((((yn67 : Nat) : Int) - (IntKind.i64.wrap (yi72 + (1 : Int)))).toNat) (List.drop (0 + ((IntKind.i64.wrap (yi72 + (1 : Int))).toNat)) yl59)))
 (asr (decide ((List.length yl59) = yn68))
 (asr (decide ((0 + ((yi72 - (0 : Int)).toNat)) ≤ yn68))
 (cbr (List.isEmpty (List.take ((((yn67 : Nat) : Int) - (IntKind.i64.wrap (yi72 + (1 : Int)))).toNat) (List.drop (0 + ((IntKind.i64.wrap (yi72 + (1 : Int))).toNat)) yl59)))
 (asr (decide ((List.length ([(.int .i64 (intOfV (List.getD yl59 (0 + (yi72.toNat)) .nils)))] : List PV)) = List.length ([(.int .i64 (intOfV (List.getD yl59 (0 + (yi72.toNat)) .nils)))] : List PV)) && decide ((List.length ([(.int .i64 (intOfV (List.getD yl59 (0 + (yi72.toNat)) .nils)))] : List PV)) = List.length ([(.int .i64 (intOfV (List.getD yl59 (0 + (yi72.toNat)) .nils)))] : List PV)))
 (L_knife_Spans_1_1 a0 a1 a2 a3 a4 x29600602_0 x29600602_1 x29600602_2 x29600602_3 n29600602 yl59 (List.set yl60 (0 + ((intOfV (List.getD yl59 (0 + (yi72.toNat)) .nils)).toNat)) (.data ([(.agg [(.int .i64 yi70), (.int .i64 yi71), (.int .i64 yi73), (.int .i64 yi74)])] : List PV))) ([(.int .i64 (intOfV (List.getD yl59 (0 + (yi72.toNat)) .nils)))] : List PV) yl61 yn62 yn63 yn64 yl65 yl66 ((yi72 - (0 : Int)).toNat) yn68 (yn69 - 0) yi73 yi74))
 (asr (decide ((((yi72 - (0 : Int)).toNat) + (List.length (List.take ((((yn67 : Nat) : Int) - (IntKind.i64.wrap (yi72 + (1 : Int)))).toNat) (List.drop (0 + ((IntKind.i64.wrap (yi72 + (1 : Int))).toNat)) yl59)))) ≤ (yn69 - 0)))
 (asr (decide ((List.length ([(.int .i64 (intOfV (List.getD yl59 (0 + (yi72.toNat)) .nils)))] : List PV)) = List.length ([(.int .i64 (intOfV (List.getD yl59 (0 + (yi72.toNat)) .nils)))] : List PV)) && decide ((List.length ([(.int .i64 (intOfV (List.getD yl59 (0 + (yi72.toNat)) .nils)))] : List PV)) = List.length ([(.int .i64 (intOfV (List.getD yl59 (0 + (yi72.toNat)) .nils)))] : List PV)))
 (L_knife_Spans_1_1 a0 a1 a2 a3 a4 x29600602_0 x29600602_1 x29600602_2 x29600602_3 n29600602 ((List.take (0 + ((yi72 - (0 : Int)).toNat)) yl59) ++ ((List.take ((((yn67 : Nat) : Int) - (IntKind.i64.wrap (yi72 + (1 : Int)))).toNat) (List.drop (0 + ((IntKind.i64.wrap (yi72 + (1 : Int))).toNat)) yl59)) ++ (List.drop ((0 + ((yi72 - (0 : Int)).toNat)) + (List.length (List.take ((((yn67 : Nat) : Int) - (IntKind.i64.wrap (yi72 + (1 : Int)))).toNat) (List.drop (0 + ((IntKind.i64.wrap (yi72 + (1 : Int))).toNat)) yl59)))) yl59))) (List.set yl60 (0 + ((intOfV (List.getD yl59 (0 + (yi72.toNat)) .nils)).toNat)) (.data ([(.agg [(.int .i64 yi70), (.int .i64 yi71), (.int .i64 yi73), (.int .i64 yi74)])] : List PV))) ([(.int .i64 (intOfV (List.getD yl59 (0 + (yi72.toNat)) .nils)))] : List PV) yl61 yn62 yn63 yn64 yl65 yl66 (((yi72 - (0 : Int)).toNat) + (List.length (List.take ((((yn67 : Nat) : Int) - (IntKind.i64.wrap (yi72 + (1 : Int)))).toNat) (List.drop (0 + ((IntKind.i64.wrap (yi72 + (1 : Int))).toNat)) yl59)))) yn68 (yn69 - 0) yi73 yi74)))))))))))))))))))))))))
 (fun yl81 yl82 yl83 yi84 => (x29600602_1 yl81 yl82 yl83 yi84))
 (fun yl85 yl86 yl87 yl88 yn89 yn90 yn91 yl92 yl93 yn94 yn95 yn96 yi97 yi98 yi99 yi100 yi101 _ _ _ _ _ _ => (asr (decide ((0 : Int) ≤ yi99))
 (asr (decide (yi99 < ((yn94 : Nat) : Int)))
 (asr (decide ((List.length yl85) = yn95))
 (asr (decide ((0 + (yi99.toNat)) < (List.length yl85)))
 (asr (conf (.one (.i .i64)) (List.getD yl85 (0 + (yi99.toNat)) .nils))
 (asr (decide ((0 : Int) ≤ (intOfV (List.getD yl85 (0 + (yi99.toNat)) .nils))))
 (asr (decide ((intOfV (List.getD yl85 (0 + (yi99.toNat)) .nils)) < ((yn89 : Nat) : Int)))
 (asr (decide ((List.length yl86) = yn90))
 (asr (decide ((0 + ((intOfV (List.getD yl85 (0 + (yi99.toNat)) .nils)).toNat)) < (List.length yl86)))
 (asr (conf (.one (.d)) (List.getD yl86 (0 + ((intOfV (List.getD yl85 (0 + (yi99.toNat)) .nils)).toNat)) .nils))
 (asr (decide ((List.length yl87) = (List.length yl87)))
 (asr (decide ((0 + (List.length yl87)) ≤ (List.length yl87)))
 (asr (!(decide (((0 + (List.length yl87)) + 1) ≤ (List.length yl87))))
 (asr (decide ((List.length yl87) = (List.length yl87)))
 (asr (decide ((((List.length yl87) + 1) + 64) * (8 + 1) ≤ room))
 (asr (decide ((0 : Int) ≤ yi99))
 (asr ((decide (yi99 ≤ ((yn94 : Nat) : Int))) || (decide (yi99 ≤ ((yn96 : Nat) : Int))))
 (asr (decide ((0 : Int) ≤ (IntKind.i64.wrap (yi99 + (1 : Int)))))
 (asr (decide ((IntKind.i64.wrap (yi99 + (1 : Int))) ≤ ((yn94 : Nat) : Int)))
 (asr ((decide (((yn94 : Nat) : Int) ≤ ((yn94 : Nat) : Int))) || (decide (((yn94 : Nat) : Int) ≤ ((yn96 : Nat) : Int))))
 (asr (decide ((List.length yl85) = yn95))
 (asr (decide (((0 + ((IntKind.i64.wrap (yi99 + (1 : Int))).toNat)) + ((((yn94 : Nat) : Int) - (IntKind.i64.wrap (yi99 + (1 : Int)))).toNat)) ≤ yn95))
 (asr (headOk 1 (List.take ((((yn94 : Nat) : Int) - (IntKind.i64.wrap (yi99 + (1 : Int)))).toNat) (List.drop (0 + ((IntKind.i64.wrap (yi99 + (1 : Int))).toNat)) yl85)))
 (asr (decide ((List.length yl85) = yn95))
 (asr (decide ((0 + ((yi99 - (0 : Int)).toNat)) ≤ yn95))
 (cbr (List.isEmpty (List.take ((((yn94 : Nat) : Int) - (IntKind.i64.wrap (yi99 + (1 : Int)))).toNat) (List.drop (0 + ((IntKind.i64.wrap (yi99 + (1 : Int))).toNat)) yl85)))
 (asr (decide ((List.length (yl87 ++ ([(.int .i64 (intOfV (List.getD yl85 (0 + (yi99.toNat)) .nils)))] : List PV))) = List.length (yl87 ++ ([(.int .i64 (intOfV (List.getD yl85 (0 + (yi99.toNat)) .nils)))] : List PV))) && decide ((List.length (yl87 ++ ([(.int .i64 (intOfV (List.getD yl85 (0 + (yi99.toNat)) .nils)))] : List PV))) = List.length (yl87 ++ ([(.int .i64 (intOfV (List.getD yl85 (0 + (yi99.toNat)) .nils)))] : List PV))))
 (L_knife_Spans_1_1 a0 a1 a2 a3 a4 x29600602_0 x29600602_1 x29600602_2 x29600602_3 n29600602 yl85 (List.set yl86 (0 + ((intOfV (List.getD yl85 (0 + (yi99.toNat)) .nils)).toNat)) (.data ([(.agg [(.int .i64 yi97), (.int .i64 yi98), (.int .i64 yi100), (.int .i64 yi101)])] : List PV))) (yl87 ++ ([(.int .i64 (intOfV (List.getD yl85 (0 + (yi99.toNat)) .nils)))] : List PV)) yl88 yn89 yn90 yn91 yl92 yl93 ((yi99 - (0 : Int)).toNat) yn95 (yn96 - 0) yi100 yi101))
 (asr (decide ((((yi99 - (0 : Int)).toNat) + (List.length (List.take ((((yn94 : Nat) : Int) - (IntKind.i64.wrap (yi99 + (1 : Int)))).toNat) (List.drop (0 + ((IntKind.i64.wrap (yi99 + (1 : Int))).toNat)) yl85)))) ≤ (yn96 - 0)))
 (asr (decide ((List.length (yl87 ++ ([(.int .i64 (intOfV (List.getD yl85 (0 + (yi99.toNat)) .nils)))] : List PV))) = List.length (yl87 ++ ([(.int .i64 (intOfV (List.getD yl85 (0 + (yi99.toNat)) .nils)))] : List PV))) && decide ((List.length (yl87 ++ ([(.int .i64 (intOfV (List.getD yl85 (0 + (yi99.toNat)) .nils)))] : List PV))) = List.length (yl87 ++ ([(.int .i64 (intOfV (List.getD yl85 (0 + (yi99.toNat)) .nils)))] : List PV))))
 (L_knife_Spans_1_1 a0 a1 a2 a3 a4 x29600602_0 x29600602_1 x29600602_2 x29600602_3 n29600602 ((List.take (0 + ((yi99 - (0 : Int)).toNat)) yl85) ++ ((List.take ((((yn94 : Nat) : Int) - (IntKind.i64.wrap (yi99 + (1 : Int)))).toNat) (List.drop (0 + ((IntKind.i64.wrap (yi99 + (1 : Int))).toNat)) yl85)) ++ (List.drop ((0 + ((yi99 - (0 : Int)).toNat)) + (List.length (List.take ((((yn94 : Nat) : Int) - (IntKind.i64.wrap (yi99 + (1 : Int)))).toNat) (List.drop (0 + ((IntKind.i64.wrap (yi99 + (1 : Int))).toNat)) yl85)))) yl85))) (List.set yl86 (0 + ((intOfV (List.getD yl85 (0 + (yi99.toNat)) .nils)).toNat)) (.data ([(.agg [(.int .i64 yi97), (.int .i64 yi98), (.int .i64 yi100), (.int .i64 yi101)])] : List PV))) (yl87 ++ ([(.int .i64 (intOfV (List.getD yl85 (0 + (yi99.toNat)) .nils)))] : List PV)) yl88 yn89 yn90 yn91 yl92 yl93 (((yi99 - (0 : Int)).toNat) + (List.length (List.take ((((yn94 : Nat) : Int) - (IntKind.i64.wrap (yi99 + (1 : Int)))).toNat) (List.drop (0 + ((IntKind.i64.wrap (yi99 + (1 : Int))).toNat)) yl85)))) yn95 (yn96 - 0) yi100 yi101))))))))))))))))))))))))))))))
 n29600601 l0 l1 l2 l3 n4 n5 n6 l9 l10 n11 n12 n13 i14 i15 (0 : Int) (0 : Int) (0 : Int) n11 n12 n13 ((n11 : Nat) : Int) (0 : Int)))
 (x29600602_2 l0 l1 l2 l3 n4 n5 n6 l9 l10 n11 n12 n13 i14 i15 false))
end
def wv_knife_Spans (a0 : T_ask_Open) (a1 : T_knife_whole) (a2 : T_knife_part) (a3 : T_ask_Mark) (a4 : T_knife_less) (p0 : List PV) (K : List PV → List PV → List PV → Int → Prop) : Prop :=
 (a0 p0 (fun yl0 yl1 yi2 => 
 (cbr (yi2 != (0 : Int))
 (K ([] : List PV) ([] : List PV) ([] : List PV) yi2)
 (asr (decide ((0 : Int) ≤ (((List.length p0) : Nat) : Int)))
 (asr (decide (((List.length p0) + 64) * (8 + 1) ≤ room))
 (∃ n29600600 : Nat, L_knife_Spans_0_0 a0 a1 a2 a3 a4
 (fun yl3 yl4 yl5 yl6 yn7 yn8 yn9 _ _ _ => (asr (decide ((0 : Int) ≤ (((List.length yl4) : Nat) : Int)))
 (asr (decide ((((List.length yl4) : Nat) : Int) ≤ (((List.length yl4) : Nat) : Int)))
 (asr (decide (((List.length yl4) + 64) * (24 + 1) ≤ room))
 (a1 (0 : Int) (fun yi13 yi14 => 
 (∃ n29600602 : Nat, L_knife_Spans_1_0 a0 a1 a2 a3 a4
 (fun _ _ yi137 => (K ([] : List PV) ([] : List PV) ([] : List PV) yi137))
 (fun _ _ _ yi141 => (K ([] : List PV) ([] : List PV) ([] : List PV) yi141))
 (fun yl142 yl143 yl144 yl145 yn146 yn147 _ _ yl150 yn151 yn152 _ yi154 yi155 _ => (asr (decide ((0 : Int) < ((yn151 : Nat) : Int)))
 (asr (decide ((List.length yl142) = yn152))
 (asr (decide (0 < (List.length yl142)))
 (asr (conf (.one (.i .i64)) (List.getD yl142 0 .nils))
 (asr (decide ((0 : Int) < (((List.length yl145) : Nat) : Int)))
 (asr (conf (.agg [.i .i64, .d, .d]) (List.getD yl145 0 .nils))
 (a1 (intOfV (cellAt (List.getD yl145 0 .nils) 0)) (fun yi157 yi158 => 
 (asr (decide ((0 : Int) ≤ (intOfV (List.getD yl142 0 .nils))))
 (asr (decide ((intOfV (List.getD yl142 0 .nils)) < ((yn146 : Nat) : Int)))
 (asr (decide ((List.length yl143) = yn147))
 (asr (decide ((0 + ((intOfV (List.getD yl142 0 .nils)).toNat)) < (List.length yl143)))
 (asr (conf (.one (.d)) (List.getD yl143 (0 + ((intOfV (List.getD yl142 0 .nils)).toNat)) .nils))
 (asr (decide ((0 : Int) < ((yn151 : Nat) : Int)))
 (asr (decide ((List.length yl142) = yn152))
 (asr (decide (0 < (List.length yl142)))
 (asr (conf (.one (.i .i64)) (List.getD yl142 0 .nils))
 (asr (decide ((List.length yl144) = (List.length yl144)))
 (asr (decide ((0 + (List.length yl144)) ≤ (List.length yl144)))
 (asr (!(decide (((0 + (List.length yl144)) + 1) ≤ (List.length yl144))))
 (asr (decide ((List.length yl144) = (List.length yl144)))
 (asr (decide ((((List.length yl144) + 1) + 64) * (8 + 1) ≤ room))
 (asr (decide ((List.length (List.set yl143 (0 + ((intOfV (List.getD yl142 0 .nils)).toNat)) (.data ([(.agg [(.int .i64 yi154), (.int .i64 yi155), (.int .i64 yi157), (.int .i64 yi158)])] : List PV)))) = yn147))
 (asr (decide ((0 + yn146) ≤ yn147))
 (asr (decide ((List.length (yl144 ++ ([(.int .i64 (intOfV (List.getD yl142 0 .nils)))] : List PV))) = (List.length (yl144 ++ ([(.int .i64 (intOfV (List.getD yl142 0 .nils)))] : List PV)))))
 (asr (decide ((0 + (List.length (yl144 ++ ([(.int .i64 (intOfV (List.getD yl142 0 .nils)))] : List PV)))) ≤ (List.length (yl144 ++ ([(.int .i64 (intOfV (List.getD yl142 0 .nils)))] : List PV)))))
 (K (List.take yn146 (List.set yl143 (0 + ((intOfV (List.getD yl142 0 .nils)).toNat)) (.data ([(.agg [(.int .i64 yi154), (.int .i64 yi155), (.int .i64 yi157), (.int .i64 yi158)])] : List PV)))) (List.take (List.length (yl144 ++ ([(.int .i64 (intOfV (List.getD yl142 0 .nils)))] : List PV))) (yl144 ++ ([(.int .i64 (intOfV (List.getD yl142 0 .nils)))] : List PV))) yl150 (0 : Int)))))))))))))))))))))))))))))
 (fun yl159 yl160 yl161 yn162 yn163 _ _ yl166 yn167 yn168 _ yi170 yi171 _ => (asr (decide ((0 : Int) < ((yn167 : Nat) : Int)))
 (asr (decide ((List.length yl159) = yn168))
 (asr (decide (0 < (List.length yl159)))
 (asr (conf (.one (.i .i64)) (List.getD yl159 0 .nils))
 (asr (decide ((0 : Int) < (((List.length yl161) : Nat) : Int)))
 (asr (conf (.agg [.i .i64, .d, .d]) (List.getD yl161 0 .nils))
 (a1 (intOfV (cellAt (List.getD yl161 0 .nils) 0)) (fun yi173 yi174 => 
 (asr (decide ((0 : Int) ≤ (intOfV (List.getD yl159 0 .nils))))
 (asr (decide ((intOfV (List.getD yl159 0 .nils)) < ((yn162 : Nat) : Int)))
 (asr (decide ((List.length yl160) = yn163))
 (asr (decide ((0 + ((intOfV (List.getD yl159 0 .nils)).toNat)) < (List.length yl160)))
 (asr (conf (.one (.d)) (List.getD yl160 (0 + ((intOfV (List.getD yl159 0 .nils)).toNat)) .nils))
 (asr (decide ((0 : Int) < ((yn167 : Nat) : Int)))
 (asr (decide ((List.length yl159) = yn168))
 (asr (decide (0 < (List.length yl159)))
 (asr (conf (.one (.i .i64)) (List.getD yl159 0 .nils))
 (asr (decide ((List.length (List.set yl160 (0 + ((intOfV (List.getD yl159 0 .nils)).toNat)) (.data ([(.agg [(.int .i64 yi170), (.int .i64 yi171), (.int .i64 yi173), (.int .i64 yi174)])] : List PV)))) = yn163))
 (asr (decide ((0 + yn162) ≤ yn163))
 (K (List.take yn162 (List.set yl160 (0 + ((intOfV (List.getD yl159 0 .nils)).toNat)) (.data ([(.agg [(.int .i64 yi170), (.int .i64 yi171), (.int .i64 yi173), (.int .i64 yi174)])] : List PV)))) ([(.int .i64 (intOfV (List.getD yl159 0 .nils)))] : List PV) yl166 (0 : Int))))))))))))))))))))))
 n29600602 yl3 (List.replicate (List.length yl4) ((.data []) : PV)) yl4 (List.length yl4) (List.length yl4) (List.length yl4) yl5 yl6 yn7 yn8 yn9 yi13 yi14)))))))
 n29600600 (List.replicate (List.length p0) ((.int .i64 (0)) : PV)) p0 yl0 yl1 0 (List.length p0) (List.length p0) (((List.length p0) : Nat) : Int) (0 : Int)))))))
def w_knife_Spans (p0 : List PV) (K : List PV → List PV → List PV → Int → Prop) : Prop := wv_knife_Spans w_ask_Open w_knife_whole w_knife_part w_ask_Mark w_knife_less p0 K
def pw_knife_Spans (w : T_knife_Spans) (as : List PV) (K : PV → Prop) : Prop :=
 match as with
 | [(.data p0)] => w p0 (fun r0 r1 r2 r3 => K (.tup [(.agg [(.data r0)]), (.data r1), (.data r2), (.int .i64 r3)]))
 | _ => False
def wp_knife_Spans (as : List PV) (K : PV → Prop) : Prop := pw_knife_Spans w_knife_Spans as K
def D_knife_Spans_0 (F : Frm) (H : Hp) (A0 : List PV → List PV → List PV → List PV → Nat → Nat → Nat → Int → Int → Prop) : Prop :=
 match F, H with
 | [(0, .v (.data l1)), (2, .box (.agg [.nils])), (3, .v .nils), (6, .box (.agg [(.data l2), (.data l3)])), (7, .v (.own 0 0 n4 n5 (some n6))), (31, .v (.int .i64 i7)), (32, .v (.int .i64 i8))], [⟨false, true, 1, l0⟩] => (A0 l0 l1 l2 l3 n4 n5 n6 i7 i8)
 | _, _ => False
def D_knife_Spans_2 (F : Frm) (H : Hp) (A0 : List PV → List PV → List PV → Nat → Nat → Nat → List PV → List PV → Nat → Nat → Nat → Int → Int → Int → Int → Int → Nat → Nat → Nat → Int → Int → Prop) (A1 : List PV → List PV → List PV → List PV → Nat → Nat → Nat → List PV → List PV → Nat → Nat → Nat → Int → Int → Int → Int → Int → Nat → Nat → Nat → Int → Int → Prop) : Prop :=
 match F, H with
 | [(0, .v (.data l2)), (2, .box (.agg [(.own 1 0 n3 n4 (some n5))])), (3, .v .nils), (6, .box (.agg [(.data l6), (.data l7)])), (7, .v (.own 0 0 n8 n9 (some n10))), (9, .box (.agg [(.int .i64 i11), (.int .i64 i12)])), (10, .v (.int .i64 i13)), (11, .box (.agg [(.int .i64 i14), (.int .i64 i15)])), (49, .v (.own 0 0 n16 n17 (some n18))), (50, .v (.int .i64 i19)), (51, .v (.int .i64 i20))], [⟨false, true, 1, l0⟩, ⟨false, true, 1, l1⟩] => (A0 l0 l1 l2 n3 n4 n5 l6 l7 n8 n9 n10 i11 i12 i13 i14 i15 n16 n17 n18 i19 i20)
 | [(0, .v (.data l3)), (2, .box (.agg [(.own 1 0 n4 n5 (some n6))])), (3, .v (.own 2 0 t7 t8 none)), (6, .box (.agg [(.data l9), (.data l10)])), (7, .v (.own 0 0 n11 n12 (some n13))), (9, .box (.agg [(.int .i64 i14), (.int .i64 i15)])), (10, .v (.int .i64 i16)), (11, .box (.agg [(.int .i64 i17), (.int .i64 i18)])), (49, .v (.own 0 0 n19 n20 (some n21))), (50, .v (.int .i64 i22)), (51, .v (.int .i64 i23))], [⟨false, true, 1, l0⟩, ⟨false, true, 1, l1⟩, ⟨false, true, 1, l2⟩] => asr (decide (t7 = List.length l2) && decide (t8 = List.length l2)) (A1 l0 l1 l2 l3 n4 n5 n6 l9 l10 n11 n12 n13 i14 i15 i16 i17 i18 n19 n20 n21 i22 i23)
 | _, _ => False
def D_knife_Spans_1 (F : Frm) (H : Hp) (A0 : List PV → List PV → List PV → Nat → Nat → Nat → List PV → List PV → Nat → Nat → Nat → Int → Int → Prop) (A1 : List PV → List PV → List PV → List PV → Nat → Nat → Nat → List PV → List PV → Nat → Nat → Nat → Int → Int → Prop) : Prop :=
 match F, H with
 | [(0, .v (.data l2)), (2, .box (.agg [(.own 1 0 n3 n4 (some n5))])), (3, .v .nils), (6, .box (.agg [(.data l6), (.data l7)])), (7, .v (.own 0 0 n8 n9 (some n10))), (9, .box (.agg [(.int .i64 i11), (.int .i64 i12)]))], [⟨false, true, 1, l0⟩, ⟨false, true, 1, l1⟩] => (A0 l0 l1 l2 n3 n4 n5 l6 l7 n8 n9 n10 i11 i12)
 | [(0, .v (.data l3)), (2, .box (.agg [(.own 1 0 n4 n5 (some n6))])), (3, .v (.own 2 0 t7 t8 none)), (6, .box (.agg [(.data l9), (.data l10)])), (7, .v (.own 0 0 n11 n12 (some n13))), (9, .box (.agg [(.int .i64 i14), (.int .i64 i15)]))], [⟨false, true, 1, l0⟩, ⟨false, true, 1, l1⟩, ⟨false, true, 1, l2⟩] => asr (decide (t7 = List.length l2) && decide (t8 = List.length l2)) (A1 l0 l1 l2 l3 n4 n5 n6 l9 l10 n11 n12 n13 i14 i15)
 | _, _ => False
def R_knife_Spans_0 (a0 : T_ask_Open) (a1 : T_knife_whole) (a2 : T_knife_part) (a3 : T_ask_Mark) (a4 : T_knife_less) (Q : Ex → Frm → Hp → Prop) (n : Nat) (F : Frm) (H : Hp) : Prop := D_knife_Spans_0 F H (fun l0 l1 l2 l3 n4 n5 n6 i7 i8 => L_knife_Spans_0_0 a0 a1 a2 a3 a4 (fun l0 l1 l2 l3 n4 n5 n6 i7 i8 b9 => Q (.exit 0) [(0, .v (.data l1)), (2, .box (.agg [.nils])), (3, .v .nils), (6, .box (.agg [(.data l2), (.data l3)])), (7, .v (.own 0 0 n4 n5 (some n6))), (31, .v (.int .i64 i7)), (32, .v (.int .i64 i8)), (33, .v (.bool b9))] [⟨false, true, 1, l0⟩]) n l0 l1 l2 l3 n4 n5 n6 i7 i8)
def R_knife_Spans_2 (a0 : T_ask_Open) (a1 : T_knife_whole) (a2 : T_knife_part) (a3 : T_ask_Mark) (a4 : T_knife_less) (Q : Ex → Frm → Hp → Prop) (n : Nat) (F : Frm) (H : Hp) : Prop := D_knife_Spans_2 F H (fun l0 l1 l2 n3 n4 n5 l6 l7 n8 n9 n10 i11 i12 i13 i14 i15 n16 n17 n18 i19 i20 => L_knife_Spans_2_0 a0 a1 a2 a3 a4 (fun l0 l1 i2 => Q .ret [(2, .box (.agg [.nils])), (3, .v .nils), (4, .v .nils), (5, .v (.int .i64 i2))] [⟨false, true, 1, l0⟩, ⟨false, true, 1, l1⟩]) (fun l0 l1 l2 n3 n4 n5 l6 l7 n8 n9 n10 i11 i12 i13 i14 i15 n16 n17 n18 i19 i20 b21 => Q (.exit 4) [(0, .v (.data l2)), (2, .box (.agg [(.own 1 0 n3 n4 (some n5))])), (3, .v .nils), (6, .box (.agg [(.data l6), (.data l7)])), (7, .v (.own 0 0 n8 n9 (some n10))), (9, .box (.agg [(.int .i64 i11), (.int .i64 i12)])), (10, .v (.int .i64 i13)), (11, .box (.agg [(.int .i64 i14), (.int .i64 i15)])), (49, .v (.own 0 0 n16 n17 (some n18))), (50, .v (.int .i64 i19)), (51, .v (.int .i64 i20)), (52, .v (.bool b21))] [⟨false, true, 1, l0⟩, ⟨false, true, 1, l1⟩]) (fun l0 l1 l2 i3 => Q .ret [(2, .box (.agg [.nils])), (3, .v .nils), (4, .v .nils), (5, .v (.int .i64 i3))] [⟨false, true, 1, l0⟩, ⟨false, true, 1, l1⟩, ⟨false, true, 1, l2⟩]) (fun l0 l1 l2 l3 n4 n5 n6 l9 l10 n11 n12 n13 i14 i15 i16 i17 i18 n19 n20 n21 i22 i23 b24 => Q (.exit 4) [(0, .v (.data l3)), (2, .box (.agg [(.own 1 0 n4 n5 (some n6))])), (3, .v (.own 2 0 (List.length l2) (List.length l2) none)), (6, .box (.agg [(.data l9), (.data l10)])), (7, .v (.own 0 0 n11 n12 (some n13))), (9, .box (.agg [(.int .i64 i14), (.int .i64 i15)])), (10, .v (.int .i64 i16)), (11, .box (.agg [(.int .i64 i17), (.int .i64 i18)])), (49, .v (.own 0 0 n19 n20 (some n21))), (50, .v (.int .i64 i22)), (51, .v (.int .i64 i23)), (52, .v (.bool b24))] [⟨false, true, 1, l0⟩, ⟨false, true, 1, l1⟩, ⟨false, true, 1, l2⟩]) n l0 l1 l2 n3 n4 n5 l6 l7 n8 n9 n10 i11 i12 i13 i14 i15 n16 n17 n18 i19 i20) (fun l0 l1 l2 l3 n4 n5 n6 l9 l10 n11 n12 n13 i14 i15 i16 i17 i18 n19 n20 n21 i22 i23 => L_knife_Spans_2_1 a0 a1 a2 a3 a4 (fun l0 l1 i2 => Q .ret [(2, .box (.agg [.nils])), (3, .v .nils), (4, .v .nils), (5, .v (.int .i64 i2))] [⟨false, true, 1, l0⟩, ⟨false, true, 1, l1⟩]) (fun l0 l1 l2 n3 n4 n5 l6 l7 n8 n9 n10 i11 i12 i13 i14 i15 n16 n17 n18 i19 i20 b21 => Q (.exit 4) [(0, .v (.data l2)), (2, .box (.agg [(.own 1 0 n3 n4 (some n5))])), (3, .v .nils), (6, .box (.agg [(.data l6), (.data l7)])), (7, .v (.own 0 0 n8 n9 (some n10))), (9, .box (.agg [(.int .i64 i11), (.int .i64 i12)])), (10, .v (.int .i64 i13)), (11, .box (.agg [(.int .i64 i14), (.int .i64 i15)])), (49, .v (.own 0 0 n16 n17 (some n18))), (50, .v (.int .i64 i19)), (51, .v (.int .i64 i20)), (52, .v (.bool b21))] [⟨false, true, 1, l0⟩, ⟨false, true, 1, l1⟩]) (fun l0 l1 l2 i3 => Q .ret [(2, .box (.agg [.nils])), (3, .v .nils), (4, .v .nils), (5, .v (.int .i64 i3))] [⟨false, true, 1, l0⟩, ⟨false, true, 1, l1⟩, ⟨false, true, 1, l2⟩]) (fun l0 l1 l2 l3 n4 n5 n6 l9 l10 n11 n12 n13 i14 i15 i16 i17 i18 n19 n20 n21 i22 i23 b24 => Q (.exit 4) [(0, .v (.data l3)), (2, .box (.agg [(.own 1 0 n4 n5 (some n6))])), (3, .v (.own 2 0 (List.length l2) (List.length l2) none)), (6, .box (.agg [(.data l9), (.data l10)])), (7, .v (.own 0 0 n11 n12 (some n13))), (9, .box (.agg [(.int .i64 i14), (.int .i64 i15)])), (10, .v (.int .i64 i16)), (11, .box (.agg [(.int .i64 i17), (.int .i64 i18)])), (49, .v (.own 0 0 n19 n20 (some n21))), (50, .v (.int .i64 i22)), (51, .v (.int .i64 i23)), (52, .v (.bool b24))] [⟨false, true, 1, l0⟩, ⟨false, true, 1, l1⟩, ⟨false, true, 1, l2⟩]) n l0 l1 l2 l3 n4 n5 n6 l9 l10 n11 n12 n13 i14 i15 i16 i17 i18 n19 n20 n21 i22 i23)
def R_knife_Spans_1 (a0 : T_ask_Open) (a1 : T_knife_whole) (a2 : T_knife_part) (a3 : T_ask_Mark) (a4 : T_knife_less) (Q : Ex → Frm → Hp → Prop) (n : Nat) (F : Frm) (H : Hp) : Prop := D_knife_Spans_1 F H (fun l0 l1 l2 n3 n4 n5 l6 l7 n8 n9 n10 i11 i12 => L_knife_Spans_1_0 a0 a1 a2 a3 a4 (fun l0 l1 i2 => Q .ret [(2, .box (.agg [.nils])), (3, .v .nils), (4, .v .nils), (5, .v (.int .i64 i2))] [⟨false, true, 1, l0⟩, ⟨false, true, 1, l1⟩]) (fun l0 l1 l2 i3 => Q .ret [(2, .box (.agg [.nils])), (3, .v .nils), (4, .v .nils), (5, .v (.int .i64 i3))] [⟨false, true, 1, l0⟩, ⟨false, true, 1, l1⟩, ⟨false, true, 1, l2⟩]) (fun l0 l1 l2 l3 n4 n5 n6 l9 l10 n11 n12 n13 i14 i15 b16 => Q (.exit 2) [(0, .v (.data l3)), (2, .box (.agg [(.own 1 0 n4 n5 (some n6))])), (3, .v (.own 2 0 (List.length l2) (List.length l2) none)), (6, .box (.agg [(.data l9), (.data l10)])), (7, .v (.own 0 0 n11 n12 (some n13))), (9, .box (.agg [(.int .i64 i14), (.int .i64 i15)])), (47, .v (.bool b16))] [⟨false, true, 1, l0⟩, ⟨false, true, 1, l1⟩, ⟨false, true, 1, l2⟩]) (fun l0 l1 l2 n3 n4 n5 l6 l7 n8 n9 n10 i11 i12 b13 => Q (.exit 2) [(0, .v (.data l2)), (2, .box (.agg [(.own 1 0 n3 n4 (some n5))])), (3, .v .nils), (6, .box (.agg [(.data l6), (.data l7)])), (7, .v (.own 0 0 n8 n9 (some n10))), (9, .box (.agg [(.int .i64 i11), (.int .i64 i12)])), (47, .v (.bool b13))] [⟨false, true, 1, l0⟩, ⟨false, true, 1, l1⟩]) n l0 l1 l2 n3 n4 n5 l6 l7 n8 n9 n10 i11 i12) (fun l0 l1 l2 l3 n4 n5 n6 l9 l10 n11 n12 n13 i14 i15 => L_knife_Spans_1_1 a0 a1 a2 a3 a4 (fun l0 l1 i2 => Q .ret [(2, .box (.agg [.nils])), (3, .v .nils), (4, .v .nils), (5, .v (.int .i64 i2))] [⟨false, true, 1, l0⟩, ⟨false, true, 1, l1⟩]) (fun l0 l1 l2 i3 => Q .ret [(2, .box (.agg [.nils])), (3, .v .nils), (4, .v .nils), (5, .v (.int .i64 i3))] [⟨false, true, 1, l0⟩, ⟨false, true, 1, l1⟩, ⟨false, true, 1, l2⟩]) (fun l0 l1 l2 l3 n4 n5 n6 l9 l10 n11 n12 n13 i14 i15 b16 => Q (.exit 2) [(0, .v (.data l3)), (2, .box (.agg [(.own 1 0 n4 n5 (some n6))])), (3, .v (.own 2 0 (List.length l2) (List.length l2) none)), (6, .box (.agg [(.data l9), (.data l10)])), (7, .v (.own 0 0 n11 n12 (some n13))), (9, .box (.agg [(.int .i64 i14), (.int .i64 i15)])), (47, .v (.bool b16))] [⟨false, true, 1, l0⟩, ⟨false, true, 1, l1⟩, ⟨false, true, 1, l2⟩]) (fun l0 l1 l2 n3 n4 n5 l6 l7 n8 n9 n10 i11 i12 b13 => Q (.exit 2) [(0, .v (.data l2)), (2, .box (.agg [(.own 1 0 n3 n4 (some n5))])), (3, .v .nils), (6, .box (.agg [(.data l6), (.data l7)])), (7, .v (.own 0 0 n8 n9 (some n10))), (9, .box (.agg [(.int .i64 i11), (.int .i64 i12)])), (47, .v (.bool b13))] [⟨false, true, 1, l0⟩, ⟨false, true, 1, l1⟩]) n l0 l1 l2 l3 n4 n5 n6 l9 l10 n11 n12 n13 i14 i15)
def lp_knife_Spans (a0 : T_ask_Open) (a1 : T_knife_whole) (a2 : T_knife_part) (a3 : T_ask_Mark) (a4 : T_knife_less) : LP := fun id F H Q =>
 bif Nat.beq id 29600600 then D_knife_Spans_0 F H (fun l0 l1 l2 l3 n4 n5 n6 i7 i8 => ∃ n : Nat, L_knife_Spans_0_0 a0 a1 a2 a3 a4 (fun l0 l1 l2 l3 n4 n5 n6 i7 i8 b9 => Q (.exit 0) [(0, .v (.data l1)), (2, .box (.agg [.nils])), (3, .v .nils), (6, .box (.agg [(.data l2), (.data l3)])), (7, .v (.own 0 0 n4 n5 (some n6))), (31, .v (.int .i64 i7)), (32, .v (.int .i64 i8)), (33, .v (.bool b9))] [⟨false, true, 1, l0⟩]) n l0 l1 l2 l3 n4 n5 n6 i7 i8) else
 bif Nat.beq id 29600601 then D_knife_Spans_2 F H (fun l0 l1 l2 n3 n4 n5 l6 l7 n8 n9 n10 i11 i12 i13 i14 i15 n16 n17 n18 i19 i20 => ∃ n : Nat, L_knife_Spans_2_0 a0 a1 a2 a3 a4 (fun l0 l1 i2 => Q .ret [(2, .box (.agg [.nils])), (3, .v .nils), (4, .v .nils), (5, .v (.int .i64 i2))] [⟨false, true, 1, l0⟩, ⟨false, true, 1, l1⟩]) (fun l0 l1 l2 n3 n4 n5 l6 l7 n8 n9 n10 i11 i12 i13 i14 i15 n16 n17 n18 i19 i20 b21 => Q (.exit 4) [(0, .v (.data l2)), (2, .box (.agg [(.own 1 0 n3 n4 (some n5))])), (3, .v .nils), (6, .box (.agg [(.data l6), (.data l7)])), (7, .v (.own 0 0 n8 n9 (some n10))), (9, .box (.agg [(.int .i64 i11), (.int .i64 i12)])), (10, .v (.int .i64 i13)), (11, .box (.agg [(.int .i64 i14), (.int .i64 i15)])), (49, .v (.own 0 0 n16 n17 (some n18))), (50, .v (.int .i64 i19)), (51, .v (.int .i64 i20)), (52, .v (.bool b21))] [⟨false, true, 1, l0⟩, ⟨false, true, 1, l1⟩]) (fun l0 l1 l2 i3 => Q .ret [(2, .box (.agg [.nils])), (3, .v .nils), (4, .v .nils), (5, .v (.int .i64 i3))] [⟨false, true, 1, l0⟩, ⟨false, true, 1, l1⟩, ⟨false, true, 1, l2⟩]) (fun l0 l1 l2 l3 n4 n5 n6 l9 l10 n11 n12 n13 i14 i15 i16 i17 i18 n19 n20 n21 i22 i23 b24 => Q (.exit 4) [(0, .v (.data l3)), (2, .box (.agg [(.own 1 0 n4 n5 (some n6))])), (3, .v (.own 2 0 (List.length l2) (List.length l2) none)), (6, .box (.agg [(.data l9), (.data l10)])), (7, .v (.own 0 0 n11 n12 (some n13))), (9, .box (.agg [(.int .i64 i14), (.int .i64 i15)])), (10, .v (.int .i64 i16)), (11, .box (.agg [(.int .i64 i17), (.int .i64 i18)])), (49, .v (.own 0 0 n19 n20 (some n21))), (50, .v (.int .i64 i22)), (51, .v (.int .i64 i23)), (52, .v (.bool b24))] [⟨false, true, 1, l0⟩, ⟨false, true, 1, l1⟩, ⟨false, true, 1, l2⟩]) n l0 l1 l2 n3 n4 n5 l6 l7 n8 n9 n10 i11 i12 i13 i14 i15 n16 n17 n18 i19 i20) (fun l0 l1 l2 l3 n4 n5 n6 l9 l10 n11 n12 n13 i14 i15 i16 i17 i18 n19 n20 n21 i22 i23 => ∃ n : Nat, L_knife_Spans_2_1 a0 a1 a2 a3 a4 (fun l0 l1 i2 => Q .ret [(2, .box (.agg [.nils])), (3, .v .nils), (4, .v .nils), (5, .v (.int .i64 i2))] [⟨false, true, 1, l0⟩, ⟨false, true, 1, l1⟩]) (fun l0 l1 l2 n3 n4 n5 l6 l7 n8 n9 n10 i11 i12 i13 i14 i15 n16 n17 n18 i19 i20 b21 => Q (.exit 4) [(0, .v (.data l2)), (2, .box (.agg [(.own 1 0 n3 n4 (some n5))])), (3, .v .nils), (6, .box (.agg [(.data l6), (.data l7)])), (7, .v (.own 0 0 n8 n9 (some n10))), (9, .box (.agg [(.int .i64 i11), (.int .i64 i12)])), (10, .v (.int .i64 i13)), (11, .box (.agg [(.int .i64 i14), (.int .i64 i15)])), (49, .v (.own 0 0 n16 n17 (some n18))), (50, .v (.int .i64 i19)), (51, .v (.int .i64 i20)), (52, .v (.bool b21))] [⟨false, true, 1, l0⟩, ⟨false, true, 1, l1⟩]) (fun l0 l1 l2 i3 => Q .ret [(2, .box (.agg [.nils])), (3, .v .nils), (4, .v .nils), (5, .v (.int .i64 i3))] [⟨false, true, 1, l0⟩, ⟨false, true, 1, l1⟩, ⟨false, true, 1, l2⟩]) (fun l0 l1 l2 l3 n4 n5 n6 l9 l10 n11 n12 n13 i14 i15 i16 i17 i18 n19 n20 n21 i22 i23 b24 => Q (.exit 4) [(0, .v (.data l3)), (2, .box (.agg [(.own 1 0 n4 n5 (some n6))])), (3, .v (.own 2 0 (List.length l2) (List.length l2) none)), (6, .box (.agg [(.data l9), (.data l10)])), (7, .v (.own 0 0 n11 n12 (some n13))), (9, .box (.agg [(.int .i64 i14), (.int .i64 i15)])), (10, .v (.int .i64 i16)), (11, .box (.agg [(.int .i64 i17), (.int .i64 i18)])), (49, .v (.own 0 0 n19 n20 (some n21))), (50, .v (.int .i64 i22)), (51, .v (.int .i64 i23)), (52, .v (.bool b24))] [⟨false, true, 1, l0⟩, ⟨false, true, 1, l1⟩, ⟨false, true, 1, l2⟩]) n l0 l1 l2 l3 n4 n5 n6 l9 l10 n11 n12 n13 i14 i15 i16 i17 i18 n19 n20 n21 i22 i23) else
 bif Nat.beq id 29600602 then D_knife_Spans_1 F H (fun l0 l1 l2 n3 n4 n5 l6 l7 n8 n9 n10 i11 i12 => ∃ n : Nat, L_knife_Spans_1_0 a0 a1 a2 a3 a4 (fun l0 l1 i2 => Q .ret [(2, .box (.agg [.nils])), (3, .v .nils), (4, .v .nils), (5, .v (.int .i64 i2))] [⟨false, true, 1, l0⟩, ⟨false, true, 1, l1⟩]) (fun l0 l1 l2 i3 => Q .ret [(2, .box (.agg [.nils])), (3, .v .nils), (4, .v .nils), (5, .v (.int .i64 i3))] [⟨false, true, 1, l0⟩, ⟨false, true, 1, l1⟩, ⟨false, true, 1, l2⟩]) (fun l0 l1 l2 l3 n4 n5 n6 l9 l10 n11 n12 n13 i14 i15 b16 => Q (.exit 2) [(0, .v (.data l3)), (2, .box (.agg [(.own 1 0 n4 n5 (some n6))])), (3, .v (.own 2 0 (List.length l2) (List.length l2) none)), (6, .box (.agg [(.data l9), (.data l10)])), (7, .v (.own 0 0 n11 n12 (some n13))), (9, .box (.agg [(.int .i64 i14), (.int .i64 i15)])), (47, .v (.bool b16))] [⟨false, true, 1, l0⟩, ⟨false, true, 1, l1⟩, ⟨false, true, 1, l2⟩]) (fun l0 l1 l2 n3 n4 n5 l6 l7 n8 n9 n10 i11 i12 b13 => Q (.exit 2) [(0, .v (.data l2)), (2, .box (.agg [(.own 1 0 n3 n4 (some n5))])), (3, .v .nils), (6, .box (.agg [(.data l6), (.data l7)])), (7, .v (.own 0 0 n8 n9 (some n10))), (9, .box (.agg [(.int .i64 i11), (.int .i64 i12)])), (47, .v (.bool b13))] [⟨false, true, 1, l0⟩, ⟨false, true, 1, l1⟩]) n l0 l1 l2 n3 n4 n5 l6 l7 n8 n9 n10 i11 i12) (fun l0 l1 l2 l3 n4 n5 n6 l9 l10 n11 n12 n13 i14 i15 => ∃ n : Nat, L_knife_Spans_1_1 a0 a1 a2 a3 a4 (fun l0 l1 i2 => Q .ret [(2, .box (.agg [.nils])), (3, .v .nils), (4, .v .nils), (5, .v (.int .i64 i2))] [⟨false, true, 1, l0⟩, ⟨false, true, 1, l1⟩]) (fun l0 l1 l2 i3 => Q .ret [(2, .box (.agg [.nils])), (3, .v .nils), (4, .v .nils), (5, .v (.int .i64 i3))] [⟨false, true, 1, l0⟩, ⟨false, true, 1, l1⟩, ⟨false, true, 1, l2⟩]) (fun l0 l1 l2 l3 n4 n5 n6 l9 l10 n11 n12 n13 i14 i15 b16 => Q (.exit 2) [(0, .v (.data l3)), (2, .box (.agg [(.own 1 0 n4 n5 (some n6))])), (3, .v (.own 2 0 (List.length l2) (List.length l2) none)), (6, .box (.agg [(.data l9), (.data l10)])), (7, .v (.own 0 0 n11 n12 (some n13))), (9, .box (.agg [(.int .i64 i14), (.int .i64 i15)])), (47, .v (.bool b16))] [⟨false, true, 1, l0⟩, ⟨false, true, 1, l1⟩, ⟨false, true, 1, l2⟩]) (fun l0 l1 l2 n3 n4 n5 l6 l7 n8 n9 n10 i11 i12 b13 => Q (.exit 2) [(0, .v (.data l2)), (2, .box (.agg [(.own 1 0 n3 n4 (some n5))])), (3, .v .nils), (6, .box (.agg [(.data l6), (.data l7)])), (7, .v (.own 0 0 n8 n9 (some n10))), (9, .box (.agg [(.int .i64 i11), (.int .i64 i12)])), (47, .v (.bool b13))] [⟨false, true, 1, l0⟩, ⟨false, true, 1, l1⟩]) n l0 l1 l2 l3 n4 n5 n6 l9 l10 n11 n12 n13 i14 i15) else
 False
def S0_knife_Spans (a0 : T_ask_Open) (a1 : T_knife_whole) (a2 : T_knife_part) (a3 : T_ask_Mark) (a4 : T_knife_less) : SE := ⟨E, lookS [(n_ask_Open, pw_ask_Open a0), (n_knife_whole, pw_knife_whole a1), (n_knife_part, pw_knife_part a2), (n_ask_Mark, pw_ask_Mark a3), (n_knife_less, pw_knife_less a4)], lookI [], lp_knife_Spans a0 a1 a2 a3 a4⟩
theorem se0_knife_Spans : SEOk (S0_knife_Spans w_ask_Open w_knife_whole w_knife_part w_ask_Mark w_knife_less) := seOk_of ⟨ok_ask_Open, ok_knife_whole, ok_knife_part, ok_ask_Mark, ok_knife_less, trivial⟩ trivial
theorem body_knife_Spans_0_0 (a0 a1 a2 a3 a4 Q n l0 l1 l2 l3 n4 n5 n6 i7 i8) : WC E (callW (S0_knife_Spans a0 a1 a2 a3 a4) 5) (lp_knife_Spans a0 a1 a2 a3 a4) b_29600600 [(0, .v (.data l1)), (2, .box (.agg [.nils])), (3, .v .nils), (6, .box (.agg [(.data l2), (.data l3)])), (7, .v (.own 0 0 n4 n5 (some n6))), (31, .v (.int .i64 i7)), (32, .v (.int .i64 i8))] [⟨false, true, 1, l0⟩] (fun x F' H' => match x with | .norm => R_knife_Spans_0 a0 a1 a2 a3 a4 Q n F' H' | .exit i => Q (.exit i) F' H' | .ret => Q .ret F' H') = L_knife_Spans_0_0 a0 a1 a2 a3 a4 (fun l0 l1 l2 l3 n4 n5 n6 i7 i8 b9 => Q (.exit 0) [(0, .v (.data l1)), (2, .box (.agg [.nils])), (3, .v .nils), (6, .box (.agg [(.data l2), (.data l3)])), (7, .v (.own 0 0 n4 n5 (some n6))), (31, .v (.int .i64 i7)), (32, .v (.int .i64 i8)), (33, .v (.bool b9))] [⟨false, true, 1, l0⟩]) (n + 1) l0 l1 l2 l3 n4 n5 n6 i7 i8 := by kernel_rfl
theorem lpb_knife_Spans_0 : LpOk E (lp_knife_Spans w_ask_Open w_knife_whole w_knife_part w_ask_Mark w_knife_less) b_29600600 := (LpOk_no (by kernel_rfl))
theorem loop_knife_Spans_0 : ∀ F H Q, lp_knife_Spans w_ask_Open w_knife_whole w_knife_part w_ask_Mark w_knife_less 29600600 F H Q → LoopT E b_29600600 F H Q := by
 intro F H Q h
 have go := LoopT.intro (callW_ok se0_knife_Spans 5) lpb_knife_Spans_0 (R_knife_Spans_0 w_ask_Open w_knife_whole w_knife_part w_ask_Mark w_knife_less Q) (by
   intro F H h
   unfold R_knife_Spans_0 D_knife_Spans_0 at h
   split at h
   · exact h
   · exact h) (by
   intro n F H h
   unfold R_knife_Spans_0 D_knife_Spans_0 at h
   split at h
   · exact (body_knife_Spans_0_0 ..).mpr h
   · exact h.elim)
 have h : D_knife_Spans_0 F H _ := h
 unfold D_knife_Spans_0 at h
 split at h
 · obtain ⟨n, h⟩ := h; exact go n _ _ h
 · exact h.elim
theorem body_knife_Spans_2_0 (a0 a1 a2 a3 a4 Q n l0 l1 l2 n3 n4 n5 l6 l7 n8 n9 n10 i11 i12 i13 i14 i15 n16 n17 n18 i19 i20) : WC E (callW (S0_knife_Spans a0 a1 a2 a3 a4) 5) (lp_knife_Spans a0 a1 a2 a3 a4) b_29600601 [(0, .v (.data l2)), (2, .box (.agg [(.own 1 0 n3 n4 (some n5))])), (3, .v .nils), (6, .box (.agg [(.data l6), (.data l7)])), (7, .v (.own 0 0 n8 n9 (some n10))), (9, .box (.agg [(.int .i64 i11), (.int .i64 i12)])), (10, .v (.int .i64 i13)), (11, .box (.agg [(.int .i64 i14), (.int .i64 i15)])), (49, .v (.own 0 0 n16 n17 (some n18))), (50, .v (.int .i64 i19)), (51, .v (.int .i64 i20))] [⟨false, true, 1, l0⟩, ⟨false, true, 1, l1⟩] (fun x F' H' => match x with | .norm => R_knife_Spans_2 a0 a1 a2 a3 a4 Q n F' H' | .exit i => Q (.exit i) F' H' | .ret => Q .ret F' H') = L_knife_Spans_2_0 a0 a1 a2 a3 a4 (fun l0 l1 i2 => Q .ret [(2, .box (.agg [.nils])), (3, .v .nils), (4, .v .nils), (5, .v (.int .i64 i2))] [⟨false, true, 1, l0⟩, ⟨false, true, 1, l1⟩]) (fun l0 l1 l2 n3 n4 n5 l6 l7 n8 n9 n10 i11 i12 i13 i14 i15 n16 n17 n18 i19 i20 b21 => Q (.exit 4) [(0, .v (.data l2)), (2, .box (.agg [(.own 1 0 n3 n4 (some n5))])), (3, .v .nils), (6, .box (.agg [(.data l6), (.data l7)])), (7, .v (.own 0 0 n8 n9 (some n10))), (9, .box (.agg [(.int .i64 i11), (.int .i64 i12)])), (10, .v (.int .i64 i13)), (11, .box (.agg [(.int .i64 i14), (.int .i64 i15)])), (49, .v (.own 0 0 n16 n17 (some n18))), (50, .v (.int .i64 i19)), (51, .v (.int .i64 i20)), (52, .v (.bool b21))] [⟨false, true, 1, l0⟩, ⟨false, true, 1, l1⟩]) (fun l0 l1 l2 i3 => Q .ret [(2, .box (.agg [.nils])), (3, .v .nils), (4, .v .nils), (5, .v (.int .i64 i3))] [⟨false, true, 1, l0⟩, ⟨false, true, 1, l1⟩, ⟨false, true, 1, l2⟩]) (fun l0 l1 l2 l3 n4 n5 n6 l9 l10 n11 n12 n13 i14 i15 i16 i17 i18 n19 n20 n21 i22 i23 b24 => Q (.exit 4) [(0, .v (.data l3)), (2, .box (.agg [(.own 1 0 n4 n5 (some n6))])), (3, .v (.own 2 0 (List.length l2) (List.length l2) none)), (6, .box (.agg [(.data l9), (.data l10)])), (7, .v (.own 0 0 n11 n12 (some n13))), (9, .box (.agg [(.int .i64 i14), (.int .i64 i15)])), (10, .v (.int .i64 i16)), (11, .box (.agg [(.int .i64 i17), (.int .i64 i18)])), (49, .v (.own 0 0 n19 n20 (some n21))), (50, .v (.int .i64 i22)), (51, .v (.int .i64 i23)), (52, .v (.bool b24))] [⟨false, true, 1, l0⟩, ⟨false, true, 1, l1⟩, ⟨false, true, 1, l2⟩]) (n + 1) l0 l1 l2 n3 n4 n5 l6 l7 n8 n9 n10 i11 i12 i13 i14 i15 n16 n17 n18 i19 i20 := by kernel_rfl
theorem body_knife_Spans_2_1 (a0 a1 a2 a3 a4 Q n l0 l1 l2 l3 n4 n5 n6 l9 l10 n11 n12 n13 i14 i15 i16 i17 i18 n19 n20 n21 i22 i23) : WC E (callW (S0_knife_Spans a0 a1 a2 a3 a4) 5) (lp_knife_Spans a0 a1 a2 a3 a4) b_29600601 [(0, .v (.data l3)), (2, .box (.agg [(.own 1 0 n4 n5 (some n6))])), (3, .v (.own 2 0 (List.length l2) (List.length l2) none)), (6, .box (.agg [(.data l9), (.data l10)])), (7, .v (.own 0 0 n11 n12 (some n13))), (9, .box (.agg [(.int .i64 i14), (.int .i64 i15)])), (10, .v (.int .i64 i16)), (11, .box (.agg [(.int .i64 i17), (.int .i64 i18)])), (49, .v (.own 0 0 n19 n20 (some n21))), (50, .v (.int .i64 i22)), (51, .v (.int .i64 i23))] [⟨false, true, 1, l0⟩, ⟨false, true, 1, l1⟩, ⟨false, true, 1, l2⟩] (fun x F' H' => match x with | .norm => R_knife_Spans_2 a0 a1 a2 a3 a4 Q n F' H' | .exit i => Q (.exit i) F' H' | .ret => Q .ret F' H') = L_knife_Spans_2_1 a0 a1 a2 a3 a4 (fun l0 l1 i2 => Q .ret [(2, .box (.agg [.nils])), (3, .v .nils), (4, .v .nils), (5, .v (.int .i64 i2))] [⟨false, true, 1, l0⟩, ⟨false, true, 1, l1⟩]) (fun l0 l1 l2 n3 n4 n5 l6 l7 n8 n9 n10 i11 i12 i13 i14 i15 n16 n17 n18 i19 i20 b21 => Q (.exit 4) [(0, .v (.data l2)), (2, .box (.agg [(.own 1 0 n3 n4 (some n5))])), (3, .v .nils), (6, .box (.agg [(.data l6), (.data l7)])), (7, .v (.own 0 0 n8 n9 (some n10))), (9, .box (.agg [(.int .i64 i11), (.int .i64 i12)])), (10, .v (.int .i64 i13)), (11, .box (.agg [(.int .i64 i14), (.int .i64 i15)])), (49, .v (.own 0 0 n16 n17 (some n18))), (50, .v (.int .i64 i19)), (51, .v (.int .i64 i20)), (52, .v (.bool b21))] [⟨false, true, 1, l0⟩, ⟨false, true, 1, l1⟩]) (fun l0 l1 l2 i3 => Q .ret [(2, .box (.agg [.nils])), (3, .v .nils), (4, .v .nils), (5, .v (.int .i64 i3))] [⟨false, true, 1, l0⟩, ⟨false, true, 1, l1⟩, ⟨false, true, 1, l2⟩]) (fun l0 l1 l2 l3 n4 n5 n6 l9 l10 n11 n12 n13 i14 i15 i16 i17 i18 n19 n20 n21 i22 i23 b24 => Q (.exit 4) [(0, .v (.data l3)), (2, .box (.agg [(.own 1 0 n4 n5 (some n6))])), (3, .v (.own 2 0 (List.length l2) (List.length l2) none)), (6, .box (.agg [(.data l9), (.data l10)])), (7, .v (.own 0 0 n11 n12 (some n13))), (9, .box (.agg [(.int .i64 i14), (.int .i64 i15)])), (10, .v (.int .i64 i16)), (11, .box (.agg [(.int .i64 i17), (.int .i64 i18)])), (49, .v (.own 0 0 n19 n20 (some n21))), (50, .v (.int .i64 i22)), (51, .v (.int .i64 i23)), (52, .v (.bool b24))] [⟨false, true, 1, l0⟩, ⟨false, true, 1, l1⟩, ⟨false, true, 1, l2⟩]) (n + 1) l0 l1 l2 l3 n4 n5 n6 l9 l10 n11 n12 n13 i14 i15 i16 i17 i18 n19 n20 n21 i22 i23 := by kernel_rfl
theorem lpb_knife_Spans_2 : LpOk E (lp_knife_Spans w_ask_Open w_knife_whole w_knife_part w_ask_Mark w_knife_less) b_29600601 := (LpOk_no (by kernel_rfl))
theorem loop_knife_Spans_2 : ∀ F H Q, lp_knife_Spans w_ask_Open w_knife_whole w_knife_part w_ask_Mark w_knife_less 29600601 F H Q → LoopT E b_29600601 F H Q := by
 intro F H Q h
 have go := LoopT.intro (callW_ok se0_knife_Spans 5) lpb_knife_Spans_2 (R_knife_Spans_2 w_ask_Open w_knife_whole w_knife_part w_ask_Mark w_knife_less Q) (by
   intro F H h
   unfold R_knife_Spans_2 D_knife_Spans_2 at h
   split at h
   · exact h
   · obtain ⟨hg, k⟩ := asr_iff.1 h
     clear h
     have h := k
     clear k
     try simp only [Bool.and_eq_true, decide_eq_true_eq] at hg
     obtain ⟨g0, g1⟩ := hg; subst g0; subst g1; exact h
   · exact h) (by
   intro n F H h
   unfold R_knife_Spans_2 D_knife_Spans_2 at h
   split at h
   · exact (body_knife_Spans_2_0 ..).mpr h
   · obtain ⟨hg, k⟩ := asr_iff.1 h
     clear h
     have h := k
     clear k
     try simp only [Bool.and_eq_true, decide_eq_true_eq] at hg
     obtain ⟨g0, g1⟩ := hg; subst g0; subst g1; exact (body_knife_Spans_2_1 ..).mpr h
   · exact h.elim)
 have h : D_knife_Spans_2 F H _ _ := h
 unfold D_knife_Spans_2 at h
 split at h
 · obtain ⟨n, h⟩ := h; exact go n _ _ h
 · obtain ⟨hg, n, h⟩ := asr_iff.1 h; exact go n _ _ (asr_iff.2 ⟨hg, h⟩)
 · exact h.elim
theorem body_knife_Spans_1_0 (a0 a1 a2 a3 a4 Q n l0 l1 l2 n3 n4 n5 l6 l7 n8 n9 n10 i11 i12) : WC E (callW (S0_knife_Spans a0 a1 a2 a3 a4) 5) (lp_knife_Spans a0 a1 a2 a3 a4) b_29600602 [(0, .v (.data l2)), (2, .box (.agg [(.own 1 0 n3 n4 (some n5))])), (3, .v .nils), (6, .box (.agg [(.data l6), (.data l7)])), (7, .v (.own 0 0 n8 n9 (some n10))), (9, .box (.agg [(.int .i64 i11), (.int .i64 i12)]))] [⟨false, true, 1, l0⟩, ⟨false, true, 1, l1⟩] (fun x F' H' => match x with | .norm => R_knife_Spans_1 a0 a1 a2 a3 a4 Q n F' H' | .exit i => Q (.exit i) F' H' | .ret => Q .ret F' H') = L_knife_Spans_1_0 a0 a1 a2 a3 a4 (fun l0 l1 i2 => Q .ret [(2, .box (.agg [.nils])), (3, .v .nils), (4, .v .nils), (5, .v (.int .i64 i2))] [⟨false, true, 1, l0⟩, ⟨false, true, 1, l1⟩]) (fun l0 l1 l2 i3 => Q .ret [(2, .box (.agg [.nils])), (3, .v .nils), (4, .v .nils), (5, .v (.int .i64 i3))] [⟨false, true, 1, l0⟩, ⟨false, true, 1, l1⟩, ⟨false, true, 1, l2⟩]) (fun l0 l1 l2 l3 n4 n5 n6 l9 l10 n11 n12 n13 i14 i15 b16 => Q (.exit 2) [(0, .v (.data l3)), (2, .box (.agg [(.own 1 0 n4 n5 (some n6))])), (3, .v (.own 2 0 (List.length l2) (List.length l2) none)), (6, .box (.agg [(.data l9), (.data l10)])), (7, .v (.own 0 0 n11 n12 (some n13))), (9, .box (.agg [(.int .i64 i14), (.int .i64 i15)])), (47, .v (.bool b16))] [⟨false, true, 1, l0⟩, ⟨false, true, 1, l1⟩, ⟨false, true, 1, l2⟩]) (fun l0 l1 l2 n3 n4 n5 l6 l7 n8 n9 n10 i11 i12 b13 => Q (.exit 2) [(0, .v (.data l2)), (2, .box (.agg [(.own 1 0 n3 n4 (some n5))])), (3, .v .nils), (6, .box (.agg [(.data l6), (.data l7)])), (7, .v (.own 0 0 n8 n9 (some n10))), (9, .box (.agg [(.int .i64 i11), (.int .i64 i12)])), (47, .v (.bool b13))] [⟨false, true, 1, l0⟩, ⟨false, true, 1, l1⟩]) (n + 1) l0 l1 l2 n3 n4 n5 l6 l7 n8 n9 n10 i11 i12 := by kernel_rfl
theorem body_knife_Spans_1_1 (a0 a1 a2 a3 a4 Q n l0 l1 l2 l3 n4 n5 n6 l9 l10 n11 n12 n13 i14 i15) : WC E (callW (S0_knife_Spans a0 a1 a2 a3 a4) 5) (lp_knife_Spans a0 a1 a2 a3 a4) b_29600602 [(0, .v (.data l3)), (2, .box (.agg [(.own 1 0 n4 n5 (some n6))])), (3, .v (.own 2 0 (List.length l2) (List.length l2) none)), (6, .box (.agg [(.data l9), (.data l10)])), (7, .v (.own 0 0 n11 n12 (some n13))), (9, .box (.agg [(.int .i64 i14), (.int .i64 i15)]))] [⟨false, true, 1, l0⟩, ⟨false, true, 1, l1⟩, ⟨false, true, 1, l2⟩] (fun x F' H' => match x with | .norm => R_knife_Spans_1 a0 a1 a2 a3 a4 Q n F' H' | .exit i => Q (.exit i) F' H' | .ret => Q .ret F' H') = L_knife_Spans_1_1 a0 a1 a2 a3 a4 (fun l0 l1 i2 => Q .ret [(2, .box (.agg [.nils])), (3, .v .nils), (4, .v .nils), (5, .v (.int .i64 i2))] [⟨false, true, 1, l0⟩, ⟨false, true, 1, l1⟩]) (fun l0 l1 l2 i3 => Q .ret [(2, .box (.agg [.nils])), (3, .v .nils), (4, .v .nils), (5, .v (.int .i64 i3))] [⟨false, true, 1, l0⟩, ⟨false, true, 1, l1⟩, ⟨false, true, 1, l2⟩]) (fun l0 l1 l2 l3 n4 n5 n6 l9 l10 n11 n12 n13 i14 i15 b16 => Q (.exit 2) [(0, .v (.data l3)), (2, .box (.agg [(.own 1 0 n4 n5 (some n6))])), (3, .v (.own 2 0 (List.length l2) (List.length l2) none)), (6, .box (.agg [(.data l9), (.data l10)])), (7, .v (.own 0 0 n11 n12 (some n13))), (9, .box (.agg [(.int .i64 i14), (.int .i64 i15)])), (47, .v (.bool b16))] [⟨false, true, 1, l0⟩, ⟨false, true, 1, l1⟩, ⟨false, true, 1, l2⟩]) (fun l0 l1 l2 n3 n4 n5 l6 l7 n8 n9 n10 i11 i12 b13 => Q (.exit 2) [(0, .v (.data l2)), (2, .box (.agg [(.own 1 0 n3 n4 (some n5))])), (3, .v .nils), (6, .box (.agg [(.data l6), (.data l7)])), (7, .v (.own 0 0 n8 n9 (some n10))), (9, .box (.agg [(.int .i64 i11), (.int .i64 i12)])), (47, .v (.bool b13))] [⟨false, true, 1, l0⟩, ⟨false, true, 1, l1⟩]) (n + 1) l0 l1 l2 l3 n4 n5 n6 l9 l10 n11 n12 n13 i14 i15 := by kernel_rfl
theorem lpb_knife_Spans_1 : LpOk E (lp_knife_Spans w_ask_Open w_knife_whole w_knife_part w_ask_Mark w_knife_less) b_29600602 := (LpOk_by (l := [(29600601, b_29600601)]) ⟨loop_knife_Spans_2, trivial⟩ (by kernel_rfl))
theorem loop_knife_Spans_1 : ∀ F H Q, lp_knife_Spans w_ask_Open w_knife_whole w_knife_part w_ask_Mark w_knife_less 29600602 F H Q → LoopT E b_29600602 F H Q := by
 intro F H Q h
 have go := LoopT.intro (callW_ok se0_knife_Spans 5) lpb_knife_Spans_1 (R_knife_Spans_1 w_ask_Open w_knife_whole w_knife_part w_ask_Mark w_knife_less Q) (by
   intro F H h
   unfold R_knife_Spans_1 D_knife_Spans_1 at h
   split at h
   · exact h
   · obtain ⟨hg, k⟩ := asr_iff.1 h
     clear h
     have h := k
     clear k
     try simp only [Bool.and_eq_true, decide_eq_true_eq] at hg
     obtain ⟨g0, g1⟩ := hg; subst g0; subst g1; exact h
   · exact h) (by
   intro n F H h
   unfold R_knife_Spans_1 D_knife_Spans_1 at h
   split at h
   · exact (body_knife_Spans_1_0 ..).mpr h
   · obtain ⟨hg, k⟩ := asr_iff.1 h
     clear h
     have h := k
     clear k
     try simp only [Bool.and_eq_true, decide_eq_true_eq] at hg
     obtain ⟨g0, g1⟩ := hg; subst g0; subst g1; exact (body_knife_Spans_1_1 ..).mpr h
   · exact h.elim)
 have h : D_knife_Spans_1 F H _ _ := h
 unfold D_knife_Spans_1 at h
 split at h
 · obtain ⟨n, h⟩ := h; exact go n _ _ h
 · obtain ⟨hg, n, h⟩ := asr_iff.1 h; exact go n _ _ (asr_iff.2 ⟨hg, h⟩)
 · exact h.elim
theorem eq_knife_Spans (a0 a1 a2 a3 a4 p0 K) : WP (S0_knife_Spans a0 a1 a2 a3 a4) 6 t_knife_Spans [(.data p0)] K = wv_knife_Spans a0 a1 a2 a3 a4 p0 (fun r0 r1 r2 r3 => K (.tup [(.agg [(.data r0)]), (.data r1), (.data r2), (.int .i64 r3)])) := by kernel_rfl
theorem ok_knife_Spans : OkF E wp_knife_Spans n_knife_Spans := by
 intro as K h
 unfold wp_knife_Spans pw_knife_Spans at h
 split at h
 · exact WP_ok se0_knife_Spans (LpOk_by (l := [(29600600, b_29600600), (29600601, b_29600601), (29600602, b_29600602)]) ⟨loop_knife_Spans_0, loop_knife_Spans_2, loop_knife_Spans_1, trivial⟩ (by kernel_rfl)) (by kernel_rfl) (by kernel_rfl) (fun _ => baseC_none (by kernel_rfl) _) ((eq_knife_Spans ..).mpr h)
 · exact h.elim
end Go.Pf.Vc
namespace Go.Pf.Vc
open Go Go.Pf
set_option linter.unusedVariables false
theorem det_knife_Spans (p0 : List PV) (r0 : List PV) (r1 : List PV) (r2 : List PV) (r3 : Int) (h : ∀ K : List PV → List PV → List PV → Int → Prop, K r0 r1 r2 r3 → w_knife_Spans p0 K) (K : List PV → List PV → List PV → Int → Prop) : w_knife_Spans p0 K = K r0 r1 r2 r3 :=
 propext ⟨fun k => detC ok_knife_Spans (as := [(.data p0)]) (x := (.tup [(.agg [(.data r0)]), (.data r1), (.data r2), (.int .i64 r3)])) (fun K' k' => h (fun r0 r1 r2 r3 => K' (.tup [(.agg [(.data r0)]), (.data r1), (.data r2), (.int .i64 r3)])) k') (K := fun x => match x with | (.tup [(.agg [(.data r0)]), (.data r1), (.data r2), (.int .i64 r3)]) => K r0 r1 r2 r3 | _ => False) k, h K⟩
end Go.Pf.Vc
namespace Go.Pf.Vc
open Go Go.Pf
set_option maxRecDepth 100000
abbrev T_r01_Of : Type := Int → (Int → Int → Prop) → Prop
def wv_r01_Of (p0 : Int) (K : Int → Int → Prop) : Prop :=
 (K p0 (1 : Int))
def w_r01_Of (p0 : Int) (K : Int → Int → Prop) : Prop := wv_r01_Of p0 K
def pw_r01_Of (w : T_r01_Of) (as : List PV) (K : PV → Prop) : Prop :=
 match as with
 | [(.int .i64 p0)] => w p0 (fun r0 r1 => K (.agg [(.int .i64 r0), (.int .i64 r1)]))
 | _ => False
def wp_r01_Of (as : List PV) (K : PV → Prop) : Prop := pw_r01_Of w_r01_Of as K
def lp_r01_Of : LP := fun _ _ _ _ =>
 False
def S0_r01_Of : SE := ⟨E, lookS [], lookI [], lp_r01_Of⟩
theorem se0_r01_Of : SEOk (S0_r01_Of) := seOk_of trivial trivial
theorem eq_r01_Of ( p0 K) : WP (S0_r01_Of) 6 t_r01_Of [(.int .i64 p0)] K = wv_r01_Of p0 (fun r0 r1 => K (.agg [(.int .i64 r0), (.int .i64 r1)])) := by kernel_rfl
theorem ok_r01_Of : OkF E wp_r01_Of n_r01_Of := by
 intro as K h
 unfold wp_r01_Of pw_r01_Of at h
 split at h
 · exact WP_ok se0_r01_Of (LpOk_no (by kernel_rfl)) (by kernel_rfl) (by kernel_rfl) (fun _ => baseC_none (by kernel_rfl) _) ((eq_r01_Of ..).mpr h)
 · exact h.elim
abbrev T_r01_abs : Type := Int → (Int → Prop) → Prop
def wv_r01_abs (p0 : Int) (K : Int → Prop) : Prop :=
 (cbr (decide (p0 < (0 : Int)))
 (K (IntKind.u64.wrap ((IntKind.u64.wrap (IntKind.i64.wrap ((0 : Int) - (IntKind.i64.wrap (p0 + (1 : Int)))))) + (1 : Int))))
 (K (IntKind.u64.wrap p0)))
def w_r01_abs (p0 : Int) (K : Int → Prop) : Prop := wv_r01_abs p0 K
def pw_r01_abs (w : T_r01_abs) (as : List PV) (K : PV → Prop) : Prop :=
 match as with
 | [(.int .i64 p0)] => w p0 (fun r0 => K (.int .u64 r0))
 | _ => False
def wp_r01_abs (as : List PV) (K : PV → Prop) : Prop := pw_r01_abs w_r01_abs as K
def lp_r01_abs : LP := fun _ _ _ _ =>
 False
def S0_r01_abs : SE := ⟨E, lookS [], lookI [], lp_r01_abs⟩
theorem se0_r01_abs : SEOk (S0_r01_abs) := seOk_of trivial trivial
theorem eq_r01_abs ( p0 K) : WP (S0_r01_abs) 6 t_r01_abs [(.int .i64 p0)] K = wv_r01_abs p0 (fun r0 => K (.int .u64 r0)) := by kernel_rfl
theorem ok_r01_abs : OkF E wp_r01_abs n_r01_abs := by
 intro as K h
 unfold wp_r01_abs pw_r01_abs at h
 split at h
 · exact WP_ok se0_r01_abs (LpOk_no (by kernel_rfl)) (by kernel_rfl) (by kernel_rfl) (fun _ => baseC_none (by kernel_rfl) _) ((eq_r01_abs ..).mpr h)
 · exact h.elim
abbrev T_r01_gcd : Type := Int → Int → (Int → Prop) → Prop
def L_r01_gcd_0_0 (x0 : Int → Int → Bool → Prop) : Nat → Int → Int → Prop
 | 0, _, _ => False
 | n + 1, i0, i1 =>
 (cbr (i1 != (0 : Int))
 (asr (!(decide (i1 = (0 : Int))))
 (L_r01_gcd_0_0 x0 n i1 (Int.tmod i0 i1)))
 (x0 i0 i1 false))
def wv_r01_gcd (p0 p1 : Int) (K : Int → Prop) : Prop :=
 (∃ n : Nat, L_r01_gcd_0_0
 (fun yi0 _ _ => (K yi0))
 n p0 p1)
def w_r01_gcd (p0 p1 : Int) (K : Int → Prop) : Prop := wv_r01_gcd p0 p1 K
def pw_r01_gcd (w : T_r01_gcd) (as : List PV) (K : PV → Prop) : Prop :=
 match as with
 | [(.int .u64 p0), (.int .u64 p1)] => w p0 p1 (fun r0 => K (.int .u64 r0))
 | _ => False
def wp_r01_gcd (as : List PV) (K : PV → Prop) : Prop := pw_r01_gcd w_r01_gcd as K
def D_r01_gcd_0 (F : Frm) (H : Hp) (A0 : Int → Int → Prop) : Prop :=
 match F, H with
 | [(0, .v (.int .u64 i0)), (1, .v (.int .u64 i1))], [] => (A0 i0 i1)
 | _, _ => False
def R_r01_gcd_0 (Q : Ex → Frm → Hp → Prop) (n : Nat) (F : Frm) (H : Hp) : Prop := D_r01_gcd_0 F H (fun i0 i1 => L_r01_gcd_0_0 (fun i0 i1 b2 => Q (.exit 0) [(0, .v (.int .u64 i0)), (1, .v (.int .u64 i1)), (6, .v (.bool b2))] []) n i0 i1)
def lp_r01_gcd : LP := fun id F H Q =>
 bif Nat.beq id 16774900 then D_r01_gcd_0 F H (fun i0 i1 => ∃ n : Nat, L_r01_gcd_0_0 (fun i0 i1 b2 => Q (.exit 0) [(0, .v (.int .u64 i0)), (1, .v (.int .u64 i1)), (6, .v (.bool b2))] []) n i0 i1) else
 False
def S0_r01_gcd : SE := ⟨E, lookS [], lookI [], lp_r01_gcd⟩
theorem se0_r01_gcd : SEOk (S0_r01_gcd) := seOk_of trivial trivial
theorem body_r01_gcd_0_0 ( Q n i0 i1) : WC E (callW (S0_r01_gcd) 5) (lp_r01_gcd) b_16774900 [(0, .v (.int .u64 i0)), (1, .v (.int .u64 i1))] [] (fun x F' H' => match x with | .norm => R_r01_gcd_0 Q n F' H' | .exit i => Q (.exit i) F' H' | .ret => Q .ret F' H') = L_r01_gcd_0_0 (fun i0 i1 b2 => Q (.exit 0) [(0, .v (.int .u64 i0)), (1, .v (.int .u64 i1)), (6, .v (.bool b2))] []) (n + 1) i0 i1 := by kernel_rfl
theorem lpb_r01_gcd_0 : LpOk E (lp_r01_gcd) b_16774900 := (LpOk_no (by kernel_rfl))
theorem loop_r01_gcd_0 : ∀ F H Q, lp_r01_gcd 16774900 F H Q → LoopT E b_16774900 F H Q := by
 intro F H Q h
 have go := LoopT.intro (callW_ok se0_r01_gcd 5) lpb_r01_gcd_0 (R_r01_gcd_0 Q) (by
   intro F H h
   unfold R_r01_gcd_0 D_r01_gcd_0 at h
   split at h
   · exact h
   · exact h) (by
   intro n F H h
   unfold R_r01_gcd_0 D_r01_gcd_0 at h
   split at h
   · exact (body_r01_gcd_0_0 ..).mpr h
   · exact h.elim)
 have h : D_r01_gcd_0 F H _ := h
 unfold D_r01_gcd_0 at h
 split at h
 · obtain ⟨n, h⟩ := h; exact go n _ _ h
 · exact h.elim
theorem eq_r01_gcd ( p0 p1 K) : WP (S0_r01_gcd) 6 t_r01_gcd [(.int .u64 p0), (.int .u64 p1)] K = wv_r01_gcd p0 p1 (fun r0 => K (.int .u64 r0)) := by kernel_rfl
theorem ok_r01_gcd : OkF E wp_r01_gcd n_r01_gcd := by
 intro as K h
 unfold wp_r01_gcd pw_r01_gcd at h
 split at h
 · exact WP_ok se0_r01_gcd (LpOk_by (l := [(16774900, b_16774900)]) ⟨loop_r01_gcd_0, trivial⟩ (by kernel_rfl)) (by kernel_rfl) (by kernel_rfl) (fun _ => baseC_none (by kernel_rfl) _) ((eq_r01_gcd ..).mpr h)
 · exact h.elim
abbrev T_r01_made : Type := Bool → Int → Int → Int → Int → (Int → Int → Int → Prop) → Prop
def wv_r01_made (p0 : Bool) (p1 p2 p3 p4 : Int) (K : Int → Int → Int → Prop) : Prop :=
 (cbr (decide (p1 > (0 : Int)))
 (K (0 : Int) (0 : Int) (16 : Int))
 (cbr (decide (p3 > (0 : Int)))
 (K (0 : Int) (0 : Int) (16 : Int))
 (cbr (decide (p2 > (1000000000000000000 : Int)))
 (K (0 : Int) (0 : Int) (16 : Int))
 (cbr (decide (p4 > (1000000000000000000 : Int)))
 (K (0 : Int) (0 : Int) (16 : Int))
 (cbr p0
 (K (IntKind.i64.wrap ((0 : Int) - (IntKind.i64.wrap p2))) (IntKind.i64.wrap p4) (0 : Int))
 (K (IntKind.i64.wrap p2) (IntKind.i64.wrap p4) (0 : Int)))))))
def w_r01_made (p0 : Bool) (p1 p2 p3 p4 : Int) (K : Int → Int → Int → Prop) : Prop := wv_r01_made p0 p1 p2 p3 p4 K
def pw_r01_made (w : T_r01_made) (as : List PV) (K : PV → Prop) : Prop :=
 match as with
 | [(.bool p0), (.agg [(.int .u64 p1), (.int .u64 p2)]), (.agg [(.int .u64 p3), (.int .u64 p4)])] => w p0 p1 p2 p3 p4 (fun r0 r1 r2 => K (.tup [(.agg [(.int .i64 r0), (.int .i64 r1)]), (.int .i64 r2)]))
 | _ => False
def wp_r01_made (as : List PV) (K : PV → Prop) : Prop := pw_r01_made w_r01_made as K
def lp_r01_made : LP := fun _ _ _ _ =>
 False
def S0_r01_made : SE := ⟨E, lookS [], lookI [], lp_r01_made⟩
theorem se0_r01_made : SEOk (S0_r01_made) := seOk_of trivial trivial
theorem eq_r01_made ( p0 p1 p2 p3 p4 K) : WP (S0_r01_made) 6 t_r01_made [(.bool p0), (.agg [(.int .u64 p1), (.int .u64 p2)]), (.agg [(.int .u64 p3), (.int .u64 p4)])] K = wv_r01_made p0 p1 p2 p3 p4 (fun r0 r1 r2 => K (.tup [(.agg [(.int .i64 r0), (.int .i64 r1)]), (.int .i64 r2)])) := by kernel_rfl
theorem ok_r01_made : OkF E wp_r01_made n_r01_made := by
 intro as K h
 unfold wp_r01_made pw_r01_made at h
 split at h
 · exact WP_ok se0_r01_made (LpOk_no (by kernel_rfl)) (by kernel_rfl) (by kernel_rfl) (fun _ => baseC_none (by kernel_rfl) _) ((eq_r01_made ..).mpr h)
 · exact h.elim
abbrev T_r01_Make : Type := Int → Int → (Int → Int → Int → Prop) → Prop
def wv_r01_Make (a0 : T_r01_abs) (a1 : T_r01_gcd) (a2 : T_r01_made) (p0 p1 : Int) (K : Int → Int → Int → Prop) : Prop :=
 (cbr (p1 == (0 : Int))
 (K (0 : Int) (0 : Int) (18 : Int))
 (a0 p0 (fun yi0 => 
 (a0 p1 (fun yi1 => 
 (a1 yi0 yi1 (fun yi2 => 
 (asr (!(decide (yi2 = (0 : Int))))
 (asr (!(decide (yi2 = (0 : Int))))
 (a2 ((decide (p0 < (0 : Int))) != (decide (p1 < (0 : Int)))) (0 : Int) (IntKind.u64.wrap (Int.tdiv yi0 yi2)) (0 : Int) (IntKind.u64.wrap (Int.tdiv yi1 yi2)) (fun yi3 yi4 yi5 => 
 (K yi3 yi4 yi5))))))))))))
def w_r01_Make (p0 p1 : Int) (K : Int → Int → Int → Prop) : Prop := wv_r01_Make w_r01_abs w_r01_gcd w_r01_made p0 p1 K
def pw_r01_Make (w : T_r01_Make) (as : List PV) (K : PV → Prop) : Prop :=
 match as with
 | [(.int .i64 p0), (.int .i64 p1)] => w p0 p1 (fun r0 r1 r2 => K (.tup [(.agg [(.int .i64 r0), (.int .i64 r1)]), (.int .i64 r2)]))
 | _ => False
def wp_r01_Make (as : List PV) (K : PV → Prop) : Prop := pw_r01_Make w_r01_Make as K
def lp_r01_Make (_ : T_r01_abs) (_ : T_r01_gcd) (_ : T_r01_made) : LP := fun _ _ _ _ =>
 False
def S0_r01_Make (a0 : T_r01_abs) (a1 : T_r01_gcd) (a2 : T_r01_made) : SE := ⟨E, lookS [(n_r01_abs, pw_r01_abs a0), (n_r01_gcd, pw_r01_gcd a1), (n_r01_made, pw_r01_made a2)], lookI [], lp_r01_Make a0 a1 a2⟩
theorem se0_r01_Make : SEOk (S0_r01_Make w_r01_abs w_r01_gcd w_r01_made) := seOk_of ⟨ok_r01_abs, ok_r01_gcd, ok_r01_made, trivial⟩ trivial
theorem eq_r01_Make (a0 a1 a2 p0 p1 K) : WP (S0_r01_Make a0 a1 a2) 6 t_r01_Make [(.int .i64 p0), (.int .i64 p1)] K = wv_r01_Make a0 a1 a2 p0 p1 (fun r0 r1 r2 => K (.tup [(.agg [(.int .i64 r0), (.int .i64 r1)]), (.int .i64 r2)])) := by kernel_rfl
theorem ok_r01_Make : OkF E wp_r01_Make n_r01_Make := by
 intro as K h
 unfold wp_r01_Make pw_r01_Make at h
 split at h
 · exact WP_ok se0_r01_Make (LpOk_no (by kernel_rfl)) (by kernel_rfl) (by kernel_rfl) (fun _ => baseC_none (by kernel_rfl) _) ((eq_r01_Make ..).mpr h)
 · exact h.elim
abbrev T_r01_Check : Type := Int → Int → (Int → Prop) → Prop
def wv_r01_Check (a0 : T_r01_abs) (a1 : T_r01_gcd) (p0 p1 : Int) (K : Int → Prop) : Prop :=
 (cbr (decide (p1 < (1 : Int)))
 (K (8 : Int))
 (cbr (decide (p1 > (1000000000000000000 : Int)))
 (K (8 : Int))
 (cbr (decide (p0 < (-1000000000000000000 : Int)))
 (K (8 : Int))
 (cbr (decide (p0 > (1000000000000000000 : Int)))
 (K (8 : Int))
 (a0 p0 (fun yi0 => 
 (a1 yi0 (IntKind.u64.wrap p1) (fun yi1 => 
 (cbr (yi1 != (1 : Int))
 (K (8 : Int))
 (K (0 : Int)))))))))))
def w_r01_Check (p0 p1 : Int) (K : Int → Prop) : Prop := wv_r01_Check w_r01_abs w_r01_gcd p0 p1 K
def pw_r01_Check (w : T_r01_Check) (as : List PV) (K : PV → Prop) : Prop :=
 match as with
 | [(.agg [(.int .i64 p0), (.int .i64 p1)])] => w p0 p1 (fun r0 => K (.int .i64 r0))
 | _ => False
def wp_r01_Check (as : List PV) (K : PV → Prop) : Prop := pw_r01_Check w_r01_Check as K
def lp_r01_Check (_ : T_r01_abs) (_ : T_r01_gcd) : LP := fun _ _ _ _ =>
 False
def S0_r01_Check (a0 : T_r01_abs) (a1 : T_r01_gcd) : SE := ⟨E, lookS [(n_r01_abs, pw_r01_abs a0), (n_r01_gcd, pw_r01_gcd a1)], lookI [], lp_r01_Check a0 a1⟩
theorem se0_r01_Check : SEOk (S0_r01_Check w_r01_abs w_r01_gcd) := seOk_of ⟨ok_r01_abs, ok_r01_gcd, trivial⟩ trivial
theorem eq_r01_Check (a0 a1 p0 p1 K) : WP (S0_r01_Check a0 a1) 6 t_r01_Check [(.agg [(.int .i64 p0), (.int .i64 p1)])] K = wv_r01_Check a0 a1 p0 p1 (fun r0 => K (.int .i64 r0)) := by kernel_rfl
theorem ok_r01_Check : OkF E wp_r01_Check n_r01_Check := by
 intro as K h
 unfold wp_r01_Check pw_r01_Check at h
 split at h
 · exact WP_ok se0_r01_Check (LpOk_no (by kernel_rfl)) (by kernel_rfl) (by kernel_rfl) (fun _ => baseC_none (by kernel_rfl) _) ((eq_r01_Check ..).mpr h)
 · exact h.elim
abbrev T_r01_times : Type := Int → Int → (Int → Int → Prop) → Prop
def wv_r01_times (p0 p1 : Int) (K : Int → Int → Prop) : Prop :=
 (K (IntKind.u64.wrap ((IntKind.u64.wrap ((IntKind.u64.wrap ((Int.fdiv p0 4294967296) * (Int.fdiv p1 4294967296))) + (Int.fdiv (IntKind.u64.wrap ((Int.fdiv p0 4294967296) * (IntKind.u64.wrap (BitVec.ofInt IntKind.u64.bits p1 &&& BitVec.ofInt IntKind.u64.bits (4294967295 : Int)).toNat))) 4294967296))) + (Int.fdiv (IntKind.u64.wrap ((IntKind.u64.wrap ((IntKind.u64.wrap (BitVec.ofInt IntKind.u64.bits (IntKind.u64.wrap ((Int.fdiv p0 4294967296) * (IntKind.u64.wrap (BitVec.ofInt IntKind.u64.bits p1 &&& BitVec.ofInt IntKind.u64.bits (4294967295 : Int)).toNat))) &&& BitVec.ofInt IntKind.u64.bits (4294967295 : Int)).toNat) + (IntKind.u64.wrap ((IntKind.u64.wrap (BitVec.ofInt IntKind.u64.bits p0 &&& BitVec.ofInt IntKind.u64.bits (4294967295 : Int)).toNat) * (Int.fdiv p1 4294967296))))) + (Int.fdiv (IntKind.u64.wrap ((IntKind.u64.wrap (BitVec.ofInt IntKind.u64.bits p0 &&& BitVec.ofInt IntKind.u64.bits (4294967295 : Int)).toNat) * (IntKind.u64.wrap (BitVec.ofInt IntKind.u64.bits p1 &&& BitVec.ofInt IntKind.u64.bits (4294967295 : Int)).toNat))) 4294967296))) 4294967296))) (IntKind.u64.wrap (BitVec.ofInt IntKind.u64.bits (IntKind.u64.wrap ((IntKind.u64.wrap ((IntKind.u64.wrap ((IntKind.u64.wrap (BitVec.ofInt IntKind.u64.bits (IntKind.u64.wrap ((Int.fdiv p0 4294967296) * (IntKind.u64.wrap (BitVec.ofInt IntKind.u64.bits p1 &&& BitVec.ofInt IntKind.u64.bits (4294967295 : Int)).toNat))) &&& BitVec.ofInt IntKind.u64.bits (4294967295 : Int)).toNat) + (IntKind.u64.wrap ((IntKind.u64.wrap (BitVec.ofInt IntKind.u64.bits p0 &&& BitVec.ofInt IntKind.u64.bits (4294967295 : Int)).toNat) * (Int.fdiv p1 4294967296))))) + (Int.fdiv (IntKind.u64.wrap ((IntKind.u64.wrap (BitVec.ofInt IntKind.u64.bits p0 &&& BitVec.ofInt IntKind.u64.bits (4294967295 : Int)).toNat) * (IntKind.u64.wrap (BitVec.ofInt IntKind.u64.bits p1 &&& BitVec.ofInt IntKind.u64.bits (4294967295 : Int)).toNat))) 4294967296))) * (4294967296 : Int))) ||| BitVec.ofInt IntKind.u64.bits (IntKind.u64.wrap (BitVec.ofInt IntKind.u64.bits (IntKind.u64.wrap ((IntKind.u64.wrap (BitVec.ofInt IntKind.u64.bits p0 &&& BitVec.ofInt IntKind.u64.bits (4294967295 : Int)).toNat) * (IntKind.u64.wrap (BitVec.ofInt IntKind.u64.bits p1 &&& BitVec.ofInt IntKind.u64.bits (4294967295 : Int)).toNat))) &&& BitVec.ofInt IntKind.u64.bits (4294967295 : Int)).toNat)).toNat))
def w_r01_times (p0 p1 : Int) (K : Int → Int → Prop) : Prop := wv_r01_times p0 p1 K
def pw_r01_times (w : T_r01_times) (as : List PV) (K : PV → Prop) : Prop :=
 match as with
 | [(.int .u64 p0), (.int .u64 p1)] => w p0 p1 (fun r0 r1 => K (.agg [(.int .u64 r0), (.int .u64 r1)]))
 | _ => False
def wp_r01_times (as : List PV) (K : PV → Prop) : Prop := pw_r01_times w_r01_times as K
def lp_r01_times : LP := fun _ _ _ _ =>
 False
def S0_r01_times : SE := ⟨E, lookS [], lookI [], lp_r01_times⟩
theorem se0_r01_times : SEOk (S0_r01_times) := seOk_of trivial trivial
theorem eq_r01_times ( p0 p1 K) : WP (S0_r01_times) 6 t_r01_times [(.int .u64 p0), (.int .u64 p1)] K = wv_r01_times p0 p1 (fun r0 r1 => K (.agg [(.int .u64 r0), (.int .u64 r1)])) := by kernel_rfl
theorem ok_r01_times : OkF E wp_r01_times n_r01_times := by
 intro as K h
 unfold wp_r01_times pw_r01_times at h
 split at h
 · exact WP_ok se0_r01_times (LpOk_no (by kernel_rfl)) (by kernel_rfl) (by kernel_rfl) (fun _ => baseC_none (by kernel_rfl) _) ((eq_r01_times ..).mpr h)
 · exact h.elim
abbrev T_r01_less : Type := Int → Int → Int → Int → (Bool → Prop) → Prop
def wv_r01_less (p0 p1 p2 p3 : Int) (K : Bool → Prop) : Prop :=
 (cbr (decide (p0 < p2))
 (K true)
 (cbr (p0 == p2)
 (K (decide (p1 < p3)))
 (K false)))
def w_r01_less (p0 p1 p2 p3 : Int) (K : Bool → Prop) : Prop := wv_r01_less p0 p1 p2 p3 K
def pw_r01_less (w : T_r01_less) (as : List PV) (K : PV → Prop) : Prop :=
 match as with
 | [(.agg [(.int .u64 p0), (.int .u64 p1)]), (.agg [(.int .u64 p2), (.int .u64 p3)])] => w p0 p1 p2 p3 (fun r0 => K (.bool r0))
 | _ => False
def wp_r01_less (as : List PV) (K : PV → Prop) : Prop := pw_r01_less w_r01_less as K
def lp_r01_less : LP := fun _ _ _ _ =>
 False
def S0_r01_less : SE := ⟨E, lookS [], lookI [], lp_r01_less⟩
theorem se0_r01_less : SEOk (S0_r01_less) := seOk_of trivial trivial
theorem eq_r01_less ( p0 p1 p2 p3 K) : WP (S0_r01_less) 6 t_r01_less [(.agg [(.int .u64 p0), (.int .u64 p1)]), (.agg [(.int .u64 p2), (.int .u64 p3)])] K = wv_r01_less p0 p1 p2 p3 (fun r0 => K (.bool r0)) := by kernel_rfl
theorem ok_r01_less : OkF E wp_r01_less n_r01_less := by
 intro as K h
 unfold wp_r01_less pw_r01_less at h
 split at h
 · exact WP_ok se0_r01_less (LpOk_no (by kernel_rfl)) (by kernel_rfl) (by kernel_rfl) (fun _ => baseC_none (by kernel_rfl) _) ((eq_r01_less ..).mpr h)
 · exact h.elim
abbrev T_r01_Less : Type := Int → Int → Int → Int → (Bool → Prop) → Prop
def wv_r01_Less (a0 : T_r01_abs) (a1 : T_r01_times) (a2 : T_r01_less) (p0 p1 p2 p3 : Int) (K : Bool → Prop) : Prop :=
 (cbr ((decide (p0 < (0 : Int))) != (decide (p2 < (0 : Int))))
 (K (decide (p0 < (0 : Int))))
 (a0 p0 (fun yi0 => 
 (a1 yi0 (IntKind.u64.wrap p3) (fun yi1 yi2 => 
 (a0 p2 (fun yi3 => 
 (a1 yi3 (IntKind.u64.wrap p1) (fun yi4 yi5 => 
 (cbr (decide (p0 < (0 : Int)))
 (a2 yi4 yi5 yi1 yi2 (fun yb6 => 
 (K yb6)))
 (a2 yi1 yi2 yi4 yi5 (fun yb7 => 
 (K yb7)))))))))))))
def w_r01_Less (p0 p1 p2 p3 : Int) (K : Bool → Prop) : Prop := wv_r01_Less w_r01_abs w_r01_times w_r01_less p0 p1 p2 p3 K
def pw_r01_Less (w : T_r01_Less) (as : List PV) (K : PV → Prop) : Prop :=
 match as with
 | [(.agg [(.int .i64 p0), (.int .i64 p1)]), (.agg [(.int .i64 p2), (.int .i64 p3)])] => w p0 p1 p2 p3 (fun r0 => K (.bool r0))
 | _ => False
def wp_r01_Less (as : List PV) (K : PV → Prop) : Prop := pw_r01_Less w_r01_Less as K
def lp_r01_Less (_ : T_r01_abs) (_ : T_r01_times) (_ : T_r01_less) : LP := fun _ _ _ _ =>
 False
def S0_r01_Less (a0 : T_r01_abs) (a1 : T_r01_times) (a2 : T_r01_less) : SE := ⟨E, lookS [(n_r01_abs, pw_r01_abs a0), (n_r01_times, pw_r01_times a1), (n_r01_less, pw_r01_less a2)], lookI [], lp_r01_Less a0 a1 a2⟩
theorem se0_r01_Less : SEOk (S0_r01_Less w_r01_abs w_r01_times w_r01_less) := seOk_of ⟨ok_r01_abs, ok_r01_times, ok_r01_less, trivial⟩ trivial
theorem eq_r01_Less (a0 a1 a2 p0 p1 p2 p3 K) : WP (S0_r01_Less a0 a1 a2) 6 t_r01_Less [(.agg [(.int .i64 p0), (.int .i64 p1)]), (.agg [(.int .i64 p2), (.int .i64 p3)])] K = wv_r01_Less a0 a1 a2 p0 p1 p2 p3 (fun r0 => K (.bool r0)) := by kernel_rfl
theorem ok_r01_Less : OkF E wp_r01_Less n_r01_Less := by
 intro as K h
 unfold wp_r01_Less pw_r01_Less at h
 split at h
 · exact WP_ok se0_r01_Less (LpOk_no (by kernel_rfl)) (by kernel_rfl) (by kernel_rfl) (fun _ => baseC_none (by kernel_rfl) _) ((eq_r01_Less ..).mpr h)
 · exact h.elim
abbrev T_r01_Both : Type := Int → Int → Int → Int → (Int → Prop) → Prop
def wv_r01_Both (a0 : T_r01_Check) (p0 p1 p2 p3 : Int) (K : Int → Prop) : Prop :=
 (a0 p0 p1 (fun yi0 => 
 (cbr (yi0 != (0 : Int))
 (a0 p0 p1 (fun yi1 => 
 (K yi1)))
 (a0 p2 p3 (fun yi2 => 
 (K yi2))))))
def w_r01_Both (p0 p1 p2 p3 : Int) (K : Int → Prop) : Prop := wv_r01_Both w_r01_Check p0 p1 p2 p3 K
def pw_r01_Both (w : T_r01_Both) (as : List PV) (K : PV → Prop) : Prop :=
 match as with
 | [(.agg [(.int .i64 p0), (.int .i64 p1)]), (.agg [(.int .i64 p2), (.int .i64 p3)])] => w p0 p1 p2 p3 (fun r0 => K (.int .i64 r0))
 | _ => False
def wp_r01_Both (as : List PV) (K : PV → Prop) : Prop := pw_r01_Both w_r01_Both as K
def lp_r01_Both (_ : T_r01_Check) : LP := fun _ _ _ _ =>
 False
def S0_r01_Both (a0 : T_r01_Check) : SE := ⟨E, lookS [(n_r01_Check, pw_r01_Check a0)], lookI [], lp_r01_Both a0⟩
theorem se0_r01_Both : SEOk (S0_r01_Both w_r01_Check) := seOk_of ⟨ok_r01_Check, trivial⟩ trivial
theorem eq_r01_Both (a0 p0 p1 p2 p3 K) : WP (S0_r01_Both a0) 6 t_r01_Both [(.agg [(.int .i64 p0), (.int .i64 p1)]), (.agg [(.int .i64 p2), (.int .i64 p3)])] K = wv_r01_Both a0 p0 p1 p2 p3 (fun r0 => K (.int .i64 r0)) := by kernel_rfl
theorem ok_r01_Both : OkF E wp_r01_Both n_r01_Both := by
 intro as K h
 unfold wp_r01_Both pw_r01_Both at h
 split at h
 · exact WP_ok se0_r01_Both (LpOk_no (by kernel_rfl)) (by kernel_rfl) (by kernel_rfl) (fun _ => baseC_none (by kernel_rfl) _) ((eq_r01_Both ..).mpr h)
 · exact h.elim
abbrev T_r01_Neg : Type := Int → Int → (Int → Int → Prop) → Prop
def wv_r01_Neg (p0 p1 : Int) (K : Int → Int → Prop) : Prop :=
 (K (IntKind.i64.wrap ((0 : Int) - p0)) p1)
def w_r01_Neg (p0 p1 : Int) (K : Int → Int → Prop) : Prop := wv_r01_Neg p0 p1 K
def pw_r01_Neg (w : T_r01_Neg) (as : List PV) (K : PV → Prop) : Prop :=
 match as with
 | [(.agg [(.int .i64 p0), (.int .i64 p1)])] => w p0 p1 (fun r0 r1 => K (.agg [(.int .i64 r0), (.int .i64 r1)]))
 | _ => False
def wp_r01_Neg (as : List PV) (K : PV → Prop) : Prop := pw_r01_Neg w_r01_Neg as K
def lp_r01_Neg : LP := fun _ _ _ _ =>
 False
def S0_r01_Neg : SE := ⟨E, lookS [], lookI [], lp_r01_Neg⟩
theorem se0_r01_Neg : SEOk (S0_r01_Neg) := seOk_of trivial trivial
theorem eq_r01_Neg ( p0 p1 K) : WP (S0_r01_Neg) 6 t_r01_Neg [(.agg [(.int .i64 p0), (.int .i64 p1)])] K = wv_r01_Neg p0 p1 (fun r0 r1 => K (.agg [(.int .i64 r0), (.int .i64 r1)])) := by kernel_rfl
theorem ok_r01_Neg : OkF E wp_r01_Neg n_r01_Neg := by
 intro as K h
 unfold wp_r01_Neg pw_r01_Neg at h
 split at h
 · exact WP_ok se0_r01_Neg (LpOk_no (by kernel_rfl)) (by kernel_rfl) (by kernel_rfl) (fun _ => baseC_none (by kernel_rfl) _) ((eq_r01_Neg ..).mpr h)
 · exact h.elim
abbrev T_r01_plus : Type := Int → Int → Int → Int → (Int → Int → Prop) → Prop
def wv_r01_plus (p0 p1 p2 p3 : Int) (K : Int → Int → Prop) : Prop :=
 (cbr (decide ((IntKind.u64.wrap (p1 + p3)) < p1))
 (K (IntKind.u64.wrap ((IntKind.u64.wrap (p0 + p2)) + (1 : Int))) (IntKind.u64.wrap (p1 + p3)))
 (K (IntKind.u64.wrap (p0 + p2)) (IntKind.u64.wrap (p1 + p3))))
def w_r01_plus (p0 p1 p2 p3 : Int) (K : Int → Int → Prop) : Prop := wv_r01_plus p0 p1 p2 p3 K
def pw_r01_plus (w : T_r01_plus) (as : List PV) (K : PV → Prop) : Prop :=
 match as with
 | [(.agg [(.int .u64 p0), (.int .u64 p1)]), (.agg [(.int .u64 p2), (.int .u64 p3)])] => w p0 p1 p2 p3 (fun r0 r1 => K (.agg [(.int .u64 r0), (.int .u64 r1)]))
 | _ => False
def wp_r01_plus (as : List PV) (K : PV → Prop) : Prop := pw_r01_plus w_r01_plus as K
def lp_r01_plus : LP := fun _ _ _ _ =>
 False
def S0_r01_plus : SE := ⟨E, lookS [], lookI [], lp_r01_plus⟩
theorem se0_r01_plus : SEOk (S0_r01_plus) := seOk_of trivial trivial
theorem eq_r01_plus ( p0 p1 p2 p3 K) : WP (S0_r01_plus) 6 t_r01_plus [(.agg [(.int .u64 p0), (.int .u64 p1)]), (.agg [(.int .u64 p2), (.int .u64 p3)])] K = wv_r01_plus p0 p1 p2 p3 (fun r0 r1 => K (.agg [(.int .u64 r0), (.int .u64 r1)])) := by kernel_rfl
theorem ok_r01_plus : OkF E wp_r01_plus n_r01_plus := by
 intro as K h
 unfold wp_r01_plus pw_r01_plus at h
 split at h
 · exact WP_ok se0_r01_plus (LpOk_no (by kernel_rfl)) (by kernel_rfl) (by kernel_rfl) (fun _ => baseC_none (by kernel_rfl) _) ((eq_r01_plus ..).mpr h)
 · exact h.elim
abbrev T_r01_minus : Type := Int → Int → Int → Int → (Int → Int → Prop) → Prop
def wv_r01_minus (p0 p1 p2 p3 : Int) (K : Int → Int → Prop) : Prop :=
 (cbr (decide (p1 < p3))
 (K (IntKind.u64.wrap ((IntKind.u64.wrap (p0 - p2)) - (1 : Int))) (IntKind.u64.wrap (p1 - p3)))
 (K (IntKind.u64.wrap (p0 - p2)) (IntKind.u64.wrap (p1 - p3))))
def w_r01_minus (p0 p1 p2 p3 : Int) (K : Int → Int → Prop) : Prop := wv_r01_minus p0 p1 p2 p3 K
def pw_r01_minus (w : T_r01_minus) (as : List PV) (K : PV → Prop) : Prop :=
 match as with
 | [(.agg [(.int .u64 p0), (.int .u64 p1)]), (.agg [(.int .u64 p2), (.int .u64 p3)])] => w p0 p1 p2 p3 (fun r0 r1 => K (.agg [(.int .u64 r0), (.int .u64 r1)]))
 | _ => False
def wp_r01_minus (as : List PV) (K : PV → Prop) : Prop := pw_r01_minus w_r01_minus as K
def lp_r01_minus : LP := fun _ _ _ _ =>
 False
def S0_r01_minus : SE := ⟨E, lookS [], lookI [], lp_r01_minus⟩
theorem se0_r01_minus : SEOk (S0_r01_minus) := seOk_of trivial trivial
theorem eq_r01_minus ( p0 p1 p2 p3 K) : WP (S0_r01_minus) 6 t_r01_minus [(.agg [(.int .u64 p0), (.int .u64 p1)]), (.agg [(.int .u64 p2), (.int .u64 p3)])] K = wv_r01_minus p0 p1 p2 p3 (fun r0 r1 => K (.agg [(.int .u64 r0), (.int .u64 r1)])) := by kernel_rfl
theorem ok_r01_minus : OkF E wp_r01_minus n_r01_minus := by
 intro as K h
 unfold wp_r01_minus pw_r01_minus at h
 split at h
 · exact WP_ok se0_r01_minus (LpOk_no (by kernel_rfl)) (by kernel_rfl) (by kernel_rfl) (fun _ => baseC_none (by kernel_rfl) _) ((eq_r01_minus ..).mpr h)
 · exact h.elim
abbrev T_r01_split : Type := Int → Int → Int → (Int → Int → Int → Prop) → Prop
def L_r01_split_0_0 (a0 : T_r01_plus) (x0 : Int → Int → Int → Int → Int → Int → Int → Int → Int → Bool → Prop) : Nat → Int → Int → Int → Int → Int → Int → Int → Int → Int → Prop
 | 0, _, _, _, _, _, _, _, _, _ => False
 | n + 1, i0, i1, i2, i3, i4, i5, i6, i7, i8 =>
 (cbr (decide (i8 ≥ (0 : Int)))
 (asr (!(decide ((IntKind.i64.wrap (BitVec.ofInt IntKind.i64.bits i8 &&& BitVec.ofInt IntKind.i64.bits (63 : Int)).toNat) < (0 : Int))))
 (cbr (decide (i8 ≥ (64 : Int)))
 (asr (!(decide ((IntKind.i64.wrap (BitVec.ofInt IntKind.i64.bits i8 &&& BitVec.ofInt IntKind.i64.bits (63 : Int)).toNat) < (0 : Int))))
 (a0 i5 i6 i5 i6 (fun yi0 yi1 => 
 (cbr (decide ((IntKind.u64.wrap (BitVec.ofInt IntKind.u64.bits (IntKind.u64.wrap (i7 * (2 : Int))) ||| BitVec.ofInt IntKind.u64.bits (IntKind.u64.wrap (BitVec.ofInt IntKind.u64.bits (Int.fdiv i1 (2 ^ (min (IntKind.i64.wrap (BitVec.ofInt IntKind.i64.bits i8 &&& BitVec.ofInt IntKind.i64.bits (63 : Int)).toNat).toNat IntKind.u64.bits))) &&& BitVec.ofInt IntKind.u64.bits (1 : Int)).toNat)).toNat) ≥ i0))
 (L_r01_split_0_0 a0 x0 n i0 i1 i2 i3 i4 yi0 (IntKind.u64.wrap (BitVec.ofInt IntKind.u64.bits yi1 ||| BitVec.ofInt IntKind.u64.bits (1 : Int)).toNat) (IntKind.u64.wrap ((IntKind.u64.wrap (BitVec.ofInt IntKind.u64.bits (IntKind.u64.wrap (i7 * (2 : Int))) ||| BitVec.ofInt IntKind.u64.bits (IntKind.u64.wrap (BitVec.ofInt IntKind.u64.bits (Int.fdiv i1 (2 ^ (min (IntKind.i64.wrap (BitVec.ofInt IntKind.i64.bits i8 &&& BitVec.ofInt IntKind.i64.bits (63 : Int)).toNat).toNat IntKind.u64.bits))) &&& BitVec.ofInt IntKind.u64.bits (1 : Int)).toNat)).toNat) - i0)) (IntKind.i64.wrap (i8 - (1 : Int))))
 (L_r01_split_0_0 a0 x0 n i0 i1 i2 i3 i4 yi0 yi1 (IntKind.u64.wrap (BitVec.ofInt IntKind.u64.bits (IntKind.u64.wrap (i7 * (2 : Int))) ||| BitVec.ofInt IntKind.u64.bits (IntKind.u64.wrap (BitVec.ofInt IntKind.u64.bits (Int.fdiv i1 (2 ^ (min (IntKind.i64.wrap (BitVec.ofInt IntKind.i64.bits i8 &&& BitVec.ofInt IntKind.i64.bits (63 : Int)).toNat).toNat IntKind.u64.bits))) &&& BitVec.ofInt IntKind.u64.bits (1 : Int)).toNat)).toNat) (IntKind.i64.wrap (i8 - (1 : Int))))))))
 (a0 i5 i6 i5 i6 (fun yi2 yi3 => 
 (cbr (decide ((IntKind.u64.wrap (BitVec.ofInt IntKind.u64.bits (IntKind.u64.wrap (i7 * (2 : Int))) ||| BitVec.ofInt IntKind.u64.bits (IntKind.u64.wrap (BitVec.ofInt IntKind.u64.bits (Int.fdiv i2 (2 ^ (min (IntKind.i64.wrap (BitVec.ofInt IntKind.i64.bits i8 &&& BitVec.ofInt IntKind.i64.bits (63 : Int)).toNat).toNat IntKind.u64.bits))) &&& BitVec.ofInt IntKind.u64.bits (1 : Int)).toNat)).toNat) ≥ i0))
 (L_r01_split_0_0 a0 x0 n i0 i1 i2 i3 i4 yi2 (IntKind.u64.wrap (BitVec.ofInt IntKind.u64.bits yi3 ||| BitVec.ofInt IntKind.u64.bits (1 : Int)).toNat) (IntKind.u64.wrap ((IntKind.u64.wrap (BitVec.ofInt IntKind.u64.bits (IntKind.u64.wrap (i7 * (2 : Int))) ||| BitVec.ofInt IntKind.u64.bits (IntKind.u64.wrap (BitVec.ofInt IntKind.u64.bits (Int.fdiv i2 (2 ^ (min (IntKind.i64.wrap (BitVec.ofInt IntKind.i64.bits i8 &&& BitVec.ofInt IntKind.i64.bits (63 : Int)).toNat).toNat IntKind.u64.bits))) &&& BitVec.ofInt IntKind.u64.bits (1 : Int)).toNat)).toNat) - i0)) (IntKind.i64.wrap (i8 - (1 : Int))))
 (L_r01_split_0_0 a0 x0 n i0 i1 i2 i3 i4 yi2 yi3 (IntKind.u64.wrap (BitVec.ofInt IntKind.u64.bits (IntKind.u64.wrap (i7 * (2 : Int))) ||| BitVec.ofInt IntKind.u64.bits (IntKind.u64.wrap (BitVec.ofInt IntKind.u64.bits (Int.fdiv i2 (2 ^ (min (IntKind.i64.wrap (BitVec.ofInt IntKind.i64.bits i8 &&& BitVec.ofInt IntKind.i64.bits (63 : Int)).toNat).toNat IntKind.u64.bits))) &&& BitVec.ofInt IntKind.u64.bits (1 : Int)).toNat)).toNat) (IntKind.i64.wrap (i8 - (1 : Int)))))))))
 (x0 i0 i1 i2 i3 i4 i5 i6 i7 i8 false))
def wv_r01_split (a0 : T_r01_plus) (p0 p1 p2 : Int) (K : Int → Int → Int → Prop) : Prop :=
 (∃ n : Nat, L_r01_split_0_0 a0
 (fun _ _ _ _ _ yi9 yi10 yi11 _ _ => (K yi9 yi10 yi11))
 n p2 p0 p1 (0 : Int) (0 : Int) (0 : Int) (0 : Int) (0 : Int) (127 : Int))
def w_r01_split (p0 p1 p2 : Int) (K : Int → Int → Int → Prop) : Prop := wv_r01_split w_r01_plus p0 p1 p2 K
def pw_r01_split (w : T_r01_split) (as : List PV) (K : PV → Prop) : Prop :=
 match as with
 | [(.agg [(.int .u64 p0), (.int .u64 p1)]), (.int .u64 p2)] => w p0 p1 p2 (fun r0 r1 r2 => K (.tup [(.agg [(.int .u64 r0), (.int .u64 r1)]), (.int .u64 r2)]))
 | _ => False
def wp_r01_split (as : List PV) (K : PV → Prop) : Prop := pw_r01_split w_r01_split as K
def D_r01_split_0 (F : Frm) (H : Hp) (A0 : Int → Int → Int → Int → Int → Int → Int → Int → Int → Prop) : Prop :=
 match F, H with
 | [(1, .v (.int .u64 i0)), (2, .box (.agg [(.int .u64 i1), (.int .u64 i2)])), (4, .box (.agg [(.int .u64 i3), (.int .u64 i4)])), (6, .box (.agg [(.int .u64 i5), (.int .u64 i6)])), (7, .v (.int .u64 i7)), (8, .v (.int .i64 i8))], [] => (A0 i0 i1 i2 i3 i4 i5 i6 i7 i8)
 | _, _ => False
def R_r01_split_0 (a0 : T_r01_plus) (Q : Ex → Frm → Hp → Prop) (n : Nat) (F : Frm) (H : Hp) : Prop := D_r01_split_0 F H (fun i0 i1 i2 i3 i4 i5 i6 i7 i8 => L_r01_split_0_0 a0 (fun i0 i1 i2 i3 i4 i5 i6 i7 i8 b9 => Q (.exit 0) [(1, .v (.int .u64 i0)), (2, .box (.agg [(.int .u64 i1), (.int .u64 i2)])), (4, .box (.agg [(.int .u64 i3), (.int .u64 i4)])), (6, .box (.agg [(.int .u64 i5), (.int .u64 i6)])), (7, .v (.int .u64 i7)), (8, .v (.int .i64 i8)), (11, .v (.bool b9))] []) n i0 i1 i2 i3 i4 i5 i6 i7 i8)
def lp_r01_split (a0 : T_r01_plus) : LP := fun id F H Q =>
 bif Nat.beq id 22549700 then D_r01_split_0 F H (fun i0 i1 i2 i3 i4 i5 i6 i7 i8 => ∃ n : Nat, L_r01_split_0_0 a0 (fun i0 i1 i2 i3 i4 i5 i6 i7 i8 b9 => Q (.exit 0) [(1, .v (.int .u64 i0)), (2, .box (.agg [(.int .u64 i1), (.int .u64 i2)])), (4, .box (.agg [(.int .u64 i3), (.int .u64 i4)])), (6, .box (.agg [(.int .u64 i5), (.int .u64 i6)])), (7, .v (.int .u64 i7)), (8, .v (.int .i64 i8)), (11, .v (.bool b9))] []) n i0 i1 i2 i3 i4 i5 i6 i7 i8) else
 False
def S0_r01_split (a0 : T_r01_plus) : SE := ⟨E, lookS [(n_r01_plus, pw_r01_plus a0)], lookI [], lp_r01_split a0⟩
theorem se0_r01_split : SEOk (S0_r01_split w_r01_plus) := seOk_of ⟨ok_r01_plus, trivial⟩ trivial
theorem body_r01_split_0_0 (a0 Q n i0 i1 i2 i3 i4 i5 i6 i7 i8) : WC E (callW (S0_r01_split a0) 5) (lp_r01_split a0) b_22549700 [(1, .v (.int .u64 i0)), (2, .box (.agg [(.int .u64 i1), (.int .u64 i2)])), (4, .box (.agg [(.int .u64 i3), (.int .u64 i4)])), (6, .box (.agg [(.int .u64 i5), (.int .u64 i6)])), (7, .v (.int .u64 i7)), (8, .v (.int .i64 i8))] [] (fun x F' H' => match x with | .norm => R_r01_split_0 a0 Q n F' H' | .exit i => Q (.exit i) F' H' | .ret => Q .ret F' H') = L_r01_split_0_0 a0 (fun i0 i1 i2 i3 i4 i5 i6 i7 i8 b9 => Q (.exit 0) [(1, .v (.int .u64 i0)), (2, .box (.agg [(.int .u64 i1), (.int .u64 i2)])), (4, .box (.agg [(.int .u64 i3), (.int .u64 i4)])), (6, .box (.agg [(.int .u64 i5), (.int .u64 i6)])), (7, .v (.int .u64 i7)), (8, .v (.int .i64 i8)), (11, .v (.bool b9))] []) (n + 1) i0 i1 i2 i3 i4 i5 i6 i7 i8 := by kernel_rfl
theorem lpb_r01_split_0 : LpOk E (lp_r01_split w_r01_plus) b_22549700 := (LpOk_no (by kernel_rfl))
theorem loop_r01_split_0 : ∀ F H Q, lp_r01_split w_r01_plus 22549700 F H Q → LoopT E b_22549700 F H Q := by
 intro F H Q h
 have go := LoopT.intro (callW_ok se0_r01_split 5) lpb_r01_split_0 (R_r01_split_0 w_r01_plus Q) (by
   intro F H h
   unfold R_r01_split_0 D_r01_split_0 at h
   split at h
   · exact h
   · exact h) (by
   intro n F H h
   unfold R_r01_split_0 D_r01_split_0 at h
   split at h
   · exact (body_r01_split_0_0 ..).mpr h
   · exact h.elim)
 have h : D_r01_split_0 F H _ := h
 unfold D_r01_split_0 at h
 split at h
 · obtain ⟨n, h⟩ := h; exact go n _ _ h
 · exact h.elim
theorem eq_r01_split (a0 p0 p1 p2 K) : WP (S0_r01_split a0) 6 t_r01_split [(.agg [(.int .u64 p0), (.int .u64 p1)]), (.int .u64 p2)] K = wv_r01_split a0 p0 p1 p2 (fun r0 r1 r2 => K (.tup [(.agg [(.int .u64 r0), (.int .u64 r1)]), (.int .u64 r2)])) := by kernel_rfl
theorem ok_r01_split : OkF E wp_r01_split n_r01_split := by
 intro as K h
 unfold wp_r01_split pw_r01_split at h
 split at h
 · exact WP_ok se0_r01_split (LpOk_by (l := [(22549700, b_22549700)]) ⟨loop_r01_split_0, trivial⟩ (by kernel_rfl)) (by kernel_rfl) (by kernel_rfl) (fun _ => baseC_none (by kernel_rfl) _) ((eq_r01_split ..).mpr h)
 · exact h.elim
abbrev T_r01_Add : Type := Int → Int → Int → Int → (Int → Int → Int → Prop) → Prop
def wv_r01_Add (a0 : T_r01_Both) (a1 : T_r01_gcd) (a2 : T_r01_abs) (a3 : T_r01_times) (a4 : T_r01_plus) (a5 : T_r01_minus) (a6 : T_r01_less) (a7 : T_r01_split) (a8 : T_r01_made) (p0 p1 p2 p3 : Int) (K : Int → Int → Int → Prop) : Prop :=
 (a0 p0 p1 p2 p3 (fun yi0 => 
 (cbr (yi0 != (0 : Int))
 (a0 p0 p1 p2 p3 (fun yi1 => 
 (K (0 : Int) (0 : Int) yi1)))
 (a1 (IntKind.u64.wrap p1) (IntKind.u64.wrap p3) (fun yi2 => 
 (a2 p0 (fun yi3 => 
 (asr (!(decide (yi2 = (0 : Int))))
 (a3 yi3 (IntKind.u64.wrap (Int.tdiv (IntKind.u64.wrap p3) yi2)) (fun yi4 yi5 => 
 (a2 p2 (fun yi6 => 
 (asr (!(decide (yi2 = (0 : Int))))
 (a3 yi6 (IntKind.u64.wrap (Int.tdiv (IntKind.u64.wrap p1) yi2)) (fun yi7 yi8 => 
 (a4 yi4 yi5 yi7 yi8 (fun yi9 yi10 => 
 (cbr ((decide (p0 < (0 : Int))) != (decide (p2 < (0 : Int))))
 (a5 yi4 yi5 yi7 yi8 (fun yi11 yi12 => 
 (a6 yi4 yi5 yi7 yi8 (fun yb13 => 
 (cbr yb13
 (a5 yi7 yi8 yi4 yi5 (fun yi14 yi15 => 
 (cbr ((yi14 == (0 : Int)) && ((yi15 == (0 : Int)) && true))
 (K (0 : Int) (1 : Int) (0 : Int))
 (a7 yi14 yi15 yi2 (fun _ _ yi18 => 
 (a1 yi18 yi2 (fun yi19 => 
 (a7 yi14 yi15 yi19 (fun yi20 yi21 _ => 
 (asr (!(decide (yi2 = (0 : Int))))
 (asr (!(decide (yi19 = (0 : Int))))
 (a3 (IntKind.u64.wrap (Int.tdiv (IntKind.u64.wrap p1) yi2)) (IntKind.u64.wrap (Int.tdiv (IntKind.u64.wrap p3) yi19)) (fun yi23 yi24 => 
 (a8 (decide (p2 < (0 : Int))) yi20 yi21 yi23 yi24 (fun yi25 yi26 yi27 => 
 (K yi25 yi26 yi27))))))))))))))))
 (cbr ((yi11 == (0 : Int)) && ((yi12 == (0 : Int)) && true))
 (K (0 : Int) (1 : Int) (0 : Int))
 (a7 yi11 yi12 yi2 (fun _ _ yi30 => 
 (a1 yi30 yi2 (fun yi31 => 
 (a7 yi11 yi12 yi31 (fun yi32 yi33 _ => 
 (asr (!(decide (yi2 = (0 : Int))))
 (asr (!(decide (yi31 = (0 : Int))))
 (a3 (IntKind.u64.wrap (Int.tdiv (IntKind.u64.wrap p1) yi2)) (IntKind.u64.wrap (Int.tdiv (IntKind.u64.wrap p3) yi31)) (fun yi35 yi36 => 
 (a8 (decide (p0 < (0 : Int))) yi32 yi33 yi35 yi36 (fun yi37 yi38 yi39 => 
 (K yi37 yi38 yi39)))))))))))))))))))
 (cbr ((yi9 == (0 : Int)) && ((yi10 == (0 : Int)) && true))
 (K (0 : Int) (1 : Int) (0 : Int))
 (a7 yi9 yi10 yi2 (fun _ _ yi42 => 
 (a1 yi42 yi2 (fun yi43 => 
 (a7 yi9 yi10 yi43 (fun yi44 yi45 _ => 
 (asr (!(decide (yi2 = (0 : Int))))
 (asr (!(decide (yi43 = (0 : Int))))
 (a3 (IntKind.u64.wrap (Int.tdiv (IntKind.u64.wrap p1) yi2)) (IntKind.u64.wrap (Int.tdiv (IntKind.u64.wrap p3) yi43)) (fun yi47 yi48 => 
 (a8 (decide (p0 < (0 : Int))) yi44 yi45 yi47 yi48 (fun yi49 yi50 yi51 => 
 (K yi49 yi50 yi51))))))))))))))))))))))))))))))))
def w_r01_Add (p0 p1 p2 p3 : Int) (K : Int → Int → Int → Prop) : Prop := wv_r01_Add w_r01_Both w_r01_gcd w_r01_abs w_r01_times w_r01_plus w_r01_minus w_r01_less w_r01_split w_r01_made p0 p1 p2 p3 K
def pw_r01_Add (w : T_r01_Add) (as : List PV) (K : PV → Prop) : Prop :=
 match as with
 | [(.agg [(.int .i64 p0), (.int .i64 p1)]), (.agg [(.int .i64 p2), (.int .i64 p3)])] => w p0 p1 p2 p3 (fun r0 r1 r2 => K (.tup [(.agg [(.int .i64 r0), (.int .i64 r1)]), (.int .i64 r2)]))
 | _ => False
def wp_r01_Add (as : List PV) (K : PV → Prop) : Prop := pw_r01_Add w_r01_Add as K
def lp_r01_Add (_ : T_r01_Both) (_ : T_r01_gcd) (_ : T_r01_abs) (_ : T_r01_times) (_ : T_r01_plus) (_ : T_r01_minus) (_ : T_r01_less) (_ : T_r01_split) (_ : T_r01_made) : LP := fun _ _ _ _ =>
 False
def S0_r01_Add (a0 : T_r01_Both) (a1 : T_r01_gcd) (a2 : T_r01_abs) (a3 : T_r01_times) (a4 : T_r01_plus) (a5 : T_r01_minus) (a6 : T_r01_less) (a7 : T_r01_split) (a8 : T_r01_made) : SE := ⟨E, lookS [(n_r01_Both, pw_r01_Both a0), (n_r01_gcd, pw_r01_gcd a1), (n_r01_abs, pw_r01_abs a2), (n_r01_times, pw_r01_times a3), (n_r01_plus, pw_r01_plus a4), (n_r01_minus, pw_r01_minus a5), (n_r01_less, pw_r01_less a6), (n_r01_split, pw_r01_split a7), (n_r01_made, pw_r01_made a8)], lookI [], lp_r01_Add a0 a1 a2 a3 a4 a5 a6 a7 a8⟩
theorem se0_r01_Add : SEOk (S0_r01_Add w_r01_Both w_r01_gcd w_r01_abs w_r01_times w_r01_plus w_r01_minus w_r01_less w_r01_split w_r01_made) := seOk_of ⟨ok_r01_Both, ok_r01_gcd, ok_r01_abs, ok_r01_times, ok_r01_plus, ok_r01_minus, ok_r01_less, ok_r01_split, ok_r01_made, trivial⟩ trivial
theorem eq_r01_Add (a0 a1 a2 a3 a4 a5 a6 a7 a8 p0 p1 p2 p3 K) : WP (S0_r01_Add a0 a1 a2 a3 a4 a5 a6 a7 a8) 6 t_r01_Add [(.agg [(.int .i64 p0), (.int .i64 p1)]), (.agg [(.int .i64 p2), (.int .i64 p3)])] K = wv_r01_Add a0 a1 a2 a3 a4 a5 a6 a7 a8 p0 p1 p2 p3 (fun r0 r1 r2 => K (.tup [(.agg [(.int .i64 r0), (.int .i64 r1)]), (.int .i64 r2)])) := by kernel_rfl
theorem ok_r01_Add : OkF E wp_r01_Add n_r01_Add := by
 intro as K h
 unfold wp_r01_Add pw_r01_Add at h
 split at h
 · exact WP_ok se0_r01_Add (LpOk_no (by kernel_rfl)) (by kernel_rfl) (by kernel_rfl) (fun _ => baseC_none (by kernel_rfl) _) ((eq_r01_Add ..).mpr h)
 · exact h.elim
abbrev T_r01_Sub : Type := Int → Int → Int → Int → (Int → Int → Int → Prop) → Prop
def wv_r01_Sub (a0 : T_r01_Both) (a1 : T_r01_Neg) (a2 : T_r01_Add) (p0 p1 p2 p3 : Int) (K : Int → Int → Int → Prop) : Prop :=
 (a0 p0 p1 p2 p3 (fun yi0 => 
 (cbr (yi0 != (0 : Int))
 (a0 p0 p1 p2 p3 (fun yi1 => 
 (K (0 : Int) (0 : Int) yi1)))
 (a1 p2 p3 (fun yi2 yi3 => 
 (a2 p0 p1 yi2 yi3 (fun yi4 yi5 yi6 => 
 (K yi4 yi5 yi6))))))))
def w_r01_Sub (p0 p1 p2 p3 : Int) (K : Int → Int → Int → Prop) : Prop := wv_r01_Sub w_r01_Both w_r01_Neg w_r01_Add p0 p1 p2 p3 K
def pw_r01_Sub (w : T_r01_Sub) (as : List PV) (K : PV → Prop) : Prop :=
 match as with
 | [(.agg [(.int .i64 p0), (.int .i64 p1)]), (.agg [(.int .i64 p2), (.int .i64 p3)])] => w p0 p1 p2 p3 (fun r0 r1 r2 => K (.tup [(.agg [(.int .i64 r0), (.int .i64 r1)]), (.int .i64 r2)]))
 | _ => False
def wp_r01_Sub (as : List PV) (K : PV → Prop) : Prop := pw_r01_Sub w_r01_Sub as K
def lp_r01_Sub (_ : T_r01_Both) (_ : T_r01_Neg) (_ : T_r01_Add) : LP := fun _ _ _ _ =>
 False
def S0_r01_Sub (a0 : T_r01_Both) (a1 : T_r01_Neg) (a2 : T_r01_Add) : SE := ⟨E, lookS [(n_r01_Both, pw_r01_Both a0), (n_r01_Neg, pw_r01_Neg a1), (n_r01_Add, pw_r01_Add a2)], lookI [], lp_r01_Sub a0 a1 a2⟩
theorem se0_r01_Sub : SEOk (S0_r01_Sub w_r01_Both w_r01_Neg w_r01_Add) := seOk_of ⟨ok_r01_Both, ok_r01_Neg, ok_r01_Add, trivial⟩ trivial
theorem eq_r01_Sub (a0 a1 a2 p0 p1 p2 p3 K) : WP (S0_r01_Sub a0 a1 a2) 6 t_r01_Sub [(.agg [(.int .i64 p0), (.int .i64 p1)]), (.agg [(.int .i64 p2), (.int .i64 p3)])] K = wv_r01_Sub a0 a1 a2 p0 p1 p2 p3 (fun r0 r1 r2 => K (.tup [(.agg [(.int .i64 r0), (.int .i64 r1)]), (.int .i64 r2)])) := by kernel_rfl
theorem ok_r01_Sub : OkF E wp_r01_Sub n_r01_Sub := by
 intro as K h
 unfold wp_r01_Sub pw_r01_Sub at h
 split at h
 · exact WP_ok se0_r01_Sub (LpOk_no (by kernel_rfl)) (by kernel_rfl) (by kernel_rfl) (fun _ => baseC_none (by kernel_rfl) _) ((eq_r01_Sub ..).mpr h)
 · exact h.elim
abbrev T_r01_Mul : Type := Int → Int → Int → Int → (Int → Int → Int → Prop) → Prop
def wv_r01_Mul (a0 : T_r01_Both) (a1 : T_r01_abs) (a2 : T_r01_gcd) (a3 : T_r01_times) (a4 : T_r01_made) (p0 p1 p2 p3 : Int) (K : Int → Int → Int → Prop) : Prop :=
 (a0 p0 p1 p2 p3 (fun yi0 => 
 (cbr (yi0 != (0 : Int))
 (a0 p0 p1 p2 p3 (fun yi1 => 
 (K (0 : Int) (0 : Int) yi1)))
 (a1 p0 (fun yi2 => 
 (a2 yi2 (IntKind.u64.wrap p3) (fun yi3 => 
 (a1 p2 (fun yi4 => 
 (a2 yi4 (IntKind.u64.wrap p1) (fun yi5 => 
 (cbr ((decide (p0 < (0 : Int))) != (decide (p2 < (0 : Int))))
 (cbr (p0 != (0 : Int))
 (a1 p0 (fun yi6 => 
 (asr (!(decide (yi3 = (0 : Int))))
 (a1 p2 (fun yi7 => 
 (asr (!(decide (yi5 = (0 : Int))))
 (a3 (IntKind.u64.wrap (Int.tdiv yi6 yi3)) (IntKind.u64.wrap (Int.tdiv yi7 yi5)) (fun yi8 yi9 => 
 (asr (!(decide (yi5 = (0 : Int))))
 (asr (!(decide (yi3 = (0 : Int))))
 (a3 (IntKind.u64.wrap (Int.tdiv (IntKind.u64.wrap p1) yi5)) (IntKind.u64.wrap (Int.tdiv (IntKind.u64.wrap p3) yi3)) (fun yi10 yi11 => 
 (a4 (p2 != (0 : Int)) yi8 yi9 yi10 yi11 (fun yi12 yi13 yi14 => 
 (K yi12 yi13 yi14)))))))))))))))
 (a1 p0 (fun yi15 => 
 (asr (!(decide (yi3 = (0 : Int))))
 (a1 p2 (fun yi16 => 
 (asr (!(decide (yi5 = (0 : Int))))
 (a3 (IntKind.u64.wrap (Int.tdiv yi15 yi3)) (IntKind.u64.wrap (Int.tdiv yi16 yi5)) (fun yi17 yi18 => 
 (asr (!(decide (yi5 = (0 : Int))))
 (asr (!(decide (yi3 = (0 : Int))))
 (a3 (IntKind.u64.wrap (Int.tdiv (IntKind.u64.wrap p1) yi5)) (IntKind.u64.wrap (Int.tdiv (IntKind.u64.wrap p3) yi3)) (fun yi19 yi20 => 
 (a4 false yi17 yi18 yi19 yi20 (fun yi21 yi22 yi23 => 
 (K yi21 yi22 yi23))))))))))))))))
 (a1 p0 (fun yi24 => 
 (asr (!(decide (yi3 = (0 : Int))))
 (a1 p2 (fun yi25 => 
 (asr (!(decide (yi5 = (0 : Int))))
 (a3 (IntKind.u64.wrap (Int.tdiv yi24 yi3)) (IntKind.u64.wrap (Int.tdiv yi25 yi5)) (fun yi26 yi27 => 
 (asr (!(decide (yi5 = (0 : Int))))
 (asr (!(decide (yi3 = (0 : Int))))
 (a3 (IntKind.u64.wrap (Int.tdiv (IntKind.u64.wrap p1) yi5)) (IntKind.u64.wrap (Int.tdiv (IntKind.u64.wrap p3) yi3)) (fun yi28 yi29 => 
 (a4 false yi26 yi27 yi28 yi29 (fun yi30 yi31 yi32 => 
 (K yi30 yi31 yi32)))))))))))))))))))))))))))
def w_r01_Mul (p0 p1 p2 p3 : Int) (K : Int → Int → Int → Prop) : Prop := wv_r01_Mul w_r01_Both w_r01_abs w_r01_gcd w_r01_times w_r01_made p0 p1 p2 p3 K
def pw_r01_Mul (w : T_r01_Mul) (as : List PV) (K : PV → Prop) : Prop :=
 match as with
 | [(.agg [(.int .i64 p0), (.int .i64 p1)]), (.agg [(.int .i64 p2), (.int .i64 p3)])] => w p0 p1 p2 p3 (fun r0 r1 r2 => K (.tup [(.agg [(.int .i64 r0), (.int .i64 r1)]), (.int .i64 r2)]))
 | _ => False
def wp_r01_Mul (as : List PV) (K : PV → Prop) : Prop := pw_r01_Mul w_r01_Mul as K
def lp_r01_Mul (_ : T_r01_Both) (_ : T_r01_abs) (_ : T_r01_gcd) (_ : T_r01_times) (_ : T_r01_made) : LP := fun _ _ _ _ =>
 False
def S0_r01_Mul (a0 : T_r01_Both) (a1 : T_r01_abs) (a2 : T_r01_gcd) (a3 : T_r01_times) (a4 : T_r01_made) : SE := ⟨E, lookS [(n_r01_Both, pw_r01_Both a0), (n_r01_abs, pw_r01_abs a1), (n_r01_gcd, pw_r01_gcd a2), (n_r01_times, pw_r01_times a3), (n_r01_made, pw_r01_made a4)], lookI [], lp_r01_Mul a0 a1 a2 a3 a4⟩
theorem se0_r01_Mul : SEOk (S0_r01_Mul w_r01_Both w_r01_abs w_r01_gcd w_r01_times w_r01_made) := seOk_of ⟨ok_r01_Both, ok_r01_abs, ok_r01_gcd, ok_r01_times, ok_r01_made, trivial⟩ trivial
theorem eq_r01_Mul (a0 a1 a2 a3 a4 p0 p1 p2 p3 K) : WP (S0_r01_Mul a0 a1 a2 a3 a4) 6 t_r01_Mul [(.agg [(.int .i64 p0), (.int .i64 p1)]), (.agg [(.int .i64 p2), (.int .i64 p3)])] K = wv_r01_Mul a0 a1 a2 a3 a4 p0 p1 p2 p3 (fun r0 r1 r2 => K (.tup [(.agg [(.int .i64 r0), (.int .i64 r1)]), (.int .i64 r2)])) := by kernel_rfl
theorem ok_r01_Mul : OkF E wp_r01_Mul n_r01_Mul := by
 intro as K h
 unfold wp_r01_Mul pw_r01_Mul at h
 split at h
 · exact WP_ok se0_r01_Mul (LpOk_no (by kernel_rfl)) (by kernel_rfl) (by kernel_rfl) (fun _ => baseC_none (by kernel_rfl) _) ((eq_r01_Mul ..).mpr h)
 · exact h.elim
abbrev T_r01_Div : Type := Int → Int → Int → Int → (Int → Int → Int → Prop) → Prop
def wv_r01_Div (a0 : T_r01_Both) (a1 : T_r01_Mul) (p0 p1 p2 p3 : Int) (K : Int → Int → Int → Prop) : Prop :=
 (a0 p0 p1 p2 p3 (fun yi0 => 
 (cbr (yi0 != (0 : Int))
 (a0 p0 p1 p2 p3 (fun yi1 => 
 (K (0 : Int) (0 : Int) yi1)))
 (cbr (p2 == (0 : Int))
 (K (0 : Int) (0 : Int) (18 : Int))
 (cbr (decide (p2 < (0 : Int)))
 (a1 p0 p1 (IntKind.i64.wrap ((0 : Int) - p3)) (IntKind.i64.wrap ((0 : Int) - p2)) (fun yi2 yi3 yi4 => 
 (K yi2 yi3 yi4)))
 (a1 p0 p1 p3 p2 (fun yi5 yi6 yi7 => 
 (K yi5 yi6 yi7))))))))
def w_r01_Div (p0 p1 p2 p3 : Int) (K : Int → Int → Int → Prop) : Prop := wv_r01_Div w_r01_Both w_r01_Mul p0 p1 p2 p3 K
def pw_r01_Div (w : T_r01_Div) (as : List PV) (K : PV → Prop) : Prop :=
 match as with
 | [(.agg [(.int .i64 p0), (.int .i64 p1)]), (.agg [(.int .i64 p2), (.int .i64 p3)])] => w p0 p1 p2 p3 (fun r0 r1 r2 => K (.tup [(.agg [(.int .i64 r0), (.int .i64 r1)]), (.int .i64 r2)]))
 | _ => False
def wp_r01_Div (as : List PV) (K : PV → Prop) : Prop := pw_r01_Div w_r01_Div as K
def lp_r01_Div (_ : T_r01_Both) (_ : T_r01_Mul) : LP := fun _ _ _ _ =>
 False
def S0_r01_Div (a0 : T_r01_Both) (a1 : T_r01_Mul) : SE := ⟨E, lookS [(n_r01_Both, pw_r01_Both a0), (n_r01_Mul, pw_r01_Mul a1)], lookI [], lp_r01_Div a0 a1⟩
theorem se0_r01_Div : SEOk (S0_r01_Div w_r01_Both w_r01_Mul) := seOk_of ⟨ok_r01_Both, ok_r01_Mul, trivial⟩ trivial
theorem eq_r01_Div (a0 a1 p0 p1 p2 p3 K) : WP (S0_r01_Div a0 a1) 6 t_r01_Div [(.agg [(.int .i64 p0), (.int .i64 p1)]), (.agg [(.int .i64 p2), (.int .i64 p3)])] K = wv_r01_Div a0 a1 p0 p1 p2 p3 (fun r0 r1 r2 => K (.tup [(.agg [(.int .i64 r0), (.int .i64 r1)]), (.int .i64 r2)])) := by kernel_rfl
theorem ok_r01_Div : OkF E wp_r01_Div n_r01_Div := by
 intro as K h
 unfold wp_r01_Div pw_r01_Div at h
 split at h
 · exact WP_ok se0_r01_Div (LpOk_no (by kernel_rfl)) (by kernel_rfl) (by kernel_rfl) (fun _ => baseC_none (by kernel_rfl) _) ((eq_r01_Div ..).mpr h)
 · exact h.elim
end Go.Pf.Vc
namespace Go.Pf.Vc
open Go Go.Pf
set_option linter.unusedVariables false
theorem det_r01_gcd (p0 : Int) (p1 : Int) (r0 : Int) (h : ∀ K : Int → Prop, K r0 → w_r01_gcd p0 p1 K) (K : Int → Prop) : w_r01_gcd p0 p1 K = K r0 :=
 propext ⟨fun k => detC ok_r01_gcd (as := [(.int .u64 p0), (.int .u64 p1)]) (x := (.int .u64 r0)) (fun K' k' => h (fun r0 => K' (.int .u64 r0)) k') (K := fun x => match x with | (.int .u64 r0) => K r0 | _ => False) k, h K⟩
theorem det_r01_split (p0 : Int) (p1 : Int) (p2 : Int) (r0 : Int) (r1 : Int) (r2 : Int) (h : ∀ K : Int → Int → Int → Prop, K r0 r1 r2 → w_r01_split p0 p1 p2 K) (K : Int → Int → Int → Prop) : w_r01_split p0 p1 p2 K = K r0 r1 r2 :=
 propext ⟨fun k => detC ok_r01_split (as := [(.agg [(.int .u64 p0), (.int .u64 p1)]), (.int .u64 p2)]) (x := (.tup [(.agg [(.int .u64 r0), (.int .u64 r1)]), (.int .u64 r2)])) (fun K' k' => h (fun r0 r1 r2 => K' (.tup [(.agg [(.int .u64 r0), (.int .u64 r1)]), (.int .u64 r2)])) k') (K := fun x => match x with | (.tup [(.agg [(.int .u64 r0), (.int .u64 r1)]), (.int .u64 r2)]) => K r0 r1 r2 | _ => False) k, h K⟩
end Go.Pf.Vc
namespace Go.Pf.Vc
open Go Go.Pf
set_option maxRecDepth 100000
abbrev T_r02_Great : Type := Int → List PV → List PV → (Bool → Prop) → Prop
def wv_r02_Great (_ : Int) (p1 p2 : List PV) (K : Bool → Prop) : Prop :=
 (cbr (decide ((((List.length p1) : Nat) : Int) > (60 : Int)))
 (K true)
 (K (decide ((((List.length p2) : Nat) : Int) > (60 : Int)))))
def w_r02_Great (p0 : Int) (p1 p2 : List PV) (K : Bool → Prop) : Prop := wv_r02_Great p0 p1 p2 K
def pw_r02_Great (w : T_r02_Great) (as : List PV) (K : PV → Prop) : Prop :=
 match as with
 | [(.agg [(.int .i64 p0), (.data p1), (.data p2)])] => w p0 p1 p2 (fun r0 => K (.bool r0))
 | _ => False
def wp_r02_Great (as : List PV) (K : PV → Prop) : Prop := pw_r02_Great w_r02_Great as K
def lp_r02_Great : LP := fun _ _ _ _ =>
 False
def S0_r02_Great : SE := ⟨E, lookS [], lookI [], lp_r02_Great⟩
theorem se0_r02_Great : SEOk (S0_r02_Great) := seOk_of trivial trivial
theorem eq_r02_Great ( p0 p1 p2 K) : WP (S0_r02_Great) 6 t_r02_Great [(.agg [(.int .i64 p0), (.data p1), (.data p2)])] K = wv_r02_Great p0 p1 p2 (fun r0 => K (.bool r0)) := by kernel_rfl
theorem ok_r02_Great : OkF E wp_r02_Great n_r02_Great := by
 intro as K h
 unfold wp_r02_Great pw_r02_Great at h
 split at h
 · exact WP_ok se0_r02_Great (LpOk_no (by kernel_rfl)) (by kernel_rfl) (by kernel_rfl) (fun _ => baseC_none (by kernel_rfl) _) ((eq_r02_Great ..).mpr h)
 · exact h.elim
abbrev T_r02_Check : Type := Int → List PV → List PV → (Int → Prop) → Prop
def L_r02_Check_0_0 (x0 : Int → Prop) (x1 : Int → List PV → List PV → Bool → Int → Bool → Prop) : Nat → Int → List PV → List PV → Bool → Int → Prop
 | 0, _, _, _, _, _ => False
 | n + 1, i0, l1, l2, b3, i4 =>
 (cbr (decide (i4 < (((List.length l2) : Nat) : Int)))
 (asr (decide ((0 : Int) ≤ (IntKind.i64.wrap (i4 + (1 : Int)))))
 (asr (decide ((IntKind.i64.wrap (i4 + (1 : Int))) < (((List.length l1) : Nat) : Int)))
 (asr (conf (.one (.i .i64)) (List.getD l1 ((IntKind.i64.wrap (i4 + (1 : Int))).toNat) .nils))
 (asr (decide ((0 : Int) ≤ i4))
 (asr (decide (i4 < (((List.length l1) : Nat) : Int)))
 (asr (conf (.one (.i .i64)) (List.getD l1 (i4.toNat) .nils))
 (cbr (decide ((intOfV (List.getD l1 ((IntKind.i64.wrap (i4 + (1 : Int))).toNat) .nils)) ≤ (intOfV (List.getD l1 (i4.toNat) .nils))))
 (x0 (8 : Int))
 (asr (decide ((0 : Int) ≤ i4))
 (asr (decide (i4 < (((List.length l2) : Nat) : Int)))
 (asr (conf (.one (.i .i64)) (List.getD l2 (i4.toNat) .nils))
 (cbr (decide ((intOfV (List.getD l2 (i4.toNat) .nils)) < (0 : Int)))
 (x0 (8 : Int))
 (asr (decide ((0 : Int) ≤ i4))
 (asr (decide (i4 < (((List.length l2) : Nat) : Int)))
 (asr (conf (.one (.i .i64)) (List.getD l2 (i4.toNat) .nils))
 (cbr (decide ((intOfV (List.getD l2 (i4.toNat) .nils)) > (12 : Int)))
 (x0 (8 : Int))
 (cbr b3
 (L_r02_Check_0_0 x0 x1 n i0 l1 l2 true (IntKind.i64.wrap (i4 + (1 : Int))))
 (asr (decide ((0 : Int) ≤ i4))
 (asr (decide (i4 < (((List.length l2) : Nat) : Int)))
 (asr (conf (.one (.i .i64)) (List.getD l2 (i4.toNat) .nils))
 (L_r02_Check_0_0 x0 x1 n i0 l1 l2 (decide ((intOfV (List.getD l2 (i4.toNat) .nils)) > (0 : Int))) (IntKind.i64.wrap (i4 + (1 : Int)))))))))))))))))))))))
 (x1 i0 l1 l2 b3 i4 false))
def wv_r02_Check (p0 : Int) (p1 p2 : List PV) (K : Int → Prop) : Prop :=
 (cbr (decide (p0 > (1000 : Int)))
 (K (4 : Int))
 (cbr (decide ((((List.length p1) : Nat) : Int) > (40 : Int)))
 (K (4 : Int))
 (cbr (decide (p0 < (1 : Int)))
 (K (8 : Int))
 (cbr (decide ((((List.length p1) : Nat) : Int) < (2 : Int)))
 (K (8 : Int))
 (cbr ((((List.length p2) : Nat) : Int) != (IntKind.i64.wrap ((((List.length p1) : Nat) : Int) - (1 : Int))))
 (K (8 : Int))
 (asr (decide ((0 : Int) < (((List.length p1) : Nat) : Int)))
 (asr (conf (.one (.i .i64)) (List.getD p1 0 .nils))
 (cbr ((intOfV (List.getD p1 0 .nils)) != (0 : Int))
 (K (8 : Int))
 (asr (decide ((0 : Int) ≤ (IntKind.i64.wrap ((((List.length p1) : Nat) : Int) - (1 : Int)))))
 (asr (decide ((IntKind.i64.wrap ((((List.length p1) : Nat) : Int) - (1 : Int))) < (((List.length p1) : Nat) : Int)))
 (asr (conf (.one (.i .i64)) (List.getD p1 ((IntKind.i64.wrap ((((List.length p1) : Nat) : Int) - (1 : Int))).toNat) .nils))
 (cbr ((intOfV (List.getD p1 ((IntKind.i64.wrap ((((List.length p1) : Nat) : Int) - (1 : Int))).toNat) .nils)) != p0)
 (K (8 : Int))
 (∃ n : Nat, L_r02_Check_0_0
 (fun yi0 => (K yi0))
 (fun _ _ _ yb4 _ _ => (cbr (!yb4)
 (K (8 : Int))
 (K (0 : Int))))
 n p0 p1 p2 false (0 : Int))))))))))))))
def w_r02_Check (p0 : Int) (p1 p2 : List PV) (K : Int → Prop) : Prop := wv_r02_Check p0 p1 p2 K
def pw_r02_Check (w : T_r02_Check) (as : List PV) (K : PV → Prop) : Prop :=
 match as with
 | [(.agg [(.int .i64 p0), (.data p1), (.data p2)])] => w p0 p1 p2 (fun r0 => K (.int .i64 r0))
 | _ => False
def wp_r02_Check (as : List PV) (K : PV → Prop) : Prop := pw_r02_Check w_r02_Check as K
def D_r02_Check_0 (F : Frm) (H : Hp) (A0 : Int → List PV → List PV → Bool → Int → Prop) : Prop :=
 match F, H with
 | [(1, .box (.agg [(.int .i64 i0), (.data l1), (.data l2)])), (3, .v (.bool b3)), (4, .v (.int .i64 i4))], [] => (A0 i0 l1 l2 b3 i4)
 | _, _ => False
def R_r02_Check_0 (Q : Ex → Frm → Hp → Prop) (n : Nat) (F : Frm) (H : Hp) : Prop := D_r02_Check_0 F H (fun i0 l1 l2 b3 i4 => L_r02_Check_0_0 (fun i0 => Q .ret [(2, .v (.int .i64 i0))] []) (fun i0 l1 l2 b3 i4 b5 => Q (.exit 0) [(1, .box (.agg [(.int .i64 i0), (.data l1), (.data l2)])), (3, .v (.bool b3)), (4, .v (.int .i64 i4)), (57, .v (.bool b5))] []) n i0 l1 l2 b3 i4)
def lp_r02_Check : LP := fun id F H Q =>
 bif Nat.beq id 94526800 then D_r02_Check_0 F H (fun i0 l1 l2 b3 i4 => ∃ n : Nat, L_r02_Check_0_0 (fun i0 => Q .ret [(2, .v (.int .i64 i0))] []) (fun i0 l1 l2 b3 i4 b5 => Q (.exit 0) [(1, .box (.agg [(.int .i64 i0), (.data l1), (.data l2)])), (3, .v (.bool b3)), (4, .v (.int .i64 i4)), (57, .v (.bool b5))] []) n i0 l1 l2 b3 i4) else
 False
def S0_r02_Check : SE := ⟨E, lookS [], lookI [], lp_r02_Check⟩
theorem se0_r02_Check : SEOk (S0_r02_Check) := seOk_of trivial trivial
theorem body_r02_Check_0_0 ( Q n i0 l1 l2 b3 i4) : WC E (callW (S0_r02_Check) 5) (lp_r02_Check) b_94526800 [(1, .box (.agg [(.int .i64 i0), (.data l1), (.data l2)])), (3, .v (.bool b3)), (4, .v (.int .i64 i4))] [] (fun x F' H' => match x with | .norm => R_r02_Check_0 Q n F' H' | .exit i => Q (.exit i) F' H' | .ret => Q .ret F' H') = L_r02_Check_0_0 (fun i0 => Q .ret [(2, .v (.int .i64 i0))] []) (fun i0 l1 l2 b3 i4 b5 => Q (.exit 0) [(1, .box (.agg [(.int .i64 i0), (.data l1), (.data l2)])), (3, .v (.bool b3)), (4, .v (.int .i64 i4)), (57, .v (.bool b5))] []) (n + 1) i0 l1 l2 b3 i4 := by kernel_rfl
theorem lpb_r02_Check_0 : LpOk E (lp_r02_Check) b_94526800 := (LpOk_no (by kernel_rfl))
theorem loop_r02_Check_0 : ∀ F H Q, lp_r02_Check 94526800 F H Q → LoopT E b_94526800 F H Q := by
 intro F H Q h
 have go := LoopT.intro (callW_ok se0_r02_Check 5) lpb_r02_Check_0 (R_r02_Check_0 Q) (by
   intro F H h
   unfold R_r02_Check_0 D_r02_Check_0 at h
   split at h
   · exact h
   · exact h) (by
   intro n F H h
   unfold R_r02_Check_0 D_r02_Check_0 at h
   split at h
   · exact (body_r02_Check_0_0 ..).mpr h
   · exact h.elim)
 have h : D_r02_Check_0 F H _ := h
 unfold D_r02_Check_0 at h
 split at h
 · obtain ⟨n, h⟩ := h; exact go n _ _ h
 · exact h.elim
theorem eq_r02_Check ( p0 p1 p2 K) : WP (S0_r02_Check) 6 t_r02_Check [(.agg [(.int .i64 p0), (.data p1), (.data p2)])] K = wv_r02_Check p0 p1 p2 (fun r0 => K (.int .i64 r0)) := by kernel_rfl
theorem ok_r02_Check : OkF E wp_r02_Check n_r02_Check := by
 intro as K h
 unfold wp_r02_Check pw_r02_Check at h
 split at h
 · exact WP_ok se0_r02_Check (LpOk_by (l := [(94526800, b_94526800)]) ⟨loop_r02_Check_0, trivial⟩ (by kernel_rfl)) (by kernel_rfl) (by kernel_rfl) (fun _ => baseC_none (by kernel_rfl) _) ((eq_r02_Check ..).mpr h)
 · exact h.elim
abbrev T_r02_Twin : Type := Int → List PV → List PV → (Int → List PV → List PV → Prop) → Prop
def wv_r02_Twin (p0 : Int) (p1 p2 : List PV) (K : Int → List PV → List PV → Prop) : Prop :=
 (asr (headOk 1 p1)
 (cbr (List.isEmpty p1)
 (asr (headOk 1 p2)
 (cbr (List.isEmpty p2)
 (K p0 ([] : List PV) ([] : List PV))
 (asr (decide (((List.length p2) + 64) * (8 + 1) ≤ room))
 (asr (decide ((List.length p2) = (List.length p2)))
 (asr (decide ((0 + (List.length p2)) ≤ (List.length p2)))
 (K p0 ([] : List PV) (List.take (List.length p2) p2)))))))
 (asr (decide (((List.length p1) + 64) * (8 + 1) ≤ room))
 (asr (headOk 1 p2)
 (cbr (List.isEmpty p2)
 (asr (decide ((List.length p1) = (List.length p1)))
 (asr (decide ((0 + (List.length p1)) ≤ (List.length p1)))
 (K p0 (List.take (List.length p1) p1) ([] : List PV))))
 (asr (decide (((List.length p2) + 64) * (8 + 1) ≤ room))
 (asr (decide ((List.length p1) = (List.length p1)))
 (asr (decide ((0 + (List.length p1)) ≤ (List.length p1)))
 (asr (decide ((List.length p2) = (List.length p2)))
 (asr (decide ((0 + (List.length p2)) ≤ (List.length p2)))
 (K p0 (List.take (List.length p1) p1) (List.take (List.length p2) p2))))))))))))
def w_r02_Twin (p0 : Int) (p1 p2 : List PV) (K : Int → List PV → List PV → Prop) : Prop := wv_r02_Twin p0 p1 p2 K
def pw_r02_Twin (w : T_r02_Twin) (as : List PV) (K : PV → Prop) : Prop :=
 match as with
 | [(.agg [(.int .i64 p0), (.data p1), (.data p2)])] => w p0 p1 p2 (fun r0 r1 r2 => K (.agg [(.int .i64 r0), (.data r1), (.data r2)]))
 | _ => False
def wp_r02_Twin (as : List PV) (K : PV → Prop) : Prop := pw_r02_Twin w_r02_Twin as K
def lp_r02_Twin : LP := fun _ _ _ _ =>
 False
def S0_r02_Twin : SE := ⟨E, lookS [], lookI [], lp_r02_Twin⟩
theorem se0_r02_Twin : SEOk (S0_r02_Twin) := seOk_of trivial trivial
theorem eq_r02_Twin ( p0 p1 p2 K) : WP (S0_r02_Twin) 6 t_r02_Twin [(.agg [(.int .i64 p0), (.data p1), (.data p2)])] K = wv_r02_Twin p0 p1 p2 (fun r0 r1 r2 => K (.agg [(.int .i64 r0), (.data r1), (.data r2)])) := by kernel_rfl
theorem ok_r02_Twin : OkF E wp_r02_Twin n_r02_Twin := by
 intro as K h
 unfold wp_r02_Twin pw_r02_Twin at h
 split at h
 · exact WP_ok se0_r02_Twin (LpOk_no (by kernel_rfl)) (by kernel_rfl) (by kernel_rfl) (fun _ => baseC_none (by kernel_rfl) _) ((eq_r02_Twin ..).mpr h)
 · exact h.elim
abbrev T_r02_Whole : Type := Int → List PV → List PV → (Int → Prop) → Prop
def L_r02_Whole_0_0 (x0 : Int → List PV → List PV → Int → Int → Bool → Prop) : Nat → Int → List PV → List PV → Int → Int → Prop
 | 0, _, _, _, _, _ => False
 | n + 1, i0, l1, l2, i3, i4 =>
 (cbr (decide (i4 < (((List.length l2) : Nat) : Int)))
 (asr (decide ((0 : Int) ≤ i4))
 (asr (decide (i4 < (((List.length l2) : Nat) : Int)))
 (asr (conf (.one (.i .i64)) (List.getD l2 (i4.toNat) .nils))
 (asr (decide ((0 : Int) ≤ (IntKind.i64.wrap (i4 + (1 : Int)))))
 (asr (decide ((IntKind.i64.wrap (i4 + (1 : Int))) < (((List.length l1) : Nat) : Int)))
 (asr (conf (.one (.i .i64)) (List.getD l1 ((IntKind.i64.wrap (i4 + (1 : Int))).toNat) .nils))
 (asr (decide ((0 : Int) ≤ i4))
 (asr (decide (i4 < (((List.length l1) : Nat) : Int)))
 (asr (conf (.one (.i .i64)) (List.getD l1 (i4.toNat) .nils))
 (L_r02_Whole_0_0 x0 n i0 l1 l2 (IntKind.i64.wrap (i3 + (IntKind.i64.wrap ((intOfV (List.getD l2 (i4.toNat) .nils)) * (IntKind.i64.wrap ((intOfV (List.getD l1 ((IntKind.i64.wrap (i4 + (1 : Int))).toNat) .nils)) - (intOfV (List.getD l1 (i4.toNat) .nils)))))))) (IntKind.i64.wrap (i4 + (1 : Int)))))))))))))
 (x0 i0 l1 l2 i3 i4 false))
def wv_r02_Whole (p0 : Int) (p1 p2 : List PV) (K : Int → Prop) : Prop :=
 (∃ n : Nat, L_r02_Whole_0_0
 (fun _ _ _ yi3 _ _ => (K yi3))
 n p0 p1 p2 (0 : Int) (0 : Int))
def w_r02_Whole (p0 : Int) (p1 p2 : List PV) (K : Int → Prop) : Prop := wv_r02_Whole p0 p1 p2 K
def pw_r02_Whole (w : T_r02_Whole) (as : List PV) (K : PV → Prop) : Prop :=
 match as with
 | [(.agg [(.int .i64 p0), (.data p1), (.data p2)])] => w p0 p1 p2 (fun r0 => K (.int .i64 r0))
 | _ => False
def wp_r02_Whole (as : List PV) (K : PV → Prop) : Prop := pw_r02_Whole w_r02_Whole as K
def D_r02_Whole_0 (F : Frm) (H : Hp) (A0 : Int → List PV → List PV → Int → Int → Prop) : Prop :=
 match F, H with
 | [(1, .box (.agg [(.int .i64 i0), (.data l1), (.data l2)])), (3, .v (.int .i64 i3)), (4, .v (.int .i64 i4))], [] => (A0 i0 l1 l2 i3 i4)
 | _, _ => False
def R_r02_Whole_0 (Q : Ex → Frm → Hp → Prop) (n : Nat) (F : Frm) (H : Hp) : Prop := D_r02_Whole_0 F H (fun i0 l1 l2 i3 i4 => L_r02_Whole_0_0 (fun i0 l1 l2 i3 i4 b5 => Q (.exit 0) [(1, .box (.agg [(.int .i64 i0), (.data l1), (.data l2)])), (3, .v (.int .i64 i3)), (4, .v (.int .i64 i4)), (9, .v (.bool b5))] []) n i0 l1 l2 i3 i4)
def lp_r02_Whole : LP := fun id F H Q =>
 bif Nat.beq id 21661800 then D_r02_Whole_0 F H (fun i0 l1 l2 i3 i4 => ∃ n : Nat, L_r02_Whole_0_0 (fun i0 l1 l2 i3 i4 b5 => Q (.exit 0) [(1, .box (.agg [(.int .i64 i0), (.data l1), (.data l2)])), (3, .v (.int .i64 i3)), (4, .v (.int .i64 i4)), (9, .v (.bool b5))] []) n i0 l1 l2 i3 i4) else
 False
def S0_r02_Whole : SE := ⟨E, lookS [], lookI [], lp_r02_Whole⟩
theorem se0_r02_Whole : SEOk (S0_r02_Whole) := seOk_of trivial trivial
theorem body_r02_Whole_0_0 ( Q n i0 l1 l2 i3 i4) : WC E (callW (S0_r02_Whole) 5) (lp_r02_Whole) b_21661800 [(1, .box (.agg [(.int .i64 i0), (.data l1), (.data l2)])), (3, .v (.int .i64 i3)), (4, .v (.int .i64 i4))] [] (fun x F' H' => match x with | .norm => R_r02_Whole_0 Q n F' H' | .exit i => Q (.exit i) F' H' | .ret => Q .ret F' H') = L_r02_Whole_0_0 (fun i0 l1 l2 i3 i4 b5 => Q (.exit 0) [(1, .box (.agg [(.int .i64 i0), (.data l1), (.data l2)])), (3, .v (.int .i64 i3)), (4, .v (.int .i64 i4)), (9, .v (.bool b5))] []) (n + 1) i0 l1 l2 i3 i4 := by kernel_rfl
theorem lpb_r02_Whole_0 : LpOk E (lp_r02_Whole) b_21661800 := (LpOk_no (by kernel_rfl))
theorem loop_r02_Whole_0 : ∀ F H Q, lp_r02_Whole 21661800 F H Q → LoopT E b_21661800 F H Q := by
 intro F H Q h
 have go := LoopT.intro (callW_ok se0_r02_Whole 5) lpb_r02_Whole_0 (R_r02_Whole_0 Q) (by
   intro F H h
   unfold R_r02_Whole_0 D_r02_Whole_0 at h
   split at h
   · exact h
   · exact h) (by
   intro n F H h
   unfold R_r02_Whole_0 D_r02_Whole_0 at h
   split at h
   · exact (body_r02_Whole_0_0 ..).mpr h
   · exact h.elim)
 have h : D_r02_Whole_0 F H _ := h
 unfold D_r02_Whole_0 at h
 split at h
 · obtain ⟨n, h⟩ := h; exact go n _ _ h
 · exact h.elim
theorem eq_r02_Whole ( p0 p1 p2 K) : WP (S0_r02_Whole) 6 t_r02_Whole [(.agg [(.int .i64 p0), (.data p1), (.data p2)])] K = wv_r02_Whole p0 p1 p2 (fun r0 => K (.int .i64 r0)) := by kernel_rfl
theorem ok_r02_Whole : OkF E wp_r02_Whole n_r02_Whole := by
 intro as K h
 unfold wp_r02_Whole pw_r02_Whole at h
 split at h
 · exact WP_ok se0_r02_Whole (LpOk_by (l := [(21661800, b_21661800)]) ⟨loop_r02_Whole_0, trivial⟩ (by kernel_rfl)) (by kernel_rfl) (by kernel_rfl) (fun _ => baseC_none (by kernel_rfl) _) ((eq_r02_Whole ..).mpr h)
 · exact h.elim
abbrev T_r02_Point : Type := Int → Int → Int → (Bool → Prop) → Prop
def wv_r02_Point (a0 : T_r01_Check) (a1 : T_r01_Of) (a2 : T_r01_Less) (p0 p1 p2 : Int) (K : Bool → Prop) : Prop :=
 (a0 p1 p2 (fun yi0 => 
 (cbr (yi0 == (0 : Int))
 (cbr (decide (p1 ≥ (0 : Int)))
 (a1 p0 (fun yi1 yi2 => 
 (a2 yi1 yi2 p1 p2 (fun yb3 => 
 (K (!yb3))))))
 (K false))
 (K false))))
def w_r02_Point (p0 p1 p2 : Int) (K : Bool → Prop) : Prop := wv_r02_Point w_r01_Check w_r01_Of w_r01_Less p0 p1 p2 K
def pw_r02_Point (w : T_r02_Point) (as : List PV) (K : PV → Prop) : Prop :=
 match as with
 | [(.int .i64 p0), (.agg [(.int .i64 p1), (.int .i64 p2)])] => w p0 p1 p2 (fun r0 => K (.bool r0))
 | _ => False
def wp_r02_Point (as : List PV) (K : PV → Prop) : Prop := pw_r02_Point w_r02_Point as K
def lp_r02_Point (_ : T_r01_Check) (_ : T_r01_Of) (_ : T_r01_Less) : LP := fun _ _ _ _ =>
 False
def S0_r02_Point (a0 : T_r01_Check) (a1 : T_r01_Of) (a2 : T_r01_Less) : SE := ⟨E, lookS [(n_r01_Check, pw_r01_Check a0), (n_r01_Of, pw_r01_Of a1), (n_r01_Less, pw_r01_Less a2)], lookI [], lp_r02_Point a0 a1 a2⟩
theorem se0_r02_Point : SEOk (S0_r02_Point w_r01_Check w_r01_Of w_r01_Less) := seOk_of ⟨ok_r01_Check, ok_r01_Of, ok_r01_Less, trivial⟩ trivial
theorem eq_r02_Point (a0 a1 a2 p0 p1 p2 K) : WP (S0_r02_Point a0 a1 a2) 6 t_r02_Point [(.int .i64 p0), (.agg [(.int .i64 p1), (.int .i64 p2)])] K = wv_r02_Point a0 a1 a2 p0 p1 p2 (fun r0 => K (.bool r0)) := by kernel_rfl
theorem ok_r02_Point : OkF E wp_r02_Point n_r02_Point := by
 intro as K h
 unfold wp_r02_Point pw_r02_Point at h
 split at h
 · exact WP_ok se0_r02_Point (LpOk_no (by kernel_rfl)) (by kernel_rfl) (by kernel_rfl) (fun _ => baseC_none (by kernel_rfl) _) ((eq_r02_Point ..).mpr h)
 · exact h.elim
abbrev T_r02_later : Type := Int → Int → Int → Int → (Int → Int → Prop) → Prop
def wv_r02_later (a0 : T_r01_Less) (p0 p1 p2 p3 : Int) (K : Int → Int → Prop) : Prop :=
 (a0 p0 p1 p2 p3 (fun yb0 => 
 (cbr yb0
 (K p2 p3)
 (K p0 p1))))
def w_r02_later (p0 p1 p2 p3 : Int) (K : Int → Int → Prop) : Prop := wv_r02_later w_r01_Less p0 p1 p2 p3 K
def pw_r02_later (w : T_r02_later) (as : List PV) (K : PV → Prop) : Prop :=
 match as with
 | [(.agg [(.int .i64 p0), (.int .i64 p1)]), (.agg [(.int .i64 p2), (.int .i64 p3)])] => w p0 p1 p2 p3 (fun r0 r1 => K (.agg [(.int .i64 r0), (.int .i64 r1)]))
 | _ => False
def wp_r02_later (as : List PV) (K : PV → Prop) : Prop := pw_r02_later w_r02_later as K
def lp_r02_later (_ : T_r01_Less) : LP := fun _ _ _ _ =>
 False
def S0_r02_later (a0 : T_r01_Less) : SE := ⟨E, lookS [(n_r01_Less, pw_r01_Less a0)], lookI [], lp_r02_later a0⟩
theorem se0_r02_later : SEOk (S0_r02_later w_r01_Less) := seOk_of ⟨ok_r01_Less, trivial⟩ trivial
theorem eq_r02_later (a0 p0 p1 p2 p3 K) : WP (S0_r02_later a0) 6 t_r02_later [(.agg [(.int .i64 p0), (.int .i64 p1)]), (.agg [(.int .i64 p2), (.int .i64 p3)])] K = wv_r02_later a0 p0 p1 p2 p3 (fun r0 r1 => K (.agg [(.int .i64 r0), (.int .i64 r1)])) := by kernel_rfl
theorem ok_r02_later : OkF E wp_r02_later n_r02_later := by
 intro as K h
 unfold wp_r02_later pw_r02_later at h
 split at h
 · exact WP_ok se0_r02_later (LpOk_no (by kernel_rfl)) (by kernel_rfl) (by kernel_rfl) (fun _ => baseC_none (by kernel_rfl) _) ((eq_r02_later ..).mpr h)
 · exact h.elim
abbrev T_r02_sooner : Type := Int → Int → Int → Int → (Int → Int → Prop) → Prop
def wv_r02_sooner (a0 : T_r01_Less) (p0 p1 p2 p3 : Int) (K : Int → Int → Prop) : Prop :=
 (a0 p0 p1 p2 p3 (fun yb0 => 
 (cbr yb0
 (K p0 p1)
 (K p2 p3))))
def w_r02_sooner (p0 p1 p2 p3 : Int) (K : Int → Int → Prop) : Prop := wv_r02_sooner w_r01_Less p0 p1 p2 p3 K
def pw_r02_sooner (w : T_r02_sooner) (as : List PV) (K : PV → Prop) : Prop :=
 match as with
 | [(.agg [(.int .i64 p0), (.int .i64 p1)]), (.agg [(.int .i64 p2), (.int .i64 p3)])] => w p0 p1 p2 p3 (fun r0 r1 => K (.agg [(.int .i64 r0), (.int .i64 r1)]))
 | _ => False
def wp_r02_sooner (as : List PV) (K : PV → Prop) : Prop := pw_r02_sooner w_r02_sooner as K
def lp_r02_sooner (_ : T_r01_Less) : LP := fun _ _ _ _ =>
 False
def S0_r02_sooner (a0 : T_r01_Less) : SE := ⟨E, lookS [(n_r01_Less, pw_r01_Less a0)], lookI [], lp_r02_sooner a0⟩
theorem se0_r02_sooner : SEOk (S0_r02_sooner w_r01_Less) := seOk_of ⟨ok_r01_Less, trivial⟩ trivial
theorem eq_r02_sooner (a0 p0 p1 p2 p3 K) : WP (S0_r02_sooner a0) 6 t_r02_sooner [(.agg [(.int .i64 p0), (.int .i64 p1)]), (.agg [(.int .i64 p2), (.int .i64 p3)])] K = wv_r02_sooner a0 p0 p1 p2 p3 (fun r0 r1 => K (.agg [(.int .i64 r0), (.int .i64 r1)])) := by kernel_rfl
theorem ok_r02_sooner : OkF E wp_r02_sooner n_r02_sooner := by
 intro as K h
 unfold wp_r02_sooner pw_r02_sooner at h
 split at h
 · exact WP_ok se0_r02_sooner (LpOk_no (by kernel_rfl)) (by kernel_rfl) (by kernel_rfl) (fun _ => baseC_none (by kernel_rfl) _) ((eq_r02_sooner ..).mpr h)
 · exact h.elim
abbrev T_r02_worth : Type := Int → List PV → List PV → Int → Int → Int → Int → Int → (Int → Int → Int → Prop) → Prop
def wv_r02_worth (a0 : T_r01_Of) (a1 : T_r02_later) (a2 : T_r02_sooner) (a3 : T_r01_Less) (a4 : T_r01_Sub) (a5 : T_r01_Mul) (_ : Int) (p1 p2 : List PV) (p3 p4 p5 p6 p7 : Int) (K : Int → Int → Int → Prop) : Prop :=
 (asr (decide ((0 : Int) ≤ p3))
 (asr (decide (p3 < (((List.length p1) : Nat) : Int)))
 (asr (conf (.one (.i .i64)) (List.getD p1 (p3.toNat) .nils))
 (a0 (intOfV (List.getD p1 (p3.toNat) .nils)) (fun yi0 yi1 => 
 (a1 p4 p5 yi0 yi1 (fun yi2 yi3 => 
 (asr (decide ((0 : Int) ≤ (IntKind.i64.wrap (p3 + (1 : Int)))))
 (asr (decide ((IntKind.i64.wrap (p3 + (1 : Int))) < (((List.length p1) : Nat) : Int)))
 (asr (conf (.one (.i .i64)) (List.getD p1 ((IntKind.i64.wrap (p3 + (1 : Int))).toNat) .nils))
 (a0 (intOfV (List.getD p1 ((IntKind.i64.wrap (p3 + (1 : Int))).toNat) .nils)) (fun yi4 yi5 => 
 (a2 p6 p7 yi4 yi5 (fun yi6 yi7 => 
 (a3 yi2 yi3 yi6 yi7 (fun yb8 => 
 (cbr (!yb8)
 (K (0 : Int) (1 : Int) (0 : Int))
 (asr (decide ((0 : Int) ≤ p3))
 (asr (decide (p3 < (((List.length p2) : Nat) : Int)))
 (asr (conf (.one (.i .i64)) (List.getD p2 (p3.toNat) .nils))
 (cbr ((intOfV (List.getD p2 (p3.toNat) .nils)) == (0 : Int))
 (K (0 : Int) (1 : Int) (0 : Int))
 (a4 yi6 yi7 yi2 yi3 (fun yi9 yi10 yi11 => 
 (cbr (yi11 != (0 : Int))
 (K (0 : Int) (0 : Int) yi11)
 (asr (decide ((0 : Int) ≤ p3))
 (asr (decide (p3 < (((List.length p2) : Nat) : Int)))
 (asr (conf (.one (.i .i64)) (List.getD p2 (p3.toNat) .nils))
 (a0 (intOfV (List.getD p2 (p3.toNat) .nils)) (fun yi12 yi13 => 
 (a5 yi9 yi10 yi12 yi13 (fun yi14 yi15 yi16 => 
 (K yi14 yi15 yi16))))))))))))))))))))))))))))))))
def w_r02_worth (p0 : Int) (p1 p2 : List PV) (p3 p4 p5 p6 p7 : Int) (K : Int → Int → Int → Prop) : Prop := wv_r02_worth w_r01_Of w_r02_later w_r02_sooner w_r01_Less w_r01_Sub w_r01_Mul p0 p1 p2 p3 p4 p5 p6 p7 K
def pw_r02_worth (w : T_r02_worth) (as : List PV) (K : PV → Prop) : Prop :=
 match as with
 | [(.agg [(.int .i64 p0), (.data p1), (.data p2)]), (.int .i64 p3), (.agg [(.int .i64 p4), (.int .i64 p5)]), (.agg [(.int .i64 p6), (.int .i64 p7)])] => w p0 p1 p2 p3 p4 p5 p6 p7 (fun r0 r1 r2 => K (.tup [(.agg [(.int .i64 r0), (.int .i64 r1)]), (.int .i64 r2)]))
 | _ => False
def wp_r02_worth (as : List PV) (K : PV → Prop) : Prop := pw_r02_worth w_r02_worth as K
def lp_r02_worth (_ : T_r01_Of) (_ : T_r02_later) (_ : T_r02_sooner) (_ : T_r01_Less) (_ : T_r01_Sub) (_ : T_r01_Mul) : LP := fun _ _ _ _ =>
 False
def S0_r02_worth (a0 : T_r01_Of) (a1 : T_r02_later) (a2 : T_r02_sooner) (a3 : T_r01_Less) (a4 : T_r01_Sub) (a5 : T_r01_Mul) : SE := ⟨E, lookS [(n_r01_Of, pw_r01_Of a0), (n_r02_later, pw_r02_later a1), (n_r02_sooner, pw_r02_sooner a2), (n_r01_Less, pw_r01_Less a3), (n_r01_Sub, pw_r01_Sub a4), (n_r01_Mul, pw_r01_Mul a5)], lookI [], lp_r02_worth a0 a1 a2 a3 a4 a5⟩
theorem se0_r02_worth : SEOk (S0_r02_worth w_r01_Of w_r02_later w_r02_sooner w_r01_Less w_r01_Sub w_r01_Mul) := seOk_of ⟨ok_r01_Of, ok_r02_later, ok_r02_sooner, ok_r01_Less, ok_r01_Sub, ok_r01_Mul, trivial⟩ trivial
theorem eq_r02_worth (a0 a1 a2 a3 a4 a5 p0 p1 p2 p3 p4 p5 p6 p7 K) : WP (S0_r02_worth a0 a1 a2 a3 a4 a5) 6 t_r02_worth [(.agg [(.int .i64 p0), (.data p1), (.data p2)]), (.int .i64 p3), (.agg [(.int .i64 p4), (.int .i64 p5)]), (.agg [(.int .i64 p6), (.int .i64 p7)])] K = wv_r02_worth a0 a1 a2 a3 a4 a5 p0 p1 p2 p3 p4 p5 p6 p7 (fun r0 r1 r2 => K (.tup [(.agg [(.int .i64 r0), (.int .i64 r1)]), (.int .i64 r2)])) := by kernel_rfl
theorem ok_r02_worth : OkF E wp_r02_worth n_r02_worth := by
 intro as K h
 unfold wp_r02_worth pw_r02_worth at h
 split at h
 · exact WP_ok se0_r02_worth (LpOk_no (by kernel_rfl)) (by kernel_rfl) (by kernel_rfl) (fun _ => baseC_none (by kernel_rfl) _) ((eq_r02_worth ..).mpr h)
 · exact h.elim
abbrev T_r02_Value : Type := Int → List PV → List PV → Int → Int → Int → Int → (Int → Int → Int → Prop) → Prop
def L_r02_Value_0_0 (a0 : T_r02_Check) (a1 : T_r02_Point) (a2 : T_r01_Less) (a3 : T_r02_worth) (a4 : T_r01_Add) (x0 : Int → Int → Int → Prop) (x1 : Int → List PV → List PV → Int → Int → Int → Int → Int → Int → Int → Int → Int → Bool → Prop) : Nat → Int → List PV → List PV → Int → Int → Int → Int → Int → Int → Int → Int → Int → Prop
 | 0, _, _, _, _, _, _, _, _, _, _, _, _ => False
 | n + 1, i0, l1, l2, i3, i4, i5, i6, i7, i8, i9, i10, i11 =>
 (cbr (decide (i11 < (((List.length l2) : Nat) : Int)))
 (a3 i0 l1 l2 i11 i3 i4 i5 i6 (fun yi5 yi6 yi7 => 
 (cbr (yi7 != (0 : Int))
 (x0 (0 : Int) (0 : Int) yi7)
 (a4 i9 i10 yi5 yi6 (fun yi8 yi9 yi10 => 
 (cbr (yi10 != (0 : Int))
 (x0 (0 : Int) (0 : Int) yi10)
 (L_r02_Value_0_0 a0 a1 a2 a3 a4 x0 x1 n i0 l1 l2 i3 i4 i5 i6 i7 i8 yi8 yi9 (IntKind.i64.wrap (i11 + (1 : Int))))))))))
 (x1 i0 l1 l2 i3 i4 i5 i6 i7 i8 i9 i10 i11 false))
def wv_r02_Value (a0 : T_r02_Check) (a1 : T_r02_Point) (a2 : T_r01_Less) (a3 : T_r02_worth) (a4 : T_r01_Add) (p0 : Int) (p1 p2 : List PV) (p3 p4 p5 p6 : Int) (K : Int → Int → Int → Prop) : Prop :=
 (a0 p0 p1 p2 (fun yi0 => 
 (cbr (yi0 != (0 : Int))
 (a0 p0 p1 p2 (fun yi1 => 
 (K (0 : Int) (0 : Int) yi1)))
 (a1 p0 p3 p4 (fun yb2 => 
 (cbr (!yb2)
 (K (0 : Int) (0 : Int) (2 : Int))
 (a1 p0 p5 p6 (fun yb3 => 
 (cbr (!yb3)
 (K (0 : Int) (0 : Int) (2 : Int))
 (a2 p5 p6 p3 p4 (fun yb4 => 
 (cbr yb4
 (K (0 : Int) (0 : Int) (2 : Int))
 (∃ n : Nat, L_r02_Value_0_0 a0 a1 a2 a3 a4
 (fun yi11 yi12 yi13 => (K yi11 yi12 yi13))
 (fun _ _ _ _ _ _ _ _ _ yi23 yi24 _ _ => (K yi23 yi24 (0 : Int)))
 n p0 p1 p2 p3 p4 p5 p6 (0 : Int) (0 : Int) (0 : Int) (1 : Int) (0 : Int))))))))))))))
def w_r02_Value (p0 : Int) (p1 p2 : List PV) (p3 p4 p5 p6 : Int) (K : Int → Int → Int → Prop) : Prop := wv_r02_Value w_r02_Check w_r02_Point w_r01_Less w_r02_worth w_r01_Add p0 p1 p2 p3 p4 p5 p6 K
def pw_r02_Value (w : T_r02_Value) (as : List PV) (K : PV → Prop) : Prop :=
 match as with
 | [(.agg [(.int .i64 p0), (.data p1), (.data p2)]), (.agg [(.int .i64 p3), (.int .i64 p4)]), (.agg [(.int .i64 p5), (.int .i64 p6)])] => w p0 p1 p2 p3 p4 p5 p6 (fun r0 r1 r2 => K (.tup [(.agg [(.int .i64 r0), (.int .i64 r1)]), (.int .i64 r2)]))
 | _ => False
def wp_r02_Value (as : List PV) (K : PV → Prop) : Prop := pw_r02_Value w_r02_Value as K
def D_r02_Value_0 (F : Frm) (H : Hp) (A0 : Int → List PV → List PV → Int → Int → Int → Int → Int → Int → Int → Int → Int → Prop) : Prop :=
 match F, H with
 | [(3, .box (.agg [(.int .i64 i0), (.data l1), (.data l2)])), (4, .box (.agg [(.int .i64 i3), (.int .i64 i4)])), (5, .box (.agg [(.int .i64 i5), (.int .i64 i6)])), (6, .box (.agg [(.int .i64 i7), (.int .i64 i8)])), (8, .box (.agg [(.int .i64 i9), (.int .i64 i10)])), (9, .v (.int .i64 i11))], [] => (A0 i0 l1 l2 i3 i4 i5 i6 i7 i8 i9 i10 i11)
 | _, _ => False
def R_r02_Value_0 (a0 : T_r02_Check) (a1 : T_r02_Point) (a2 : T_r01_Less) (a3 : T_r02_worth) (a4 : T_r01_Add) (Q : Ex → Frm → Hp → Prop) (n : Nat) (F : Frm) (H : Hp) : Prop := D_r02_Value_0 F H (fun i0 l1 l2 i3 i4 i5 i6 i7 i8 i9 i10 i11 => L_r02_Value_0_0 a0 a1 a2 a3 a4 (fun i0 i1 i2 => Q .ret [(6, .box (.agg [(.int .i64 i0), (.int .i64 i1)])), (7, .v (.int .i64 i2))] []) (fun i0 l1 l2 i3 i4 i5 i6 i7 i8 i9 i10 i11 b12 => Q (.exit 0) [(3, .box (.agg [(.int .i64 i0), (.data l1), (.data l2)])), (4, .box (.agg [(.int .i64 i3), (.int .i64 i4)])), (5, .box (.agg [(.int .i64 i5), (.int .i64 i6)])), (6, .box (.agg [(.int .i64 i7), (.int .i64 i8)])), (8, .box (.agg [(.int .i64 i9), (.int .i64 i10)])), (9, .v (.int .i64 i11)), (41, .v (.bool b12))] []) n i0 l1 l2 i3 i4 i5 i6 i7 i8 i9 i10 i11)
def lp_r02_Value (a0 : T_r02_Check) (a1 : T_r02_Point) (a2 : T_r01_Less) (a3 : T_r02_worth) (a4 : T_r01_Add) : LP := fun id F H Q =>
 bif Nat.beq id 92446900 then D_r02_Value_0 F H (fun i0 l1 l2 i3 i4 i5 i6 i7 i8 i9 i10 i11 => ∃ n : Nat, L_r02_Value_0_0 a0 a1 a2 a3 a4 (fun i0 i1 i2 => Q .ret [(6, .box (.agg [(.int .i64 i0), (.int .i64 i1)])), (7, .v (.int .i64 i2))] []) (fun i0 l1 l2 i3 i4 i5 i6 i7 i8 i9 i10 i11 b12 => Q (.exit 0) [(3, .box (.agg [(.int .i64 i0), (.data l1), (.data l2)])), (4, .box (.agg [(.int .i64 i3), (.int .i64 i4)])), (5, .box (.agg [(.int .i64 i5), (.int .i64 i6)])), (6, .box (.agg [(.int .i64 i7), (.int .i64 i8)])), (8, .box (.agg [(.int .i64 i9), (.int .i64 i10)])), (9, .v (.int .i64 i11)), (41, .v (.bool b12))] []) n i0 l1 l2 i3 i4 i5 i6 i7 i8 i9 i10 i11) else
 False
def S0_r02_Value (a0 : T_r02_Check) (a1 : T_r02_Point) (a2 : T_r01_Less) (a3 : T_r02_worth) (a4 : T_r01_Add) : SE := ⟨E, lookS [(n_r02_Check, pw_r02_Check a0), (n_r02_Point, pw_r02_Point a1), (n_r01_Less, pw_r01_Less a2), (n_r02_worth, pw_r02_worth a3), (n_r01_Add, pw_r01_Add a4)], lookI [], lp_r02_Value a0 a1 a2 a3 a4⟩
theorem se0_r02_Value : SEOk (S0_r02_Value w_r02_Check w_r02_Point w_r01_Less w_r02_worth w_r01_Add) := seOk_of ⟨ok_r02_Check, ok_r02_Point, ok_r01_Less, ok_r02_worth, ok_r01_Add, trivial⟩ trivial
theorem body_r02_Value_0_0 (a0 a1 a2 a3 a4 Q n i0 l1 l2 i3 i4 i5 i6 i7 i8 i9 i10 i11) : WC E (callW (S0_r02_Value a0 a1 a2 a3 a4) 5) (lp_r02_Value a0 a1 a2 a3 a4) b_92446900 [(3, .box (.agg [(.int .i64 i0), (.data l1), (.data l2)])), (4, .box (.agg [(.int .i64 i3), (.int .i64 i4)])), (5, .box (.agg [(.int .i64 i5), (.int .i64 i6)])), (6, .box (.agg [(.int .i64 i7), (.int .i64 i8)])), (8, .box (.agg [(.int .i64 i9), (.int .i64 i10)])), (9, .v (.int .i64 i11))] [] (fun x F' H' => match x with | .norm => R_r02_Value_0 a0 a1 a2 a3 a4 Q n F' H' | .exit i => Q (.exit i) F' H' | .ret => Q .ret F' H') = L_r02_Value_0_0 a0 a1 a2 a3 a4 (fun i0 i1 i2 => Q .ret [(6, .box (.agg [(.int .i64 i0), (.int .i64 i1)])), (7, .v (.int .i64 i2))] []) (fun i0 l1 l2 i3 i4 i5 i6 i7 i8 i9 i10 i11 b12 => Q (.exit 0) [(3, .box (.agg [(.int .i64 i0), (.data l1), (.data l2)])), (4, .box (.agg [(.int .i64 i3), (.int .i64 i4)])), (5, .box (.agg [(.int .i64 i5), (.int .i64 i6)])), (6, .box (.agg [(.int .i64 i7), (.int .i64 i8)])), (8, .box (.agg [(.int .i64 i9), (.int .i64 i10)])), (9, .v (.int .i64 i11)), (41, .v (.bool b12))] []) (n + 1) i0 l1 l2 i3 i4 i5 i6 i7 i8 i9 i10 i11 := by kernel_rfl
theorem lpb_r02_Value_0 : LpOk E (lp_r02_Value w_r02_Check w_r02_Point w_r01_Less w_r02_worth w_r01_Add) b_92446900 := (LpOk_no (by kernel_rfl))
theorem loop_r02_Value_0 : ∀ F H Q, lp_r02_Value w_r02_Check w_r02_Point w_r01_Less w_r02_worth w_r01_Add 92446900 F H Q → LoopT E b_92446900 F H Q := by
 intro F H Q h
 have go := LoopT.intro (callW_ok se0_r02_Value 5) lpb_r02_Value_0 (R_r02_Value_0 w_r02_Check w_r02_Point w_r01_Less w_r02_worth w_r01_Add Q) (by
   intro F H h
   unfold R_r02_Value_0 D_r02_Value_0 at h
   split at h
   · exact h
   · exact h) (by
   intro n F H h
   unfold R_r02_Value_0 D_r02_Value_0 at h
   split at h
   · exact (body_r02_Value_0_0 ..).mpr h
   · exact h.elim)
 have h : D_r02_Value_0 F H _ := h
 unfold D_r02_Value_0 at h
 split at h
 · obtain ⟨n, h⟩ := h; exact go n _ _ h
 · exact h.elim
theorem eq_r02_Value (a0 a1 a2 a3 a4 p0 p1 p2 p3 p4 p5 p6 K) : WP (S0_r02_Value a0 a1 a2 a3 a4) 6 t_r02_Value [(.agg [(.int .i64 p0), (.data p1), (.data p2)]), (.agg [(.int .i64 p3), (.int .i64 p4)]), (.agg [(.int .i64 p5), (.int .i64 p6)])] K = wv_r02_Value a0 a1 a2 a3 a4 p0 p1 p2 p3 p4 p5 p6 (fun r0 r1 r2 => K (.tup [(.agg [(.int .i64 r0), (.int .i64 r1)]), (.int .i64 r2)])) := by kernel_rfl
theorem ok_r02_Value : OkF E wp_r02_Value n_r02_Value := by
 intro as K h
 unfold wp_r02_Value pw_r02_Value at h
 split at h
 · exact WP_ok se0_r02_Value (LpOk_by (l := [(92446900, b_92446900)]) ⟨loop_r02_Value_0, trivial⟩ (by kernel_rfl)) (by kernel_rfl) (by kernel_rfl) (fun _ => baseC_none (by kernel_rfl) _) ((eq_r02_Value ..).mpr h)
 · exact h.elim
abbrev T_r02_Mark : Type := Int → List PV → List PV → Int → Int → Int → Int → (Int → Int → Int → Prop) → Prop
def L_r02_Mark_0_0 (a0 : T_r02_Check) (a1 : T_r02_Point) (a2 : T_r01_Check) (a3 : T_r01_Of) (a4 : T_r01_Less) (a5 : T_r02_later) (a6 : T_r02_worth) (a7 : T_r01_Div) (a8 : T_r01_Add) (a9 : T_r01_Sub) (x0 : Int → Int → Int → Prop) (x1 : Int → List PV → List PV → Int → Int → Int → Int → Int → Int → Int → Int → Int → Bool → Prop) : Nat → Int → List PV → List PV → Int → Int → Int → Int → Int → Int → Int → Int → Int → Prop
 | 0, _, _, _, _, _, _, _, _, _, _, _, _ => False
 | n + 1, i0, l1, l2, i3, i4, i5, i6, i7, i8, i9, i10, i11 =>
 (cbr (decide (i11 < (((List.length l2) : Nat) : Int)))
 (cbr (decide (i5 > (0 : Int)))
 (asr (decide ((0 : Int) ≤ (IntKind.i64.wrap (i11 + (1 : Int)))))
 (asr (decide ((IntKind.i64.wrap (i11 + (1 : Int))) < (((List.length l1) : Nat) : Int)))
 (asr (conf (.one (.i .i64)) (List.getD l1 ((IntKind.i64.wrap (i11 + (1 : Int))).toNat) .nils))
 (a3 (intOfV (List.getD l1 ((IntKind.i64.wrap (i11 + (1 : Int))).toNat) .nils)) (fun yi4 yi5 => 
 (a4 i9 i10 yi4 yi5 (fun yb6 => 
 (cbr (!yb6)
 (a5 i9 i10 yi4 yi5 (fun yi7 yi8 => 
 (L_r02_Mark_0_0 a0 a1 a2 a3 a4 a5 a6 a7 a8 a9 x0 x1 n i0 l1 l2 i3 i4 i5 i6 i7 i8 yi7 yi8 (IntKind.i64.wrap (i11 + (1 : Int))))))
 (asr (decide ((0 : Int) ≤ i11))
 (asr (decide (i11 < (((List.length l2) : Nat) : Int)))
 (asr (conf (.one (.i .i64)) (List.getD l2 (i11.toNat) .nils))
 (cbr ((intOfV (List.getD l2 (i11.toNat) .nils)) == (0 : Int))
 (a5 i9 i10 yi4 yi5 (fun yi9 yi10 => 
 (L_r02_Mark_0_0 a0 a1 a2 a3 a4 a5 a6 a7 a8 a9 x0 x1 n i0 l1 l2 i3 i4 i5 i6 i7 i8 yi9 yi10 (IntKind.i64.wrap (i11 + (1 : Int))))))
 (a6 i0 l1 l2 i11 i9 i10 yi4 yi5 (fun yi11 yi12 yi13 => 
 (cbr (yi13 != (0 : Int))
 (x0 (0 : Int) (0 : Int) yi13)
 (a4 yi11 yi12 i5 i6 (fun yb14 => 
 (cbr (!yb14)
 (asr (decide ((0 : Int) ≤ i11))
 (asr (decide (i11 < (((List.length l2) : Nat) : Int)))
 (asr (conf (.one (.i .i64)) (List.getD l2 (i11.toNat) .nils))
 (a3 (intOfV (List.getD l2 (i11.toNat) .nils)) (fun yi15 yi16 => 
 (a7 i5 i6 yi15 yi16 (fun yi17 yi18 yi19 => 
 (cbr (yi19 != (0 : Int))
 (x0 (0 : Int) (0 : Int) yi19)
 (a8 i9 i10 yi17 yi18 (fun yi20 yi21 yi22 => 
 (x0 yi20 yi21 yi22)))))))))))
 (a9 i5 i6 yi11 yi12 (fun yi23 yi24 yi25 => 
 (cbr (yi25 != (0 : Int))
 (x0 (0 : Int) (0 : Int) yi25)
 (L_r02_Mark_0_0 a0 a1 a2 a3 a4 a5 a6 a7 a8 a9 x0 x1 n i0 l1 l2 i3 i4 yi23 yi24 i7 i8 yi4 yi5 (IntKind.i64.wrap (i11 + (1 : Int)))))))))))))))))))))))))
 (x1 i0 l1 l2 i3 i4 i5 i6 i7 i8 i9 i10 i11 false))
 (x1 i0 l1 l2 i3 i4 i5 i6 i7 i8 i9 i10 i11 false))
def wv_r02_Mark (a0 : T_r02_Check) (a1 : T_r02_Point) (a2 : T_r01_Check) (a3 : T_r01_Of) (a4 : T_r01_Less) (a5 : T_r02_later) (a6 : T_r02_worth) (a7 : T_r01_Div) (a8 : T_r01_Add) (a9 : T_r01_Sub) (p0 : Int) (p1 p2 : List PV) (p3 p4 p5 p6 : Int) (K : Int → Int → Int → Prop) : Prop :=
 (a0 p0 p1 p2 (fun yi0 => 
 (cbr (yi0 != (0 : Int))
 (a0 p0 p1 p2 (fun yi1 => 
 (K (0 : Int) (0 : Int) yi1)))
 (a1 p0 p3 p4 (fun yb2 => 
 (cbr (!yb2)
 (K (0 : Int) (0 : Int) (2 : Int))
 (a2 p5 p6 (fun yi3 => 
 (cbr (yi3 != (0 : Int))
 (K (0 : Int) (0 : Int) (2 : Int))
 (cbr (decide (p5 < (0 : Int)))
 (K (0 : Int) (0 : Int) (2 : Int))
 (∃ n : Nat, L_r02_Mark_0_0 a0 a1 a2 a3 a4 a5 a6 a7 a8 a9
 (fun yi26 yi27 yi28 => (K yi26 yi27 yi28))
 (fun _ _ _ yi32 yi33 yi34 _ _ _ _ _ _ _ => (cbr (decide (yi34 > (0 : Int)))
 (K (0 : Int) (0 : Int) (6 : Int))
 (K yi32 yi33 (0 : Int))))
 n p0 p1 p2 p3 p4 p5 p6 (0 : Int) (0 : Int) p3 p4 (0 : Int))))))))))))
def w_r02_Mark (p0 : Int) (p1 p2 : List PV) (p3 p4 p5 p6 : Int) (K : Int → Int → Int → Prop) : Prop := wv_r02_Mark w_r02_Check w_r02_Point w_r01_Check w_r01_Of w_r01_Less w_r02_later w_r02_worth w_r01_Div w_r01_Add w_r01_Sub p0 p1 p2 p3 p4 p5 p6 K
def pw_r02_Mark (w : T_r02_Mark) (as : List PV) (K : PV → Prop) : Prop :=
 match as with
 | [(.agg [(.int .i64 p0), (.data p1), (.data p2)]), (.agg [(.int .i64 p3), (.int .i64 p4)]), (.agg [(.int .i64 p5), (.int .i64 p6)])] => w p0 p1 p2 p3 p4 p5 p6 (fun r0 r1 r2 => K (.tup [(.agg [(.int .i64 r0), (.int .i64 r1)]), (.int .i64 r2)]))
 | _ => False
def wp_r02_Mark (as : List PV) (K : PV → Prop) : Prop := pw_r02_Mark w_r02_Mark as K
def D_r02_Mark_0 (F : Frm) (H : Hp) (A0 : Int → List PV → List PV → Int → Int → Int → Int → Int → Int → Int → Int → Int → Prop) : Prop :=
 match F, H with
 | [(3, .box (.agg [(.int .i64 i0), (.data l1), (.data l2)])), (4, .box (.agg [(.int .i64 i3), (.int .i64 i4)])), (5, .box (.agg [(.int .i64 i5), (.int .i64 i6)])), (6, .box (.agg [(.int .i64 i7), (.int .i64 i8)])), (8, .box (.agg [(.int .i64 i9), (.int .i64 i10)])), (9, .v (.int .i64 i11))], [] => (A0 i0 l1 l2 i3 i4 i5 i6 i7 i8 i9 i10 i11)
 | _, _ => False
def R_r02_Mark_0 (a0 : T_r02_Check) (a1 : T_r02_Point) (a2 : T_r01_Check) (a3 : T_r01_Of) (a4 : T_r01_Less) (a5 : T_r02_later) (a6 : T_r02_worth) (a7 : T_r01_Div) (a8 : T_r01_Add) (a9 : T_r01_Sub) (Q : Ex → Frm → Hp → Prop) (n : Nat) (F : Frm) (H : Hp) : Prop := D_r02_Mark_0 F H (fun i0 l1 l2 i3 i4 i5 i6 i7 i8 i9 i10 i11 => L_r02_Mark_0_0 a0 a1 a2 a3 a4 a5 a6 a7 a8 a9 (fun i0 i1 i2 => Q .ret [(6, .box (.agg [(.int .i64 i0), (.int .i64 i1)])), (7, .v (.int .i64 i2))] []) (fun i0 l1 l2 i3 i4 i5 i6 i7 i8 i9 i10 i11 b12 => Q (.exit 0) [(3, .box (.agg [(.int .i64 i0), (.data l1), (.data l2)])), (4, .box (.agg [(.int .i64 i3), (.int .i64 i4)])), (5, .box (.agg [(.int .i64 i5), (.int .i64 i6)])), (6, .box (.agg [(.int .i64 i7), (.int .i64 i8)])), (8, .box (.agg [(.int .i64 i9), (.int .i64 i10)])), (9, .v (.int .i64 i11)), (47, .v (.bool b12))] []) n i0 l1 l2 i3 i4 i5 i6 i7 i8 i9 i10 i11)
def lp_r02_Mark (a0 : T_r02_Check) (a1 : T_r02_Point) (a2 : T_r01_Check) (a3 : T_r01_Of) (a4 : T_r01_Less) (a5 : T_r02_later) (a6 : T_r02_worth) (a7 : T_r01_Div) (a8 : T_r01_Add) (a9 : T_r01_Sub) : LP := fun id F H Q =>
 bif Nat.beq id 63725400 then D_r02_Mark_0 F H (fun i0 l1 l2 i3 i4 i5 i6 i7 i8 i9 i10 i11 => ∃ n : Nat, L_r02_Mark_0_0 a0 a1 a2 a3 a4 a5 a6 a7 a8 a9 (fun i0 i1 i2 => Q .ret [(6, .box (.agg [(.int .i64 i0), (.int .i64 i1)])), (7, .v (.int .i64 i2))] []) (fun i0 l1 l2 i3 i4 i5 i6 i7 i8 i9 i10 i11 b12 => Q (.exit 0) [(3, .box (.agg [(.int .i64 i0), (.data l1), (.data l2)])), (4, .box (.agg [(.int .i64 i3), (.int .i64 i4)])), (5, .box (.agg [(.int .i64 i5), (.int .i64 i6)])), (6, .box (.agg [(.int .i64 i7), (.int .i64 i8)])), (8, .box (.agg [(.int .i64 i9), (.int .i64 i10)])), (9, .v (.int .i64 i11)), (47, .v (.bool b12))] []) n i0 l1 l2 i3 i4 i5 i6 i7 i8 i9 i10 i11) else
 False
def S0_r02_Mark (a0 : T_r02_Check) (a1 : T_r02_Point) (a2 : T_r01_Check) (a3 : T_r01_Of) (a4 : T_r01_Less) (a5 : T_r02_later) (a6 : T_r02_worth) (a7 : T_r01_Div) (a8 : T_r01_Add) (a9 : T_r01_Sub) : SE := ⟨E, lookS [(n_r02_Check, pw_r02_Check a0), (n_r02_Point, pw_r02_Point a1), (n_r01_Check, pw_r01_Check a2), (n_r01_Of, pw_r01_Of a3), (n_r01_Less, pw_r01_Less a4), (n_r02_later, pw_r02_later a5), (n_r02_worth, pw_r02_worth a6), (n_r01_Div, pw_r01_Div a7), (n_r01_Add, pw_r01_Add a8), (n_r01_Sub, pw_r01_Sub a9)], lookI [], lp_r02_Mark a0 a1 a2 a3 a4 a5 a6 a7 a8 a9⟩
theorem se0_r02_Mark : SEOk (S0_r02_Mark w_r02_Check w_r02_Point w_r01_Check w_r01_Of w_r01_Less w_r02_later w_r02_worth w_r01_Div w_r01_Add w_r01_Sub) := seOk_of ⟨ok_r02_Check, ok_r02_Point, ok_r01_Check, ok_r01_Of, ok_r01_Less, ok_r02_later, ok_r02_worth, ok_r01_Div, ok_r01_Add, ok_r01_Sub, trivial⟩ trivial
theorem body_r02_Mark_0_0 (a0 a1 a2 a3 a4 a5 a6 a7 a8 a9 Q n i0 l1 l2 i3 i4 i5 i6 i7 i8 i9 i10 i11) : WC E (callW (S0_r02_Mark a0 a1 a2 a3 a4 a5 a6 a7 a8 a9) 5) (lp_r02_Mark a0 a1 a2 a3 a4 a5 a6 a7 a8 a9) b_63725400 [(3, .box (.agg [(.int .i64 i0), (.data l1), (.data l2)])), (4, .box (.agg [(.int .i64 i3), (.int .i64 i4)])), (5, .box (.agg [(.int .i64 i5), (.int .i64 i6)])), (6, .box (.agg [(.int .i64 i7), (.int .i64 i8)])), (8, .box (.agg [(.int .i64 i9), (.int .i64 i10)])), (9, .v (.int .i64 i11))] [] (fun x F' H' => match x with | .norm => R_r02_Mark_0 a0 a1 a2 a3 a4 a5 a6 a7 a8 a9 Q n F' H' | .exit i => Q (.exit i) F' H' | .ret => Q .ret F' H') = L_r02_Mark_0_0 a0 a1 a2 a3 a4 a5 a6 a7 a8 a9 (fun i0 i1 i2 => Q .ret [(6, .box (.agg [(.int .i64 i0), (.int .i64 i1)])), (7, .v (.int .i64 i2))] []) (fun i0 l1 l2 i3 i4 i5 i6 i7 i8 i9 i10 i11 b12 => Q (.exit 0) [(3, .box (.agg [(.int .i64 i0), (.data l1), (.data l2)])), (4, .box (.agg [(.int .i64 i3), (.int .i64 i4)])), (5, .box (.agg [(.int .i64 i5), (.int .i64 i6)])), (6, .box (.agg [(.int .i64 i7), (.int .i64 i8)])), (8, .box (.agg [(.int .i64 i9), (.int .i64 i10)])), (9, .v (.int .i64 i11)), (47, .v (.bool b12))] []) (n + 1) i0 l1 l2 i3 i4 i5 i6 i7 i8 i9 i10 i11 := by kernel_rfl
theorem lpb_r02_Mark_0 : LpOk E (lp_r02_Mark w_r02_Check w_r02_Point w_r01_Check w_r01_Of w_r01_Less w_r02_later w_r02_worth w_r01_Div w_r01_Add w_r01_Sub) b_63725400 := (LpOk_no (by kernel_rfl))
theorem loop_r02_Mark_0 : ∀ F H Q, lp_r02_Mark w_r02_Check w_r02_Point w_r01_Check w_r01_Of w_r01_Less w_r02_later w_r02_worth w_r01_Div w_r01_Add w_r01_Sub 63725400 F H Q → LoopT E b_63725400 F H Q := by
 intro F H Q h
 have go := LoopT.intro (callW_ok se0_r02_Mark 5) lpb_r02_Mark_0 (R_r02_Mark_0 w_r02_Check w_r02_Point w_r01_Check w_r01_Of w_r01_Less w_r02_later w_r02_worth w_r01_Div w_r01_Add w_r01_Sub Q) (by
   intro F H h
   unfold R_r02_Mark_0 D_r02_Mark_0 at h
   split at h
   · exact h
   · exact h) (by
   intro n F H h
   unfold R_r02_Mark_0 D_r02_Mark_0 at h
   split at h
   · exact (body_r02_Mark_0_0 ..).mpr h
   · exact h.elim)
 have h : D_r02_Mark_0 F H _ := h
 unfold D_r02_Mark_0 at h
 split at h
 · obtain ⟨n, h⟩ := h; exact go n _ _ h
 · exact h.elim
theorem eq_r02_Mark (a0 a1 a2 a3 a4 a5 a6 a7 a8 a9 p0 p1 p2 p3 p4 p5 p6 K) : WP (S0_r02_Mark a0 a1 a2 a3 a4 a5 a6 a7 a8 a9) 6 t_r02_Mark [(.agg [(.int .i64 p0), (.data p1), (.data p2)]), (.agg [(.int .i64 p3), (.int .i64 p4)]), (.agg [(.int .i64 p5), (.int .i64 p6)])] K = wv_r02_Mark a0 a1 a2 a3 a4 a5 a6 a7 a8 a9 p0 p1 p2 p3 p4 p5 p6 (fun r0 r1 r2 => K (.tup [(.agg [(.int .i64 r0), (.int .i64 r1)]), (.int .i64 r2)])) := by kernel_rfl
theorem ok_r02_Mark : OkF E wp_r02_Mark n_r02_Mark := by
 intro as K h
 unfold wp_r02_Mark pw_r02_Mark at h
 split at h
 · exact WP_ok se0_r02_Mark (LpOk_by (l := [(63725400, b_63725400)]) ⟨loop_r02_Mark_0, trivial⟩ (by kernel_rfl)) (by kernel_rfl) (by kernel_rfl) (fun _ => baseC_none (by kernel_rfl) _) ((eq_r02_Mark ..).mpr h)
 · exact h.elim
end Go.Pf.Vc
namespace Go.Pf.Vc
open Go Go.Pf
set_option linter.unusedVariables false
theorem det_r02_Check (p0 : Int) (p1 : List PV) (p2 : List PV) (r0 : Int) (h : ∀ K : Int → Prop, K r0 → w_r02_Check p0 p1 p2 K) (K : Int → Prop) : w_r02_Check p0 p1 p2 K = K r0 :=
 propext ⟨fun k => detC ok_r02_Check (as := [(.agg [(.int .i64 p0), (.data p1), (.data p2)])]) (x := (.int .i64 r0)) (fun K' k' => h (fun r0 => K' (.int .i64 r0)) k') (K := fun x => match x with | (.int .i64 r0) => K r0 | _ => False) k, h K⟩
theorem det_r02_Whole (p0 : Int) (p1 : List PV) (p2 : List PV) (r0 : Int) (h : ∀ K : Int → Prop, K r0 → w_r02_Whole p0 p1 p2 K) (K : Int → Prop) : w_r02_Whole p0 p1 p2 K = K r0 :=
 propext ⟨fun k => detC ok_r02_Whole (as := [(.agg [(.int .i64 p0), (.data p1), (.data p2)])]) (x := (.int .i64 r0)) (fun K' k' => h (fun r0 => K' (.int .i64 r0)) k') (K := fun x => match x with | (.int .i64 r0) => K r0 | _ => False) k, h K⟩
theorem det_r02_Value (p0 : Int) (p1 : List PV) (p2 : List PV) (p3 : Int) (p4 : Int) (p5 : Int) (p6 : Int) (r0 : Int) (r1 : Int) (r2 : Int) (h : ∀ K : Int → Int → Int → Prop, K r0 r1 r2 → w_r02_Value p0 p1 p2 p3 p4 p5 p6 K) (K : Int → Int → Int → Prop) : w_r02_Value p0 p1 p2 p3 p4 p5 p6 K = K r0 r1 r2 :=
 propext ⟨fun k => detC ok_r02_Value (as := [(.agg [(.int .i64 p0), (.data p1), (.data p2)]), (.agg [(.int .i64 p3), (.int .i64 p4)]), (.agg [(.int .i64 p5), (.int .i64 p6)])]) (x := (.tup [(.agg [(.int .i64 r0), (.int .i64 r1)]), (.int .i64 r2)])) (fun K' k' => h (fun r0 r1 r2 => K' (.tup [(.agg [(.int .i64 r0), (.int .i64 r1)]), (.int .i64 r2)])) k') (K := fun x => match x with | (.tup [(.agg [(.int .i64 r0), (.int .i64 r1)]), (.int .i64 r2)]) => K r0 r1 r2 | _ => False) k, h K⟩
theorem det_r02_Mark (p0 : Int) (p1 : List PV) (p2 : List PV) (p3 : Int) (p4 : Int) (p5 : Int) (p6 : Int) (r0 : Int) (r1 : Int) (r2 : Int) (h : ∀ K : Int → Int → Int → Prop, K r0 r1 r2 → w_r02_Mark p0 p1 p2 p3 p4 p5 p6 K) (K : Int → Int → Int → Prop) : w_r02_Mark p0 p1 p2 p3 p4 p5 p6 K = K r0 r1 r2 :=
 propext ⟨fun k => detC ok_r02_Mark (as := [(.agg [(.int .i64 p0), (.data p1), (.data p2)]), (.agg [(.int .i64 p3), (.int .i64 p4)]), (.agg [(.int .i64 p5), (.int .i64 p6)])]) (x := (.tup [(.agg [(.int .i64 r0), (.int .i64 r1)]), (.int .i64 r2)])) (fun K' k' => h (fun r0 r1 r2 => K' (.tup [(.agg [(.int .i64 r0), (.int .i64 r1)]), (.int .i64 r2)])) k') (K := fun x => match x with | (.tup [(.agg [(.int .i64 r0), (.int .i64 r1)]), (.int .i64 r2)]) => K r0 r1 r2 | _ => False) k, h K⟩
end Go.Pf.Vc
namespace Go.Pf.Vc
open Go Go.Pf
set_option maxRecDepth 100000
abbrev T_r04_GreatCakes : Type := List PV → (Bool → Prop) → Prop
def L_r04_GreatCakes_0_0 (a0 : T_r02_Great) (x0 : Bool → Prop) (x1 : List PV → Int → Bool → Prop) : Nat → List PV → Int → Prop
 | 0, _, _ => False
 | n + 1, l0, i1 =>
 (cbr (decide (i1 < (((List.length l0) : Nat) : Int)))
 (asr (decide ((0 : Int) ≤ i1))
 (asr (decide (i1 < (((List.length l0) : Nat) : Int)))
 (asr (conf (.agg [.i .i64, .d, .d]) (List.getD l0 (i1.toNat) .nils))
 (a0 (intOfV (cellAt (List.getD l0 (i1.toNat) .nils) 0)) (datOfV (cellAt (List.getD l0 (i1.toNat) .nils) 1)) (datOfV (cellAt (List.getD l0 (i1.toNat) .nils) 2)) (fun yb0 => 
 (cbr yb0
 (x0 true)
 (L_r04_GreatCakes_0_0 a0 x0 x1 n l0 (IntKind.i64.wrap (i1 + (1 : Int))))))))))
 (x1 l0 i1 false))
def wv_r04_GreatCakes (a0 : T_r02_Great) (p0 : List PV) (K : Bool → Prop) : Prop :=
 (∃ n : Nat, L_r04_GreatCakes_0_0 a0
 (fun yb1 => (K yb1))
 (fun yl2 _ _ => (K (decide ((((List.length yl2) : Nat) : Int) > (10 : Int)))))
 n p0 (0 : Int))
def w_r04_GreatCakes (p0 : List PV) (K : Bool → Prop) : Prop := wv_r04_GreatCakes w_r02_Great p0 K
def pw_r04_GreatCakes (w : T_r04_GreatCakes) (as : List PV) (K : PV → Prop) : Prop :=
 match as with
 | [(.data p0)] => w p0 (fun r0 => K (.bool r0))
 | _ => False
def wp_r04_GreatCakes (as : List PV) (K : PV → Prop) : Prop := pw_r04_GreatCakes w_r04_GreatCakes as K
def D_r04_GreatCakes_0 (F : Frm) (H : Hp) (A0 : List PV → Int → Prop) : Prop :=
 match F, H with
 | [(0, .v (.data l0)), (3, .v (.int .i64 i1))], [] => (A0 l0 i1)
 | _, _ => False
def R_r04_GreatCakes_0 (a0 : T_r02_Great) (Q : Ex → Frm → Hp → Prop) (n : Nat) (F : Frm) (H : Hp) : Prop := D_r04_GreatCakes_0 F H (fun l0 i1 => L_r04_GreatCakes_0_0 a0 (fun b0 => Q .ret [(2, .v (.bool b0))] []) (fun l0 i1 b2 => Q (.exit 0) [(0, .v (.data l0)), (3, .v (.int .i64 i1)), (7, .v (.bool b2))] []) n l0 i1)
def lp_r04_GreatCakes (a0 : T_r02_Great) : LP := fun id F H Q =>
 bif Nat.beq id 4277600 then D_r04_GreatCakes_0 F H (fun l0 i1 => ∃ n : Nat, L_r04_GreatCakes_0_0 a0 (fun b0 => Q .ret [(2, .v (.bool b0))] []) (fun l0 i1 b2 => Q (.exit 0) [(0, .v (.data l0)), (3, .v (.int .i64 i1)), (7, .v (.bool b2))] []) n l0 i1) else
 False
def S0_r04_GreatCakes (a0 : T_r02_Great) : SE := ⟨E, lookS [(n_r02_Great, pw_r02_Great a0)], lookI [], lp_r04_GreatCakes a0⟩
theorem se0_r04_GreatCakes : SEOk (S0_r04_GreatCakes w_r02_Great) := seOk_of ⟨ok_r02_Great, trivial⟩ trivial
theorem body_r04_GreatCakes_0_0 (a0 Q n l0 i1) : WC E (callW (S0_r04_GreatCakes a0) 5) (lp_r04_GreatCakes a0) b_4277600 [(0, .v (.data l0)), (3, .v (.int .i64 i1))] [] (fun x F' H' => match x with | .norm => R_r04_GreatCakes_0 a0 Q n F' H' | .exit i => Q (.exit i) F' H' | .ret => Q .ret F' H') = L_r04_GreatCakes_0_0 a0 (fun b0 => Q .ret [(2, .v (.bool b0))] []) (fun l0 i1 b2 => Q (.exit 0) [(0, .v (.data l0)), (3, .v (.int .i64 i1)), (7, .v (.bool b2))] []) (n + 1) l0 i1 := by kernel_rfl
theorem lpb_r04_GreatCakes_0 : LpOk E (lp_r04_GreatCakes w_r02_Great) b_4277600 := (LpOk_no (by kernel_rfl))
theorem loop_r04_GreatCakes_0 : ∀ F H Q, lp_r04_GreatCakes w_r02_Great 4277600 F H Q → LoopT E b_4277600 F H Q := by
 intro F H Q h
 have go := LoopT.intro (callW_ok se0_r04_GreatCakes 5) lpb_r04_GreatCakes_0 (R_r04_GreatCakes_0 w_r02_Great Q) (by
   intro F H h
   unfold R_r04_GreatCakes_0 D_r04_GreatCakes_0 at h
   split at h
   · exact h
   · exact h) (by
   intro n F H h
   unfold R_r04_GreatCakes_0 D_r04_GreatCakes_0 at h
   split at h
   · exact (body_r04_GreatCakes_0_0 ..).mpr h
   · exact h.elim)
 have h : D_r04_GreatCakes_0 F H _ := h
 unfold D_r04_GreatCakes_0 at h
 split at h
 · obtain ⟨n, h⟩ := h; exact go n _ _ h
 · exact h.elim
theorem eq_r04_GreatCakes (a0 p0 K) : WP (S0_r04_GreatCakes a0) 6 t_r04_GreatCakes [(.data p0)] K = wv_r04_GreatCakes a0 p0 (fun r0 => K (.bool r0)) := by kernel_rfl
theorem ok_r04_GreatCakes : OkF E wp_r04_GreatCakes n_r04_GreatCakes := by
 intro as K h
 unfold wp_r04_GreatCakes pw_r04_GreatCakes at h
 split at h
 · exact WP_ok se0_r04_GreatCakes (LpOk_by (l := [(4277600, b_4277600)]) ⟨loop_r04_GreatCakes_0, trivial⟩ (by kernel_rfl)) (by kernel_rfl) (by kernel_rfl) (fun _ => baseC_none (by kernel_rfl) _) ((eq_r04_GreatCakes ..).mpr h)
 · exact h.elim
abbrev T_r04_Check : Type := List PV → List PV → (Int → Prop) → Prop
def L_r04_Check_0_0 (a0 : T_r02_Check) (x6981300_0 : Int → Prop) (x6981300_1 : List PV → List PV → Int → Bool → Prop) : Nat → List PV → List PV → Int → Prop
 | 0, _, _, _ => False
 | n6981300 + 1, l0, l1, i2 =>
 (cbr (decide (i2 < (((List.length l0) : Nat) : Int)))
 (asr (decide ((0 : Int) ≤ i2))
 (asr (decide (i2 < (((List.length l0) : Nat) : Int)))
 (asr (conf (.agg [.i .i64, .d, .d]) (List.getD l0 (i2.toNat) .nils))
 (a0 (intOfV (cellAt (List.getD l0 (i2.toNat) .nils) 0)) (datOfV (cellAt (List.getD l0 (i2.toNat) .nils) 1)) (datOfV (cellAt (List.getD l0 (i2.toNat) .nils) 2)) (fun yi0 => 
 (cbr (yi0 != (0 : Int))
 (asr (decide ((0 : Int) ≤ i2))
 (asr (decide (i2 < (((List.length l0) : Nat) : Int)))
 (asr (conf (.agg [.i .i64, .d, .d]) (List.getD l0 (i2.toNat) .nils))
 (a0 (intOfV (cellAt (List.getD l0 (i2.toNat) .nils) 0)) (datOfV (cellAt (List.getD l0 (i2.toNat) .nils) 1)) (datOfV (cellAt (List.getD l0 (i2.toNat) .nils) 2)) (fun yi1 => 
 (x6981300_0 yi1))))))
 (L_r04_Check_0_0 a0 x6981300_0 x6981300_1 n6981300 l0 l1 (IntKind.i64.wrap (i2 + (1 : Int))))))))))
 (x6981300_1 l0 l1 i2 false))
def L_r04_Check_1_0 (a0 : T_r02_Check) (x6981301_0 : Int → Prop) (x6981301_1 : List PV → List PV → Int → Bool → Prop) : Nat → List PV → List PV → Int → Prop
 | 0, _, _, _ => False
 | n6981301 + 1, l0, l1, i2 =>
 (cbr (decide (i2 < (((List.length l0) : Nat) : Int)))
 (asr (decide ((0 : Int) ≤ i2))
 (asr (decide (i2 < (((List.length l0) : Nat) : Int)))
 (asr (conf (.agg [.i .i64, .d, .d]) (List.getD l0 (i2.toNat) .nils))
 (asr (decide ((0 : Int) < (((List.length l0) : Nat) : Int)))
 (asr (conf (.agg [.i .i64, .d, .d]) (List.getD l0 0 .nils))
 (cbr ((intOfV (cellAt (List.getD l0 (i2.toNat) .nils) 0)) != (intOfV (cellAt (List.getD l0 0 .nils) 0)))
 (x6981301_0 (8 : Int))
 (L_r04_Check_1_0 a0 x6981301_0 x6981301_1 n6981301 l0 l1 (IntKind.i64.wrap (i2 + (1 : Int))))))))))
 (x6981301_1 l0 l1 i2 false))
def wv_r04_Check (a0 : T_r02_Check) (p0 p1 : List PV) (K : Int → Prop) : Prop :=
 (cbr (decide ((((List.length p0) : Nat) : Int) > (6 : Int)))
 (K (4 : Int))
 (cbr (decide ((((List.length p1) : Nat) : Int) > (2000 : Int)))
 (K (4 : Int))
 (cbr ((((List.length p0) : Nat) : Int) == (0 : Int))
 (K (8 : Int))
 (∃ n6981300 : Nat, L_r04_Check_0_0 a0
 (fun yi2 => (K yi2))
 (fun yl3 yl4 _ _ => (∃ n6981301 : Nat, L_r04_Check_1_0 a0
 (fun yi7 => (K yi7))
 (fun _ _ _ _ => (K (0 : Int)))
 n6981301 yl3 yl4 (0 : Int)))
 n6981300 p0 p1 (0 : Int)))))
def w_r04_Check (p0 p1 : List PV) (K : Int → Prop) : Prop := wv_r04_Check w_r02_Check p0 p1 K
def pw_r04_Check (w : T_r04_Check) (as : List PV) (K : PV → Prop) : Prop :=
 match as with
 | [(.agg [(.data p0), (.data p1)])] => w p0 p1 (fun r0 => K (.int .i64 r0))
 | _ => False
def wp_r04_Check (as : List PV) (K : PV → Prop) : Prop := pw_r04_Check w_r04_Check as K
def D_r04_Check_0 (F : Frm) (H : Hp) (A0 : List PV → List PV → Int → Prop) : Prop :=
 match F, H with
 | [(1, .box (.agg [(.data l0), (.data l1)])), (3, .v (.int .i64 i2))], [] => (A0 l0 l1 i2)
 | _, _ => False
def D_r04_Check_1 (F : Frm) (H : Hp) (A0 : List PV → List PV → Int → Prop) : Prop :=
 match F, H with
 | [(1, .box (.agg [(.data l0), (.data l1)])), (4, .v (.int .i64 i2))], [] => (A0 l0 l1 i2)
 | _, _ => False
def R_r04_Check_0 (a0 : T_r02_Check) (Q : Ex → Frm → Hp → Prop) (n : Nat) (F : Frm) (H : Hp) : Prop := D_r04_Check_0 F H (fun l0 l1 i2 => L_r04_Check_0_0 a0 (fun i0 => Q .ret [(2, .v (.int .i64 i0))] []) (fun l0 l1 i2 b3 => Q (.exit 0) [(1, .box (.agg [(.data l0), (.data l1)])), (3, .v (.int .i64 i2)), (23, .v (.bool b3))] []) n l0 l1 i2)
def R_r04_Check_1 (a0 : T_r02_Check) (Q : Ex → Frm → Hp → Prop) (n : Nat) (F : Frm) (H : Hp) : Prop := D_r04_Check_1 F H (fun l0 l1 i2 => L_r04_Check_1_0 a0 (fun i0 => Q .ret [(2, .v (.int .i64 i0))] []) (fun l0 l1 i2 b3 => Q (.exit 2) [(1, .box (.agg [(.data l0), (.data l1)])), (4, .v (.int .i64 i2)), (43, .v (.bool b3))] []) n l0 l1 i2)
def lp_r04_Check (a0 : T_r02_Check) : LP := fun id F H Q =>
 bif Nat.beq id 6981300 then D_r04_Check_0 F H (fun l0 l1 i2 => ∃ n : Nat, L_r04_Check_0_0 a0 (fun i0 => Q .ret [(2, .v (.int .i64 i0))] []) (fun l0 l1 i2 b3 => Q (.exit 0) [(1, .box (.agg [(.data l0), (.data l1)])), (3, .v (.int .i64 i2)), (23, .v (.bool b3))] []) n l0 l1 i2) else
 bif Nat.beq id 6981301 then D_r04_Check_1 F H (fun l0 l1 i2 => ∃ n : Nat, L_r04_Check_1_0 a0 (fun i0 => Q .ret [(2, .v (.int .i64 i0))] []) (fun l0 l1 i2 b3 => Q (.exit 2) [(1, .box (.agg [(.data l0), (.data l1)])), (4, .v (.int .i64 i2)), (43, .v (.bool b3))] []) n l0 l1 i2) else
 False
def S0_r04_Check (a0 : T_r02_Check) : SE := ⟨E, lookS [(n_r02_Check, pw_r02_Check a0)], lookI [], lp_r04_Check a0⟩
theorem se0_r04_Check : SEOk (S0_r04_Check w_r02_Check) := seOk_of ⟨ok_r02_Check, trivial⟩ trivial
theorem body_r04_Check_0_0 (a0 Q n l0 l1 i2) : WC E (callW (S0_r04_Check a0) 5) (lp_r04_Check a0) b_6981300 [(1, .box (.agg [(.data l0), (.data l1)])), (3, .v (.int .i64 i2))] [] (fun x F' H' => match x with | .norm => R_r04_Check_0 a0 Q n F' H' | .exit i => Q (.exit i) F' H' | .ret => Q .ret F' H') = L_r04_Check_0_0 a0 (fun i0 => Q .ret [(2, .v (.int .i64 i0))] []) (fun l0 l1 i2 b3 => Q (.exit 0) [(1, .box (.agg [(.data l0), (.data l1)])), (3, .v (.int .i64 i2)), (23, .v (.bool b3))] []) (n + 1) l0 l1 i2 := by kernel_rfl
theorem lpb_r04_Check_0 : LpOk E (lp_r04_Check w_r02_Check) b_6981300 := (LpOk_no (by kernel_rfl))
theorem loop_r04_Check_0 : ∀ F H Q, lp_r04_Check w_r02_Check 6981300 F H Q → LoopT E b_6981300 F H Q := by
 intro F H Q h
 have go := LoopT.intro (callW_ok se0_r04_Check 5) lpb_r04_Check_0 (R_r04_Check_0 w_r02_Check Q) (by
   intro F H h
   unfold R_r04_Check_0 D_r04_Check_0 at h
   split at h
   · exact h
   · exact h) (by
   intro n F H h
   unfold R_r04_Check_0 D_r04_Check_0 at h
   split at h
   · exact (body_r04_Check_0_0 ..).mpr h
   · exact h.elim)
 have h : D_r04_Check_0 F H _ := h
 unfold D_r04_Check_0 at h
 split at h
 · obtain ⟨n, h⟩ := h; exact go n _ _ h
 · exact h.elim
theorem body_r04_Check_1_0 (a0 Q n l0 l1 i2) : WC E (callW (S0_r04_Check a0) 5) (lp_r04_Check a0) b_6981301 [(1, .box (.agg [(.data l0), (.data l1)])), (4, .v (.int .i64 i2))] [] (fun x F' H' => match x with | .norm => R_r04_Check_1 a0 Q n F' H' | .exit i => Q (.exit i) F' H' | .ret => Q .ret F' H') = L_r04_Check_1_0 a0 (fun i0 => Q .ret [(2, .v (.int .i64 i0))] []) (fun l0 l1 i2 b3 => Q (.exit 2) [(1, .box (.agg [(.data l0), (.data l1)])), (4, .v (.int .i64 i2)), (43, .v (.bool b3))] []) (n + 1) l0 l1 i2 := by kernel_rfl
theorem lpb_r04_Check_1 : LpOk E (lp_r04_Check w_r02_Check) b_6981301 := (LpOk_no (by kernel_rfl))
theorem loop_r04_Check_1 : ∀ F H Q, lp_r04_Check w_r02_Check 6981301 F H Q → LoopT E b_6981301 F H Q := by
 intro F H Q h
 have go := LoopT.intro (callW_ok se0_r04_Check 5) lpb_r04_Check_1 (R_r04_Check_1 w_r02_Check Q) (by
   intro F H h
   unfold R_r04_Check_1 D_r04_Check_1 at h
   split at h
   · exact h
   · exact h) (by
   intro n F H h
   unfold R_r04_Check_1 D_r04_Check_1 at h
   split at h
   · exact (body_r04_Check_1_0 ..).mpr h
   · exact h.elim)
 have h : D_r04_Check_1 F H _ := h
 unfold D_r04_Check_1 at h
 split at h
 · obtain ⟨n, h⟩ := h; exact go n _ _ h
 · exact h.elim
theorem eq_r04_Check (a0 p0 p1 K) : WP (S0_r04_Check a0) 6 t_r04_Check [(.agg [(.data p0), (.data p1)])] K = wv_r04_Check a0 p0 p1 (fun r0 => K (.int .i64 r0)) := by kernel_rfl
theorem ok_r04_Check : OkF E wp_r04_Check n_r04_Check := by
 intro as K h
 unfold wp_r04_Check pw_r04_Check at h
 split at h
 · exact WP_ok se0_r04_Check (LpOk_by (l := [(6981300, b_6981300), (6981301, b_6981301)]) ⟨loop_r04_Check_0, loop_r04_Check_1, trivial⟩ (by kernel_rfl)) (by kernel_rfl) (by kernel_rfl) (fun _ => baseC_none (by kernel_rfl) _) ((eq_r04_Check ..).mpr h)
 · exact h.elim
abbrev T_r04_Twins : Type := List PV → (List PV → Prop) → Prop
mutual
def L_r04_Twins_0_0 (a0 : T_r02_Twin) (x0 : List PV → List PV → Int → Bool → Prop) (x1 : List PV → Int → Bool → Prop) : Nat → List PV → Int → Prop
 | 0, _, _ => False
 | n + 1, l0, i1 =>
 (cbr (decide (i1 < (((List.length l0) : Nat) : Int)))
 (asr (decide ((0 : Int) ≤ i1))
 (asr (decide (i1 < (((List.length l0) : Nat) : Int)))
 (asr (conf (.agg [.i .i64, .d, .d]) (List.getD l0 (i1.toNat) .nils))
 (a0 (intOfV (cellAt (List.getD l0 (i1.toNat) .nils) 0)) (datOfV (cellAt (List.getD l0 (i1.toNat) .nils) 1)) (datOfV (cellAt (List.getD l0 (i1.toNat) .nils) 2)) (fun yi0 yl1 yl2 => 
 (asr (decide ((List.length ([(.agg [(.int .i64 yi0), (.data yl1), (.data yl2)])] : List PV)) = List.length ([(.agg [(.int .i64 yi0), (.data yl1), (.data yl2)])] : List PV)) && decide ((List.length ([(.agg [(.int .i64 yi0), (.data yl1), (.data yl2)])] : List PV)) = List.length ([(.agg [(.int .i64 yi0), (.data yl1), (.data yl2)])] : List PV)))
 (L_r04_Twins_0_1 a0 x0 x1 n ([(.agg [(.int .i64 yi0), (.data yl1), (.data yl2)])] : List PV) l0 (IntKind.i64.wrap (i1 + (1 : Int))))))))))
 (x1 l0 i1 false))
def L_r04_Twins_0_1 (a0 : T_r02_Twin) (x0 : List PV → List PV → Int → Bool → Prop) (x1 : List PV → Int → Bool → Prop) : Nat → List PV → List PV → Int → Prop
 | 0, _, _, _ => False
 | n + 1, l0, l1, i4 =>
 (cbr (decide (i4 < (((List.length l1) : Nat) : Int)))
 (asr (decide ((0 : Int) ≤ i4))
 (asr (decide (i4 < (((List.length l1) : Nat) : Int)))
 (asr (conf (.agg [.i .i64, .d, .d]) (List.getD l1 (i4.toNat) .nils))
 (a0 (intOfV (cellAt (List.getD l1 (i4.toNat) .nils) 0)) (datOfV (cellAt (List.getD l1 (i4.toNat) .nils) 1)) (datOfV (cellAt (List.getD l1 (i4.toNat) .nils) 2)) (fun yi3 yl4 yl5 => 
 (asr (decide ((List.length l0) = (List.length l0)))
 (asr (decide ((0 + (List.length l0)) ≤ (List.length l0)))
 (asr (!(decide (((0 + (List.length l0)) + 1) ≤ (List.length l0))))
 (asr (decide ((List.length l0) = (List.length l0)))
 (asr (decide ((((List.length l0) + 1) + 64) * (56 + 1) ≤ room))
 (asr (decide ((List.length (l0 ++ ([(.agg [(.int .i64 yi3), (.data yl4), (.data yl5)])] : List PV))) = List.length (l0 ++ ([(.agg [(.int .i64 yi3), (.data yl4), (.data yl5)])] : List PV))) && decide ((List.length (l0 ++ ([(.agg [(.int .i64 yi3), (.data yl4), (.data yl5)])] : List PV))) = List.length (l0 ++ ([(.agg [(.int .i64 yi3), (.data yl4), (.data yl5)])] : List PV))))
 (L_r04_Twins_0_1 a0 x0 x1 n (l0 ++ ([(.agg [(.int .i64 yi3), (.data yl4), (.data yl5)])] : List PV)) l1 (IntKind.i64.wrap (i4 + (1 : Int)))))))))))))))
 (x0 l0 l1 i4 false))
end
def wv_r04_Twins (a0 : T_r02_Twin) (p0 : List PV) (K : List PV → Prop) : Prop :=
 (∃ n : Nat, L_r04_Twins_0_0 a0
 (fun yl6 _ _ _ => (asr (decide ((List.length yl6) = (List.length yl6)))
 (asr (decide ((0 + (List.length yl6)) ≤ (List.length yl6)))
 (K (List.take (List.length yl6) yl6)))))
 (fun _ _ _ => (K ([] : List PV)))
 n p0 (0 : Int))
def w_r04_Twins (p0 : List PV) (K : List PV → Prop) : Prop := wv_r04_Twins w_r02_Twin p0 K
def pw_r04_Twins (w : T_r04_Twins) (as : List PV) (K : PV → Prop) : Prop :=
 match as with
 | [(.data p0)] => w p0 (fun r0 => K (.data r0))
 | _ => False
def wp_r04_Twins (as : List PV) (K : PV → Prop) : Prop := pw_r04_Twins w_r04_Twins as K
def D_r04_Twins_0 (F : Frm) (H : Hp) (A0 : List PV → Int → Prop) (A1 : List PV → List PV → Int → Prop) : Prop :=
 match F, H with
 | [(0, .v (.data l0)), (3, .v .nils), (4, .v (.int .i64 i1))], [] => (A0 l0 i1)
 | [(0, .v (.data l1)), (3, .v (.own 0 0 t2 t3 none)), (4, .v (.int .i64 i4))], [⟨false, true, 3, l0⟩] => asr (decide (t2 = List.length l0) && decide (t3 = List.length l0)) (A1 l0 l1 i4)
 | _, _ => False
def R_r04_Twins_0 (a0 : T_r02_Twin) (Q : Ex → Frm → Hp → Prop) (n : Nat) (F : Frm) (H : Hp) : Prop := D_r04_Twins_0 F H (fun l0 i1 => L_r04_Twins_0_0 a0 (fun l0 l1 i4 b5 => Q (.exit 0) [(0, .v (.data l1)), (3, .v (.own 0 0 (List.length l0) (List.length l0) none)), (4, .v (.int .i64 i4)), (8, .v (.bool b5))] [⟨false, true, 3, l0⟩]) (fun l0 i1 b2 => Q (.exit 0) [(0, .v (.data l0)), (3, .v .nils), (4, .v (.int .i64 i1)), (8, .v (.bool b2))] []) n l0 i1) (fun l0 l1 i4 => L_r04_Twins_0_1 a0 (fun l0 l1 i4 b5 => Q (.exit 0) [(0, .v (.data l1)), (3, .v (.own 0 0 (List.length l0) (List.length l0) none)), (4, .v (.int .i64 i4)), (8, .v (.bool b5))] [⟨false, true, 3, l0⟩]) (fun l0 i1 b2 => Q (.exit 0) [(0, .v (.data l0)), (3, .v .nils), (4, .v (.int .i64 i1)), (8, .v (.bool b2))] []) n l0 l1 i4)
def lp_r04_Twins (a0 : T_r02_Twin) : LP := fun id F H Q =>
 bif Nat.beq id 44560800 then D_r04_Twins_0 F H (fun l0 i1 => ∃ n : Nat, L_r04_Twins_0_0 a0 (fun l0 l1 i4 b5 => Q (.exit 0) [(0, .v (.data l1)), (3, .v (.own 0 0 (List.length l0) (List.length l0) none)), (4, .v (.int .i64 i4)), (8, .v (.bool b5))] [⟨false, true, 3, l0⟩]) (fun l0 i1 b2 => Q (.exit 0) [(0, .v (.data l0)), (3, .v .nils), (4, .v (.int .i64 i1)), (8, .v (.bool b2))] []) n l0 i1) (fun l0 l1 i4 => ∃ n : Nat, L_r04_Twins_0_1 a0 (fun l0 l1 i4 b5 => Q (.exit 0) [(0, .v (.data l1)), (3, .v (.own 0 0 (List.length l0) (List.length l0) none)), (4, .v (.int .i64 i4)), (8, .v (.bool b5))] [⟨false, true, 3, l0⟩]) (fun l0 i1 b2 => Q (.exit 0) [(0, .v (.data l0)), (3, .v .nils), (4, .v (.int .i64 i1)), (8, .v (.bool b2))] []) n l0 l1 i4) else
 False
def S0_r04_Twins (a0 : T_r02_Twin) : SE := ⟨E, lookS [(n_r02_Twin, pw_r02_Twin a0)], lookI [], lp_r04_Twins a0⟩
theorem se0_r04_Twins : SEOk (S0_r04_Twins w_r02_Twin) := seOk_of ⟨ok_r02_Twin, trivial⟩ trivial
theorem body_r04_Twins_0_0 (a0 Q n l0 i1) : WC E (callW (S0_r04_Twins a0) 5) (lp_r04_Twins a0) b_44560800 [(0, .v (.data l0)), (3, .v .nils), (4, .v (.int .i64 i1))] [] (fun x F' H' => match x with | .norm => R_r04_Twins_0 a0 Q n F' H' | .exit i => Q (.exit i) F' H' | .ret => Q .ret F' H') = L_r04_Twins_0_0 a0 (fun l0 l1 i4 b5 => Q (.exit 0) [(0, .v (.data l1)), (3, .v (.own 0 0 (List.length l0) (List.length l0) none)), (4, .v (.int .i64 i4)), (8, .v (.bool b5))] [⟨false, true, 3, l0⟩]) (fun l0 i1 b2 => Q (.exit 0) [(0, .v (.data l0)), (3, .v .nils), (4, .v (.int .i64 i1)), (8, .v (.bool b2))] []) (n + 1) l0 i1 := by kernel_rfl
theorem body_r04_Twins_0_1 (a0 Q n l0 l1 i4) : WC E (callW (S0_r04_Twins a0) 5) (lp_r04_Twins a0) b_44560800 [(0, .v (.data l1)), (3, .v (.own 0 0 (List.length l0) (List.length l0) none)), (4, .v (.int .i64 i4))] [⟨false, true, 3, l0⟩] (fun x F' H' => match x with | .norm => R_r04_Twins_0 a0 Q n F' H' | .exit i => Q (.exit i) F' H' | .ret => Q .ret F' H') = L_r04_Twins_0_1 a0 (fun l0 l1 i4 b5 => Q (.exit 0) [(0, .v (.data l1)), (3, .v (.own 0 0 (List.length l0) (List.length l0) none)), (4, .v (.int .i64 i4)), (8, .v (.bool b5))] [⟨false, true, 3, l0⟩]) (fun l0 i1 b2 => Q (.exit 0) [(0, .v (.data l0)), (3, .v .nils), (4, .v (.int .i64 i1)), (8, .v (.bool b2))] []) (n + 1) l0 l1 i4 := by kernel_rfl
theorem lpb_r04_Twins_0 : LpOk E (lp_r04_Twins w_r02_Twin) b_44560800 := (LpOk_no (by kernel_rfl))
theorem loop_r04_Twins_0 : ∀ F H Q, lp_r04_Twins w_r02_Twin 44560800 F H Q → LoopT E b_44560800 F H Q := by
 intro F H Q h
 have go := LoopT.intro (callW_ok se0_r04_Twins 5) lpb_r04_Twins_0 (R_r04_Twins_0 w_r02_Twin Q) (by
   intro F H h
   unfold R_r04_Twins_0 D_r04_Twins_0 at h
   split at h
   · exact h
   · obtain ⟨hg, k⟩ := asr_iff.1 h
     clear h
     have h := k
     clear k
     try simp only [Bool.and_eq_true, decide_eq_true_eq] at hg
     obtain ⟨g0, g1⟩ := hg; subst g0; subst g1; exact h
   · exact h) (by
   intro n F H h
   unfold R_r04_Twins_0 D_r04_Twins_0 at h
   split at h
   · exact (body_r04_Twins_0_0 ..).mpr h
   · obtain ⟨hg, k⟩ := asr_iff.1 h
     clear h
     have h := k
     clear k
     try simp only [Bool.and_eq_true, decide_eq_true_eq] at hg
     obtain ⟨g0, g1⟩ := hg; subst g0; subst g1; exact (body_r04_Twins_0_1 ..).mpr h
   · exact h.elim)
 have h : D_r04_Twins_0 F H _ _ := h
 unfold D_r04_Twins_0 at h
 split at h
 · obtain ⟨n, h⟩ := h; exact go n _ _ h
 · obtain ⟨hg, n, h⟩ := asr_iff.1 h; exact go n _ _ (asr_iff.2 ⟨hg, h⟩)
 · exact h.elim
theorem eq_r04_Twins (a0 p0 K) : WP (S0_r04_Twins a0) 6 t_r04_Twins [(.data p0)] K = wv_r04_Twins a0 p0 (fun r0 => K (.data r0)) := by kernel_rfl
theorem ok_r04_Twins : OkF E wp_r04_Twins n_r04_Twins := by
 intro as K h
 unfold wp_r04_Twins pw_r04_Twins at h
 split at h
 · exact WP_ok se0_r04_Twins (LpOk_by (l := [(44560800, b_44560800)]) ⟨loop_r04_Twins_0, trivial⟩ (by kernel_rfl)) (by kernel_rfl) (by kernel_rfl) (fun _ => baseC_none (by kernel_rfl) _) ((eq_r04_Twins ..).mpr h)
 · exact h.elim
abbrev T_r04_Open : Type := List PV → (List PV → List PV → Int → Prop) → Prop
def wv_r04_Open (a0 : T_r04_Check) (a1 : T_r04_Twins) (p0 : List PV) (K : List PV → List PV → Int → Prop) : Prop :=
 (a0 p0 ([] : List PV) (fun yi0 => 
 (cbr (yi0 != (0 : Int))
 (a0 p0 ([] : List PV) (fun yi1 => 
 (K ([] : List PV) ([] : List PV) yi1)))
 (a1 p0 (fun yl2 => 
 (K yl2 ([] : List PV) (0 : Int)))))))
def w_r04_Open (p0 : List PV) (K : List PV → List PV → Int → Prop) : Prop := wv_r04_Open w_r04_Check w_r04_Twins p0 K
def pw_r04_Open (w : T_r04_Open) (as : List PV) (K : PV → Prop) : Prop :=
 match as with
 | [(.data p0)] => w p0 (fun r0 r1 r2 => K (.tup [(.agg [(.data r0), (.data r1)]), (.int .i64 r2)]))
 | _ => False
def wp_r04_Open (as : List PV) (K : PV → Prop) : Prop := pw_r04_Open w_r04_Open as K
def lp_r04_Open (_ : T_r04_Check) (_ : T_r04_Twins) : LP := fun _ _ _ _ =>
 False
def S0_r04_Open (a0 : T_r04_Check) (a1 : T_r04_Twins) : SE := ⟨E, lookS [(n_r04_Check, pw_r04_Check a0), (n_r04_Twins, pw_r04_Twins a1)], lookI [], lp_r04_Open a0 a1⟩
theorem se0_r04_Open : SEOk (S0_r04_Open w_r04_Check w_r04_Twins) := seOk_of ⟨ok_r04_Check, ok_r04_Twins, trivial⟩ trivial
theorem eq_r04_Open (a0 a1 p0 K) : WP (S0_r04_Open a0 a1) 6 t_r04_Open [(.data p0)] K = wv_r04_Open a0 a1 p0 (fun r0 r1 r2 => K (.tup [(.agg [(.data r0), (.data r1)]), (.int .i64 r2)])) := by kernel_rfl
theorem ok_r04_Open : OkF E wp_r04_Open n_r04_Open := by
 intro as K h
 unfold wp_r04_Open pw_r04_Open at h
 split at h
 · exact WP_ok se0_r04_Open (LpOk_no (by kernel_rfl)) (by kernel_rfl) (by kernel_rfl) (fun _ => baseC_none (by kernel_rfl) _) ((eq_r04_Open ..).mpr h)
 · exact h.elim
abbrev T_r04_Agent : Type := List PV → List PV → Int → (Bool → Prop) → Prop
def wv_r04_Agent (p0 _ : List PV) (p2 : Int) (K : Bool → Prop) : Prop :=
 (cbr (decide (p2 ≥ (0 : Int)))
 (K (decide (p2 < (((List.length p0) : Nat) : Int))))
 (K false))
def w_r04_Agent (p0 p1 : List PV) (p2 : Int) (K : Bool → Prop) : Prop := wv_r04_Agent p0 p1 p2 K
def pw_r04_Agent (w : T_r04_Agent) (as : List PV) (K : PV → Prop) : Prop :=
 match as with
 | [(.agg [(.data p0), (.data p1)]), (.int .i64 p2)] => w p0 p1 p2 (fun r0 => K (.bool r0))
 | _ => False
def wp_r04_Agent (as : List PV) (K : PV → Prop) : Prop := pw_r04_Agent w_r04_Agent as K
def lp_r04_Agent : LP := fun _ _ _ _ =>
 False
def S0_r04_Agent : SE := ⟨E, lookS [], lookI [], lp_r04_Agent⟩
theorem se0_r04_Agent : SEOk (S0_r04_Agent) := seOk_of trivial trivial
theorem eq_r04_Agent ( p0 p1 p2 K) : WP (S0_r04_Agent) 6 t_r04_Agent [(.agg [(.data p0), (.data p1)]), (.int .i64 p2)] K = wv_r04_Agent p0 p1 p2 (fun r0 => K (.bool r0)) := by kernel_rfl
theorem ok_r04_Agent : OkF E wp_r04_Agent n_r04_Agent := by
 intro as K h
 unfold wp_r04_Agent pw_r04_Agent at h
 split at h
 · exact WP_ok se0_r04_Agent (LpOk_no (by kernel_rfl)) (by kernel_rfl) (by kernel_rfl) (fun _ => baseC_none (by kernel_rfl) _) ((eq_r04_Agent ..).mpr h)
 · exact h.elim
abbrev T_r04_answer : Type := List PV → Int → Int → Int → Int → Int → Int → Int → Int → (Int → Int → Int → Prop) → Prop
def wv_r04_answer (a0 : T_r02_Value) (a1 : T_r02_Mark) (p0 : List PV) (p1 p2 p3 p4 p5 p6 _ _ : Int) (K : Int → Int → Int → Prop) : Prop :=
 (cbr (p2 == (1 : Int))
 (asr (decide ((0 : Int) ≤ p1))
 (asr (decide (p1 < (((List.length p0) : Nat) : Int)))
 (asr (conf (.agg [.i .i64, .d, .d]) (List.getD p0 (p1.toNat) .nils))
 (a0 (intOfV (cellAt (List.getD p0 (p1.toNat) .nils) 0)) (datOfV (cellAt (List.getD p0 (p1.toNat) .nils) 1)) (datOfV (cellAt (List.getD p0 (p1.toNat) .nils) 2)) p3 p4 p5 p6 (fun yi0 yi1 yi2 => 
 (K yi0 yi1 yi2))))))
 (asr (decide ((0 : Int) ≤ p1))
 (asr (decide (p1 < (((List.length p0) : Nat) : Int)))
 (asr (conf (.agg [.i .i64, .d, .d]) (List.getD p0 (p1.toNat) .nils))
 (a1 (intOfV (cellAt (List.getD p0 (p1.toNat) .nils) 0)) (datOfV (cellAt (List.getD p0 (p1.toNat) .nils) 1)) (datOfV (cellAt (List.getD p0 (p1.toNat) .nils) 2)) p3 p4 p5 p6 (fun yi3 yi4 yi5 => 
 (K yi3 yi4 yi5)))))))
def w_r04_answer (p0 : List PV) (p1 p2 p3 p4 p5 p6 p7 p8 : Int) (K : Int → Int → Int → Prop) : Prop := wv_r04_answer w_r02_Value w_r02_Mark p0 p1 p2 p3 p4 p5 p6 p7 p8 K
def pw_r04_answer (w : T_r04_answer) (as : List PV) (K : PV → Prop) : Prop :=
 match as with
 | [(.data p0), (.agg [(.int .i64 p1), (.int .u8 p2), (.int .i64 p3), (.int .i64 p4), (.int .i64 p5), (.int .i64 p6), (.int .i64 p7), (.int .i64 p8)])] => w p0 p1 p2 p3 p4 p5 p6 p7 p8 (fun r0 r1 r2 => K (.tup [(.agg [(.int .i64 r0), (.int .i64 r1)]), (.int .i64 r2)]))
 | _ => False
def wp_r04_answer (as : List PV) (K : PV → Prop) : Prop := pw_r04_answer w_r04_answer as K
def lp_r04_answer (_ : T_r02_Value) (_ : T_r02_Mark) : LP := fun _ _ _ _ =>
 False
def S0_r04_answer (a0 : T_r02_Value) (a1 : T_r02_Mark) : SE := ⟨E, lookS [(n_r02_Value, pw_r02_Value a0), (n_r02_Mark, pw_r02_Mark a1)], lookI [], lp_r04_answer a0 a1⟩
theorem se0_r04_answer : SEOk (S0_r04_answer w_r02_Value w_r02_Mark) := seOk_of ⟨ok_r02_Value, ok_r02_Mark, trivial⟩ trivial
theorem eq_r04_answer (a0 a1 p0 p1 p2 p3 p4 p5 p6 p7 p8 K) : WP (S0_r04_answer a0 a1) 6 t_r04_answer [(.data p0), (.agg [(.int .i64 p1), (.int .u8 p2), (.int .i64 p3), (.int .i64 p4), (.int .i64 p5), (.int .i64 p6), (.int .i64 p7), (.int .i64 p8)])] K = wv_r04_answer a0 a1 p0 p1 p2 p3 p4 p5 p6 p7 p8 (fun r0 r1 r2 => K (.tup [(.agg [(.int .i64 r0), (.int .i64 r1)]), (.int .i64 r2)])) := by kernel_rfl
theorem ok_r04_answer : OkF E wp_r04_answer n_r04_answer := by
 intro as K h
 unfold wp_r04_answer pw_r04_answer at h
 split at h
 · exact WP_ok se0_r04_answer (LpOk_no (by kernel_rfl)) (by kernel_rfl) (by kernel_rfl) (fun _ => baseC_none (by kernel_rfl) _) ((eq_r04_answer ..).mpr h)
 · exact h.elim
abbrev T_r04_asked : Type := List PV → List PV → Int → Int → Int → Int → Int → Int → Int → Int → (List PV → List PV → Int → Int → Int → Prop) → Prop
def wv_r04_asked (a0 : T_r04_Check) (a1 : T_r04_Agent) (a2 : T_r04_answer) (a3 : T_r04_Twins) (p0 p1 : List PV) (p2 p3 p4 p5 p6 p7 p8 p9 : Int) (K : List PV → List PV → Int → Int → Int → Prop) : Prop :=
 (a0 p0 p1 (fun yi0 => 
 (cbr (yi0 != (0 : Int))
 (a0 p0 p1 (fun yi1 => 
 (K ([] : List PV) ([] : List PV) (0 : Int) (0 : Int) yi1)))
 (a1 p0 p1 p2 (fun yb2 => 
 (cbr (!yb2)
 (K ([] : List PV) ([] : List PV) (0 : Int) (0 : Int) (2 : Int))
 (a2 p0 p2 p3 p4 p5 p6 p7 p8 p9 (fun yi3 yi4 yi5 => 
 (cbr (yi5 != (0 : Int))
 (K ([] : List PV) ([] : List PV) (0 : Int) (0 : Int) yi5)
 (cbr ((((List.length p1) : Nat) : Int) == (2000 : Int))
 (K ([] : List PV) ([] : List PV) (0 : Int) (0 : Int) (4 : Int))
 (a3 p0 (fun yl6 => 
 (asr (headOk 8 p1)
 (cbr (List.isEmpty p1)
 (K yl6 ([(.agg [(.int .i64 p2), (.int .u8 p3), (.int .i64 p4), (.int .i64 p5), (.int .i64 p6), (.int .i64 p7), (.int .i64 yi3), (.int .i64 yi4)])] : List PV) yi3 yi4 (0 : Int))
 (asr (decide (((List.length p1) + 64) * (64 + 1) ≤ room))
 (asr (decide ((List.length p1) = (List.length p1)))
 (asr (decide ((0 + (List.length p1)) ≤ (List.length p1)))
 (asr (!(decide (((0 + (List.length p1)) + 1) ≤ (List.length p1))))
 (asr (decide ((List.length p1) = (List.length p1)))
 (asr (decide ((((List.length p1) + 1) + 64) * (64 + 1) ≤ room))
 (asr (decide ((List.length (p1 ++ ([(.agg [(.int .i64 p2), (.int .u8 p3), (.int .i64 p4), (.int .i64 p5), (.int .i64 p6), (.int .i64 p7), (.int .i64 yi3), (.int .i64 yi4)])] : List PV))) = (List.length (p1 ++ ([(.agg [(.int .i64 p2), (.int .u8 p3), (.int .i64 p4), (.int .i64 p5), (.int .i64 p6), (.int .i64 p7), (.int .i64 yi3), (.int .i64 yi4)])] : List PV)))))
 (asr (decide ((0 + (List.length (p1 ++ ([(.agg [(.int .i64 p2), (.int .u8 p3), (.int .i64 p4), (.int .i64 p5), (.int .i64 p6), (.int .i64 p7), (.int .i64 yi3), (.int .i64 yi4)])] : List PV)))) ≤ (List.length (p1 ++ ([(.agg [(.int .i64 p2), (.int .u8 p3), (.int .i64 p4), (.int .i64 p5), (.int .i64 p6), (.int .i64 p7), (.int .i64 yi3), (.int .i64 yi4)])] : List PV)))))
 (K yl6 (List.take (List.length (p1 ++ ([(.agg [(.int .i64 p2), (.int .u8 p3), (.int .i64 p4), (.int .i64 p5), (.int .i64 p6), (.int .i64 p7), (.int .i64 yi3), (.int .i64 yi4)])] : List PV))) (p1 ++ ([(.agg [(.int .i64 p2), (.int .u8 p3), (.int .i64 p4), (.int .i64 p5), (.int .i64 p6), (.int .i64 p7), (.int .i64 yi3), (.int .i64 yi4)])] : List PV))) yi3 yi4 (0 : Int))))))))))))))))))))))))
def w_r04_asked (p0 p1 : List PV) (p2 p3 p4 p5 p6 p7 p8 p9 : Int) (K : List PV → List PV → Int → Int → Int → Prop) : Prop := wv_r04_asked w_r04_Check w_r04_Agent w_r04_answer w_r04_Twins p0 p1 p2 p3 p4 p5 p6 p7 p8 p9 K
def pw_r04_asked (w : T_r04_asked) (as : List PV) (K : PV → Prop) : Prop :=
 match as with
 | [(.agg [(.data p0), (.data p1)]), (.agg [(.int .i64 p2), (.int .u8 p3), (.int .i64 p4), (.int .i64 p5), (.int .i64 p6), (.int .i64 p7), (.int .i64 p8), (.int .i64 p9)])] => w p0 p1 p2 p3 p4 p5 p6 p7 p8 p9 (fun r0 r1 r2 r3 r4 => K (.tup [(.agg [(.data r0), (.data r1)]), (.agg [(.int .i64 r2), (.int .i64 r3)]), (.int .i64 r4)]))
 | _ => False
def wp_r04_asked (as : List PV) (K : PV → Prop) : Prop := pw_r04_asked w_r04_asked as K
def lp_r04_asked (_ : T_r04_Check) (_ : T_r04_Agent) (_ : T_r04_answer) (_ : T_r04_Twins) : LP := fun _ _ _ _ =>
 False
def S0_r04_asked (a0 : T_r04_Check) (a1 : T_r04_Agent) (a2 : T_r04_answer) (a3 : T_r04_Twins) : SE := ⟨E, lookS [(n_r04_Check, pw_r04_Check a0), (n_r04_Agent, pw_r04_Agent a1), (n_r04_answer, pw_r04_answer a2), (n_r04_Twins, pw_r04_Twins a3)], lookI [], lp_r04_asked a0 a1 a2 a3⟩
theorem se0_r04_asked : SEOk (S0_r04_asked w_r04_Check w_r04_Agent w_r04_answer w_r04_Twins) := seOk_of ⟨ok_r04_Check, ok_r04_Agent, ok_r04_answer, ok_r04_Twins, trivial⟩ trivial
theorem eq_r04_asked (a0 a1 a2 a3 p0 p1 p2 p3 p4 p5 p6 p7 p8 p9 K) : WP (S0_r04_asked a0 a1 a2 a3) 6 t_r04_asked [(.agg [(.data p0), (.data p1)]), (.agg [(.int .i64 p2), (.int .u8 p3), (.int .i64 p4), (.int .i64 p5), (.int .i64 p6), (.int .i64 p7), (.int .i64 p8), (.int .i64 p9)])] K = wv_r04_asked a0 a1 a2 a3 p0 p1 p2 p3 p4 p5 p6 p7 p8 p9 (fun r0 r1 r2 r3 r4 => K (.tup [(.agg [(.data r0), (.data r1)]), (.agg [(.int .i64 r2), (.int .i64 r3)]), (.int .i64 r4)])) := by kernel_rfl
theorem ok_r04_asked : OkF E wp_r04_asked n_r04_asked := by
 intro as K h
 unfold wp_r04_asked pw_r04_asked at h
 split at h
 · exact WP_ok se0_r04_asked (LpOk_no (by kernel_rfl)) (by kernel_rfl) (by kernel_rfl) (fun _ => baseC_none (by kernel_rfl) _) ((eq_r04_asked ..).mpr h)
 · exact h.elim
abbrev T_r04_Mark : Type := List PV → List PV → Int → Int → Int → Int → Int → (List PV → List PV → Int → Int → Int → Prop) → Prop
def wv_r04_Mark (a0 : T_r04_asked) (p0 p1 : List PV) (p2 p3 p4 p5 p6 : Int) (K : List PV → List PV → Int → Int → Int → Prop) : Prop :=
 (a0 p0 p1 p2 (2 : Int) p3 p4 p5 p6 (0 : Int) (0 : Int) (fun yl0 yl1 yi2 yi3 yi4 => 
 (K yl0 yl1 yi2 yi3 yi4)))
def w_r04_Mark (p0 p1 : List PV) (p2 p3 p4 p5 p6 : Int) (K : List PV → List PV → Int → Int → Int → Prop) : Prop := wv_r04_Mark w_r04_asked p0 p1 p2 p3 p4 p5 p6 K
def pw_r04_Mark (w : T_r04_Mark) (as : List PV) (K : PV → Prop) : Prop :=
 match as with
 | [(.agg [(.data p0), (.data p1)]), (.int .i64 p2), (.agg [(.int .i64 p3), (.int .i64 p4)]), (.agg [(.int .i64 p5), (.int .i64 p6)])] => w p0 p1 p2 p3 p4 p5 p6 (fun r0 r1 r2 r3 r4 => K (.tup [(.agg [(.data r0), (.data r1)]), (.agg [(.int .i64 r2), (.int .i64 r3)]), (.int .i64 r4)]))
 | _ => False
def wp_r04_Mark (as : List PV) (K : PV → Prop) : Prop := pw_r04_Mark w_r04_Mark as K
def lp_r04_Mark (_ : T_r04_asked) : LP := fun _ _ _ _ =>
 False
def S0_r04_Mark (a0 : T_r04_asked) : SE := ⟨E, lookS [(n_r04_asked, pw_r04_asked a0)], lookI [], lp_r04_Mark a0⟩
theorem se0_r04_Mark : SEOk (S0_r04_Mark w_r04_asked) := seOk_of ⟨ok_r04_asked, trivial⟩ trivial
theorem eq_r04_Mark (a0 p0 p1 p2 p3 p4 p5 p6 K) : WP (S0_r04_Mark a0) 6 t_r04_Mark [(.agg [(.data p0), (.data p1)]), (.int .i64 p2), (.agg [(.int .i64 p3), (.int .i64 p4)]), (.agg [(.int .i64 p5), (.int .i64 p6)])] K = wv_r04_Mark a0 p0 p1 p2 p3 p4 p5 p6 (fun r0 r1 r2 r3 r4 => K (.tup [(.agg [(.data r0), (.data r1)]), (.agg [(.int .i64 r2), (.int .i64 r3)]), (.int .i64 r4)])) := by kernel_rfl
theorem ok_r04_Mark : OkF E wp_r04_Mark n_r04_Mark := by
 intro as K h
 unfold wp_r04_Mark pw_r04_Mark at h
 split at h
 · exact WP_ok se0_r04_Mark (LpOk_no (by kernel_rfl)) (by kernel_rfl) (by kernel_rfl) (fun _ => baseC_none (by kernel_rfl) _) ((eq_r04_Mark ..).mpr h)
 · exact h.elim
abbrev T_r04_SameLogs : Type := List PV → List PV → (Bool → Prop) → Prop
def L_r04_SameLogs_0_0 (x0 : Bool → Prop) (x1 : List PV → List PV → Int → Bool → Prop) : Nat → List PV → List PV → Int → Prop
 | 0, _, _, _ => False
 | n + 1, l0, l1, i2 =>
 (cbr (decide (i2 < (((List.length l0) : Nat) : Int)))
 (asr (decide ((0 : Int) ≤ i2))
 (asr (decide (i2 < (((List.length l0) : Nat) : Int)))
 (asr (conf (.agg [.i .i64, .i .u8, .i .i64, .i .i64, .i .i64, .i .i64, .i .i64, .i .i64]) (List.getD l0 (i2.toNat) .nils))
 (asr (decide ((0 : Int) ≤ i2))
 (asr (decide (i2 < (((List.length l1) : Nat) : Int)))
 (asr (conf (.agg [.i .i64, .i .u8, .i .i64, .i .i64, .i .i64, .i .i64, .i .i64, .i .i64]) (List.getD l1 (i2.toNat) .nils))
 (cbr (!(((intOfV (cellAt (List.getD l0 (i2.toNat) .nils) 0)) == (intOfV (cellAt (List.getD l1 (i2.toNat) .nils) 0))) && (((intOfV (cellAt (List.getD l0 (i2.toNat) .nils) 1)) == (intOfV (cellAt (List.getD l1 (i2.toNat) .nils) 1))) && (((intOfV (cellAt (List.getD l0 (i2.toNat) .nils) 2)) == (intOfV (cellAt (List.getD l1 (i2.toNat) .nils) 2))) && (((intOfV (cellAt (List.getD l0 (i2.toNat) .nils) 3)) == (intOfV (cellAt (List.getD l1 (i2.toNat) .nils) 3))) && (((intOfV (cellAt (List.getD l0 (i2.toNat) .nils) 4)) == (intOfV (cellAt (List.getD l1 (i2.toNat) .nils) 4))) && (((intOfV (cellAt (List.getD l0 (i2.toNat) .nils) 5)) == (intOfV (cellAt (List.getD l1 (i2.toNat) .nils) 5))) && (((intOfV (cellAt (List.getD l0 (i2.toNat) .nils) 6)) == (intOfV (cellAt (List.getD l1 (i2.toNat) .nils) 6))) && (((intOfV (cellAt (List.getD l0 (i2.toNat) .nils) 7)) == (intOfV (cellAt (List.getD l1 (i2.toNat) .nils) 7))) && true)))))))))
 (x0 false)
 (L_r04_SameLogs_0_0 x0 x1 n l0 l1 (IntKind.i64.wrap (i2 + (1 : Int)))))))))))
 (x1 l0 l1 i2 false))
def wv_r04_SameLogs (p0 p1 : List PV) (K : Bool → Prop) : Prop :=
 (cbr ((((List.length p0) : Nat) : Int) != (((List.length p1) : Nat) : Int))
 (K false)
 (∃ n : Nat, L_r04_SameLogs_0_0
 (fun yb0 => (K yb0))
 (fun _ _ _ _ => (K true))
 n p0 p1 (0 : Int)))
def w_r04_SameLogs (p0 p1 : List PV) (K : Bool → Prop) : Prop := wv_r04_SameLogs p0 p1 K
def pw_r04_SameLogs (w : T_r04_SameLogs) (as : List PV) (K : PV → Prop) : Prop :=
 match as with
 | [(.data p0), (.data p1)] => w p0 p1 (fun r0 => K (.bool r0))
 | _ => False
def wp_r04_SameLogs (as : List PV) (K : PV → Prop) : Prop := pw_r04_SameLogs w_r04_SameLogs as K
def D_r04_SameLogs_0 (F : Frm) (H : Hp) (A0 : List PV → List PV → Int → Prop) : Prop :=
 match F, H with
 | [(0, .v (.data l0)), (1, .v (.data l1)), (5, .v (.int .i64 i2))], [] => (A0 l0 l1 i2)
 | _, _ => False
def R_r04_SameLogs_0 (Q : Ex → Frm → Hp → Prop) (n : Nat) (F : Frm) (H : Hp) : Prop := D_r04_SameLogs_0 F H (fun l0 l1 i2 => L_r04_SameLogs_0_0 (fun b0 => Q .ret [(4, .v (.bool b0))] []) (fun l0 l1 i2 b3 => Q (.exit 0) [(0, .v (.data l0)), (1, .v (.data l1)), (5, .v (.int .i64 i2)), (14, .v (.bool b3))] []) n l0 l1 i2)
def lp_r04_SameLogs : LP := fun id F H Q =>
 bif Nat.beq id 11728400 then D_r04_SameLogs_0 F H (fun l0 l1 i2 => ∃ n : Nat, L_r04_SameLogs_0_0 (fun b0 => Q .ret [(4, .v (.bool b0))] []) (fun l0 l1 i2 b3 => Q (.exit 0) [(0, .v (.data l0)), (1, .v (.data l1)), (5, .v (.int .i64 i2)), (14, .v (.bool b3))] []) n l0 l1 i2) else
 False
def S0_r04_SameLogs : SE := ⟨E, lookS [], lookI [], lp_r04_SameLogs⟩
theorem se0_r04_SameLogs : SEOk (S0_r04_SameLogs) := seOk_of trivial trivial
theorem body_r04_SameLogs_0_0 ( Q n l0 l1 i2) : WC E (callW (S0_r04_SameLogs) 5) (lp_r04_SameLogs) b_11728400 [(0, .v (.data l0)), (1, .v (.data l1)), (5, .v (.int .i64 i2))] [] (fun x F' H' => match x with | .norm => R_r04_SameLogs_0 Q n F' H' | .exit i => Q (.exit i) F' H' | .ret => Q .ret F' H') = L_r04_SameLogs_0_0 (fun b0 => Q .ret [(4, .v (.bool b0))] []) (fun l0 l1 i2 b3 => Q (.exit 0) [(0, .v (.data l0)), (1, .v (.data l1)), (5, .v (.int .i64 i2)), (14, .v (.bool b3))] []) (n + 1) l0 l1 i2 := by kernel_rfl
theorem lpb_r04_SameLogs_0 : LpOk E (lp_r04_SameLogs) b_11728400 := (LpOk_no (by kernel_rfl))
theorem loop_r04_SameLogs_0 : ∀ F H Q, lp_r04_SameLogs 11728400 F H Q → LoopT E b_11728400 F H Q := by
 intro F H Q h
 have go := LoopT.intro (callW_ok se0_r04_SameLogs 5) lpb_r04_SameLogs_0 (R_r04_SameLogs_0 Q) (by
   intro F H h
   unfold R_r04_SameLogs_0 D_r04_SameLogs_0 at h
   split at h
   · exact h
   · exact h) (by
   intro n F H h
   unfold R_r04_SameLogs_0 D_r04_SameLogs_0 at h
   split at h
   · exact (body_r04_SameLogs_0_0 ..).mpr h
   · exact h.elim)
 have h : D_r04_SameLogs_0 F H _ := h
 unfold D_r04_SameLogs_0 at h
 split at h
 · obtain ⟨n, h⟩ := h; exact go n _ _ h
 · exact h.elim
theorem eq_r04_SameLogs ( p0 p1 K) : WP (S0_r04_SameLogs) 6 t_r04_SameLogs [(.data p0), (.data p1)] K = wv_r04_SameLogs p0 p1 (fun r0 => K (.bool r0)) := by kernel_rfl
theorem ok_r04_SameLogs : OkF E wp_r04_SameLogs n_r04_SameLogs := by
 intro as K h
 unfold wp_r04_SameLogs pw_r04_SameLogs at h
 split at h
 · exact WP_ok se0_r04_SameLogs (LpOk_by (l := [(11728400, b_11728400)]) ⟨loop_r04_SameLogs_0, trivial⟩ (by kernel_rfl)) (by kernel_rfl) (by kernel_rfl) (fun _ => baseC_none (by kernel_rfl) _) ((eq_r04_SameLogs ..).mpr h)
 · exact h.elim
end Go.Pf.Vc
namespace Go.Pf.Vc
open Go Go.Pf
set_option linter.unusedVariables false
theorem det_r04_GreatCakes (p0 : List PV) (r0 : Bool) (h : ∀ K : Bool → Prop, K r0 → w_r04_GreatCakes p0 K) (K : Bool → Prop) : w_r04_GreatCakes p0 K = K r0 :=
 propext ⟨fun k => detC ok_r04_GreatCakes (as := [(.data p0)]) (x := (.bool r0)) (fun K' k' => h (fun r0 => K' (.bool r0)) k') (K := fun x => match x with | (.bool r0) => K r0 | _ => False) k, h K⟩
theorem det_r04_Check (p0 : List PV) (p1 : List PV) (r0 : Int) (h : ∀ K : Int → Prop, K r0 → w_r04_Check p0 p1 K) (K : Int → Prop) : w_r04_Check p0 p1 K = K r0 :=
 propext ⟨fun k => detC ok_r04_Check (as := [(.agg [(.data p0), (.data p1)])]) (x := (.int .i64 r0)) (fun K' k' => h (fun r0 => K' (.int .i64 r0)) k') (K := fun x => match x with | (.int .i64 r0) => K r0 | _ => False) k, h K⟩
theorem det_r04_Twins (p0 : List PV) (r0 : List PV) (h : ∀ K : List PV → Prop, K r0 → w_r04_Twins p0 K) (K : List PV → Prop) : w_r04_Twins p0 K = K r0 :=
 propext ⟨fun k => detC ok_r04_Twins (as := [(.data p0)]) (x := (.data r0)) (fun K' k' => h (fun r0 => K' (.data r0)) k') (K := fun x => match x with | (.data r0) => K r0 | _ => False) k, h K⟩
theorem det_r04_asked (p0 : List PV) (p1 : List PV) (p2 : Int) (p3 : Int) (p4 : Int) (p5 : Int) (p6 : Int) (p7 : Int) (p8 : Int) (p9 : Int) (r0 : List PV) (r1 : List PV) (r2 : Int) (r3 : Int) (r4 : Int) (h : ∀ K : List PV → List PV → Int → Int → Int → Prop, K r0 r1 r2 r3 r4 → w_r04_asked p0 p1 p2 p3 p4 p5 p6 p7 p8 p9 K) (K : List PV → List PV → Int → Int → Int → Prop) : w_r04_asked p0 p1 p2 p3 p4 p5 p6 p7 p8 p9 K = K r0 r1 r2 r3 r4 :=
 propext ⟨fun k => detC ok_r04_asked (as := [(.agg [(.data p0), (.data p1)]), (.agg [(.int .i64 p2), (.int .u8 p3), (.int .i64 p4), (.int .i64 p5), (.int .i64 p6), (.int .i64 p7), (.int .i64 p8), (.int .i64 p9)])]) (x := (.tup [(.agg [(.data r0), (.data r1)]), (.agg [(.int .i64 r2), (.int .i64 r3)]), (.int .i64 r4)])) (fun K' k' => h (fun r0 r1 r2 r3 r4 => K' (.tup [(.agg [(.data r0), (.data r1)]), (.agg [(.int .i64 r2), (.int .i64 r3)]), (.int .i64 r4)])) k') (K := fun x => match x with | (.tup [(.agg [(.data r0), (.data r1)]), (.agg [(.int .i64 r2), (.int .i64 r3)]), (.int .i64 r4)]) => K r0 r1 r2 r3 r4 | _ => False) k, h K⟩
theorem det_r04_SameLogs (p0 : List PV) (p1 : List PV) (r0 : Bool) (h : ∀ K : Bool → Prop, K r0 → w_r04_SameLogs p0 p1 K) (K : Bool → Prop) : w_r04_SameLogs p0 p1 K = K r0 :=
 propext ⟨fun k => detC ok_r04_SameLogs (as := [(.data p0), (.data p1)]) (x := (.bool r0)) (fun K' k' => h (fun r0 => K' (.bool r0)) k') (K := fun x => match x with | (.bool r0) => K r0 | _ => False) k, h K⟩
end Go.Pf.Vc
namespace Go.Pf.Vc
open Go Go.Pf
set_option maxRecDepth 100000
abbrev T_r08_Share : Type := List PV → List PV → Int → (Int → Int → Prop) → Prop
def wv_r08_Share (a0 : T_r02_Whole) (a1 : T_r01_Make) (p0 _ : List PV) (p2 : Int) (K : Int → Int → Prop) : Prop :=
 (asr (decide ((0 : Int) ≤ p2))
 (asr (decide (p2 < (((List.length p0) : Nat) : Int)))
 (asr (conf (.agg [.i .i64, .d, .d]) (List.getD p0 (p2.toNat) .nils))
 (a0 (intOfV (cellAt (List.getD p0 (p2.toNat) .nils) 0)) (datOfV (cellAt (List.getD p0 (p2.toNat) .nils) 1)) (datOfV (cellAt (List.getD p0 (p2.toNat) .nils) 2)) (fun yi0 => 
 (a1 yi0 (((List.length p0) : Nat) : Int) (fun yi1 yi2 _ => 
 (K yi1 yi2))))))))
def w_r08_Share (p0 p1 : List PV) (p2 : Int) (K : Int → Int → Prop) : Prop := wv_r08_Share w_r02_Whole w_r01_Make p0 p1 p2 K
def pw_r08_Share (w : T_r08_Share) (as : List PV) (K : PV → Prop) : Prop :=
 match as with
 | [(.agg [(.data p0), (.data p1)]), (.int .i64 p2)] => w p0 p1 p2 (fun r0 r1 => K (.agg [(.int .i64 r0), (.int .i64 r1)]))
 | _ => False
def wp_r08_Share (as : List PV) (K : PV → Prop) : Prop := pw_r08_Share w_r08_Share as K
def lp_r08_Share (_ : T_r02_Whole) (_ : T_r01_Make) : LP := fun _ _ _ _ =>
 False
def S0_r08_Share (a0 : T_r02_Whole) (a1 : T_r01_Make) : SE := ⟨E, lookS [(n_r02_Whole, pw_r02_Whole a0), (n_r01_Make, pw_r01_Make a1)], lookI [], lp_r08_Share a0 a1⟩
theorem se0_r08_Share : SEOk (S0_r08_Share w_r02_Whole w_r01_Make) := seOk_of ⟨ok_r02_Whole, ok_r01_Make, trivial⟩ trivial
theorem eq_r08_Share (a0 a1 p0 p1 p2 K) : WP (S0_r08_Share a0 a1) 6 t_r08_Share [(.agg [(.data p0), (.data p1)]), (.int .i64 p2)] K = wv_r08_Share a0 a1 p0 p1 p2 (fun r0 r1 => K (.agg [(.int .i64 r0), (.int .i64 r1)])) := by kernel_rfl
theorem ok_r08_Share : OkF E wp_r08_Share n_r08_Share := by
 intro as K h
 unfold wp_r08_Share pw_r08_Share at h
 split at h
 · exact WP_ok se0_r08_Share (LpOk_no (by kernel_rfl)) (by kernel_rfl) (by kernel_rfl) (fun _ => baseC_none (by kernel_rfl) _) ((eq_r08_Share ..).mpr h)
 · exact h.elim
abbrev T_r03_Same : Type := List PV → List PV → (Bool → Prop) → Prop
def L_r03_Same_0_0 (x0 : Bool → Prop) (x1 : List PV → List PV → Int → Bool → Prop) : Nat → List PV → List PV → Int → Prop
 | 0, _, _, _ => False
 | n + 1, l0, l1, i2 =>
 (cbr (decide (i2 < (((List.length l0) : Nat) : Int)))
 (asr (decide ((0 : Int) ≤ i2))
 (asr (decide (i2 < (((List.length l0) : Nat) : Int)))
 (asr (conf (.agg [.i .i64, .i .i64, .i .i64, .i .i64]) (List.getD l0 (i2.toNat) .nils))
 (asr (decide ((0 : Int) ≤ i2))
 (asr (decide (i2 < (((List.length l1) : Nat) : Int)))
 (asr (conf (.agg [.i .i64, .i .i64, .i .i64, .i .i64]) (List.getD l1 (i2.toNat) .nils))
 (cbr (!(((intOfV (cellAt (List.getD l0 (i2.toNat) .nils) 0)) == (intOfV (cellAt (List.getD l1 (i2.toNat) .nils) 0))) && (((intOfV (cellAt (List.getD l0 (i2.toNat) .nils) 1)) == (intOfV (cellAt (List.getD l1 (i2.toNat) .nils) 1))) && (((intOfV (cellAt (List.getD l0 (i2.toNat) .nils) 2)) == (intOfV (cellAt (List.getD l1 (i2.toNat) .nils) 2))) && (((intOfV (cellAt (List.getD l0 (i2.toNat) .nils) 3)) == (intOfV (cellAt (List.getD l1 (i2.toNat) .nils) 3))) && true)))))
 (x0 false)
 (L_r03_Same_0_0 x0 x1 n l0 l1 (IntKind.i64.wrap (i2 + (1 : Int)))))))))))
 (x1 l0 l1 i2 false))
def wv_r03_Same (p0 p1 : List PV) (K : Bool → Prop) : Prop :=
 (cbr ((((List.length p0) : Nat) : Int) != (((List.length p1) : Nat) : Int))
 (K false)
 (∃ n : Nat, L_r03_Same_0_0
 (fun yb0 => (K yb0))
 (fun _ _ _ _ => (K true))
 n p0 p1 (0 : Int)))
def w_r03_Same (p0 p1 : List PV) (K : Bool → Prop) : Prop := wv_r03_Same p0 p1 K
def pw_r03_Same (w : T_r03_Same) (as : List PV) (K : PV → Prop) : Prop :=
 match as with
 | [(.data p0), (.data p1)] => w p0 p1 (fun r0 => K (.bool r0))
 | _ => False
def wp_r03_Same (as : List PV) (K : PV → Prop) : Prop := pw_r03_Same w_r03_Same as K
def D_r03_Same_0 (F : Frm) (H : Hp) (A0 : List PV → List PV → Int → Prop) : Prop :=
 match F, H with
 | [(0, .v (.data l0)), (1, .v (.data l1)), (5, .v (.int .i64 i2))], [] => (A0 l0 l1 i2)
 | _, _ => False
def R_r03_Same_0 (Q : Ex → Frm → Hp → Prop) (n : Nat) (F : Frm) (H : Hp) : Prop := D_r03_Same_0 F H (fun l0 l1 i2 => L_r03_Same_0_0 (fun b0 => Q .ret [(4, .v (.bool b0))] []) (fun l0 l1 i2 b3 => Q (.exit 0) [(0, .v (.data l0)), (1, .v (.data l1)), (5, .v (.int .i64 i2)), (14, .v (.bool b3))] []) n l0 l1 i2)
def lp_r03_Same : LP := fun id F H Q =>
 bif Nat.beq id 27088800 then D_r03_Same_0 F H (fun l0 l1 i2 => ∃ n : Nat, L_r03_Same_0_0 (fun b0 => Q .ret [(4, .v (.bool b0))] []) (fun l0 l1 i2 b3 => Q (.exit 0) [(0, .v (.data l0)), (1, .v (.data l1)), (5, .v (.int .i64 i2)), (14, .v (.bool b3))] []) n l0 l1 i2) else
 False
def S0_r03_Same : SE := ⟨E, lookS [], lookI [], lp_r03_Same⟩
theorem se0_r03_Same : SEOk (S0_r03_Same) := seOk_of trivial trivial
theorem body_r03_Same_0_0 ( Q n l0 l1 i2) : WC E (callW (S0_r03_Same) 5) (lp_r03_Same) b_27088800 [(0, .v (.data l0)), (1, .v (.data l1)), (5, .v (.int .i64 i2))] [] (fun x F' H' => match x with | .norm => R_r03_Same_0 Q n F' H' | .exit i => Q (.exit i) F' H' | .ret => Q .ret F' H') = L_r03_Same_0_0 (fun b0 => Q .ret [(4, .v (.bool b0))] []) (fun l0 l1 i2 b3 => Q (.exit 0) [(0, .v (.data l0)), (1, .v (.data l1)), (5, .v (.int .i64 i2)), (14, .v (.bool b3))] []) (n + 1) l0 l1 i2 := by kernel_rfl
theorem lpb_r03_Same_0 : LpOk E (lp_r03_Same) b_27088800 := (LpOk_no (by kernel_rfl))
theorem loop_r03_Same_0 : ∀ F H Q, lp_r03_Same 27088800 F H Q → LoopT E b_27088800 F H Q := by
 intro F H Q h
 have go := LoopT.intro (callW_ok se0_r03_Same 5) lpb_r03_Same_0 (R_r03_Same_0 Q) (by
   intro F H h
   unfold R_r03_Same_0 D_r03_Same_0 at h
   split at h
   · exact h
   · exact h) (by
   intro n F H h
   unfold R_r03_Same_0 D_r03_Same_0 at h
   split at h
   · exact (body_r03_Same_0_0 ..).mpr h
   · exact h.elim)
 have h : D_r03_Same_0 F H _ := h
 unfold D_r03_Same_0 at h
 split at h
 · obtain ⟨n, h⟩ := h; exact go n _ _ h
 · exact h.elim
theorem eq_r03_Same ( p0 p1 K) : WP (S0_r03_Same) 6 t_r03_Same [(.data p0), (.data p1)] K = wv_r03_Same p0 p1 (fun r0 => K (.bool r0)) := by kernel_rfl
theorem ok_r03_Same : OkF E wp_r03_Same n_r03_Same := by
 intro as K h
 unfold wp_r03_Same pw_r03_Same at h
 split at h
 · exact WP_ok se0_r03_Same (LpOk_by (l := [(27088800, b_27088800)]) ⟨loop_r03_Same_0, trivial⟩ (by kernel_rfl)) (by kernel_rfl) (by kernel_rfl) (fun _ => baseC_none (by kernel_rfl) _) ((eq_r03_Same ..).mpr h)
 · exact h.elim
abbrev T_r06_Same : Type := List PV → List PV → (Bool → Prop) → Prop
def L_r06_Same_0_0 (a0 : T_r03_Same) (x0 : Bool → Prop) (x1 : List PV → List PV → Int → Bool → Prop) : Nat → List PV → List PV → Int → Prop
 | 0, _, _, _ => False
 | n + 1, l0, l1, i2 =>
 (cbr (decide (i2 < (((List.length l0) : Nat) : Int)))
 (asr (decide ((0 : Int) ≤ i2))
 (asr (decide (i2 < (((List.length l0) : Nat) : Int)))
 (asr (conf (.one (.d)) (List.getD l0 (i2.toNat) .nils))
 (asr (decide ((0 : Int) ≤ i2))
 (asr (decide (i2 < (((List.length l1) : Nat) : Int)))
 (asr (conf (.one (.d)) (List.getD l1 (i2.toNat) .nils))
 (a0 (datOfV (List.getD l0 (i2.toNat) .nils)) (datOfV (List.getD l1 (i2.toNat) .nils)) (fun yb0 => 
 (cbr (!yb0)
 (x0 false)
 (L_r06_Same_0_0 a0 x0 x1 n l0 l1 (IntKind.i64.wrap (i2 + (1 : Int)))))))))))))
 (x1 l0 l1 i2 false))
def wv_r06_Same (a0 : T_r03_Same) (p0 p1 : List PV) (K : Bool → Prop) : Prop :=
 (cbr ((((List.length p0) : Nat) : Int) != (((List.length p1) : Nat) : Int))
 (K false)
 (∃ n : Nat, L_r06_Same_0_0 a0
 (fun yb1 => (K yb1))
 (fun _ _ _ _ => (K true))
 n p0 p1 (0 : Int)))
def w_r06_Same (p0 p1 : List PV) (K : Bool → Prop) : Prop := wv_r06_Same w_r03_Same p0 p1 K
def pw_r06_Same (w : T_r06_Same) (as : List PV) (K : PV → Prop) : Prop :=
 match as with
 | [(.agg [(.data p0)]), (.agg [(.data p1)])] => w p0 p1 (fun r0 => K (.bool r0))
 | _ => False
def wp_r06_Same (as : List PV) (K : PV → Prop) : Prop := pw_r06_Same w_r06_Same as K
def D_r06_Same_0 (F : Frm) (H : Hp) (A0 : List PV → List PV → Int → Prop) : Prop :=
 match F, H with
 | [(2, .box (.agg [(.data l0)])), (3, .box (.agg [(.data l1)])), (5, .v (.int .i64 i2))], [] => (A0 l0 l1 i2)
 | _, _ => False
def R_r06_Same_0 (a0 : T_r03_Same) (Q : Ex → Frm → Hp → Prop) (n : Nat) (F : Frm) (H : Hp) : Prop := D_r06_Same_0 F H (fun l0 l1 i2 => L_r06_Same_0_0 a0 (fun b0 => Q .ret [(4, .v (.bool b0))] []) (fun l0 l1 i2 b3 => Q (.exit 0) [(2, .box (.agg [(.data l0)])), (3, .box (.agg [(.data l1)])), (5, .v (.int .i64 i2)), (17, .v (.bool b3))] []) n l0 l1 i2)
def lp_r06_Same (a0 : T_r03_Same) : LP := fun id F H Q =>
 bif Nat.beq id 70742100 then D_r06_Same_0 F H (fun l0 l1 i2 => ∃ n : Nat, L_r06_Same_0_0 a0 (fun b0 => Q .ret [(4, .v (.bool b0))] []) (fun l0 l1 i2 b3 => Q (.exit 0) [(2, .box (.agg [(.data l0)])), (3, .box (.agg [(.data l1)])), (5, .v (.int .i64 i2)), (17, .v (.bool b3))] []) n l0 l1 i2) else
 False
def S0_r06_Same (a0 : T_r03_Same) : SE := ⟨E, lookS [(n_r03_Same, pw_r03_Same a0)], lookI [], lp_r06_Same a0⟩
theorem se0_r06_Same : SEOk (S0_r06_Same w_r03_Same) := seOk_of ⟨ok_r03_Same, trivial⟩ trivial
theorem body_r06_Same_0_0 (a0 Q n l0 l1 i2) : WC E (callW (S0_r06_Same a0) 5) (lp_r06_Same a0) b_70742100 [(2, .box (.agg [(.data l0)])), (3, .box (.agg [(.data l1)])), (5, .v (.int .i64 i2))] [] (fun x F' H' => match x with | .norm => R_r06_Same_0 a0 Q n F' H' | .exit i => Q (.exit i) F' H' | .ret => Q .ret F' H') = L_r06_Same_0_0 a0 (fun b0 => Q .ret [(4, .v (.bool b0))] []) (fun l0 l1 i2 b3 => Q (.exit 0) [(2, .box (.agg [(.data l0)])), (3, .box (.agg [(.data l1)])), (5, .v (.int .i64 i2)), (17, .v (.bool b3))] []) (n + 1) l0 l1 i2 := by kernel_rfl
theorem lpb_r06_Same_0 : LpOk E (lp_r06_Same w_r03_Same) b_70742100 := (LpOk_no (by kernel_rfl))
theorem loop_r06_Same_0 : ∀ F H Q, lp_r06_Same w_r03_Same 70742100 F H Q → LoopT E b_70742100 F H Q := by
 intro F H Q h
 have go := LoopT.intro (callW_ok se0_r06_Same 5) lpb_r06_Same_0 (R_r06_Same_0 w_r03_Same Q) (by
   intro F H h
   unfold R_r06_Same_0 D_r06_Same_0 at h
   split at h
   · exact h
   · exact h) (by
   intro n F H h
   unfold R_r06_Same_0 D_r06_Same_0 at h
   split at h
   · exact (body_r06_Same_0_0 ..).mpr h
   · exact h.elim)
 have h : D_r06_Same_0 F H _ := h
 unfold D_r06_Same_0 at h
 split at h
 · obtain ⟨n, h⟩ := h; exact go n _ _ h
 · exact h.elim
theorem eq_r06_Same (a0 p0 p1 K) : WP (S0_r06_Same a0) 6 t_r06_Same [(.agg [(.data p0)]), (.agg [(.data p1)])] K = wv_r06_Same a0 p0 p1 (fun r0 => K (.bool r0)) := by kernel_rfl
theorem ok_r06_Same : OkF E wp_r06_Same n_r06_Same := by
 intro as K h
 unfold wp_r06_Same pw_r06_Same at h
 split at h
 · exact WP_ok se0_r06_Same (LpOk_by (l := [(70742100, b_70742100)]) ⟨loop_r06_Same_0, trivial⟩ (by kernel_rfl)) (by kernel_rfl) (by kernel_rfl) (fun _ => baseC_none (by kernel_rfl) _) ((eq_r06_Same ..).mpr h)
 · exact h.elim
abbrev T_r09_Same : Type := List PV → List PV → (Bool → Prop) → Prop
def L_r09_Same_0_0 (x0 : Bool → Prop) (x1 : List PV → List PV → Int → Bool → Prop) : Nat → List PV → List PV → Int → Prop
 | 0, _, _, _ => False
 | n + 1, l0, l1, i2 =>
 (cbr (decide (i2 < (((List.length l0) : Nat) : Int)))
 (asr (decide ((0 : Int) ≤ i2))
 (asr (decide (i2 < (((List.length l0) : Nat) : Int)))
 (asr (conf (.one (.i .i64)) (List.getD l0 (i2.toNat) .nils))
 (asr (decide ((0 : Int) ≤ i2))
 (asr (decide (i2 < (((List.length l1) : Nat) : Int)))
 (asr (conf (.one (.i .i64)) (List.getD l1 (i2.toNat) .nils))
 (cbr ((intOfV (List.getD l0 (i2.toNat) .nils)) != (intOfV (List.getD l1 (i2.toNat) .nils)))
 (x0 false)
 (L_r09_Same_0_0 x0 x1 n l0 l1 (IntKind.i64.wrap (i2 + (1 : Int)))))))))))
 (x1 l0 l1 i2 false))
def wv_r09_Same (p0 p1 : List PV) (K : Bool → Prop) : Prop :=
 (cbr ((((List.length p0) : Nat) : Int) != (((List.length p1) : Nat) : Int))
 (K false)
 (∃ n : Nat, L_r09_Same_0_0
 (fun yb0 => (K yb0))
 (fun _ _ _ _ => (K true))
 n p0 p1 (0 : Int)))
def w_r09_Same (p0 p1 : List PV) (K : Bool → Prop) : Prop := wv_r09_Same p0 p1 K
def pw_r09_Same (w : T_r09_Same) (as : List PV) (K : PV → Prop) : Prop :=
 match as with
 | [(.data p0), (.data p1)] => w p0 p1 (fun r0 => K (.bool r0))
 | _ => False
def wp_r09_Same (as : List PV) (K : PV → Prop) : Prop := pw_r09_Same w_r09_Same as K
def D_r09_Same_0 (F : Frm) (H : Hp) (A0 : List PV → List PV → Int → Prop) : Prop :=
 match F, H with
 | [(0, .v (.data l0)), (1, .v (.data l1)), (5, .v (.int .i64 i2))], [] => (A0 l0 l1 i2)
 | _, _ => False
def R_r09_Same_0 (Q : Ex → Frm → Hp → Prop) (n : Nat) (F : Frm) (H : Hp) : Prop := D_r09_Same_0 F H (fun l0 l1 i2 => L_r09_Same_0_0 (fun b0 => Q .ret [(4, .v (.bool b0))] []) (fun l0 l1 i2 b3 => Q (.exit 0) [(0, .v (.data l0)), (1, .v (.data l1)), (5, .v (.int .i64 i2)), (14, .v (.bool b3))] []) n l0 l1 i2)
def lp_r09_Same : LP := fun id F H Q =>
 bif Nat.beq id 14397100 then D_r09_Same_0 F H (fun l0 l1 i2 => ∃ n : Nat, L_r09_Same_0_0 (fun b0 => Q .ret [(4, .v (.bool b0))] []) (fun l0 l1 i2 b3 => Q (.exit 0) [(0, .v (.data l0)), (1, .v (.data l1)), (5, .v (.int .i64 i2)), (14, .v (.bool b3))] []) n l0 l1 i2) else
 False
def S0_r09_Same : SE := ⟨E, lookS [], lookI [], lp_r09_Same⟩
theorem se0_r09_Same : SEOk (S0_r09_Same) := seOk_of trivial trivial
theorem body_r09_Same_0_0 ( Q n l0 l1 i2) : WC E (callW (S0_r09_Same) 5) (lp_r09_Same) b_14397100 [(0, .v (.data l0)), (1, .v (.data l1)), (5, .v (.int .i64 i2))] [] (fun x F' H' => match x with | .norm => R_r09_Same_0 Q n F' H' | .exit i => Q (.exit i) F' H' | .ret => Q .ret F' H') = L_r09_Same_0_0 (fun b0 => Q .ret [(4, .v (.bool b0))] []) (fun l0 l1 i2 b3 => Q (.exit 0) [(0, .v (.data l0)), (1, .v (.data l1)), (5, .v (.int .i64 i2)), (14, .v (.bool b3))] []) (n + 1) l0 l1 i2 := by kernel_rfl
theorem lpb_r09_Same_0 : LpOk E (lp_r09_Same) b_14397100 := (LpOk_no (by kernel_rfl))
theorem loop_r09_Same_0 : ∀ F H Q, lp_r09_Same 14397100 F H Q → LoopT E b_14397100 F H Q := by
 intro F H Q h
 have go := LoopT.intro (callW_ok se0_r09_Same 5) lpb_r09_Same_0 (R_r09_Same_0 Q) (by
   intro F H h
   unfold R_r09_Same_0 D_r09_Same_0 at h
   split at h
   · exact h
   · exact h) (by
   intro n F H h
   unfold R_r09_Same_0 D_r09_Same_0 at h
   split at h
   · exact (body_r09_Same_0_0 ..).mpr h
   · exact h.elim)
 have h : D_r09_Same_0 F H _ := h
 unfold D_r09_Same_0 at h
 split at h
 · obtain ⟨n, h⟩ := h; exact go n _ _ h
 · exact h.elim
theorem eq_r09_Same ( p0 p1 K) : WP (S0_r09_Same) 6 t_r09_Same [(.data p0), (.data p1)] K = wv_r09_Same p0 p1 (fun r0 => K (.bool r0)) := by kernel_rfl
theorem ok_r09_Same : OkF E wp_r09_Same n_r09_Same := by
 intro as K h
 unfold wp_r09_Same pw_r09_Same at h
 split at h
 · exact WP_ok se0_r09_Same (LpOk_by (l := [(14397100, b_14397100)]) ⟨loop_r09_Same_0, trivial⟩ (by kernel_rfl)) (by kernel_rfl) (by kernel_rfl) (fun _ => baseC_none (by kernel_rfl) _) ((eq_r09_Same ..).mpr h)
 · exact h.elim
end Go.Pf.Vc
namespace Go.Pf.Vc
open Go Go.Pf
set_option linter.unusedVariables false
theorem det_r03_Same (p0 : List PV) (p1 : List PV) (r0 : Bool) (h : ∀ K : Bool → Prop, K r0 → w_r03_Same p0 p1 K) (K : Bool → Prop) : w_r03_Same p0 p1 K = K r0 :=
 propext ⟨fun k => detC ok_r03_Same (as := [(.data p0), (.data p1)]) (x := (.bool r0)) (fun K' k' => h (fun r0 => K' (.bool r0)) k') (K := fun x => match x with | (.bool r0) => K r0 | _ => False) k, h K⟩
theorem det_r06_Same (p0 : List PV) (p1 : List PV) (r0 : Bool) (h : ∀ K : Bool → Prop, K r0 → w_r06_Same p0 p1 K) (K : Bool → Prop) : w_r06_Same p0 p1 K = K r0 :=
 propext ⟨fun k => detC ok_r06_Same (as := [(.agg [(.data p0)]), (.agg [(.data p1)])]) (x := (.bool r0)) (fun K' k' => h (fun r0 => K' (.bool r0)) k') (K := fun x => match x with | (.bool r0) => K r0 | _ => False) k, h K⟩
theorem det_r09_Same (p0 : List PV) (p1 : List PV) (r0 : Bool) (h : ∀ K : Bool → Prop, K r0 → w_r09_Same p0 p1 K) (K : Bool → Prop) : w_r09_Same p0 p1 K = K r0 :=
 propext ⟨fun k => detC ok_r09_Same (as := [(.data p0), (.data p1)]) (x := (.bool r0)) (fun K' k' => h (fun r0 => K' (.bool r0)) k') (K := fun x => match x with | (.bool r0) => K r0 | _ => False) k, h K⟩
end Go.Pf.Vc
namespace Go.Pf.Vc
open Go Go.Pf
set_option maxRecDepth 100000
abbrev T_r11_Spans : Type := List PV → (List PV → List PV → List PV → Int → Prop) → Prop
mutual
def L_r11_Spans_1_0 (a0 : T_r04_Open) (a1 : T_r01_Of) (a2 : T_r08_Share) (a3 : T_r04_Mark) (a4 : T_r01_Less) (x3642000_0 : List PV → List PV → Int → Prop) (x3642000_1 : List PV → List PV → List PV → List PV → List PV → Nat → Nat → Nat → Nat → Nat → Nat → Int → Int → Int → Int → Int → Int → Int → Int → Bool → Prop) (x3642000_2 : List PV → List PV → List PV → Int → Prop) (x3642000_3 : List PV → List PV → List PV → List PV → List PV → List PV → Nat → Nat → Nat → Nat → Nat → Nat → Int → Int → Int → Int → Int → Int → Int → Int → Bool → Prop) : Nat → List PV → List PV → List PV → List PV → List PV → Nat → Nat → Nat → Nat → Nat → Nat → Int → Int → Int → Int → Int → Int → Int → Int → Prop
 | 0, _, _, _, _, _, _, _, _, _, _, _, _, _, _, _, _, _, _, _ => False
 | n3642000 + 1, l0, l1, l2, l3, l4, n5, n6, n7, n8, n9, n10, i11, i12, i13, i14, i15, i16, i17, i18 =>
 (cbr (decide (i18 < (((List.length l2) : Nat) : Int)))
 (asr (decide ((0 : Int) ≤ i18))
 (asr (decide (i18 < ((n8 : Nat) : Int)))
 (asr (decide ((List.length l1) = n9))
 (asr (decide ((0 + (i18.toNat)) < (List.length l1)))
 (asr (conf (.one (.b)) (List.getD l1 (0 + (i18.toNat)) .nils))
 (cbr (boolOfV (List.getD l1 (0 + (i18.toNat)) .nils))
 (L_r11_Spans_1_0 a0 a1 a2 a3 a4 x3642000_0 x3642000_1 x3642000_2 x3642000_3 n3642000 l0 l1 l2 l3 l4 n5 n6 n7 n8 n9 n10 i11 i12 i13 i14 i15 i16 i17 (IntKind.i64.wrap (i18 + (1 : Int))))
 (cbr (decide ((1 : Int) < (((List.length l2) : Nat) : Int)))
 (a2 l3 l4 i18 (fun yi7 yi8 => 
 (a3 l3 l4 i18 i11 i12 yi7 yi8 (fun yl9 yl10 yi11 yi12 yi13 => 
 (cbr (yi13 != (0 : Int))
 (x3642000_0 l0 l1 yi13)
 (cbr (decide (i15 < (0 : Int)))
 (L_r11_Spans_1_0 a0 a1 a2 a3 a4 x3642000_0 x3642000_1 x3642000_2 x3642000_3 n3642000 l0 l1 l2 yl9 yl10 n5 n6 n7 n8 n9 n10 i11 i12 i13 i14 i18 yi11 yi12 (IntKind.i64.wrap (i18 + (1 : Int))))
 (a4 yi11 yi12 i16 i17 (fun yb14 => 
 (cbr yb14
 (L_r11_Spans_1_0 a0 a1 a2 a3 a4 x3642000_0 x3642000_1 x3642000_2 x3642000_3 n3642000 l0 l1 l2 yl9 yl10 n5 n6 n7 n8 n9 n10 i11 i12 i13 i14 i18 yi11 yi12 (IntKind.i64.wrap (i18 + (1 : Int))))
 (L_r11_Spans_1_0 a0 a1 a2 a3 a4 x3642000_0 x3642000_1 x3642000_2 x3642000_3 n3642000 l0 l1 l2 yl9 yl10 n5 n6 n7 n8 n9 n10 i11 i12 i13 i14 i15 i16 i17 (IntKind.i64.wrap (i18 + (1 : Int)))))))))))))
 (cbr (decide (i15 < (0 : Int)))
 (L_r11_Spans_1_0 a0 a1 a2 a3 a4 x3642000_0 x3642000_1 x3642000_2 x3642000_3 n3642000 l0 l1 l2 l3 l4 n5 n6 n7 n8 n9 n10 i11 i12 i13 i14 i18 i13 i14 (IntKind.i64.wrap (i18 + (1 : Int))))
 (a4 i13 i14 i16 i17 (fun yb15 => 
 (cbr yb15
 (L_r11_Spans_1_0 a0 a1 a2 a3 a4 x3642000_0 x3642000_1 x3642000_2 x3642000_3 n3642000 l0 l1 l2 l3 l4 n5 n6 n7 n8 n9 n10 i11 i12 i13 i14 i18 i13 i14 (IntKind.i64.wrap (i18 + (1 : Int))))
 (L_r11_Spans_1_0 a0 a1 a2 a3 a4 x3642000_0 x3642000_1 x3642000_2 x3642000_3 n3642000 l0 l1 l2 l3 l4 n5 n6 n7 n8 n9 n10 i11 i12 i13 i14 i15 i16 i17 (IntKind.i64.wrap (i18 + (1 : Int)))))))))))))))
 (x3642000_1 l0 l1 l2 l3 l4 n5 n6 n7 n8 n9 n10 i11 i12 i13 i14 i15 i16 i17 i18 false))
def L_r11_Spans_1_1 (a0 : T_r04_Open) (a1 : T_r01_Of) (a2 : T_r08_Share) (a3 : T_r04_Mark) (a4 : T_r01_Less) (x3642000_0 : List PV → List PV → Int → Prop) (x3642000_1 : List PV → List PV → List PV → List PV → List PV → Nat → Nat → Nat → Nat → Nat → Nat → Int → Int → Int → Int → Int → Int → Int → Int → Bool → Prop) (x3642000_2 : List PV → List PV → List PV → Int → Prop) (x3642000_3 : List PV → List PV → List PV → List PV → List PV → List PV → Nat → Nat → Nat → Nat → Nat → Nat → Int → Int → Int → Int → Int → Int → Int → Int → Bool → Prop) : Nat → List PV → List PV → List PV → List PV → List PV → List PV → Nat → Nat → Nat → Nat → Nat → Nat → Int → Int → Int → Int → Int → Int → Int → Int → Prop
 | 0, _, _, _, _, _, _, _, _, _, _, _, _, _, _, _, _, _, _, _, _ => False
 | n3642000 + 1, l0, l1, l2, l3, l4, l5, n6, n7, n8, n9, n10, n11, i12, i13, i14, i15, i18, i19, i20, i21 =>
 (cbr (decide (i21 < (((List.length l3) : Nat) : Int)))
 (asr (decide ((0 : Int) ≤ i21))
 (asr (decide (i21 < ((n9 : Nat) : Int)))
 (asr (decide ((List.length l1) = n10))
 (asr (decide ((0 + (i21.toNat)) < (List.length l1)))
 (asr (conf (.one (.b)) (List.getD l1 (0 + (i21.toNat)) .nils))
 (cbr (boolOfV (List.getD l1 (0 + (i21.toNat)) .nils))
 (asr (decide ((List.length l2) = List.length l2) && decide ((List.length l2) = List.length l2))
 (L_r11_Spans_1_1 a0 a1 a2 a3 a4 x3642000_0 x3642000_1 x3642000_2 x3642000_3 n3642000 l0 l1 l2 l3 l4 l5 n6 n7 n8 n9 n10 n11 i12 i13 i14 i15 i18 i19 i20 (IntKind.i64.wrap (i21 + (1 : Int)))))
 (cbr (decide ((IntKind.i64.wrap ((((List.length l2) : Nat) : Int) + (1 : Int))) < (((List.length l3) : Nat) : Int)))
 (a2 l4 l5 i21 (fun yi39 yi40 => 
 (a3 l4 l5 i21 i12 i13 yi39 yi40 (fun yl41 yl42 yi43 yi44 yi45 => 
 (cbr (yi45 != (0 : Int))
 (x3642000_2 l0 l1 l2 yi45)
 (cbr (decide (i18 < (0 : Int)))
 (asr (decide ((List.length l2) = List.length l2) && decide ((List.length l2) = List.length l2))
 (L_r11_Spans_1_1 a0 a1 a2 a3 a4 x3642000_0 x3642000_1 x3642000_2 x3642000_3 n3642000 l0 l1 l2 l3 yl41 yl42 n6 n7 n8 n9 n10 n11 i12 i13 i14 i15 i21 yi43 yi44 (IntKind.i64.wrap (i21 + (1 : Int)))))
 (a4 yi43 yi44 i19 i20 (fun yb46 => 
 (cbr yb46
 (asr (decide ((List.length l2) = List.length l2) && decide ((List.length l2) = List.length l2))
 (L_r11_Spans_1_1 a0 a1 a2 a3 a4 x3642000_0 x3642000_1 x3642000_2 x3642000_3 n3642000 l0 l1 l2 l3 yl41 yl42 n6 n7 n8 n9 n10 n11 i12 i13 i14 i15 i21 yi43 yi44 (IntKind.i64.wrap (i21 + (1 : Int)))))
 (asr (decide ((List.length l2) = List.length l2) && decide ((List.length l2) = List.length l2))
 (L_r11_Spans_1_1 a0 a1 a2 a3 a4 x3642000_0 x3642000_1 x3642000_2 x3642000_3 n3642000 l0 l1 l2 l3 yl41 yl42 n6 n7 n8 n9 n10 n11 i12 i13 i14 i15 i18 i19 i20 (IntKind.i64.wrap (i21 + (1 : Int))))))))))))))
 (cbr (decide (i18 < (0 : Int)))
 (asr (decide ((List.length l2) = List.length l2) && decide ((List.length l2) = List.length l2))
 (L_r11_Spans_1_1 a0 a1 a2 a3 a4 x3642000_0 x3642000_1 x3642000_2 x3642000_3 n3642000 l0 l1 l2 l3 l4 l5 n6 n7 n8 n9 n10 n11 i12 i13 i14 i15 i21 i14 i15 (IntKind.i64.wrap (i21 + (1 : Int)))))
 (a4 i14 i15 i19 i20 (fun yb47 => 
 (cbr yb47
 (asr (decide ((List.length l2) = List.length l2) && decide ((List.length l2) = List.length l2))
 (L_r11_Spans_1_1 a0 a1 a2 a3 a4 x3642000_0 x3642000_1 x3642000_2 x3642000_3 n3642000 l0 l1 l2 l3 l4 l5 n6 n7 n8 n9 n10 n11 i12 i13 i14 i15 i21 i14 i15 (IntKind.i64.wrap (i21 + (1 : Int)))))
 (asr (decide ((List.length l2) = List.length l2) && decide ((List.length l2) = List.length l2))
 (L_r11_Spans_1_1 a0 a1 a2 a3 a4 x3642000_0 x3642000_1 x3642000_2 x3642000_3 n3642000 l0 l1 l2 l3 l4 l5 n6 n7 n8 n9 n10 n11 i12 i13 i14 i15 i18 i19 i20 (IntKind.i64.wrap (i21 + (1 : Int))))))))))))))))
 (x3642000_3 l0 l1 l2 l3 l4 l5 n6 n7 n8 n9 n10 n11 i12 i13 i14 i15 i18 i19 i20 i21 false))
end
mutual
def L_r11_Spans_0_0 (a0 : T_r04_Open) (a1 : T_r01_Of) (a2 : T_r08_Share) (a3 : T_r04_Mark) (a4 : T_r01_Less) (x3642001_0 : List PV → List PV → Int → Prop) (x3642001_1 : List PV → List PV → List PV → Int → Prop) (x3642001_2 : List PV → List PV → List PV → List PV → List PV → List PV → Nat → Nat → Nat → Nat → Nat → Nat → Int → Int → Int → Int → Bool → Prop) (x3642001_3 : List PV → List PV → List PV → List PV → List PV → Nat → Nat → Nat → Nat → Nat → Nat → Int → Int → Int → Int → Bool → Prop) : Nat → List PV → List PV → List PV → List PV → List PV → Nat → Nat → Nat → Nat → Nat → Nat → Int → Int → Int → Int → Prop
 | 0, _, _, _, _, _, _, _, _, _, _, _, _, _, _, _ => False
 | n3642001 + 1, l0, l1, l2, l3, l4, n5, n6, n7, n8, n9, n10, i11, i12, i13, i14 =>
 (cbr (decide ((0 : Int) < (((List.length l2) : Nat) : Int)))
 (∃ n3642000 : Nat, L_r11_Spans_1_0 a0 a1 a2 a3 a4
 (fun yl16 yl17 yi18 => (x3642001_0 yl16 yl17 yi18))
 (fun yl19 yl20 yl21 yl22 yl23 yn24 yn25 yn26 yn27 yn28 yn29 yi30 yi31 yi32 yi33 yi34 yi35 yi36 _ _ => (asr (decide ((0 : Int) ≤ yi34))
 (asr (decide (yi34 < ((yn24 : Nat) : Int)))
 (asr (decide ((List.length yl19) = yn25))
 (asr (decide ((0 + (yi34.toNat)) < (List.length yl19)))
 (asr (conf (.one (.d)) (List.getD yl19 (0 + (yi34.toNat)) .nils))
 (asr (decide ((0 : Int) ≤ yi34))
 (asr (decide (yi34 < ((yn27 : Nat) : Int)))
 (asr (decide ((List.length yl20) = yn28))
 (asr (decide ((0 + (yi34.toNat)) < (List.length yl20)))
 (asr (conf (.one (.b)) (List.getD yl20 (0 + (yi34.toNat)) .nils))
 (asr (decide ((List.length ([(.int .i64 yi34)] : List PV)) = List.length ([(.int .i64 yi34)] : List PV)) && decide ((List.length ([(.int .i64 yi34)] : List PV)) = List.length ([(.int .i64 yi34)] : List PV)))
 (L_r11_Spans_0_1 a0 a1 a2 a3 a4 x3642001_0 x3642001_1 x3642001_2 x3642001_3 n3642001 (List.set yl19 (0 + (yi34.toNat)) (.data ([(.agg [(.int .i64 yi30), (.int .i64 yi31), (.int .i64 yi35), (.int .i64 yi36)])] : List PV))) (List.set yl20 (0 + (yi34.toNat)) (.bool true)) ([(.int .i64 yi34)] : List PV) yl21 yl22 yl23 yn24 yn25 yn26 yn27 yn28 yn29 yi35 yi36 yi32 yi33)))))))))))))
 (fun yl96 yl97 yl98 yi99 => (x3642001_1 yl96 yl97 yl98 yi99))
 (fun yl100 yl101 yl102 yl103 yl104 yl105 yn106 yn107 yn108 yn109 yn110 yn111 yi112 yi113 yi114 yi115 yi116 yi117 yi118 _ _ => (asr (decide ((0 : Int) ≤ yi116))
 (asr (decide (yi116 < ((yn106 : Nat) : Int)))
 (asr (decide ((List.length yl100) = yn107))
 (asr (decide ((0 + (yi116.toNat)) < (List.length yl100)))
 (asr (conf (.one (.d)) (List.getD yl100 (0 + (yi116.toNat)) .nils))
 (asr (decide ((0 : Int) ≤ yi116))
 (asr (decide (yi116 < ((yn109 : Nat) : Int)))
 (asr (decide ((List.length yl101) = yn110))
 (asr (decide ((0 + (yi116.toNat)) < (List.length yl101)))
 (asr (conf (.one (.b)) (List.getD yl101 (0 + (yi116.toNat)) .nils))
 (asr (decide ((List.length yl102) = (List.length yl102)))
 (asr (decide ((0 + (List.length yl102)) ≤ (List.length yl102)))
 (asr (!(decide (((0 + (List.length yl102)) + 1) ≤ (List.length yl102))))
 (asr (decide ((List.length yl102) = (List.length yl102)))
 (asr (decide ((((List.length yl102) + 1) + 64) * (8 + 1) ≤ room))
 (asr (decide ((List.length (yl102 ++ ([(.int .i64 yi116)] : List PV))) = List.length (yl102 ++ ([(.int .i64 yi116)] : List PV))) && decide ((List.length (yl102 ++ ([(.int .i64 yi116)] : List PV))) = List.length (yl102 ++ ([(.int .i64 yi116)] : List PV))))
 (L_r11_Spans_0_1 a0 a1 a2 a3 a4 x3642001_0 x3642001_1 x3642001_2 x3642001_3 n3642001 (List.set yl100 (0 + (yi116.toNat)) (.data ([(.agg [(.int .i64 yi112), (.int .i64 yi113), (.int .i64 yi117), (.int .i64 yi118)])] : List PV))) (List.set yl101 (0 + (yi116.toNat)) (.bool true)) (yl102 ++ ([(.int .i64 yi116)] : List PV)) yl103 yl104 yl105 yn106 yn107 yn108 yn109 yn110 yn111 yi117 yi118 yi114 yi115))))))))))))))))))
 n3642000 l0 l1 l2 l3 l4 n5 n6 n7 n8 n9 n10 i11 i12 i13 i14 (-1 : Int) i13 i14 (0 : Int))
 (x3642001_3 l0 l1 l2 l3 l4 n5 n6 n7 n8 n9 n10 i11 i12 i13 i14 false))
def L_r11_Spans_0_1 (a0 : T_r04_Open) (a1 : T_r01_Of) (a2 : T_r08_Share) (a3 : T_r04_Mark) (a4 : T_r01_Less) (x3642001_0 : List PV → List PV → Int → Prop) (x3642001_1 : List PV → List PV → List PV → Int → Prop) (x3642001_2 : List PV → List PV → List PV → List PV → List PV → List PV → Nat → Nat → Nat → Nat → Nat → Nat → Int → Int → Int → Int → Bool → Prop) (x3642001_3 : List PV → List PV → List PV → List PV → List PV → Nat → Nat → Nat → Nat → Nat → Nat → Int → Int → Int → Int → Bool → Prop) : Nat → List PV → List PV → List PV → List PV → List PV → List PV → Nat → Nat → Nat → Nat → Nat → Nat → Int → Int → Int → Int → Prop
 | 0, _, _, _, _, _, _, _, _, _, _, _, _, _, _, _, _ => False
 | n3642001 + 1, l0, l1, l2, l3, l4, l5, n6, n7, n8, n9, n10, n11, i12, i13, i14, i15 =>
 (cbr (decide ((((List.length l2) : Nat) : Int) < (((List.length l3) : Nat) : Int)))
 (asr (decide ((List.length l2) = List.length l2) && decide ((List.length l2) = List.length l2))
 (∃ n3642000 : Nat, L_r11_Spans_1_1 a0 a1 a2 a3 a4
 (fun yl48 yl49 yi50 => (x3642001_0 yl48 yl49 yi50))
 (fun yl51 yl52 yl53 yl54 yl55 yn56 yn57 yn58 yn59 yn60 yn61 yi62 yi63 yi64 yi65 yi66 yi67 yi68 _ _ => (asr (decide ((0 : Int) ≤ yi66))
 (asr (decide (yi66 < ((yn56 : Nat) : Int)))
 (asr (decide ((List.length yl51) = yn57))
 (asr (decide ((0 + (yi66.toNat)) < (List.length yl51)))
 (asr (conf (.one (.d)) (List.getD yl51 (0 + (yi66.toNat)) .nils))
 (asr (decide ((0 : Int) ≤ yi66))
 (asr (decide (yi66 < ((yn59 : Nat) : Int)))
 (asr (decide ((List.length yl52) = yn60))
 (asr (decide ((0 + (yi66.toNat)) < (List.length yl52)))
 (asr (conf (.one (.b)) (List.getD yl52 (0 + (yi66.toNat)) .nils))
 (asr (decide ((List.length ([(.int .i64 yi66)] : List PV)) = List.length ([(.int .i64 yi66)] : List PV)) && decide ((List.length ([(.int .i64 yi66)] : List PV)) = List.length ([(.int .i64 yi66)] : List PV)))
 (L_r11_Spans_0_1 a0 a1 a2 a3 a4 x3642001_0 x3642001_1 x3642001_2 x3642001_3 n3642001 (List.set yl51 (0 + (yi66.toNat)) (.data ([(.agg [(.int .i64 yi62), (.int .i64 yi63), (.int .i64 yi67), (.int .i64 yi68)])] : List PV))) (List.set yl52 (0 + (yi66.toNat)) (.bool true)) ([(.int .i64 yi66)] : List PV) yl53 yl54 yl55 yn56 yn57 yn58 yn59 yn60 yn61 yi67 yi68 yi64 yi65)))))))))))))
 (fun yl71 yl72 yl73 yi74 => (x3642001_1 yl71 yl72 yl73 yi74))
 (fun yl75 yl76 yl77 yl78 yl79 yl80 yn81 yn82 yn83 yn84 yn85 yn86 yi87 yi88 yi89 yi90 yi91 yi92 yi93 _ _ => (asr (decide ((0 : Int) ≤ yi91))
 (asr (decide (yi91 < ((yn81 : Nat) : Int)))
 (asr (decide ((List.length yl75) = yn82))
 (asr (decide ((0 + (yi91.toNat)) < (List.length yl75)))
 (asr (conf (.one (.d)) (List.getD yl75 (0 + (yi91.toNat)) .nils))
 (asr (decide ((0 : Int) ≤ yi91))
 (asr (decide (yi91 < ((yn84 : Nat) : Int)))
 (asr (decide ((List.length yl76) = yn85))
 (asr (decide ((0 + (yi91.toNat)) < (List.length yl76)))
 (asr (conf (.one (.b)) (List.getD yl76 (0 + (yi91.toNat)) .nils))
 (asr (decide ((List.length yl77) = (List.length yl77)))
 (asr (decide ((0 + (List.length yl77)) ≤ (List.length yl77)))
 (asr (!(decide (((0 + (List.length yl77)) + 1) ≤ (List.length yl77))))
 (asr (decide ((List.length yl77) = (List.length yl77)))
 (asr (decide ((((List.length yl77) + 1) + 64) * (8 + 1) ≤ room))
 (asr (decide ((List.length (yl77 ++ ([(.int .i64 yi91)] : List PV))) = List.length (yl77 ++ ([(.int .i64 yi91)] : List PV))) && decide ((List.length (yl77 ++ ([(.int .i64 yi91)] : List PV))) = List.length (yl77 ++ ([(.int .i64 yi91)] : List PV))))
 (L_r11_Spans_0_1 a0 a1 a2 a3 a4 x3642001_0 x3642001_1 x3642001_2 x3642001_3 n3642001 (List.set yl75 (0 + (yi91.toNat)) (.data ([(.agg [(.int .i64 yi87), (.int .i64 yi88), (.int .i64 yi92), (.int .i64 yi93)])] : List PV))) (List.set yl76 (0 + (yi91.toNat)) (.bool true)) (yl77 ++ ([(.int .i64 yi91)] : List PV)) yl78 yl79 yl80 yn81 yn82 yn83 yn84 yn85 yn86 yi92 yi93 yi89 yi90))))))))))))))))))
 n3642000 l0 l1 l2 l3 l4 l5 n6 n7 n8 n9 n10 n11 i12 i13 i14 i15 (-1 : Int) i14 i15 (0 : Int)))
 (x3642001_2 l0 l1 l2 l3 l4 l5 n6 n7 n8 n9 n10 n11 i12 i13 i14 i15 false))
end
def wv_r11_Spans (a0 : T_r04_Open) (a1 : T_r01_Of) (a2 : T_r08_Share) (a3 : T_r04_Mark) (a4 : T_r01_Less) (p0 : List PV) (K : List PV → List PV → List PV → Int → Prop) : Prop :=
 (a0 p0 (fun yl0 yl1 yi2 => 
 (cbr (yi2 != (0 : Int))
 (K ([] : List PV) ([] : List PV) ([] : List PV) yi2)
 (asr (decide ((0 : Int) ≤ (((List.length p0) : Nat) : Int)))
 (asr (decide ((((List.length p0) : Nat) : Int) ≤ (((List.length p0) : Nat) : Int)))
 (asr (decide (((List.length p0) + 64) * (24 + 1) ≤ room))
 (asr (decide ((0 : Int) ≤ (((List.length p0) : Nat) : Int)))
 (asr (decide ((((List.length p0) : Nat) : Int) ≤ (((List.length p0) : Nat) : Int)))
 (asr (decide (((List.length p0) + 64) * (1 + 1) ≤ room))
 (a1 (0 : Int) (fun yi3 yi4 => 
 (asr (decide ((0 : Int) < (((List.length p0) : Nat) : Int)))
 (asr (conf (.agg [.i .i64, .d, .d]) (List.getD p0 0 .nils))
 (a1 (intOfV (cellAt (List.getD p0 0 .nils) 0)) (fun yi5 yi6 => 
 (∃ n3642001 : Nat, L_r11_Spans_0_0 a0 a1 a2 a3 a4
 (fun _ _ yi123 => (K ([] : List PV) ([] : List PV) ([] : List PV) yi123))
 (fun _ _ _ yi127 => (K ([] : List PV) ([] : List PV) ([] : List PV) yi127))
 (fun yl128 _ yl130 _ _ yl133 yn134 yn135 _ _ _ _ _ _ _ _ _ => (asr (decide ((List.length yl128) = yn135))
 (asr (decide ((0 + yn134) ≤ yn135))
 (asr (decide ((List.length yl130) = (List.length yl130)))
 (asr (decide ((0 + (List.length yl130)) ≤ (List.length yl130)))
 (K (List.take yn134 yl128) (List.take (List.length yl130) yl130) yl133 (0 : Int)))))))
 (fun yl145 _ _ _ yl149 yn150 yn151 _ _ _ _ _ _ _ _ _ => (asr (decide ((List.length yl145) = yn151))
 (asr (decide ((0 + yn150) ≤ yn151))
 (K (List.take yn150 yl145) ([] : List PV) yl149 (0 : Int)))))
 n3642001 (List.replicate (List.length p0) ((.data []) : PV)) (List.replicate (List.length p0) ((.bool false) : PV)) p0 yl0 yl1 (List.length p0) (List.length p0) (List.length p0) (List.length p0) (List.length p0) (List.length p0) yi3 yi4 yi5 yi6))))))))))))))))
def w_r11_Spans (p0 : List PV) (K : List PV → List PV → List PV → Int → Prop) : Prop := wv_r11_Spans w_r04_Open w_r01_Of w_r08_Share w_r04_Mark w_r01_Less p0 K
def pw_r11_Spans (w : T_r11_Spans) (as : List PV) (K : PV → Prop) : Prop :=
 match as with
 | [(.data p0)] => w p0 (fun r0 r1 r2 r3 => K (.tup [(.agg [(.data r0)]), (.data r1), (.data r2), (.int .i64 r3)]))
 | _ => False
def wp_r11_Spans (as : List PV) (K : PV → Prop) : Prop := pw_r11_Spans w_r11_Spans as K
def D_r11_Spans_1 (F : Frm) (H : Hp) (A0 : List PV → List PV → List PV → List PV → List PV → Nat → Nat → Nat → Nat → Nat → Nat → Int → Int → Int → Int → Int → Int → Int → Int → Prop) (A1 : List PV → List PV → List PV → List PV → List PV → List PV → Nat → Nat → Nat → Nat → Nat → Nat → Int → Int → Int → Int → Int → Int → Int → Int → Prop) : Prop :=
 match F, H with
 | [(0, .v (.data l2)), (2, .box (.agg [.nils])), (6, .box (.agg [(.data l3), (.data l4)])), (8, .box (.agg [(.own 0 0 n5 n6 (some n7))])), (9, .v (.own 1 0 n8 n9 (some n10))), (10, .box (.agg [(.int .i64 i11), (.int .i64 i12)])), (11, .box (.agg [(.int .i64 i13), (.int .i64 i14)])), (12, .v .nils), (13, .v (.int .i64 i15)), (14, .box (.agg [(.int .i64 i16), (.int .i64 i17)])), (15, .v (.int .i64 i18))], [⟨false, true, 1, l0⟩, ⟨false, true, 1, l1⟩] => (A0 l0 l1 l2 l3 l4 n5 n6 n7 n8 n9 n10 i11 i12 i13 i14 i15 i16 i17 i18)
 | [(0, .v (.data l3)), (2, .box (.agg [.nils])), (6, .box (.agg [(.data l4), (.data l5)])), (8, .box (.agg [(.own 0 0 n6 n7 (some n8))])), (9, .v (.own 1 0 n9 n10 (some n11))), (10, .box (.agg [(.int .i64 i12), (.int .i64 i13)])), (11, .box (.agg [(.int .i64 i14), (.int .i64 i15)])), (12, .v (.own 2 0 t16 t17 none)), (13, .v (.int .i64 i18)), (14, .box (.agg [(.int .i64 i19), (.int .i64 i20)])), (15, .v (.int .i64 i21))], [⟨false, true, 1, l0⟩, ⟨false, true, 1, l1⟩, ⟨false, true, 1, l2⟩] => asr (decide (t16 = List.length l2) && decide (t17 = List.length l2)) (A1 l0 l1 l2 l3 l4 l5 n6 n7 n8 n9 n10 n11 i12 i13 i14 i15 i18 i19 i20 i21)
 | _, _ => False
def D_r11_Spans_0 (F : Frm) (H : Hp) (A0 : List PV → List PV → List PV → List PV → List PV → Nat → Nat → Nat → Nat → Nat → Nat → Int → Int → Int → Int → Prop) (A1 : List PV → List PV → List PV → List PV → List PV → List PV → Nat → Nat → Nat → Nat → Nat → Nat → Int → Int → Int → Int → Prop) : Prop :=
 match F, H with
 | [(0, .v (.data l2)), (2, .box (.agg [.nils])), (6, .box (.agg [(.data l3), (.data l4)])), (8, .box (.agg [(.own 0 0 n5 n6 (some n7))])), (9, .v (.own 1 0 n8 n9 (some n10))), (10, .box (.agg [(.int .i64 i11), (.int .i64 i12)])), (11, .box (.agg [(.int .i64 i13), (.int .i64 i14)])), (12, .v .nils)], [⟨false, true, 1, l0⟩, ⟨false, true, 1, l1⟩] => (A0 l0 l1 l2 l3 l4 n5 n6 n7 n8 n9 n10 i11 i12 i13 i14)
 | [(0, .v (.data l3)), (2, .box (.agg [.nils])), (6, .box (.agg [(.data l4), (.data l5)])), (8, .box (.agg [(.own 0 0 n6 n7 (some n8))])), (9, .v (.own 1 0 n9 n10 (some n11))), (10, .box (.agg [(.int .i64 i12), (.int .i64 i13)])), (11, .box (.agg [(.int .i64 i14), (.int .i64 i15)])), (12, .v (.own 2 0 t16 t17 none))], [⟨false, true, 1, l0⟩, ⟨false, true, 1, l1⟩, ⟨false, true, 1, l2⟩] => asr (decide (t16 = List.length l2) && decide (t17 = List.length l2)) (A1 l0 l1 l2 l3 l4 l5 n6 n7 n8 n9 n10 n11 i12 i13 i14 i15)
 | _, _ => False
def R_r11_Spans_1 (a0 : T_r04_Open) (a1 : T_r01_Of) (a2 : T_r08_Share) (a3 : T_r04_Mark) (a4 : T_r01_Less) (Q : Ex → Frm → Hp → Prop) (n : Nat) (F : Frm) (H : Hp) : Prop := D_r11_Spans_1 F H (fun l0 l1 l2 l3 l4 n5 n6 n7 n8 n9 n10 i11 i12 i13 i14 i15 i16 i17 i18 => L_r11_Spans_1_0 a0 a1 a2 a3 a4 (fun l0 l1 i2 => Q .ret [(2, .box (.agg [.nils])), (3, .v .nils), (4, .v .nils), (5, .v (.int .i64 i2))] [⟨false, true, 1, l0⟩, ⟨false, true, 1, l1⟩]) (fun l0 l1 l2 l3 l4 n5 n6 n7 n8 n9 n10 i11 i12 i13 i14 i15 i16 i17 i18 b19 => Q (.exit 2) [(0, .v (.data l2)), (2, .box (.agg [.nils])), (6, .box (.agg [(.data l3), (.data l4)])), (8, .box (.agg [(.own 0 0 n5 n6 (some n7))])), (9, .v (.own 1 0 n8 n9 (some n10))), (10, .box (.agg [(.int .i64 i11), (.int .i64 i12)])), (11, .box (.agg [(.int .i64 i13), (.int .i64 i14)])), (12, .v .nils), (13, .v (.int .i64 i15)), (14, .box (.agg [(.int .i64 i16), (.int .i64 i17)])), (15, .v (.int .i64 i18)), (48, .v (.bool b19))] [⟨false, true, 1, l0⟩, ⟨false, true, 1, l1⟩]) (fun l0 l1 l2 i3 => Q .ret [(2, .box (.agg [.nils])), (3, .v .nils), (4, .v .nils), (5, .v (.int .i64 i3))] [⟨false, true, 1, l0⟩, ⟨false, true, 1, l1⟩, ⟨false, true, 1, l2⟩]) (fun l0 l1 l2 l3 l4 l5 n6 n7 n8 n9 n10 n11 i12 i13 i14 i15 i18 i19 i20 i21 b22 => Q (.exit 2) [(0, .v (.data l3)), (2, .box (.agg [.nils])), (6, .box (.agg [(.data l4), (.data l5)])), (8, .box (.agg [(.own 0 0 n6 n7 (some n8))])), (9, .v (.own 1 0 n9 n10 (some n11))), (10, .box (.agg [(.int .i64 i12), (.int .i64 i13)])), (11, .box (.agg [(.int .i64 i14), (.int .i64 i15)])), (12, .v (.own 2 0 (List.length l2) (List.length l2) none)), (13, .v (.int .i64 i18)), (14, .box (.agg [(.int .i64 i19), (.int .i64 i20)])), (15, .v (.int .i64 i21)), (48, .v (.bool b22))] [⟨false, true, 1, l0⟩, ⟨false, true, 1, l1⟩, ⟨false, true, 1, l2⟩]) n l0 l1 l2 l3 l4 n5 n6 n7 n8 n9 n10 i11 i12 i13 i14 i15 i16 i17 i18) (fun l0 l1 l2 l3 l4 l5 n6 n7 n8 n9 n10 n11 i12 i13 i14 i15 i18 i19 i20 i21 => L_r11_Spans_1_1 a0 a1 a2 a3 a4 (fun l0 l1 i2 => Q .ret [(2, .box (.agg [.nils])), (3, .v .nils), (4, .v .nils), (5, .v (.int .i64 i2))] [⟨false, true, 1, l0⟩, ⟨false, true, 1, l1⟩]) (fun l0 l1 l2 l3 l4 n5 n6 n7 n8 n9 n10 i11 i12 i13 i14 i15 i16 i17 i18 b19 => Q (.exit 2) [(0, .v (.data l2)), (2, .box (.agg [.nils])), (6, .box (.agg [(.data l3), (.data l4)])), (8, .box (.agg [(.own 0 0 n5 n6 (some n7))])), (9, .v (.own 1 0 n8 n9 (some n10))), (10, .box (.agg [(.int .i64 i11), (.int .i64 i12)])), (11, .box (.agg [(.int .i64 i13), (.int .i64 i14)])), (12, .v .nils), (13, .v (.int .i64 i15)), (14, .box (.agg [(.int .i64 i16), (.int .i64 i17)])), (15, .v (.int .i64 i18)), (48, .v (.bool b19))] [⟨false, true, 1, l0⟩, ⟨false, true, 1, l1⟩]) (fun l0 l1 l2 i3 => Q .ret [(2, .box (.agg [.nils])), (3, .v .nils), (4, .v .nils), (5, .v (.int .i64 i3))] [⟨false, true, 1, l0⟩, ⟨false, true, 1, l1⟩, ⟨false, true, 1, l2⟩]) (fun l0 l1 l2 l3 l4 l5 n6 n7 n8 n9 n10 n11 i12 i13 i14 i15 i18 i19 i20 i21 b22 => Q (.exit 2) [(0, .v (.data l3)), (2, .box (.agg [.nils])), (6, .box (.agg [(.data l4), (.data l5)])), (8, .box (.agg [(.own 0 0 n6 n7 (some n8))])), (9, .v (.own 1 0 n9 n10 (some n11))), (10, .box (.agg [(.int .i64 i12), (.int .i64 i13)])), (11, .box (.agg [(.int .i64 i14), (.int .i64 i15)])), (12, .v (.own 2 0 (List.length l2) (List.length l2) none)), (13, .v (.int .i64 i18)), (14, .box (.agg [(.int .i64 i19), (.int .i64 i20)])), (15, .v (.int .i64 i21)), (48, .v (.bool b22))] [⟨false, true, 1, l0⟩, ⟨false, true, 1, l1⟩, ⟨false, true, 1, l2⟩]) n l0 l1 l2 l3 l4 l5 n6 n7 n8 n9 n10 n11 i12 i13 i14 i15 i18 i19 i20 i21)
def R_r11_Spans_0 (a0 : T_r04_Open) (a1 : T_r01_Of) (a2 : T_r08_Share) (a3 : T_r04_Mark) (a4 : T_r01_Less) (Q : Ex → Frm → Hp → Prop) (n : Nat) (F : Frm) (H : Hp) : Prop := D_r11_Spans_0 F H (fun l0 l1 l2 l3 l4 n5 n6 n7 n8 n9 n10 i11 i12 i13 i14 => L_r11_Spans_0_0 a0 a1 a2 a3 a4 (fun l0 l1 i2 => Q .ret [(2, .box (.agg [.nils])), (3, .v .nils), (4, .v .nils), (5, .v (.int .i64 i2))] [⟨false, true, 1, l0⟩, ⟨false, true, 1, l1⟩]) (fun l0 l1 l2 i3 => Q .ret [(2, .box (.agg [.nils])), (3, .v .nils), (4, .v .nils), (5, .v (.int .i64 i3))] [⟨false, true, 1, l0⟩, ⟨false, true, 1, l1⟩, ⟨false, true, 1, l2⟩]) (fun l0 l1 l2 l3 l4 l5 n6 n7 n8 n9 n10 n11 i12 i13 i14 i15 b18 => Q (.exit 0) [(0, .v (.data l3)), (2, .box (.agg [.nils])), (6, .box (.agg [(.data l4), (.data l5)])), (8, .box (.agg [(.own 0 0 n6 n7 (some n8))])), (9, .v (.own 1 0 n9 n10 (some n11))), (10, .box (.agg [(.int .i64 i12), (.int .i64 i13)])), (11, .box (.agg [(.int .i64 i14), (.int .i64 i15)])), (12, .v (.own 2 0 (List.length l2) (List.length l2) none)), (43, .v (.bool b18))] [⟨false, true, 1, l0⟩, ⟨false, true, 1, l1⟩, ⟨false, true, 1, l2⟩]) (fun l0 l1 l2 l3 l4 n5 n6 n7 n8 n9 n10 i11 i12 i13 i14 b15 => Q (.exit 0) [(0, .v (.data l2)), (2, .box (.agg [.nils])), (6, .box (.agg [(.data l3), (.data l4)])), (8, .box (.agg [(.own 0 0 n5 n6 (some n7))])), (9, .v (.own 1 0 n8 n9 (some n10))), (10, .box (.agg [(.int .i64 i11), (.int .i64 i12)])), (11, .box (.agg [(.int .i64 i13), (.int .i64 i14)])), (12, .v .nils), (43, .v (.bool b15))] [⟨false, true, 1, l0⟩, ⟨false, true, 1, l1⟩]) n l0 l1 l2 l3 l4 n5 n6 n7 n8 n9 n10 i11 i12 i13 i14) (fun l0 l1 l2 l3 l4 l5 n6 n7 n8 n9 n10 n11 i12 i13 i14 i15 => L_r11_Spans_0_1 a0 a1 a2 a3 a4 (fun l0 l1 i2 => Q .ret [(2, .box (.agg [.nils])), (3, .v .nils), (4, .v .nils), (5, .v (.int .i64 i2))] [⟨false, true, 1, l0⟩, ⟨false, true, 1, l1⟩]) (fun l0 l1 l2 i3 => Q .ret [(2, .box (.agg [.nils])), (3, .v .nils), (4, .v .nils), (5, .v (.int .i64 i3))] [⟨false, true, 1, l0⟩, ⟨false, true, 1, l1⟩, ⟨false, true, 1, l2⟩]) (fun l0 l1 l2 l3 l4 l5 n6 n7 n8 n9 n10 n11 i12 i13 i14 i15 b18 => Q (.exit 0) [(0, .v (.data l3)), (2, .box (.agg [.nils])), (6, .box (.agg [(.data l4), (.data l5)])), (8, .box (.agg [(.own 0 0 n6 n7 (some n8))])), (9, .v (.own 1 0 n9 n10 (some n11))), (10, .box (.agg [(.int .i64 i12), (.int .i64 i13)])), (11, .box (.agg [(.int .i64 i14), (.int .i64 i15)])), (12, .v (.own 2 0 (List.length l2) (List.length l2) none)), (43, .v (.bool b18))] [⟨false, true, 1, l0⟩, ⟨false, true, 1, l1⟩, ⟨false, true, 1, l2⟩]) (fun l0 l1 l2 l3 l4 n5 n6 n7 n8 n9 n10 i11 i12 i13 i14 b15 => Q (.exit 0) [(0, .v (.data l2)), (2, .box (.agg [.nils])), (6, .box (.agg [(.data l3), (.data l4)])), (8, .box (.agg [(.own 0 0 n5 n6 (some n7))])), (9, .v (.own 1 0 n8 n9 (some n10))), (10, .box (.agg [(.int .i64 i11), (.int .i64 i12)])), (11, .box (.agg [(.int .i64 i13), (.int .i64 i14)])), (12, .v .nils), (43, .v (.bool b15))] [⟨false, true, 1, l0⟩, ⟨false, true, 1, l1⟩]) n l0 l1 l2 l3 l4 l5 n6 n7 n8 n9 n10 n11 i12 i13 i14 i15)
end Go.Pf.Vc
