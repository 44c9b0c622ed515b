/- Part 3 of what the statement rests on: a verified evaluator over pure values, the conditions of the program's functions, and their plain laws. -/
import Derived.Test.YtfdnnbmkmlhidaaAfW2
namespace Go.Pf.Vc
open Go Go.Pf
set_option maxRecDepth 100000
theorem body_audit_pointsOf_1_0 (a0 Q n l0 n1 n2 i3) : WC (E ef0) (callW (S0_audit_pointsOf a0) 5) (lp_audit_pointsOf a0) b_36914301 [(0, .v (.own 0 0 n1 n2 none)), (3, .v (.int .i64 i3))] [⟨false, true, 2, l0⟩] (fun x F' H' => match x with | .norm => R_audit_pointsOf_1 a0 Q n F' H' | .exit i => Q (.exit i) F' H' | .ret => Q .ret F' H') = L_audit_pointsOf_1_0 a0 (X_audit_pointsOf_1_0 Q) (X_audit_pointsOf_1_1 Q) (n + 1) l0 n1 n2 i3 := by kernel_rfl
theorem lpb_audit_pointsOf_1 : LpOk (E ef0) (lp_audit_pointsOf w_audit_whole) b_36914301 := (LpOk_by (l := [(36914300, b_36914300)]) ⟨loop_audit_pointsOf_2, trivial⟩ (by kernel_rfl))
theorem loop_audit_pointsOf_1 : ∀ F H Q, lp_audit_pointsOf w_audit_whole 36914301 F H Q → LoopT (E ef0) b_36914301 F H Q := by
 intro F H Q h
 have go := LoopT.intro (callW_ok (se0_audit_pointsOf) 5) (lpb_audit_pointsOf_1) (R_audit_pointsOf_1 w_audit_whole Q) (by
   intro F H h
   unfold R_audit_pointsOf_1 D_audit_pointsOf_1 at h
   split at h
   · exact h
   · exact h) (by
   intro n F H h
   unfold R_audit_pointsOf_1 D_audit_pointsOf_1 at h
   split at h
   · exact (body_audit_pointsOf_1_0 ..).mpr h
   · exact h.elim)
 have h : D_audit_pointsOf_1 F H _ := h
 unfold D_audit_pointsOf_1 at h
 split at h
 · obtain ⟨n, h⟩ := h; exact go n _ _ h
 · exact h.elim
theorem se1_audit_pointsOf : SEOk (S1_audit_pointsOf w_audit_whole) := seOk_of ⟨(ok_audit_whole ef0 effG0), trivial⟩ ⟨⟨by kernel_rfl, by kernel_rfl, rfl, fun as => baseS_none (by kernel_rfl) as, effG0.num _ (by kernel_rfl), (LpOk_by (l := [(36914300, b_36914300), (36914301, b_36914301)]) ⟨loop_audit_pointsOf_2, loop_audit_pointsOf_1, trivial⟩ (by kernel_rfl))⟩, trivial⟩ effG0.ok
theorem eq_audit_pointsOf (a0 p0 p1 K) : WP (S1_audit_pointsOf a0) 6 t_audit_pointsOf [(.int .i64 p0), (.data p1)] K = wv_audit_pointsOf a0 p0 p1 (fun r0 => K (.data r0)) := by kernel_rfl
theorem ok_audit_pointsOf : OkF (E ef0) wp_audit_pointsOf n_audit_pointsOf := by
 intro as K h
 unfold wp_audit_pointsOf pw_audit_pointsOf at h
 split at h
 · exact WP_ok (se1_audit_pointsOf) (LpOk_by (l := [(86101800, b_86101800)]) ⟨loop_audit_pointsOf_0, trivial⟩ (by kernel_rfl)) (by kernel_rfl) (by kernel_rfl) (fun _ => baseS_none (by kernel_rfl) _) (effG0.num _ (by kernel_rfl)) ((eq_audit_pointsOf ..).mpr h)
 · exact h.elim
abbrev T_audit_Fits : Type := Int → List PV → List PV → List PV → (Int → Int → Prop) → Prop
def L_audit_Fits_0_0 (a0 : T_audit_claims) (a1 : T_audit_valid) (a2 : T_audit_pointsOf) (a3 : T_s_Contains_api_Ratio_api_Ratio) (a4 : T_s_Index_api_Ratio_api_Ratio) (a5 : T_ratio_Add) (x82124700_0 : List PV → List PV → List PV → List PV → List PV → Int → Int → Bool → Prop) (x82124700_1 : Int → Int → Prop) : Nat → List PV → List PV → List PV → List PV → List PV → Int → Int → Prop
 | 0, _, _, _, _, _, _, _ => False
 | n82124700 + 1, l0, l1, l2, l3, l4, i5, i6 =>
 (cbr (decide (i6 < i5))
 (asr (decide ((0 : Int) ≤ i6))
 (asr (decide (i6 < (((List.length l4) : Nat) : Int)))
 (lt (List.getD l4 (i6.toNat) .nils) (fun yr15 =>
 (asr (conf (.agg [.i .i64, .i .i64]) yr15)
 (a3 l1 (intOfV (cellAt yr15 0)) (intOfV (cellAt yr15 1)) (fun yb17 => 
 (cbr (!yb17)
 (x82124700_1 (0 : Int) (2 : Int))
 (lt (IntKind.i64.wrap (i6 + (1 : Int))) (fun yi18 =>
 (L_audit_Fits_0_0 a0 a1 a2 a3 a4 a5 x82124700_0 x82124700_1 n82124700 l0 l1 l2 l3 l4 i5 yi18)))))))))))
 (x82124700_0 l0 l1 l2 l3 l4 i5 i6 false))
def L_audit_Fits_1_0 (a0 : T_audit_claims) (a1 : T_audit_valid) (a2 : T_audit_pointsOf) (a3 : T_s_Contains_api_Ratio_api_Ratio) (a4 : T_s_Index_api_Ratio_api_Ratio) (a5 : T_ratio_Add) (x82124701_0 : List PV → List PV → List PV → List PV → Int → Int → Bool → Prop) (x82124701_1 : Int → Int → Prop) : Nat → List PV → List PV → List PV → List PV → Int → Int → Prop
 | 0, _, _, _, _, _, _ => False
 | n82124701 + 1, l0, l1, l2, l3, i4, i5 =>
 (cbr (decide (i5 < i4))
 (asr (decide ((0 : Int) ≤ i5))
 (asr (decide (i5 < (((List.length l3) : Nat) : Int)))
 (lt (List.getD l3 (i5.toNat) .nils) (fun yr74 =>
 (asr (conf (.agg [.i .i64, .i .i64, .i .i64, .i .i64, .i .i64, .i .i64, .b]) yr74)
 (a4 l1 (intOfV (cellAt yr74 0)) (intOfV (cellAt yr74 1)) (fun yi77 => 
 (a4 l1 (intOfV (cellAt yr74 2)) (intOfV (cellAt yr74 3)) (fun yi78 => 
 (asr (decide ((0 : Int) ≤ yi77))
 (asr (decide (yi77 < (((List.length l2) : Nat) : Int)))
 (lt (List.getD l2 (yi77.toNat) .nils) (fun yr83 =>
 (asr (conf (.agg [.i .i64, .i .i64]) yr83)
 (a5 (intOfV (cellAt yr83 0)) (intOfV (cellAt yr83 1)) (intOfV (cellAt yr74 4)) (intOfV (cellAt yr74 5)) (fun yi84 yi85 yi86 => 
 (cbr (yi86 != (0 : Int))
 (x82124701_1 (0 : Int) yi86)
 (asr (decide ((0 : Int) ≤ yi78))
 (asr (decide (yi78 < (((List.length l2) : Nat) : Int)))
 (lt (List.getD l2 (yi78.toNat) .nils) (fun yr88 =>
 (asr (conf (.agg [.i .i64, .i .i64]) yr88)
 (jn (fun (yj98 : Bool → Prop) =>
 (jn (fun (yj101 : Bool → Prop) =>
 (cbr ((yi84 == (intOfV (cellAt yr88 0))) && ((yi85 == (intOfV (cellAt yr88 1))) && true))
 (yj101 (boolOfV (cellAt yr74 6)))
 (yj101 false)))
 (fun yb100 => (cbr yb100
 (cbr ((intOfV (cellAt yr74 4)) == (0 : Int))
 (cbr (yi77 == yi78)
 (yj98 true)
 (cbr (decide ((intOfV (cellAt yr74 4)) > (0 : Int)))
 (lt (IntKind.i64.wrap (yi78 - (1 : Int))) (fun yi102 =>
 (asr (decide ((0 : Int) ≤ yi102))
 (asr (decide (yi102 < (((List.length l2) : Nat) : Int)))
 (lt (List.getD l2 (yi102.toNat) .nils) (fun yr103 =>
 (asr (conf (.agg [.i .i64, .i .i64]) yr103)
 (asr (decide ((0 : Int) ≤ yi78))
 (asr (decide (yi78 < (((List.length l2) : Nat) : Int)))
 (lt (List.getD l2 (yi78.toNat) .nils) (fun yr104 =>
 (asr (conf (.agg [.i .i64, .i .i64]) yr104)
 (yj98 (!(((intOfV (cellAt yr103 0)) == (intOfV (cellAt yr104 0))) && (((intOfV (cellAt yr103 1)) == (intOfV (cellAt yr104 1))) && true))))))))))))))))
 (yj98 false)))
 (cbr (decide ((intOfV (cellAt yr74 4)) > (0 : Int)))
 (lt (IntKind.i64.wrap (yi78 - (1 : Int))) (fun yi105 =>
 (asr (decide ((0 : Int) ≤ yi105))
 (asr (decide (yi105 < (((List.length l2) : Nat) : Int)))
 (lt (List.getD l2 (yi105.toNat) .nils) (fun yr106 =>
 (asr (conf (.agg [.i .i64, .i .i64]) yr106)
 (asr (decide ((0 : Int) ≤ yi78))
 (asr (decide (yi78 < (((List.length l2) : Nat) : Int)))
 (lt (List.getD l2 (yi78.toNat) .nils) (fun yr107 =>
 (asr (conf (.agg [.i .i64, .i .i64]) yr107)
 (yj98 (!(((intOfV (cellAt yr106 0)) == (intOfV (cellAt yr107 0))) && (((intOfV (cellAt yr106 1)) == (intOfV (cellAt yr107 1))) && true))))))))))))))))
 (yj98 false)))
 (yj98 ((yi84 == (intOfV (cellAt yr88 0))) && ((yi85 == (intOfV (cellAt yr88 1))) && true)))))))
 (fun yb97 => (cbr (!yb97)
 (x82124701_1 i5 (0 : Int))
 (lt (IntKind.i64.wrap (i5 + (1 : Int))) (fun yi99 =>
 (L_audit_Fits_1_0 a0 a1 a2 a3 a4 a5 x82124701_0 x82124701_1 n82124701 l0 l1 l2 l3 i4 yi99))))))))))))))))))))))))))))
 (x82124701_0 l0 l1 l2 l3 i4 i5 false))
def wv_audit_Fits (a0 : T_audit_claims) (a1 : T_audit_valid) (a2 : T_audit_pointsOf) (a3 : T_s_Contains_api_Ratio_api_Ratio) (a4 : T_s_Index_api_Ratio_api_Ratio) (a5 : T_ratio_Add) (p0 : Int) (p1 p2 p3 : List PV) (K : Int → Int → Prop) : Prop :=
 (a0 p0 p3 (fun yl2 yi3 => 
 (cbr (yi3 != (0 : Int))
 (K (0 : Int) yi3)
 (a1 p0 p1 p2 (fun yb7 => 
 (cbr (!yb7)
 (K (0 : Int) (8 : Int))
 (a2 p0 yl2 (fun yl30 => 
 (∃ n82124700 : Nat, L_audit_Fits_0_0 a0 a1 a2 a3 a4 a5
 (fun yl31 yl32 yl33 yl34 _ _ _ _ => (∃ n82124701 : Nat, L_audit_Fits_1_0 a0 a1 a2 a3 a4 a5
 (fun yl117 _ _ _ _ _ _ => (K (((List.length yl117) : Nat) : Int) (0 : Int)))
 (fun yi124 yi125 => (K yi124 yi125))
 n82124701 yl31 yl32 yl33 yl34 (((List.length yl34) : Nat) : Int) (0 : Int)))
 (fun yi126 yi127 => (K yi126 yi127))
 n82124700 p3 p1 p2 yl2 yl30 (((List.length yl30) : Nat) : Int) (0 : Int))))))))))
def w_audit_Fits (p0 : Int) (p1 p2 p3 : List PV) (K : Int → Int → Prop) : Prop := wv_audit_Fits w_audit_claims w_audit_valid w_audit_pointsOf w_s_Contains_api_Ratio_api_Ratio w_s_Index_api_Ratio_api_Ratio w_ratio_Add p0 p1 p2 p3 K
def pw_audit_Fits (w : T_audit_Fits) (as : List PV) (K : PV → Prop) : Prop :=
 match as with
 | [(.int .i64 p0), (.agg [(.data p1), (.data p2)]), (.data p3)] => w p0 p1 p2 p3 (fun r0 r1 => K (.tup [(.int .i64 r0), (.int .i64 r1)]))
 | _ => False
def wp_audit_Fits (as : List PV) (K : PV → Prop) : Prop := pw_audit_Fits w_audit_Fits as K
def D_audit_Fits_0 (F : Frm) (H : Hp) (A0 : List PV → List PV → List PV → List PV → List PV → Int → Int → Prop) : Prop :=
 match F, H with
 | [(2, .v (.data l0)), (4, .box (.agg [(.data l1), (.data l2)])), (8, .v (.data l3)), (34, .v (.data l4)), (35, .v (.int .i64 i5)), (36, .v (.int .i64 i6))], [] => (A0 l0 l1 l2 l3 l4 i5 i6)
 | _, _ => False
def D_audit_Fits_1 (F : Frm) (H : Hp) (A0 : List PV → List PV → List PV → List PV → Int → Int → Prop) : Prop :=
 match F, H with
 | [(2, .v (.data l0)), (4, .box (.agg [(.data l1), (.data l2)])), (46, .v (.data l3)), (47, .v (.int .i64 i4)), (48, .v (.int .i64 i5))], [] => (A0 l0 l1 l2 l3 i4 i5)
 | _, _ => False
def X_audit_Fits_0_0 (Q : Ex → Frm → Hp → Prop) : List PV → List PV → List PV → List PV → List PV → Int → Int → Bool → Prop := (fun l0 l1 l2 l3 l4 i5 i6 b7 => Q (.exit 0) [(2, .v (.data l0)), (4, .box (.agg [(.data l1), (.data l2)])), (8, .v (.data l3)), (34, .v (.data l4)), (35, .v (.int .i64 i5)), (36, .v (.int .i64 i6)), (37, .v (.bool b7))] [])
def X_audit_Fits_0_1 (Q : Ex → Frm → Hp → Prop) : Int → Int → Prop := (fun i0 i1 => Q .ret [(6, .v (.int .i64 i0)), (7, .v (.int .i64 i1))] [])
def X_audit_Fits_1_0 (Q : Ex → Frm → Hp → Prop) : List PV → List PV → List PV → List PV → Int → Int → Bool → Prop := (fun l0 l1 l2 l3 i4 i5 b6 => Q (.exit 2) [(2, .v (.data l0)), (4, .box (.agg [(.data l1), (.data l2)])), (46, .v (.data l3)), (47, .v (.int .i64 i4)), (48, .v (.int .i64 i5)), (49, .v (.bool b6))] [])
def X_audit_Fits_1_1 (Q : Ex → Frm → Hp → Prop) : Int → Int → Prop := (fun i0 i1 => Q .ret [(6, .v (.int .i64 i0)), (7, .v (.int .i64 i1))] [])
def R_audit_Fits_0 (a0 : T_audit_claims) (a1 : T_audit_valid) (a2 : T_audit_pointsOf) (a3 : T_s_Contains_api_Ratio_api_Ratio) (a4 : T_s_Index_api_Ratio_api_Ratio) (a5 : T_ratio_Add) (Q : Ex → Frm → Hp → Prop) (n : Nat) (F : Frm) (H : Hp) : Prop := D_audit_Fits_0 F H (fun l0 l1 l2 l3 l4 i5 i6 => L_audit_Fits_0_0 a0 a1 a2 a3 a4 a5 (X_audit_Fits_0_0 Q) (X_audit_Fits_0_1 Q) n l0 l1 l2 l3 l4 i5 i6)
def R_audit_Fits_1 (a0 : T_audit_claims) (a1 : T_audit_valid) (a2 : T_audit_pointsOf) (a3 : T_s_Contains_api_Ratio_api_Ratio) (a4 : T_s_Index_api_Ratio_api_Ratio) (a5 : T_ratio_Add) (Q : Ex → Frm → Hp → Prop) (n : Nat) (F : Frm) (H : Hp) : Prop := D_audit_Fits_1 F H (fun l0 l1 l2 l3 i4 i5 => L_audit_Fits_1_0 a0 a1 a2 a3 a4 a5 (X_audit_Fits_1_0 Q) (X_audit_Fits_1_1 Q) n l0 l1 l2 l3 i4 i5)
def lp_audit_Fits (a0 : T_audit_claims) (a1 : T_audit_valid) (a2 : T_audit_pointsOf) (a3 : T_s_Contains_api_Ratio_api_Ratio) (a4 : T_s_Index_api_Ratio_api_Ratio) (a5 : T_ratio_Add) : LP := fun id F H Q =>
 bif Nat.beq id 82124700 then D_audit_Fits_0 F H (fun l0 l1 l2 l3 l4 i5 i6 => ∃ n : Nat, L_audit_Fits_0_0 a0 a1 a2 a3 a4 a5 (X_audit_Fits_0_0 Q) (X_audit_Fits_0_1 Q) n l0 l1 l2 l3 l4 i5 i6) else
 bif Nat.beq id 82124701 then D_audit_Fits_1 F H (fun l0 l1 l2 l3 i4 i5 => ∃ n : Nat, L_audit_Fits_1_0 a0 a1 a2 a3 a4 a5 (X_audit_Fits_1_0 Q) (X_audit_Fits_1_1 Q) n l0 l1 l2 l3 i4 i5) else
 False
def S0_audit_Fits (a0 : T_audit_claims) (a1 : T_audit_valid) (a2 : T_audit_pointsOf) (a3 : T_s_Contains_api_Ratio_api_Ratio) (a4 : T_s_Index_api_Ratio_api_Ratio) (a5 : T_ratio_Add) : SE := ⟨(E ef0), lookS [(n_audit_claims, pw_audit_claims a0), (n_audit_valid, pw_audit_valid a1), (n_audit_pointsOf, pw_audit_pointsOf a2), (n_s_Contains_api_Ratio_api_Ratio, pw_s_Contains_api_Ratio_api_Ratio a3), (n_s_Index_api_Ratio_api_Ratio, pw_s_Index_api_Ratio_api_Ratio a4), (n_ratio_Add, pw_ratio_Add a5)], lookI [], lp_audit_Fits a0 a1 a2 a3 a4 a5⟩
theorem se0_audit_Fits : SEOk (S0_audit_Fits w_audit_claims w_audit_valid w_audit_pointsOf w_s_Contains_api_Ratio_api_Ratio w_s_Index_api_Ratio_api_Ratio w_ratio_Add) := seOk_of ⟨(ok_audit_claims ef0 effG0), (ok_audit_valid ef0 effG0), ok_audit_pointsOf, (ok_s_Contains_api_Ratio_api_Ratio ef0 effG0), (ok_s_Index_api_Ratio_api_Ratio ef0 effG0), (ok_ratio_Add ef0 effG0), trivial⟩ trivial effG0.ok
theorem body_audit_Fits_0_0 (a0 a1 a2 a3 a4 a5 Q n l0 l1 l2 l3 l4 i5 i6) : WC (E ef0) (callW (S0_audit_Fits a0 a1 a2 a3 a4 a5) 5) (lp_audit_Fits a0 a1 a2 a3 a4 a5) b_82124700 [(2, .v (.data l0)), (4, .box (.agg [(.data l1), (.data l2)])), (8, .v (.data l3)), (34, .v (.data l4)), (35, .v (.int .i64 i5)), (36, .v (.int .i64 i6))] [] (fun x F' H' => match x with | .norm => R_audit_Fits_0 a0 a1 a2 a3 a4 a5 Q n F' H' | .exit i => Q (.exit i) F' H' | .ret => Q .ret F' H') = L_audit_Fits_0_0 a0 a1 a2 a3 a4 a5 (X_audit_Fits_0_0 Q) (X_audit_Fits_0_1 Q) (n + 1) l0 l1 l2 l3 l4 i5 i6 := by kernel_rfl
theorem lpb_audit_Fits_0 : LpOk (E ef0) (lp_audit_Fits w_audit_claims w_audit_valid w_audit_pointsOf w_s_Contains_api_Ratio_api_Ratio w_s_Index_api_Ratio_api_Ratio w_ratio_Add) b_82124700 := (LpOk_no (by kernel_rfl))
theorem loop_audit_Fits_0 : ∀ F H Q, lp_audit_Fits w_audit_claims w_audit_valid w_audit_pointsOf w_s_Contains_api_Ratio_api_Ratio w_s_Index_api_Ratio_api_Ratio w_ratio_Add 82124700 F H Q → LoopT (E ef0) b_82124700 F H Q := by
 intro F H Q h
 have go := LoopT.intro (callW_ok (se0_audit_Fits) 5) (lpb_audit_Fits_0) (R_audit_Fits_0 w_audit_claims w_audit_valid w_audit_pointsOf w_s_Contains_api_Ratio_api_Ratio w_s_Index_api_Ratio_api_Ratio w_ratio_Add Q) (by
   intro F H h
   unfold R_audit_Fits_0 D_audit_Fits_0 at h
   split at h
   · exact h
   · exact h) (by
   intro n F H h
   unfold R_audit_Fits_0 D_audit_Fits_0 at h
   split at h
   · exact (body_audit_Fits_0_0 ..).mpr h
   · exact h.elim)
 have h : D_audit_Fits_0 F H _ := h
 unfold D_audit_Fits_0 at h
 split at h
 · obtain ⟨n, h⟩ := h; exact go n _ _ h
 · exact h.elim
theorem body_audit_Fits_1_0 (a0 a1 a2 a3 a4 a5 Q n l0 l1 l2 l3 i4 i5) : WC (E ef0) (callW (S0_audit_Fits a0 a1 a2 a3 a4 a5) 5) (lp_audit_Fits a0 a1 a2 a3 a4 a5) b_82124701 [(2, .v (.data l0)), (4, .box (.agg [(.data l1), (.data l2)])), (46, .v (.data l3)), (47, .v (.int .i64 i4)), (48, .v (.int .i64 i5))] [] (fun x F' H' => match x with | .norm => R_audit_Fits_1 a0 a1 a2 a3 a4 a5 Q n F' H' | .exit i => Q (.exit i) F' H' | .ret => Q .ret F' H') = L_audit_Fits_1_0 a0 a1 a2 a3 a4 a5 (X_audit_Fits_1_0 Q) (X_audit_Fits_1_1 Q) (n + 1) l0 l1 l2 l3 i4 i5 := by kernel_rfl
theorem lpb_audit_Fits_1 : LpOk (E ef0) (lp_audit_Fits w_audit_claims w_audit_valid w_audit_pointsOf w_s_Contains_api_Ratio_api_Ratio w_s_Index_api_Ratio_api_Ratio w_ratio_Add) b_82124701 := (LpOk_no (by kernel_rfl))
theorem loop_audit_Fits_1 : ∀ F H Q, lp_audit_Fits w_audit_claims w_audit_valid w_audit_pointsOf w_s_Contains_api_Ratio_api_Ratio w_s_Index_api_Ratio_api_Ratio w_ratio_Add 82124701 F H Q → LoopT (E ef0) b_82124701 F H Q := by
 intro F H Q h
 have go := LoopT.intro (callW_ok (se0_audit_Fits) 5) (lpb_audit_Fits_1) (R_audit_Fits_1 w_audit_claims w_audit_valid w_audit_pointsOf w_s_Contains_api_Ratio_api_Ratio w_s_Index_api_Ratio_api_Ratio w_ratio_Add Q) (by
   intro F H h
   unfold R_audit_Fits_1 D_audit_Fits_1 at h
   split at h
   · exact h
   · exact h) (by
   intro n F H h
   unfold R_audit_Fits_1 D_audit_Fits_1 at h
   split at h
   · exact (body_audit_Fits_1_0 ..).mpr h
   · exact h.elim)
 have h : D_audit_Fits_1 F H _ := h
 unfold D_audit_Fits_1 at h
 split at h
 · obtain ⟨n, h⟩ := h; exact go n _ _ h
 · exact h.elim
theorem eq_audit_Fits (a0 a1 a2 a3 a4 a5 p0 p1 p2 p3 K) : WP (S0_audit_Fits a0 a1 a2 a3 a4 a5) 6 t_audit_Fits [(.int .i64 p0), (.agg [(.data p1), (.data p2)]), (.data p3)] K = wv_audit_Fits a0 a1 a2 a3 a4 a5 p0 p1 p2 p3 (fun r0 r1 => K (.tup [(.int .i64 r0), (.int .i64 r1)])) := by kernel_rfl
theorem ok_audit_Fits : OkF (E ef0) wp_audit_Fits n_audit_Fits := by
 intro as K h
 unfold wp_audit_Fits pw_audit_Fits at h
 split at h
 · exact WP_ok (se0_audit_Fits) (LpOk_by (l := [(82124700, b_82124700), (82124701, b_82124701)]) ⟨loop_audit_Fits_0, loop_audit_Fits_1, trivial⟩ (by kernel_rfl)) (by kernel_rfl) (by kernel_rfl) (fun _ => baseS_none (by kernel_rfl) _) (effG0.num _ (by kernel_rfl)) ((eq_audit_Fits ..).mpr h)
 · exact h.elim
end Go.Pf.Vc
namespace Go.Pf.Vc
open Go Go.Pf
set_option linter.unusedVariables false
theorem det_audit_claimed (p0 : Int) (p1 : Int) (p2 : Int) (p3 : Int) (p4 : Int) (p5 : Int) (p6 : Int) (p7 : Int) (p8 : Int) (r0 : Int) (r1 : Int) (r2 : Int) (r3 : Int) (r4 : Int) (r5 : Int) (r6 : Bool) (r7 : Bool) (h : ∀ K : Int → Int → Int → Int → Int → Int → Bool → Bool → Prop, K r0 r1 r2 r3 r4 r5 r6 r7 → w_audit_claimed p0 p1 p2 p3 p4 p5 p6 p7 p8 K) (K : Int → Int → Int → Int → Int → Int → Bool → Bool → Prop) : w_audit_claimed p0 p1 p2 p3 p4 p5 p6 p7 p8 K = K r0 r1 r2 r3 r4 r5 r6 r7 :=
 propext ⟨fun k => detC (ok_audit_claimed [] effG_nil) (as := [(.int .i64 p0), (.agg [(.int .i64 p1), (.int .u8 p2), (.int .i64 p3), (.int .i64 p4), (.int .i64 p5), (.int .i64 p6), (.int .i64 p7), (.int .i64 p8)])]) (x := (.tup [(.agg [(.int .i64 r0), (.int .i64 r1), (.int .i64 r2), (.int .i64 r3), (.int .i64 r4), (.int .i64 r5), (.bool r6)]), (.bool r7)])) (fun K' k' => h (fun r0 r1 r2 r3 r4 r5 r6 r7 => K' (.tup [(.agg [(.int .i64 r0), (.int .i64 r1), (.int .i64 r2), (.int .i64 r3), (.int .i64 r4), (.int .i64 r5), (.bool r6)]), (.bool r7)])) k') (K := fun x => match x with | (.tup [(.agg [(.int .i64 r0), (.int .i64 r1), (.int .i64 r2), (.int .i64 r3), (.int .i64 r4), (.int .i64 r5), (.bool r6)]), (.bool r7)]) => K r0 r1 r2 r3 r4 r5 r6 r7 | _ => False) k, h K⟩
theorem det_audit_claims (p0 : Int) (p1 : List PV) (r0 : List PV) (r1 : Int) (h : ∀ K : List PV → Int → Prop, K r0 r1 → w_audit_claims p0 p1 K) (K : List PV → Int → Prop) : w_audit_claims p0 p1 K = K r0 r1 :=
 propext ⟨fun k => detC (ok_audit_claims [] effG_nil) (as := [(.int .i64 p0), (.data p1)]) (x := (.tup [(.data r0), (.int .i64 r1)])) (fun K' k' => h (fun r0 r1 => K' (.tup [(.data r0), (.int .i64 r1)])) k') (K := fun x => match x with | (.tup [(.data r0), (.int .i64 r1)]) => K r0 r1 | _ => False) k, h K⟩
theorem det_audit_valid (p0 : Int) (p1 : List PV) (p2 : List PV) (r0 : Bool) (h : ∀ K : Bool → Prop, K r0 → w_audit_valid p0 p1 p2 K) (K : Bool → Prop) : w_audit_valid p0 p1 p2 K = K r0 :=
 propext ⟨fun k => detC (ok_audit_valid [] effG_nil) (as := [(.int .i64 p0), (.agg [(.data p1), (.data p2)])]) (x := (.bool r0)) (fun K' k' => h (fun r0 => K' (.bool r0)) k') (K := fun x => match x with | (.bool r0) => K r0 | _ => False) k, h K⟩
theorem det_audit_pointsOf (p0 : Int) (p1 : List PV) (r0 : List PV) (h : ∀ K : List PV → Prop, K r0 → w_audit_pointsOf p0 p1 K) (K : List PV → Prop) : w_audit_pointsOf p0 p1 K = K r0 :=
 propext ⟨fun k => detC ok_audit_pointsOf (as := [(.int .i64 p0), (.data p1)]) (x := (.data r0)) (fun K' k' => h (fun r0 => K' (.data r0)) k') (K := fun x => match x with | (.data r0) => K r0 | _ => False) k, h K⟩
theorem det_audit_Fits (p0 : Int) (p1 : List PV) (p2 : List PV) (p3 : List PV) (r0 : Int) (r1 : Int) (h : ∀ K : Int → Int → Prop, K r0 r1 → w_audit_Fits p0 p1 p2 p3 K) (K : Int → Int → Prop) : w_audit_Fits p0 p1 p2 p3 K = K r0 r1 :=
 propext ⟨fun k => detC ok_audit_Fits (as := [(.int .i64 p0), (.agg [(.data p1), (.data p2)]), (.data p3)]) (x := (.tup [(.int .i64 r0), (.int .i64 r1)])) (fun K' k' => h (fun r0 r1 => K' (.tup [(.int .i64 r0), (.int .i64 r1)])) k') (K := fun x => match x with | (.tup [(.int .i64 r0), (.int .i64 r1)]) => K r0 r1 | _ => False) k, h K⟩
end Go.Pf.Vc
namespace Go.Pf.Vc
open Go Go.Pf
set_option maxRecDepth 100000
abbrev T_r01_abs : Type := Int → (Int → Prop) → Prop
def wv_r01_abs (p0 : Int) (K : Int → Prop) : Prop :=
 (cbr (decide (p0 < (0 : Int)))
 (K (IntKind.u64.wrap ((IntKind.u64.wrap (IntKind.i64.wrap ((0 : Int) - (IntKind.i64.wrap (p0 + (1 : Int)))))) + (1 : Int))))
 (K (IntKind.u64.wrap p0)))
def w_r01_abs (p0 : Int) (K : Int → Prop) : Prop := wv_r01_abs p0 K
def pw_r01_abs (w : T_r01_abs) (as : List PV) (K : PV → Prop) : Prop :=
 match as with
 | [(.int .i64 p0)] => w p0 (fun r0 => K (.int .u64 r0))
 | _ => False
def wp_r01_abs (as : List PV) (K : PV → Prop) : Prop := pw_r01_abs w_r01_abs as K
def lp_r01_abs : LP := fun _ _ _ _ =>
 False
def S0_r01_abs (e : List (Nat × EffF)) : SE := ⟨(E e), lookS [], lookI [], lp_r01_abs⟩
theorem se0_r01_abs (e : List (Nat × EffF)) (he : EG e) : SEOk (S0_r01_abs e) := seOk_of trivial trivial he.ok
theorem eq_r01_abs (e : List (Nat × EffF)) ( p0 K) : WP (S0_r01_abs e) 6 t_r01_abs [(.int .i64 p0)] K = wv_r01_abs p0 (fun r0 => K (.int .u64 r0)) := by kernel_rfl
theorem ok_r01_abs (e : List (Nat × EffF)) (he : EG e) : OkF (E e) wp_r01_abs n_r01_abs := by
 intro as K h
 unfold wp_r01_abs pw_r01_abs at h
 split at h
 · exact WP_ok (se0_r01_abs e he) (LpOk_no (by kernel_rfl)) (by kernel_rfl) (by kernel_rfl) (fun _ => baseS_none (by kernel_rfl) _) (he.num _ (by kernel_rfl)) ((eq_r01_abs ..).mpr h)
 · exact h.elim
abbrev T_r01_gcd : Type := Int → Int → (Int → Prop) → Prop
def L_r01_gcd_0_0 (x0 : Int → Int → Bool → Prop) : Nat → Int → Int → Prop
 | 0, _, _ => False
 | n + 1, i0, i1 =>
 (cbr (i1 != (0 : Int))
 (asr (!(decide (i1 = (0 : Int))))
 (L_r01_gcd_0_0 x0 n i1 (Int.tmod i0 i1)))
 (x0 i0 i1 false))
def wv_r01_gcd (p0 p1 : Int) (K : Int → Prop) : Prop :=
 (∃ n : Nat, L_r01_gcd_0_0
 (fun yi0 _ _ => (K yi0))
 n p0 p1)
def w_r01_gcd (p0 p1 : Int) (K : Int → Prop) : Prop := wv_r01_gcd p0 p1 K
def pw_r01_gcd (w : T_r01_gcd) (as : List PV) (K : PV → Prop) : Prop :=
 match as with
 | [(.int .u64 p0), (.int .u64 p1)] => w p0 p1 (fun r0 => K (.int .u64 r0))
 | _ => False
def wp_r01_gcd (as : List PV) (K : PV → Prop) : Prop := pw_r01_gcd w_r01_gcd as K
def D_r01_gcd_0 (F : Frm) (H : Hp) (A0 : Int → Int → Prop) : Prop :=
 match F, H with
 | [(0, .v (.int .u64 i0)), (1, .v (.int .u64 i1))], [] => (A0 i0 i1)
 | _, _ => False
def X_r01_gcd_0_0 (Q : Ex → Frm → Hp → Prop) : Int → Int → Bool → Prop := (fun i0 i1 b2 => Q (.exit 0) [(0, .v (.int .u64 i0)), (1, .v (.int .u64 i1)), (6, .v (.bool b2))] [])
def R_r01_gcd_0 (Q : Ex → Frm → Hp → Prop) (n : Nat) (F : Frm) (H : Hp) : Prop := D_r01_gcd_0 F H (fun i0 i1 => L_r01_gcd_0_0 (X_r01_gcd_0_0 Q) n i0 i1)
def lp_r01_gcd : LP := fun id F H Q =>
 bif Nat.beq id 16774900 then D_r01_gcd_0 F H (fun i0 i1 => ∃ n : Nat, L_r01_gcd_0_0 (X_r01_gcd_0_0 Q) n i0 i1) else
 False
def S0_r01_gcd (e : List (Nat × EffF)) : SE := ⟨(E e), lookS [], lookI [], lp_r01_gcd⟩
theorem se0_r01_gcd (e : List (Nat × EffF)) (he : EG e) : SEOk (S0_r01_gcd e) := seOk_of trivial trivial he.ok
theorem body_r01_gcd_0_0 (e : List (Nat × EffF)) ( Q n i0 i1) : WC (E e) (callW (S0_r01_gcd e) 5) (lp_r01_gcd) b_16774900 [(0, .v (.int .u64 i0)), (1, .v (.int .u64 i1))] [] (fun x F' H' => match x with | .norm => R_r01_gcd_0 Q n F' H' | .exit i => Q (.exit i) F' H' | .ret => Q .ret F' H') = L_r01_gcd_0_0 (X_r01_gcd_0_0 Q) (n + 1) i0 i1 := by kernel_rfl
theorem lpb_r01_gcd_0 (e : List (Nat × EffF)) (_ : EG e) : LpOk (E e) (lp_r01_gcd) b_16774900 := (LpOk_no (by kernel_rfl))
theorem loop_r01_gcd_0 (e : List (Nat × EffF)) (he : EG e) : ∀ F H Q, lp_r01_gcd 16774900 F H Q → LoopT (E e) b_16774900 F H Q := by
 intro F H Q h
 have go := LoopT.intro (callW_ok (se0_r01_gcd e he) 5) (lpb_r01_gcd_0 e he) (R_r01_gcd_0 Q) (by
   intro F H h
   unfold R_r01_gcd_0 D_r01_gcd_0 at h
   split at h
   · exact h
   · exact h) (by
   intro n F H h
   unfold R_r01_gcd_0 D_r01_gcd_0 at h
   split at h
   · exact (body_r01_gcd_0_0 ..).mpr h
   · exact h.elim)
 have h : D_r01_gcd_0 F H _ := h
 unfold D_r01_gcd_0 at h
 split at h
 · obtain ⟨n, h⟩ := h; exact go n _ _ h
 · exact h.elim
theorem eq_r01_gcd (e : List (Nat × EffF)) ( p0 p1 K) : WP (S0_r01_gcd e) 6 t_r01_gcd [(.int .u64 p0), (.int .u64 p1)] K = wv_r01_gcd p0 p1 (fun r0 => K (.int .u64 r0)) := by kernel_rfl
theorem ok_r01_gcd (e : List (Nat × EffF)) (he : EG e) : OkF (E e) wp_r01_gcd n_r01_gcd := by
 intro as K h
 unfold wp_r01_gcd pw_r01_gcd at h
 split at h
 · exact WP_ok (se0_r01_gcd e he) (LpOk_by (l := [(16774900, b_16774900)]) ⟨loop_r01_gcd_0 e he, trivial⟩ (by kernel_rfl)) (by kernel_rfl) (by kernel_rfl) (fun _ => baseS_none (by kernel_rfl) _) (he.num _ (by kernel_rfl)) ((eq_r01_gcd ..).mpr h)
 · exact h.elim
abbrev T_r01_Check : Type := Int → Int → (Int → Prop) → Prop
def wv_r01_Check (a0 : T_r01_abs) (a1 : T_r01_gcd) (p0 p1 : Int) (K : Int → Prop) : Prop :=
 (cbr (decide (p1 < (1 : Int)))
 (K (8 : Int))
 (cbr (decide (p1 > (1000000000000000000 : Int)))
 (K (8 : Int))
 (cbr (decide (p0 < (-1000000000000000000 : Int)))
 (K (8 : Int))
 (cbr (decide (p0 > (1000000000000000000 : Int)))
 (K (8 : Int))
 (a0 p0 (fun yi0 => 
 (a1 yi0 (IntKind.u64.wrap p1) (fun yi1 => 
 (cbr (yi1 != (1 : Int))
 (K (8 : Int))
 (K (0 : Int)))))))))))
def w_r01_Check (p0 p1 : Int) (K : Int → Prop) : Prop := wv_r01_Check w_r01_abs w_r01_gcd p0 p1 K
def pw_r01_Check (w : T_r01_Check) (as : List PV) (K : PV → Prop) : Prop :=
 match as with
 | [(.agg [(.int .i64 p0), (.int .i64 p1)])] => w p0 p1 (fun r0 => K (.int .i64 r0))
 | _ => False
def wp_r01_Check (as : List PV) (K : PV → Prop) : Prop := pw_r01_Check w_r01_Check as K
def lp_r01_Check (_ : T_r01_abs) (_ : T_r01_gcd) : LP := fun _ _ _ _ =>
 False
def S0_r01_Check (e : List (Nat × EffF)) (a0 : T_r01_abs) (a1 : T_r01_gcd) : SE := ⟨(E e), lookS [(n_r01_abs, pw_r01_abs a0), (n_r01_gcd, pw_r01_gcd a1)], lookI [], lp_r01_Check a0 a1⟩
theorem se0_r01_Check (e : List (Nat × EffF)) (he : EG e) : SEOk (S0_r01_Check e w_r01_abs w_r01_gcd) := seOk_of ⟨(ok_r01_abs e he), (ok_r01_gcd e he), trivial⟩ trivial he.ok
theorem eq_r01_Check (e : List (Nat × EffF)) (a0 a1 p0 p1 K) : WP (S0_r01_Check e a0 a1) 6 t_r01_Check [(.agg [(.int .i64 p0), (.int .i64 p1)])] K = wv_r01_Check a0 a1 p0 p1 (fun r0 => K (.int .i64 r0)) := by kernel_rfl
theorem ok_r01_Check (e : List (Nat × EffF)) (he : EG e) : OkF (E e) wp_r01_Check n_r01_Check := by
 intro as K h
 unfold wp_r01_Check pw_r01_Check at h
 split at h
 · exact WP_ok (se0_r01_Check e he) (LpOk_no (by kernel_rfl)) (by kernel_rfl) (by kernel_rfl) (fun _ => baseS_none (by kernel_rfl) _) (he.num _ (by kernel_rfl)) ((eq_r01_Check ..).mpr h)
 · exact h.elim
abbrev T_r01_Both : Type := Int → Int → Int → Int → (Int → Prop) → Prop
def wv_r01_Both (a0 : T_r01_Check) (p0 p1 p2 p3 : Int) (K : Int → Prop) : Prop :=
 (a0 p0 p1 (fun yi0 => 
 (cbr (yi0 != (0 : Int))
 (a0 p0 p1 (fun yi1 => 
 (K yi1)))
 (a0 p2 p3 (fun yi2 => 
 (K yi2))))))
def w_r01_Both (p0 p1 p2 p3 : Int) (K : Int → Prop) : Prop := wv_r01_Both w_r01_Check p0 p1 p2 p3 K
def pw_r01_Both (w : T_r01_Both) (as : List PV) (K : PV → Prop) : Prop :=
 match as with
 | [(.agg [(.int .i64 p0), (.int .i64 p1)]), (.agg [(.int .i64 p2), (.int .i64 p3)])] => w p0 p1 p2 p3 (fun r0 => K (.int .i64 r0))
 | _ => False
def wp_r01_Both (as : List PV) (K : PV → Prop) : Prop := pw_r01_Both w_r01_Both as K
def lp_r01_Both (_ : T_r01_Check) : LP := fun _ _ _ _ =>
 False
def S0_r01_Both (e : List (Nat × EffF)) (a0 : T_r01_Check) : SE := ⟨(E e), lookS [(n_r01_Check, pw_r01_Check a0)], lookI [], lp_r01_Both a0⟩
theorem se0_r01_Both (e : List (Nat × EffF)) (he : EG e) : SEOk (S0_r01_Both e w_r01_Check) := seOk_of ⟨(ok_r01_Check e he), trivial⟩ trivial he.ok
theorem eq_r01_Both (e : List (Nat × EffF)) (a0 p0 p1 p2 p3 K) : WP (S0_r01_Both e a0) 6 t_r01_Both [(.agg [(.int .i64 p0), (.int .i64 p1)]), (.agg [(.int .i64 p2), (.int .i64 p3)])] K = wv_r01_Both a0 p0 p1 p2 p3 (fun r0 => K (.int .i64 r0)) := by kernel_rfl
theorem ok_r01_Both (e : List (Nat × EffF)) (he : EG e) : OkF (E e) wp_r01_Both n_r01_Both := by
 intro as K h
 unfold wp_r01_Both pw_r01_Both at h
 split at h
 · exact WP_ok (se0_r01_Both e he) (LpOk_no (by kernel_rfl)) (by kernel_rfl) (by kernel_rfl) (fun _ => baseS_none (by kernel_rfl) _) (he.num _ (by kernel_rfl)) ((eq_r01_Both ..).mpr h)
 · exact h.elim
abbrev T_r01_Of : Type := Int → (Int → Int → Prop) → Prop
def wv_r01_Of (p0 : Int) (K : Int → Int → Prop) : Prop :=
 (K p0 (1 : Int))
def w_r01_Of (p0 : Int) (K : Int → Int → Prop) : Prop := wv_r01_Of p0 K
def pw_r01_Of (w : T_r01_Of) (as : List PV) (K : PV → Prop) : Prop :=
 match as with
 | [(.int .i64 p0)] => w p0 (fun r0 r1 => K (.agg [(.int .i64 r0), (.int .i64 r1)]))
 | _ => False
def wp_r01_Of (as : List PV) (K : PV → Prop) : Prop := pw_r01_Of w_r01_Of as K
def lp_r01_Of : LP := fun _ _ _ _ =>
 False
def S0_r01_Of (e : List (Nat × EffF)) : SE := ⟨(E e), lookS [], lookI [], lp_r01_Of⟩
theorem se0_r01_Of (e : List (Nat × EffF)) (he : EG e) : SEOk (S0_r01_Of e) := seOk_of trivial trivial he.ok
theorem eq_r01_Of (e : List (Nat × EffF)) ( p0 K) : WP (S0_r01_Of e) 6 t_r01_Of [(.int .i64 p0)] K = wv_r01_Of p0 (fun r0 r1 => K (.agg [(.int .i64 r0), (.int .i64 r1)])) := by kernel_rfl
theorem ok_r01_Of (e : List (Nat × EffF)) (he : EG e) : OkF (E e) wp_r01_Of n_r01_Of := by
 intro as K h
 unfold wp_r01_Of pw_r01_Of at h
 split at h
 · exact WP_ok (se0_r01_Of e he) (LpOk_no (by kernel_rfl)) (by kernel_rfl) (by kernel_rfl) (fun _ => baseS_none (by kernel_rfl) _) (he.num _ (by kernel_rfl)) ((eq_r01_Of ..).mpr h)
 · exact h.elim
abbrev T_r01_times : Type := Int → Int → (Int → Int → Prop) → Prop
def wv_r01_times (p0 p1 : Int) (K : Int → Int → Prop) : Prop :=
 (K (IntKind.u64.wrap ((IntKind.u64.wrap ((IntKind.u64.wrap ((Int.fdiv p0 4294967296) * (Int.fdiv p1 4294967296))) + (Int.fdiv (IntKind.u64.wrap ((Int.fdiv p0 4294967296) * (IntKind.u64.wrap (BitVec.ofInt IntKind.u64.bits p1 &&& BitVec.ofInt IntKind.u64.bits (4294967295 : Int)).toNat))) 4294967296))) + (Int.fdiv (IntKind.u64.wrap ((IntKind.u64.wrap ((IntKind.u64.wrap (BitVec.ofInt IntKind.u64.bits (IntKind.u64.wrap ((Int.fdiv p0 4294967296) * (IntKind.u64.wrap (BitVec.ofInt IntKind.u64.bits p1 &&& BitVec.ofInt IntKind.u64.bits (4294967295 : Int)).toNat))) &&& BitVec.ofInt IntKind.u64.bits (4294967295 : Int)).toNat) + (IntKind.u64.wrap ((IntKind.u64.wrap (BitVec.ofInt IntKind.u64.bits p0 &&& BitVec.ofInt IntKind.u64.bits (4294967295 : Int)).toNat) * (Int.fdiv p1 4294967296))))) + (Int.fdiv (IntKind.u64.wrap ((IntKind.u64.wrap (BitVec.ofInt IntKind.u64.bits p0 &&& BitVec.ofInt IntKind.u64.bits (4294967295 : Int)).toNat) * (IntKind.u64.wrap (BitVec.ofInt IntKind.u64.bits p1 &&& BitVec.ofInt IntKind.u64.bits (4294967295 : Int)).toNat))) 4294967296))) 4294967296))) (IntKind.u64.wrap (BitVec.ofInt IntKind.u64.bits (IntKind.u64.wrap ((IntKind.u64.wrap ((IntKind.u64.wrap ((IntKind.u64.wrap (BitVec.ofInt IntKind.u64.bits (IntKind.u64.wrap ((Int.fdiv p0 4294967296) * (IntKind.u64.wrap (BitVec.ofInt IntKind.u64.bits p1 &&& BitVec.ofInt IntKind.u64.bits (4294967295 : Int)).toNat))) &&& BitVec.ofInt IntKind.u64.bits (4294967295 : Int)).toNat) + (IntKind.u64.wrap ((IntKind.u64.wrap (BitVec.ofInt IntKind.u64.bits p0 &&& BitVec.ofInt IntKind.u64.bits (4294967295 : Int)).toNat) * (Int.fdiv p1 4294967296))))) + (Int.fdiv (IntKind.u64.wrap ((IntKind.u64.wrap (BitVec.ofInt IntKind.u64.bits p0 &&& BitVec.ofInt IntKind.u64.bits (4294967295 : Int)).toNat) * (IntKind.u64.wrap (BitVec.ofInt IntKind.u64.bits p1 &&& BitVec.ofInt IntKind.u64.bits (4294967295 : Int)).toNat))) 4294967296))) * (4294967296 : Int))) ||| BitVec.ofInt IntKind.u64.bits (IntKind.u64.wrap (BitVec.ofInt IntKind.u64.bits (IntKind.u64.wrap ((IntKind.u64.wrap (BitVec.ofInt IntKind.u64.bits p0 &&& BitVec.ofInt IntKind.u64.bits (4294967295 : Int)).toNat) * (IntKind.u64.wrap (BitVec.ofInt IntKind.u64.bits p1 &&& BitVec.ofInt IntKind.u64.bits (4294967295 : Int)).toNat))) &&& BitVec.ofInt IntKind.u64.bits (4294967295 : Int)).toNat)).toNat))
def w_r01_times (p0 p1 : Int) (K : Int → Int → Prop) : Prop := wv_r01_times p0 p1 K
def pw_r01_times (w : T_r01_times) (as : List PV) (K : PV → Prop) : Prop :=
 match as with
 | [(.int .u64 p0), (.int .u64 p1)] => w p0 p1 (fun r0 r1 => K (.agg [(.int .u64 r0), (.int .u64 r1)]))
 | _ => False
def wp_r01_times (as : List PV) (K : PV → Prop) : Prop := pw_r01_times w_r01_times as K
def lp_r01_times : LP := fun _ _ _ _ =>
 False
def S0_r01_times (e : List (Nat × EffF)) : SE := ⟨(E e), lookS [], lookI [], lp_r01_times⟩
theorem se0_r01_times (e : List (Nat × EffF)) (he : EG e) : SEOk (S0_r01_times e) := seOk_of trivial trivial he.ok
theorem eq_r01_times (e : List (Nat × EffF)) ( p0 p1 K) : WP (S0_r01_times e) 6 t_r01_times [(.int .u64 p0), (.int .u64 p1)] K = wv_r01_times p0 p1 (fun r0 r1 => K (.agg [(.int .u64 r0), (.int .u64 r1)])) := by kernel_rfl
theorem ok_r01_times (e : List (Nat × EffF)) (he : EG e) : OkF (E e) wp_r01_times n_r01_times := by
 intro as K h
 unfold wp_r01_times pw_r01_times at h
 split at h
 · exact WP_ok (se0_r01_times e he) (LpOk_no (by kernel_rfl)) (by kernel_rfl) (by kernel_rfl) (fun _ => baseS_none (by kernel_rfl) _) (he.num _ (by kernel_rfl)) ((eq_r01_times ..).mpr h)
 · exact h.elim
abbrev T_r01_less : Type := Int → Int → Int → Int → (Bool → Prop) → Prop
def wv_r01_less (p0 p1 p2 p3 : Int) (K : Bool → Prop) : Prop :=
 (cbr (decide (p0 < p2))
 (K true)
 (cbr (p0 == p2)
 (K (decide (p1 < p3)))
 (K false)))
def w_r01_less (p0 p1 p2 p3 : Int) (K : Bool → Prop) : Prop := wv_r01_less p0 p1 p2 p3 K
def pw_r01_less (w : T_r01_less) (as : List PV) (K : PV → Prop) : Prop :=
 match as with
 | [(.agg [(.int .u64 p0), (.int .u64 p1)]), (.agg [(.int .u64 p2), (.int .u64 p3)])] => w p0 p1 p2 p3 (fun r0 => K (.bool r0))
 | _ => False
def wp_r01_less (as : List PV) (K : PV → Prop) : Prop := pw_r01_less w_r01_less as K
def lp_r01_less : LP := fun _ _ _ _ =>
 False
def S0_r01_less (e : List (Nat × EffF)) : SE := ⟨(E e), lookS [], lookI [], lp_r01_less⟩
theorem se0_r01_less (e : List (Nat × EffF)) (he : EG e) : SEOk (S0_r01_less e) := seOk_of trivial trivial he.ok
theorem eq_r01_less (e : List (Nat × EffF)) ( p0 p1 p2 p3 K) : WP (S0_r01_less e) 6 t_r01_less [(.agg [(.int .u64 p0), (.int .u64 p1)]), (.agg [(.int .u64 p2), (.int .u64 p3)])] K = wv_r01_less p0 p1 p2 p3 (fun r0 => K (.bool r0)) := by kernel_rfl
theorem ok_r01_less (e : List (Nat × EffF)) (he : EG e) : OkF (E e) wp_r01_less n_r01_less := by
 intro as K h
 unfold wp_r01_less pw_r01_less at h
 split at h
 · exact WP_ok (se0_r01_less e he) (LpOk_no (by kernel_rfl)) (by kernel_rfl) (by kernel_rfl) (fun _ => baseS_none (by kernel_rfl) _) (he.num _ (by kernel_rfl)) ((eq_r01_less ..).mpr h)
 · exact h.elim
abbrev T_r01_Less : Type := Int → Int → Int → Int → (Bool → Prop) → Prop
def wv_r01_Less (a0 : T_r01_abs) (a1 : T_r01_times) (a2 : T_r01_less) (p0 p1 p2 p3 : Int) (K : Bool → Prop) : Prop :=
 (cbr ((decide (p0 < (0 : Int))) != (decide (p2 < (0 : Int))))
 (K (decide (p0 < (0 : Int))))
 (a0 p0 (fun yi0 => 
 (a1 yi0 (IntKind.u64.wrap p3) (fun yi1 yi2 => 
 (a0 p2 (fun yi3 => 
 (a1 yi3 (IntKind.u64.wrap p1) (fun yi4 yi5 => 
 (cbr (decide (p0 < (0 : Int)))
 (a2 yi4 yi5 yi1 yi2 (fun yb6 => 
 (K yb6)))
 (a2 yi1 yi2 yi4 yi5 (fun yb7 => 
 (K yb7)))))))))))))
def w_r01_Less (p0 p1 p2 p3 : Int) (K : Bool → Prop) : Prop := wv_r01_Less w_r01_abs w_r01_times w_r01_less p0 p1 p2 p3 K
def pw_r01_Less (w : T_r01_Less) (as : List PV) (K : PV → Prop) : Prop :=
 match as with
 | [(.agg [(.int .i64 p0), (.int .i64 p1)]), (.agg [(.int .i64 p2), (.int .i64 p3)])] => w p0 p1 p2 p3 (fun r0 => K (.bool r0))
 | _ => False
def wp_r01_Less (as : List PV) (K : PV → Prop) : Prop := pw_r01_Less w_r01_Less as K
def lp_r01_Less (_ : T_r01_abs) (_ : T_r01_times) (_ : T_r01_less) : LP := fun _ _ _ _ =>
 False
def S0_r01_Less (e : List (Nat × EffF)) (a0 : T_r01_abs) (a1 : T_r01_times) (a2 : T_r01_less) : SE := ⟨(E e), lookS [(n_r01_abs, pw_r01_abs a0), (n_r01_times, pw_r01_times a1), (n_r01_less, pw_r01_less a2)], lookI [], lp_r01_Less a0 a1 a2⟩
theorem se0_r01_Less (e : List (Nat × EffF)) (he : EG e) : SEOk (S0_r01_Less e w_r01_abs w_r01_times w_r01_less) := seOk_of ⟨(ok_r01_abs e he), (ok_r01_times e he), (ok_r01_less e he), trivial⟩ trivial he.ok
theorem eq_r01_Less (e : List (Nat × EffF)) (a0 a1 a2 p0 p1 p2 p3 K) : WP (S0_r01_Less e a0 a1 a2) 6 t_r01_Less [(.agg [(.int .i64 p0), (.int .i64 p1)]), (.agg [(.int .i64 p2), (.int .i64 p3)])] K = wv_r01_Less a0 a1 a2 p0 p1 p2 p3 (fun r0 => K (.bool r0)) := by kernel_rfl
theorem ok_r01_Less (e : List (Nat × EffF)) (he : EG e) : OkF (E e) wp_r01_Less n_r01_Less := by
 intro as K h
 unfold wp_r01_Less pw_r01_Less at h
 split at h
 · exact WP_ok (se0_r01_Less e he) (LpOk_no (by kernel_rfl)) (by kernel_rfl) (by kernel_rfl) (fun _ => baseS_none (by kernel_rfl) _) (he.num _ (by kernel_rfl)) ((eq_r01_Less ..).mpr h)
 · exact h.elim
abbrev T_r01_plus : Type := Int → Int → Int → Int → (Int → Int → Prop) → Prop
def wv_r01_plus (p0 p1 p2 p3 : Int) (K : Int → Int → Prop) : Prop :=
 (cbr (decide ((IntKind.u64.wrap (p1 + p3)) < p1))
 (K (IntKind.u64.wrap ((IntKind.u64.wrap (p0 + p2)) + (1 : Int))) (IntKind.u64.wrap (p1 + p3)))
 (K (IntKind.u64.wrap (p0 + p2)) (IntKind.u64.wrap (p1 + p3))))
def w_r01_plus (p0 p1 p2 p3 : Int) (K : Int → Int → Prop) : Prop := wv_r01_plus p0 p1 p2 p3 K
def pw_r01_plus (w : T_r01_plus) (as : List PV) (K : PV → Prop) : Prop :=
 match as with
 | [(.agg [(.int .u64 p0), (.int .u64 p1)]), (.agg [(.int .u64 p2), (.int .u64 p3)])] => w p0 p1 p2 p3 (fun r0 r1 => K (.agg [(.int .u64 r0), (.int .u64 r1)]))
 | _ => False
def wp_r01_plus (as : List PV) (K : PV → Prop) : Prop := pw_r01_plus w_r01_plus as K
def lp_r01_plus : LP := fun _ _ _ _ =>
 False
def S0_r01_plus (e : List (Nat × EffF)) : SE := ⟨(E e), lookS [], lookI [], lp_r01_plus⟩
theorem se0_r01_plus (e : List (Nat × EffF)) (he : EG e) : SEOk (S0_r01_plus e) := seOk_of trivial trivial he.ok
theorem eq_r01_plus (e : List (Nat × EffF)) ( p0 p1 p2 p3 K) : WP (S0_r01_plus e) 6 t_r01_plus [(.agg [(.int .u64 p0), (.int .u64 p1)]), (.agg [(.int .u64 p2), (.int .u64 p3)])] K = wv_r01_plus p0 p1 p2 p3 (fun r0 r1 => K (.agg [(.int .u64 r0), (.int .u64 r1)])) := by kernel_rfl
theorem ok_r01_plus (e : List (Nat × EffF)) (he : EG e) : OkF (E e) wp_r01_plus n_r01_plus := by
 intro as K h
 unfold wp_r01_plus pw_r01_plus at h
 split at h
 · exact WP_ok (se0_r01_plus e he) (LpOk_no (by kernel_rfl)) (by kernel_rfl) (by kernel_rfl) (fun _ => baseS_none (by kernel_rfl) _) (he.num _ (by kernel_rfl)) ((eq_r01_plus ..).mpr h)
 · exact h.elim
abbrev T_r01_minus : Type := Int → Int → Int → Int → (Int → Int → Prop) → Prop
def wv_r01_minus (p0 p1 p2 p3 : Int) (K : Int → Int → Prop) : Prop :=
 (cbr (decide (p1 < p3))
 (K (IntKind.u64.wrap ((IntKind.u64.wrap (p0 - p2)) - (1 : Int))) (IntKind.u64.wrap (p1 - p3)))
 (K (IntKind.u64.wrap (p0 - p2)) (IntKind.u64.wrap (p1 - p3))))
def w_r01_minus (p0 p1 p2 p3 : Int) (K : Int → Int → Prop) : Prop := wv_r01_minus p0 p1 p2 p3 K
def pw_r01_minus (w : T_r01_minus) (as : List PV) (K : PV → Prop) : Prop :=
 match as with
 | [(.agg [(.int .u64 p0), (.int .u64 p1)]), (.agg [(.int .u64 p2), (.int .u64 p3)])] => w p0 p1 p2 p3 (fun r0 r1 => K (.agg [(.int .u64 r0), (.int .u64 r1)]))
 | _ => False
def wp_r01_minus (as : List PV) (K : PV → Prop) : Prop := pw_r01_minus w_r01_minus as K
def lp_r01_minus : LP := fun _ _ _ _ =>
 False
def S0_r01_minus (e : List (Nat × EffF)) : SE := ⟨(E e), lookS [], lookI [], lp_r01_minus⟩
theorem se0_r01_minus (e : List (Nat × EffF)) (he : EG e) : SEOk (S0_r01_minus e) := seOk_of trivial trivial he.ok
theorem eq_r01_minus (e : List (Nat × EffF)) ( p0 p1 p2 p3 K) : WP (S0_r01_minus e) 6 t_r01_minus [(.agg [(.int .u64 p0), (.int .u64 p1)]), (.agg [(.int .u64 p2), (.int .u64 p3)])] K = wv_r01_minus p0 p1 p2 p3 (fun r0 r1 => K (.agg [(.int .u64 r0), (.int .u64 r1)])) := by kernel_rfl
theorem ok_r01_minus (e : List (Nat × EffF)) (he : EG e) : OkF (E e) wp_r01_minus n_r01_minus := by
 intro as K h
 unfold wp_r01_minus pw_r01_minus at h
 split at h
 · exact WP_ok (se0_r01_minus e he) (LpOk_no (by kernel_rfl)) (by kernel_rfl) (by kernel_rfl) (fun _ => baseS_none (by kernel_rfl) _) (he.num _ (by kernel_rfl)) ((eq_r01_minus ..).mpr h)
 · exact h.elim
abbrev T_r01_split : Type := Int → Int → Int → (Int → Int → Int → Prop) → Prop
def L_r01_split_0_0 (a0 : T_r01_plus) (x0 : Int → Int → Int → Int → Int → Int → Int → Int → Int → Bool → Prop) : Nat → Int → Int → Int → Int → Int → Int → Int → Int → Int → Prop
 | 0, _, _, _, _, _, _, _, _, _ => False
 | n + 1, i0, i1, i2, i3, i4, i5, i6, i7, i8 =>
 (cbr (decide (i8 ≥ (0 : Int)))
 (asr (!(decide ((IntKind.i64.wrap (BitVec.ofInt IntKind.i64.bits i8 &&& BitVec.ofInt IntKind.i64.bits (63 : Int)).toNat) < (0 : Int))))
 (cbr (decide (i8 ≥ (64 : Int)))
 (asr (!(decide ((IntKind.i64.wrap (BitVec.ofInt IntKind.i64.bits i8 &&& BitVec.ofInt IntKind.i64.bits (63 : Int)).toNat) < (0 : Int))))
 (a0 i5 i6 i5 i6 (fun yi0 yi1 => 
 (cbr (decide ((IntKind.u64.wrap (BitVec.ofInt IntKind.u64.bits (IntKind.u64.wrap (i7 * (2 : Int))) ||| BitVec.ofInt IntKind.u64.bits (IntKind.u64.wrap (BitVec.ofInt IntKind.u64.bits (Int.fdiv i1 (2 ^ (min (IntKind.i64.wrap (BitVec.ofInt IntKind.i64.bits i8 &&& BitVec.ofInt IntKind.i64.bits (63 : Int)).toNat).toNat IntKind.u64.bits))) &&& BitVec.ofInt IntKind.u64.bits (1 : Int)).toNat)).toNat) ≥ i0))
 (L_r01_split_0_0 a0 x0 n i0 i1 i2 i3 i4 yi0 (IntKind.u64.wrap (BitVec.ofInt IntKind.u64.bits yi1 ||| BitVec.ofInt IntKind.u64.bits (1 : Int)).toNat) (IntKind.u64.wrap ((IntKind.u64.wrap (BitVec.ofInt IntKind.u64.bits (IntKind.u64.wrap (i7 * (2 : Int))) ||| BitVec.ofInt IntKind.u64.bits (IntKind.u64.wrap (BitVec.ofInt IntKind.u64.bits (Int.fdiv i1 (2 ^ (min (IntKind.i64.wrap (BitVec.ofInt IntKind.i64.bits i8 &&& BitVec.ofInt IntKind.i64.bits (63 : Int)).toNat).toNat IntKind.u64.bits))) &&& BitVec.ofInt IntKind.u64.bits (1 : Int)).toNat)).toNat) - i0)) (IntKind.i64.wrap (i8 - (1 : Int))))
 (L_r01_split_0_0 a0 x0 n i0 i1 i2 i3 i4 yi0 yi1 (IntKind.u64.wrap (BitVec.ofInt IntKind.u64.bits (IntKind.u64.wrap (i7 * (2 : Int))) ||| BitVec.ofInt IntKind.u64.bits (IntKind.u64.wrap (BitVec.ofInt IntKind.u64.bits (Int.fdiv i1 (2 ^ (min (IntKind.i64.wrap (BitVec.ofInt IntKind.i64.bits i8 &&& BitVec.ofInt IntKind.i64.bits (63 : Int)).toNat).toNat IntKind.u64.bits))) &&& BitVec.ofInt IntKind.u64.bits (1 : Int)).toNat)).toNat) (IntKind.i64.wrap (i8 - (1 : Int))))))))
 (a0 i5 i6 i5 i6 (fun yi2 yi3 => 
 (cbr (decide ((IntKind.u64.wrap (BitVec.ofInt IntKind.u64.bits (IntKind.u64.wrap (i7 * (2 : Int))) ||| BitVec.ofInt IntKind.u64.bits (IntKind.u64.wrap (BitVec.ofInt IntKind.u64.bits (Int.fdiv i2 (2 ^ (min (IntKind.i64.wrap (BitVec.ofInt IntKind.i64.bits i8 &&& BitVec.ofInt IntKind.i64.bits (63 : Int)).toNat).toNat IntKind.u64.bits))) &&& BitVec.ofInt IntKind.u64.bits (1 : Int)).toNat)).toNat) ≥ i0))
 (L_r01_split_0_0 a0 x0 n i0 i1 i2 i3 i4 yi2 (IntKind.u64.wrap (BitVec.ofInt IntKind.u64.bits yi3 ||| BitVec.ofInt IntKind.u64.bits (1 : Int)).toNat) (IntKind.u64.wrap ((IntKind.u64.wrap (BitVec.ofInt IntKind.u64.bits (IntKind.u64.wrap (i7 * (2 : Int))) ||| BitVec.ofInt IntKind.u64.bits (IntKind.u64.wrap (BitVec.ofInt IntKind.u64.bits (Int.fdiv i2 (2 ^ (min (IntKind.i64.wrap (BitVec.ofInt IntKind.i64.bits i8 &&& BitVec.ofInt IntKind.i64.bits (63 : Int)).toNat).toNat IntKind.u64.bits))) &&& BitVec.ofInt IntKind.u64.bits (1 : Int)).toNat)).toNat) - i0)) (IntKind.i64.wrap (i8 - (1 : Int))))
 (L_r01_split_0_0 a0 x0 n i0 i1 i2 i3 i4 yi2 yi3 (IntKind.u64.wrap (BitVec.ofInt IntKind.u64.bits (IntKind.u64.wrap (i7 * (2 : Int))) ||| BitVec.ofInt IntKind.u64.bits (IntKind.u64.wrap (BitVec.ofInt IntKind.u64.bits (Int.fdiv i2 (2 ^ (min (IntKind.i64.wrap (BitVec.ofInt IntKind.i64.bits i8 &&& BitVec.ofInt IntKind.i64.bits (63 : Int)).toNat).toNat IntKind.u64.bits))) &&& BitVec.ofInt IntKind.u64.bits (1 : Int)).toNat)).toNat) (IntKind.i64.wrap (i8 - (1 : Int)))))))))
 (x0 i0 i1 i2 i3 i4 i5 i6 i7 i8 false))
def wv_r01_split (a0 : T_r01_plus) (p0 p1 p2 : Int) (K : Int → Int → Int → Prop) : Prop :=
 (∃ n : Nat, L_r01_split_0_0 a0
 (fun _ _ _ _ _ yi9 yi10 yi11 _ _ => (K yi9 yi10 yi11))
 n p2 p0 p1 (0 : Int) (0 : Int) (0 : Int) (0 : Int) (0 : Int) (127 : Int))
def w_r01_split (p0 p1 p2 : Int) (K : Int → Int → Int → Prop) : Prop := wv_r01_split w_r01_plus p0 p1 p2 K
def pw_r01_split (w : T_r01_split) (as : List PV) (K : PV → Prop) : Prop :=
 match as with
 | [(.agg [(.int .u64 p0), (.int .u64 p1)]), (.int .u64 p2)] => w p0 p1 p2 (fun r0 r1 r2 => K (.tup [(.agg [(.int .u64 r0), (.int .u64 r1)]), (.int .u64 r2)]))
 | _ => False
def wp_r01_split (as : List PV) (K : PV → Prop) : Prop := pw_r01_split w_r01_split as K
def D_r01_split_0 (F : Frm) (H : Hp) (A0 : Int → Int → Int → Int → Int → Int → Int → Int → Int → Prop) : Prop :=
 match F, H with
 | [(1, .v (.int .u64 i0)), (2, .box (.agg [(.int .u64 i1), (.int .u64 i2)])), (4, .box (.agg [(.int .u64 i3), (.int .u64 i4)])), (6, .box (.agg [(.int .u64 i5), (.int .u64 i6)])), (7, .v (.int .u64 i7)), (8, .v (.int .i64 i8))], [] => (A0 i0 i1 i2 i3 i4 i5 i6 i7 i8)
 | _, _ => False
def X_r01_split_0_0 (Q : Ex → Frm → Hp → Prop) : Int → Int → Int → Int → Int → Int → Int → Int → Int → Bool → Prop := (fun i0 i1 i2 i3 i4 i5 i6 i7 i8 b9 => Q (.exit 0) [(1, .v (.int .u64 i0)), (2, .box (.agg [(.int .u64 i1), (.int .u64 i2)])), (4, .box (.agg [(.int .u64 i3), (.int .u64 i4)])), (6, .box (.agg [(.int .u64 i5), (.int .u64 i6)])), (7, .v (.int .u64 i7)), (8, .v (.int .i64 i8)), (11, .v (.bool b9))] [])
def R_r01_split_0 (a0 : T_r01_plus) (Q : Ex → Frm → Hp → Prop) (n : Nat) (F : Frm) (H : Hp) : Prop := D_r01_split_0 F H (fun i0 i1 i2 i3 i4 i5 i6 i7 i8 => L_r01_split_0_0 a0 (X_r01_split_0_0 Q) n i0 i1 i2 i3 i4 i5 i6 i7 i8)
def lp_r01_split (a0 : T_r01_plus) : LP := fun id F H Q =>
 bif Nat.beq id 22549700 then D_r01_split_0 F H (fun i0 i1 i2 i3 i4 i5 i6 i7 i8 => ∃ n : Nat, L_r01_split_0_0 a0 (X_r01_split_0_0 Q) n i0 i1 i2 i3 i4 i5 i6 i7 i8) else
 False
def S0_r01_split (e : List (Nat × EffF)) (a0 : T_r01_plus) : SE := ⟨(E e), lookS [(n_r01_plus, pw_r01_plus a0)], lookI [], lp_r01_split a0⟩
theorem se0_r01_split (e : List (Nat × EffF)) (he : EG e) : SEOk (S0_r01_split e w_r01_plus) := seOk_of ⟨(ok_r01_plus e he), trivial⟩ trivial he.ok
theorem body_r01_split_0_0 (e : List (Nat × EffF)) (a0 Q n i0 i1 i2 i3 i4 i5 i6 i7 i8) : WC (E e) (callW (S0_r01_split e a0) 5) (lp_r01_split a0) b_22549700 [(1, .v (.int .u64 i0)), (2, .box (.agg [(.int .u64 i1), (.int .u64 i2)])), (4, .box (.agg [(.int .u64 i3), (.int .u64 i4)])), (6, .box (.agg [(.int .u64 i5), (.int .u64 i6)])), (7, .v (.int .u64 i7)), (8, .v (.int .i64 i8))] [] (fun x F' H' => match x with | .norm => R_r01_split_0 a0 Q n F' H' | .exit i => Q (.exit i) F' H' | .ret => Q .ret F' H') = L_r01_split_0_0 a0 (X_r01_split_0_0 Q) (n + 1) i0 i1 i2 i3 i4 i5 i6 i7 i8 := by kernel_rfl
theorem lpb_r01_split_0 (e : List (Nat × EffF)) (_ : EG e) : LpOk (E e) (lp_r01_split w_r01_plus) b_22549700 := (LpOk_no (by kernel_rfl))
theorem loop_r01_split_0 (e : List (Nat × EffF)) (he : EG e) : ∀ F H Q, lp_r01_split w_r01_plus 22549700 F H Q → LoopT (E e) b_22549700 F H Q := by
 intro F H Q h
 have go := LoopT.intro (callW_ok (se0_r01_split e he) 5) (lpb_r01_split_0 e he) (R_r01_split_0 w_r01_plus Q) (by
   intro F H h
   unfold R_r01_split_0 D_r01_split_0 at h
   split at h
   · exact h
   · exact h) (by
   intro n F H h
   unfold R_r01_split_0 D_r01_split_0 at h
   split at h
   · exact (body_r01_split_0_0 ..).mpr h
   · exact h.elim)
 have h : D_r01_split_0 F H _ := h
 unfold D_r01_split_0 at h
 split at h
 · obtain ⟨n, h⟩ := h; exact go n _ _ h
 · exact h.elim
theorem eq_r01_split (e : List (Nat × EffF)) (a0 p0 p1 p2 K) : WP (S0_r01_split e a0) 6 t_r01_split [(.agg [(.int .u64 p0), (.int .u64 p1)]), (.int .u64 p2)] K = wv_r01_split a0 p0 p1 p2 (fun r0 r1 r2 => K (.tup [(.agg [(.int .u64 r0), (.int .u64 r1)]), (.int .u64 r2)])) := by kernel_rfl
theorem ok_r01_split (e : List (Nat × EffF)) (he : EG e) : OkF (E e) wp_r01_split n_r01_split := by
 intro as K h
 unfold wp_r01_split pw_r01_split at h
 split at h
 · exact WP_ok (se0_r01_split e he) (LpOk_by (l := [(22549700, b_22549700)]) ⟨loop_r01_split_0 e he, trivial⟩ (by kernel_rfl)) (by kernel_rfl) (by kernel_rfl) (fun _ => baseS_none (by kernel_rfl) _) (he.num _ (by kernel_rfl)) ((eq_r01_split ..).mpr h)
 · exact h.elim
abbrev T_r01_made : Type := Bool → Int → Int → Int → Int → (Int → Int → Int → Prop) → Prop
def wv_r01_made (p0 : Bool) (p1 p2 p3 p4 : Int) (K : Int → Int → Int → Prop) : Prop :=
 (cbr (decide (p1 > (0 : Int)))
 (K (0 : Int) (0 : Int) (16 : Int))
 (cbr (decide (p3 > (0 : Int)))
 (K (0 : Int) (0 : Int) (16 : Int))
 (cbr (decide (p2 > (1000000000000000000 : Int)))
 (K (0 : Int) (0 : Int) (16 : Int))
 (cbr (decide (p4 > (1000000000000000000 : Int)))
 (K (0 : Int) (0 : Int) (16 : Int))
 (cbr p0
 (K (IntKind.i64.wrap ((0 : Int) - (IntKind.i64.wrap p2))) (IntKind.i64.wrap p4) (0 : Int))
 (K (IntKind.i64.wrap p2) (IntKind.i64.wrap p4) (0 : Int)))))))
def w_r01_made (p0 : Bool) (p1 p2 p3 p4 : Int) (K : Int → Int → Int → Prop) : Prop := wv_r01_made p0 p1 p2 p3 p4 K
def pw_r01_made (w : T_r01_made) (as : List PV) (K : PV → Prop) : Prop :=
 match as with
 | [(.bool p0), (.agg [(.int .u64 p1), (.int .u64 p2)]), (.agg [(.int .u64 p3), (.int .u64 p4)])] => w p0 p1 p2 p3 p4 (fun r0 r1 r2 => K (.tup [(.agg [(.int .i64 r0), (.int .i64 r1)]), (.int .i64 r2)]))
 | _ => False
def wp_r01_made (as : List PV) (K : PV → Prop) : Prop := pw_r01_made w_r01_made as K
def lp_r01_made : LP := fun _ _ _ _ =>
 False
def S0_r01_made (e : List (Nat × EffF)) : SE := ⟨(E e), lookS [], lookI [], lp_r01_made⟩
theorem se0_r01_made (e : List (Nat × EffF)) (he : EG e) : SEOk (S0_r01_made e) := seOk_of trivial trivial he.ok
theorem eq_r01_made (e : List (Nat × EffF)) ( p0 p1 p2 p3 p4 K) : WP (S0_r01_made e) 6 t_r01_made [(.bool p0), (.agg [(.int .u64 p1), (.int .u64 p2)]), (.agg [(.int .u64 p3), (.int .u64 p4)])] K = wv_r01_made p0 p1 p2 p3 p4 (fun r0 r1 r2 => K (.tup [(.agg [(.int .i64 r0), (.int .i64 r1)]), (.int .i64 r2)])) := by kernel_rfl
theorem ok_r01_made (e : List (Nat × EffF)) (he : EG e) : OkF (E e) wp_r01_made n_r01_made := by
 intro as K h
 unfold wp_r01_made pw_r01_made at h
 split at h
 · exact WP_ok (se0_r01_made e he) (LpOk_no (by kernel_rfl)) (by kernel_rfl) (by kernel_rfl) (fun _ => baseS_none (by kernel_rfl) _) (he.num _ (by kernel_rfl)) ((eq_r01_made ..).mpr h)
 · exact h.elim
abbrev T_r01_Add : Type := Int → Int → Int → Int → (Int → Int → Int → Prop) → Prop
def wv_r01_Add (a0 : T_r01_Both) (a1 : T_r01_gcd) (a2 : T_r01_abs) (a3 : T_r01_times) (a4 : T_r01_plus) (a5 : T_r01_minus) (a6 : T_r01_less) (a7 : T_r01_split) (a8 : T_r01_made) (p0 p1 p2 p3 : Int) (K : Int → Int → Int → Prop) : Prop :=
 (a0 p0 p1 p2 p3 (fun yi0 => 
 (cbr (yi0 != (0 : Int))
 (a0 p0 p1 p2 p3 (fun yi1 => 
 (K (0 : Int) (0 : Int) yi1)))
 (a1 (IntKind.u64.wrap p1) (IntKind.u64.wrap p3) (fun yi2 => 
 (a2 p0 (fun yi3 => 
 (asr (!(decide (yi2 = (0 : Int))))
 (a3 yi3 (IntKind.u64.wrap (Int.tdiv (IntKind.u64.wrap p3) yi2)) (fun yi4 yi5 => 
 (a2 p2 (fun yi6 => 
 (asr (!(decide (yi2 = (0 : Int))))
 (a3 yi6 (IntKind.u64.wrap (Int.tdiv (IntKind.u64.wrap p1) yi2)) (fun yi7 yi8 => 
 (a4 yi4 yi5 yi7 yi8 (fun yi9 yi10 => 
 (cbr ((decide (p0 < (0 : Int))) != (decide (p2 < (0 : Int))))
 (a5 yi4 yi5 yi7 yi8 (fun yi11 yi12 => 
 (a6 yi4 yi5 yi7 yi8 (fun yb13 => 
 (cbr yb13
 (a5 yi7 yi8 yi4 yi5 (fun yi14 yi15 => 
 (cbr ((yi14 == (0 : Int)) && ((yi15 == (0 : Int)) && true))
 (K (0 : Int) (1 : Int) (0 : Int))
 (a7 yi14 yi15 yi2 (fun _ _ yi18 => 
 (a1 yi18 yi2 (fun yi19 => 
 (a7 yi14 yi15 yi19 (fun yi20 yi21 _ => 
 (asr (!(decide (yi2 = (0 : Int))))
 (asr (!(decide (yi19 = (0 : Int))))
 (a3 (IntKind.u64.wrap (Int.tdiv (IntKind.u64.wrap p1) yi2)) (IntKind.u64.wrap (Int.tdiv (IntKind.u64.wrap p3) yi19)) (fun yi23 yi24 => 
 (a8 (decide (p2 < (0 : Int))) yi20 yi21 yi23 yi24 (fun yi25 yi26 yi27 => 
 (K yi25 yi26 yi27))))))))))))))))
 (cbr ((yi11 == (0 : Int)) && ((yi12 == (0 : Int)) && true))
 (K (0 : Int) (1 : Int) (0 : Int))
 (a7 yi11 yi12 yi2 (fun _ _ yi30 => 
 (a1 yi30 yi2 (fun yi31 => 
 (a7 yi11 yi12 yi31 (fun yi32 yi33 _ => 
 (asr (!(decide (yi2 = (0 : Int))))
 (asr (!(decide (yi31 = (0 : Int))))
 (a3 (IntKind.u64.wrap (Int.tdiv (IntKind.u64.wrap p1) yi2)) (IntKind.u64.wrap (Int.tdiv (IntKind.u64.wrap p3) yi31)) (fun yi35 yi36 => 
 (a8 (decide (p0 < (0 : Int))) yi32 yi33 yi35 yi36 (fun yi37 yi38 yi39 => 
 (K yi37 yi38 yi39)))))))))))))))))))
 (cbr ((yi9 == (0 : Int)) && ((yi10 == (0 : Int)) && true))
 (K (0 : Int) (1 : Int) (0 : Int))
 (a7 yi9 yi10 yi2 (fun _ _ yi42 => 
 (a1 yi42 yi2 (fun yi43 => 
 (a7 yi9 yi10 yi43 (fun yi44 yi45 _ => 
 (asr (!(decide (yi2 = (0 : Int))))
 (asr (!(decide (yi43 = (0 : Int))))
 (a3 (IntKind.u64.wrap (Int.tdiv (IntKind.u64.wrap p1) yi2)) (IntKind.u64.wrap (Int.tdiv (IntKind.u64.wrap p3) yi43)) (fun yi47 yi48 => 
 (a8 (decide (p0 < (0 : Int))) yi44 yi45 yi47 yi48 (fun yi49 yi50 yi51 => 
 (K yi49 yi50 yi51))))))))))))))))))))))))))))))))
def w_r01_Add (p0 p1 p2 p3 : Int) (K : Int → Int → Int → Prop) : Prop := wv_r01_Add w_r01_Both w_r01_gcd w_r01_abs w_r01_times w_r01_plus w_r01_minus w_r01_less w_r01_split w_r01_made p0 p1 p2 p3 K
def pw_r01_Add (w : T_r01_Add) (as : List PV) (K : PV → Prop) : Prop :=
 match as with
 | [(.agg [(.int .i64 p0), (.int .i64 p1)]), (.agg [(.int .i64 p2), (.int .i64 p3)])] => w p0 p1 p2 p3 (fun r0 r1 r2 => K (.tup [(.agg [(.int .i64 r0), (.int .i64 r1)]), (.int .i64 r2)]))
 | _ => False
def wp_r01_Add (as : List PV) (K : PV → Prop) : Prop := pw_r01_Add w_r01_Add as K
def lp_r01_Add (_ : T_r01_Both) (_ : T_r01_gcd) (_ : T_r01_abs) (_ : T_r01_times) (_ : T_r01_plus) (_ : T_r01_minus) (_ : T_r01_less) (_ : T_r01_split) (_ : T_r01_made) : LP := fun _ _ _ _ =>
 False
def S0_r01_Add (e : List (Nat × EffF)) (a0 : T_r01_Both) (a1 : T_r01_gcd) (a2 : T_r01_abs) (a3 : T_r01_times) (a4 : T_r01_plus) (a5 : T_r01_minus) (a6 : T_r01_less) (a7 : T_r01_split) (a8 : T_r01_made) : SE := ⟨(E e), lookS [(n_r01_Both, pw_r01_Both a0), (n_r01_gcd, pw_r01_gcd a1), (n_r01_abs, pw_r01_abs a2), (n_r01_times, pw_r01_times a3), (n_r01_plus, pw_r01_plus a4), (n_r01_minus, pw_r01_minus a5), (n_r01_less, pw_r01_less a6), (n_r01_split, pw_r01_split a7), (n_r01_made, pw_r01_made a8)], lookI [], lp_r01_Add a0 a1 a2 a3 a4 a5 a6 a7 a8⟩
theorem se0_r01_Add (e : List (Nat × EffF)) (he : EG e) : SEOk (S0_r01_Add e w_r01_Both w_r01_gcd w_r01_abs w_r01_times w_r01_plus w_r01_minus w_r01_less w_r01_split w_r01_made) := seOk_of ⟨(ok_r01_Both e he), (ok_r01_gcd e he), (ok_r01_abs e he), (ok_r01_times e he), (ok_r01_plus e he), (ok_r01_minus e he), (ok_r01_less e he), (ok_r01_split e he), (ok_r01_made e he), trivial⟩ trivial he.ok
theorem eq_r01_Add (e : List (Nat × EffF)) (a0 a1 a2 a3 a4 a5 a6 a7 a8 p0 p1 p2 p3 K) : WP (S0_r01_Add e a0 a1 a2 a3 a4 a5 a6 a7 a8) 6 t_r01_Add [(.agg [(.int .i64 p0), (.int .i64 p1)]), (.agg [(.int .i64 p2), (.int .i64 p3)])] K = wv_r01_Add a0 a1 a2 a3 a4 a5 a6 a7 a8 p0 p1 p2 p3 (fun r0 r1 r2 => K (.tup [(.agg [(.int .i64 r0), (.int .i64 r1)]), (.int .i64 r2)])) := by kernel_rfl
theorem ok_r01_Add (e : List (Nat × EffF)) (he : EG e) : OkF (E e) wp_r01_Add n_r01_Add := by
 intro as K h
 unfold wp_r01_Add pw_r01_Add at h
 split at h
 · exact WP_ok (se0_r01_Add e he) (LpOk_no (by kernel_rfl)) (by kernel_rfl) (by kernel_rfl) (fun _ => baseS_none (by kernel_rfl) _) (he.num _ (by kernel_rfl)) ((eq_r01_Add ..).mpr h)
 · exact h.elim
end Go.Pf.Vc
namespace Go.Pf.Vc
open Go Go.Pf
set_option linter.unusedVariables false
theorem det_r01_gcd (p0 : Int) (p1 : Int) (r0 : Int) (h : ∀ K : Int → Prop, K r0 → w_r01_gcd p0 p1 K) (K : Int → Prop) : w_r01_gcd p0 p1 K = K r0 :=
 propext ⟨fun k => detC (ok_r01_gcd [] effG_nil) (as := [(.int .u64 p0), (.int .u64 p1)]) (x := (.int .u64 r0)) (fun K' k' => h (fun r0 => K' (.int .u64 r0)) k') (K := fun x => match x with | (.int .u64 r0) => K r0 | _ => False) k, h K⟩
theorem det_r01_split (p0 : Int) (p1 : Int) (p2 : Int) (r0 : Int) (r1 : Int) (r2 : Int) (h : ∀ K : Int → Int → Int → Prop, K r0 r1 r2 → w_r01_split p0 p1 p2 K) (K : Int → Int → Int → Prop) : w_r01_split p0 p1 p2 K = K r0 r1 r2 :=
 propext ⟨fun k => detC (ok_r01_split [] effG_nil) (as := [(.agg [(.int .u64 p0), (.int .u64 p1)]), (.int .u64 p2)]) (x := (.tup [(.agg [(.int .u64 r0), (.int .u64 r1)]), (.int .u64 r2)])) (fun K' k' => h (fun r0 r1 r2 => K' (.tup [(.agg [(.int .u64 r0), (.int .u64 r1)]), (.int .u64 r2)])) k') (K := fun x => match x with | (.tup [(.agg [(.int .u64 r0), (.int .u64 r1)]), (.int .u64 r2)]) => K r0 r1 r2 | _ => False) k, h K⟩
end Go.Pf.Vc
namespace Go.Pf.Vc
open Go Go.Pf
set_option maxRecDepth 100000
abbrev T_r02_Point : Type := Int → Int → Int → (Bool → Prop) → Prop
def wv_r02_Point (a0 : T_r01_Check) (a1 : T_r01_Of) (a2 : T_r01_Less) (p0 p1 p2 : Int) (K : Bool → Prop) : Prop :=
 (a0 p1 p2 (fun yi0 => 
 (cbr (yi0 == (0 : Int))
 (cbr (decide (p1 ≥ (0 : Int)))
 (a1 p0 (fun yi1 yi2 => 
 (a2 yi1 yi2 p1 p2 (fun yb3 => 
 (K (!yb3))))))
 (K false))
 (K false))))
def w_r02_Point (p0 p1 p2 : Int) (K : Bool → Prop) : Prop := wv_r02_Point w_r01_Check w_r01_Of w_r01_Less p0 p1 p2 K
def pw_r02_Point (w : T_r02_Point) (as : List PV) (K : PV → Prop) : Prop :=
 match as with
 | [(.int .i64 p0), (.agg [(.int .i64 p1), (.int .i64 p2)])] => w p0 p1 p2 (fun r0 => K (.bool r0))
 | _ => False
def wp_r02_Point (as : List PV) (K : PV → Prop) : Prop := pw_r02_Point w_r02_Point as K
def lp_r02_Point (_ : T_r01_Check) (_ : T_r01_Of) (_ : T_r01_Less) : LP := fun _ _ _ _ =>
 False
def S0_r02_Point (e : List (Nat × EffF)) (a0 : T_r01_Check) (a1 : T_r01_Of) (a2 : T_r01_Less) : SE := ⟨(E e), lookS [(n_r01_Check, pw_r01_Check a0), (n_r01_Of, pw_r01_Of a1), (n_r01_Less, pw_r01_Less a2)], lookI [], lp_r02_Point a0 a1 a2⟩
theorem se0_r02_Point (e : List (Nat × EffF)) (he : EG e) : SEOk (S0_r02_Point e w_r01_Check w_r01_Of w_r01_Less) := seOk_of ⟨(ok_r01_Check e he), (ok_r01_Of e he), (ok_r01_Less e he), trivial⟩ trivial he.ok
theorem eq_r02_Point (e : List (Nat × EffF)) (a0 a1 a2 p0 p1 p2 K) : WP (S0_r02_Point e a0 a1 a2) 6 t_r02_Point [(.int .i64 p0), (.agg [(.int .i64 p1), (.int .i64 p2)])] K = wv_r02_Point a0 a1 a2 p0 p1 p2 (fun r0 => K (.bool r0)) := by kernel_rfl
theorem ok_r02_Point (e : List (Nat × EffF)) (he : EG e) : OkF (E e) wp_r02_Point n_r02_Point := by
 intro as K h
 unfold wp_r02_Point pw_r02_Point at h
 split at h
 · exact WP_ok (se0_r02_Point e he) (LpOk_no (by kernel_rfl)) (by kernel_rfl) (by kernel_rfl) (fun _ => baseS_none (by kernel_rfl) _) (he.num _ (by kernel_rfl)) ((eq_r02_Point ..).mpr h)
 · exact h.elim
end Go.Pf.Vc
namespace Go.Pf.Vc
open Go Go.Pf
set_option maxRecDepth 100000
abbrev T_r05_Great : Type := List PV → (Bool → Prop) → Prop
def wv_r05_Great (p0 : List PV) (K : Bool → Prop) : Prop :=
 (jn (fun (yj1 : Bool → Prop) =>
 (cbr (decide ((((List.length p0) : Nat) : Int) > (14 : Int)))
 (cbr (decide ((((List.length p0) : Nat) : Int) ≤ (40 : Int)))
 (yj1 true)
 (yj1 (decide ((((List.length p0) : Nat) : Int) > (60 : Int)))))
 (yj1 (decide ((((List.length p0) : Nat) : Int) > (60 : Int))))))
 (fun yb0 => (K yb0)))
def w_r05_Great (p0 : List PV) (K : Bool → Prop) : Prop := wv_r05_Great p0 K
def pw_r05_Great (w : T_r05_Great) (as : List PV) (K : PV → Prop) : Prop :=
 match as with
 | [(.data p0)] => w p0 (fun r0 => K (.bool r0))
 | _ => False
def wp_r05_Great (as : List PV) (K : PV → Prop) : Prop := pw_r05_Great w_r05_Great as K
def lp_r05_Great : LP := fun _ _ _ _ =>
 False
def S0_r05_Great (e : List (Nat × EffF)) : SE := ⟨(E e), lookS [], lookI [], lp_r05_Great⟩
theorem se0_r05_Great (e : List (Nat × EffF)) (he : EG e) : SEOk (S0_r05_Great e) := seOk_of trivial trivial he.ok
theorem eq_r05_Great (e : List (Nat × EffF)) ( p0 K) : WP (S0_r05_Great e) 6 t_r05_Great [(.data p0)] K = wv_r05_Great p0 (fun r0 => K (.bool r0)) := by kernel_rfl
theorem ok_r05_Great (e : List (Nat × EffF)) (he : EG e) : OkF (E e) wp_r05_Great n_r05_Great := by
 intro as K h
 unfold wp_r05_Great pw_r05_Great at h
 split at h
 · exact WP_ok (se0_r05_Great e he) (LpOk_no (by kernel_rfl)) (by kernel_rfl) (by kernel_rfl) (fun _ => baseS_none (by kernel_rfl) _) (he.num _ (by kernel_rfl)) ((eq_r05_Great ..).mpr h)
 · exact h.elim
abbrev T_r05_GreatGuess : Type := List PV → List PV → (Bool → Prop) → Prop
def wv_r05_GreatGuess (p0 p1 : List PV) (K : Bool → Prop) : Prop :=
 (jn (fun (yj1 : Bool → Prop) =>
 (cbr (decide ((((List.length p0) : Nat) : Int) > (110 : Int)))
 (yj1 true)
 (yj1 (decide ((((List.length p1) : Nat) : Int) > (110 : Int))))))
 (fun yb0 => (K yb0)))
def w_r05_GreatGuess (p0 p1 : List PV) (K : Bool → Prop) : Prop := wv_r05_GreatGuess p0 p1 K
def pw_r05_GreatGuess (w : T_r05_GreatGuess) (as : List PV) (K : PV → Prop) : Prop :=
 match as with
 | [(.agg [(.data p0), (.data p1)])] => w p0 p1 (fun r0 => K (.bool r0))
 | _ => False
def wp_r05_GreatGuess (as : List PV) (K : PV → Prop) : Prop := pw_r05_GreatGuess w_r05_GreatGuess as K
def lp_r05_GreatGuess : LP := fun _ _ _ _ =>
 False
def S0_r05_GreatGuess (e : List (Nat × EffF)) : SE := ⟨(E e), lookS [], lookI [], lp_r05_GreatGuess⟩
theorem se0_r05_GreatGuess (e : List (Nat × EffF)) (he : EG e) : SEOk (S0_r05_GreatGuess e) := seOk_of trivial trivial he.ok
theorem eq_r05_GreatGuess (e : List (Nat × EffF)) ( p0 p1 K) : WP (S0_r05_GreatGuess e) 6 t_r05_GreatGuess [(.agg [(.data p0), (.data p1)])] K = wv_r05_GreatGuess p0 p1 (fun r0 => K (.bool r0)) := by kernel_rfl
theorem ok_r05_GreatGuess (e : List (Nat × EffF)) (he : EG e) : OkF (E e) wp_r05_GreatGuess n_r05_GreatGuess := by
 intro as K h
 unfold wp_r05_GreatGuess pw_r05_GreatGuess at h
 split at h
 · exact WP_ok (se0_r05_GreatGuess e he) (LpOk_no (by kernel_rfl)) (by kernel_rfl) (by kernel_rfl) (fun _ => baseS_none (by kernel_rfl) _) (he.num _ (by kernel_rfl)) ((eq_r05_GreatGuess ..).mpr h)
 · exact h.elim
abbrev T_r05_right : Type := Int → Int → Int → Int → Int → Int → Int → Int → Int → (Bool → Prop) → Prop
def wv_r05_right (a0 : T_r01_Both) (a1 : T_r01_Check) (a2 : T_r02_Point) (a3 : T_r01_Less) (p0 _ p2 p3 p4 p5 p6 p7 p8 : Int) (K : Bool → Prop) : Prop :=
 (jn (fun (yj12 : Bool → Prop) =>
 (a0 p3 p4 p5 p6 (fun yi37 => 
 (cbr (yi37 != (0 : Int))
 (yj12 true)
 (a1 p7 p8 (fun yi38 => 
 (cbr (yi38 != (0 : Int))
 (yj12 true)
 (a2 p0 p3 p4 (fun yb39 => 
 (yj12 (!yb39)))))))))))
 (fun yb11 => (cbr yb11
 (K false)
 (cbr (p2 == (1 : Int))
 (jn (fun (yj28 : Bool → Prop) =>
 (a2 p0 p5 p6 (fun yb29 => 
 (cbr yb29
 (a3 p5 p6 p3 p4 (fun yb30 => 
 (cbr (!yb30)
 (yj28 (decide (p7 ≥ (0 : Int))))
 (yj28 false))))
 (yj28 false)))))
 (fun yb27 => (K yb27)))
 (cbr (p2 == (2 : Int))
 (jn (fun (yj34 : Bool → Prop) =>
 (a2 p0 p7 p8 (fun yb35 => 
 (cbr yb35
 (a3 p7 p8 p3 p4 (fun yb36 => 
 (cbr (!yb36)
 (yj34 (decide (p5 ≥ (0 : Int))))
 (yj34 false))))
 (yj34 false)))))
 (fun yb33 => (K yb33)))
 (K false))))))
def w_r05_right (p0 p1 p2 p3 p4 p5 p6 p7 p8 : Int) (K : Bool → Prop) : Prop := wv_r05_right w_r01_Both w_r01_Check w_r02_Point w_r01_Less p0 p1 p2 p3 p4 p5 p6 p7 p8 K
def pw_r05_right (w : T_r05_right) (as : List PV) (K : PV → Prop) : Prop :=
 match as with
 | [(.int .i64 p0), (.agg [(.int .i64 p1), (.int .u8 p2), (.int .i64 p3), (.int .i64 p4), (.int .i64 p5), (.int .i64 p6), (.int .i64 p7), (.int .i64 p8)])] => w p0 p1 p2 p3 p4 p5 p6 p7 p8 (fun r0 => K (.bool r0))
 | _ => False
def wp_r05_right (as : List PV) (K : PV → Prop) : Prop := pw_r05_right w_r05_right as K
def lp_r05_right (_ : T_r01_Both) (_ : T_r01_Check) (_ : T_r02_Point) (_ : T_r01_Less) : LP := fun _ _ _ _ =>
 False
def S0_r05_right (e : List (Nat × EffF)) (a0 : T_r01_Both) (a1 : T_r01_Check) (a2 : T_r02_Point) (a3 : T_r01_Less) : SE := ⟨(E e), lookS [(n_r01_Both, pw_r01_Both a0), (n_r01_Check, pw_r01_Check a1), (n_r02_Point, pw_r02_Point a2), (n_r01_Less, pw_r01_Less a3)], lookI [], lp_r05_right a0 a1 a2 a3⟩
theorem se0_r05_right (e : List (Nat × EffF)) (he : EG e) : SEOk (S0_r05_right e w_r01_Both w_r01_Check w_r02_Point w_r01_Less) := seOk_of ⟨(ok_r01_Both e he), (ok_r01_Check e he), (ok_r02_Point e he), (ok_r01_Less e he), trivial⟩ trivial he.ok
theorem eq_r05_right (e : List (Nat × EffF)) (a0 a1 a2 a3 p0 p1 p2 p3 p4 p5 p6 p7 p8 K) : WP (S0_r05_right e a0 a1 a2 a3) 6 t_r05_right [(.int .i64 p0), (.agg [(.int .i64 p1), (.int .u8 p2), (.int .i64 p3), (.int .i64 p4), (.int .i64 p5), (.int .i64 p6), (.int .i64 p7), (.int .i64 p8)])] K = wv_r05_right a0 a1 a2 a3 p0 p1 p2 p3 p4 p5 p6 p7 p8 (fun r0 => K (.bool r0)) := by kernel_rfl
theorem ok_r05_right (e : List (Nat × EffF)) (he : EG e) : OkF (E e) wp_r05_right n_r05_right := by
 intro as K h
 unfold wp_r05_right pw_r05_right at h
 split at h
 · exact WP_ok (se0_r05_right e he) (LpOk_no (by kernel_rfl)) (by kernel_rfl) (by kernel_rfl) (fun _ => baseS_none (by kernel_rfl) _) (he.num _ (by kernel_rfl)) ((eq_r05_right ..).mpr h)
 · exact h.elim
abbrev T_r05_Check : Type := Int → List PV → (Int → Prop) → Prop
def L_r05_Check_0_0 (a0 : T_r05_right) (x0 : Int → List PV → Int → Bool → Prop) (x1 : Int → Prop) : Nat → Int → List PV → Int → Prop
 | 0, _, _, _ => False
 | n + 1, i0, l1, i2 =>
 (cbr (decide (i2 < (((List.length l1) : Nat) : Int)))
 (asr (decide ((0 : Int) ≤ i2))
 (asr (decide (i2 < (((List.length l1) : Nat) : Int)))
 (lt (List.getD l1 (i2.toNat) .nils) (fun yr10 =>
 (asr (conf (.agg [.i .i64, .i .u8, .i .i64, .i .i64, .i .i64, .i .i64, .i .i64, .i .i64]) yr10)
 (a0 i0 (intOfV (cellAt yr10 0)) (intOfV (cellAt yr10 1)) (intOfV (cellAt yr10 2)) (intOfV (cellAt yr10 3)) (intOfV (cellAt yr10 4)) (intOfV (cellAt yr10 5)) (intOfV (cellAt yr10 6)) (intOfV (cellAt yr10 7)) (fun yb11 => 
 (cbr (!yb11)
 (x1 (8 : Int))
 (lt (IntKind.i64.wrap (i2 + (1 : Int))) (fun yi12 =>
 (L_r05_Check_0_0 a0 x0 x1 n i0 l1 yi12)))))))))))
 (x0 i0 l1 i2 false))
def wv_r05_Check (a0 : T_r05_right) (p0 : Int) (p1 : List PV) (K : Int → Prop) : Prop :=
 (jn (fun (yj3 : Bool → Prop) =>
 (cbr (decide (p0 < (1 : Int)))
 (yj3 true)
 (yj3 (decide (p0 > (1000 : Int))))))
 (fun yb2 => (cbr yb2
 (K (2 : Int))
 (cbr (decide ((((List.length p1) : Nat) : Int) > (40 : Int)))
 (K (4 : Int))
 (∃ n : Nat, L_r05_Check_0_0 a0
 (fun _ _ _ _ => (K (0 : Int)))
 (fun yi22 => (K yi22))
 n p0 p1 (0 : Int))))))
def w_r05_Check (p0 : Int) (p1 : List PV) (K : Int → Prop) : Prop := wv_r05_Check w_r05_right p0 p1 K
def pw_r05_Check (w : T_r05_Check) (as : List PV) (K : PV → Prop) : Prop :=
 match as with
 | [(.int .i64 p0), (.data p1)] => w p0 p1 (fun r0 => K (.int .i64 r0))
 | _ => False
def wp_r05_Check (as : List PV) (K : PV → Prop) : Prop := pw_r05_Check w_r05_Check as K
def D_r05_Check_0 (F : Frm) (H : Hp) (A0 : Int → List PV → Int → Prop) : Prop :=
 match F, H with
 | [(0, .v (.int .i64 i0)), (1, .v (.data l1)), (5, .v (.int .i64 i2))], [] => (A0 i0 l1 i2)
 | _, _ => False
def X_r05_Check_0_0 (Q : Ex → Frm → Hp → Prop) : Int → List PV → Int → Bool → Prop := (fun i0 l1 i2 b3 => Q (.exit 0) [(0, .v (.int .i64 i0)), (1, .v (.data l1)), (5, .v (.int .i64 i2)), (18, .v (.bool b3))] [])
def X_r05_Check_0_1 (Q : Ex → Frm → Hp → Prop) : Int → Prop := (fun i0 => Q .ret [(4, .v (.int .i64 i0))] [])
def R_r05_Check_0 (a0 : T_r05_right) (Q : Ex → Frm → Hp → Prop) (n : Nat) (F : Frm) (H : Hp) : Prop := D_r05_Check_0 F H (fun i0 l1 i2 => L_r05_Check_0_0 a0 (X_r05_Check_0_0 Q) (X_r05_Check_0_1 Q) n i0 l1 i2)
def lp_r05_Check (a0 : T_r05_right) : LP := fun id F H Q =>
 bif Nat.beq id 13207700 then D_r05_Check_0 F H (fun i0 l1 i2 => ∃ n : Nat, L_r05_Check_0_0 a0 (X_r05_Check_0_0 Q) (X_r05_Check_0_1 Q) n i0 l1 i2) else
 False
def S0_r05_Check (e : List (Nat × EffF)) (a0 : T_r05_right) : SE := ⟨(E e), lookS [(n_r05_right, pw_r05_right a0)], lookI [], lp_r05_Check a0⟩
theorem se0_r05_Check (e : List (Nat × EffF)) (he : EG e) : SEOk (S0_r05_Check e w_r05_right) := seOk_of ⟨(ok_r05_right e he), trivial⟩ trivial he.ok
theorem body_r05_Check_0_0 (e : List (Nat × EffF)) (a0 Q n i0 l1 i2) : WC (E e) (callW (S0_r05_Check e a0) 5) (lp_r05_Check a0) b_13207700 [(0, .v (.int .i64 i0)), (1, .v (.data l1)), (5, .v (.int .i64 i2))] [] (fun x F' H' => match x with | .norm => R_r05_Check_0 a0 Q n F' H' | .exit i => Q (.exit i) F' H' | .ret => Q .ret F' H') = L_r05_Check_0_0 a0 (X_r05_Check_0_0 Q) (X_r05_Check_0_1 Q) (n + 1) i0 l1 i2 := by kernel_rfl
theorem lpb_r05_Check_0 (e : List (Nat × EffF)) (_ : EG e) : LpOk (E e) (lp_r05_Check w_r05_right) b_13207700 := (LpOk_no (by kernel_rfl))
theorem loop_r05_Check_0 (e : List (Nat × EffF)) (he : EG e) : ∀ F H Q, lp_r05_Check w_r05_right 13207700 F H Q → LoopT (E e) b_13207700 F H Q := by
 intro F H Q h
 have go := LoopT.intro (callW_ok (se0_r05_Check e he) 5) (lpb_r05_Check_0 e he) (R_r05_Check_0 w_r05_right Q) (by
   intro F H h
   unfold R_r05_Check_0 D_r05_Check_0 at h
   split at h
   · exact h
   · exact h) (by
   intro n F H h
   unfold R_r05_Check_0 D_r05_Check_0 at h
   split at h
   · exact (body_r05_Check_0_0 ..).mpr h
   · exact h.elim)
 have h : D_r05_Check_0 F H _ := h
 unfold D_r05_Check_0 at h
 split at h
 · obtain ⟨n, h⟩ := h; exact go n _ _ h
 · exact h.elim
theorem eq_r05_Check (e : List (Nat × EffF)) (a0 p0 p1 K) : WP (S0_r05_Check e a0) 6 t_r05_Check [(.int .i64 p0), (.data p1)] K = wv_r05_Check a0 p0 p1 (fun r0 => K (.int .i64 r0)) := by kernel_rfl
theorem ok_r05_Check (e : List (Nat × EffF)) (he : EG e) : OkF (E e) wp_r05_Check n_r05_Check := by
 intro as K h
 unfold wp_r05_Check pw_r05_Check at h
 split at h
 · exact WP_ok (se0_r05_Check e he) (LpOk_by (l := [(13207700, b_13207700)]) ⟨loop_r05_Check_0 e he, trivial⟩ (by kernel_rfl)) (by kernel_rfl) (by kernel_rfl) (fun _ => baseS_none (by kernel_rfl) _) (he.num _ (by kernel_rfl)) ((eq_r05_Check ..).mpr h)
 · exact h.elim
abbrev T_r05_Valid : Type := Int → List PV → List PV → (Bool → Prop) → Prop
def L_r05_Valid_0_0 (a0 : T_r01_Both) (a1 : T_r01_Less) (a2 : T_r01_Of) (x0 : Int → List PV → List PV → Int → Bool → Prop) (x1 : Bool → Prop) : Nat → Int → List PV → List PV → Int → Prop
 | 0, _, _, _, _ => False
 | n + 1, i0, l1, l2, i3 =>
 (cbr (decide (i3 < (((List.length l1) : Nat) : Int)))
 (jn (fun (yj40 : Bool → Prop) =>
 (asr (decide ((0 : Int) ≤ i3))
 (asr (decide (i3 < (((List.length l1) : Nat) : Int)))
 (lt (List.getD l1 (i3.toNat) .nils) (fun yr42 =>
 (asr (conf (.agg [.i .i64, .i .i64]) yr42)
 (asr (decide ((0 : Int) ≤ i3))
 (asr (decide (i3 < (((List.length l2) : Nat) : Int)))
 (lt (List.getD l2 (i3.toNat) .nils) (fun yr43 =>
 (asr (conf (.agg [.i .i64, .i .i64]) yr43)
 (a0 (intOfV (cellAt yr42 0)) (intOfV (cellAt yr42 1)) (intOfV (cellAt yr43 0)) (intOfV (cellAt yr43 1)) (fun yi44 => 
 (cbr (yi44 != (0 : Int))
 (yj40 true)
 (cbr (decide (i3 > (0 : Int)))
 (lt (IntKind.i64.wrap (i3 - (1 : Int))) (fun yi45 =>
 (asr (decide ((0 : Int) ≤ yi45))
 (asr (decide (yi45 < (((List.length l1) : Nat) : Int)))
 (lt (List.getD l1 (yi45.toNat) .nils) (fun yr46 =>
 (asr (conf (.agg [.i .i64, .i .i64]) yr46)
 (asr (decide ((0 : Int) ≤ i3))
 (asr (decide (i3 < (((List.length l1) : Nat) : Int)))
 (lt (List.getD l1 (i3.toNat) .nils) (fun yr47 =>
 (asr (conf (.agg [.i .i64, .i .i64]) yr47)
 (a1 (intOfV (cellAt yr46 0)) (intOfV (cellAt yr46 1)) (intOfV (cellAt yr47 0)) (intOfV (cellAt yr47 1)) (fun yb48 => 
 (cbr (!yb48)
 (yj40 true)
 (asr (decide ((0 : Int) ≤ i3))
 (asr (decide (i3 < (((List.length l2) : Nat) : Int)))
 (lt (List.getD l2 (i3.toNat) .nils) (fun yr49 =>
 (asr (conf (.agg [.i .i64, .i .i64]) yr49)
 (lt (IntKind.i64.wrap (i3 - (1 : Int))) (fun yi50 =>
 (asr (decide ((0 : Int) ≤ yi50))
 (asr (decide (yi50 < (((List.length l2) : Nat) : Int)))
 (lt (List.getD l2 (yi50.toNat) .nils) (fun yr51 =>
 (asr (conf (.agg [.i .i64, .i .i64]) yr51)
 (a1 (intOfV (cellAt yr49 0)) (intOfV (cellAt yr49 1)) (intOfV (cellAt yr51 0)) (intOfV (cellAt yr51 1)) (fun yb52 => 
 (yj40 yb52))))))))))))))))))))))))))))))
 (yj40 false))))))))))))))))
 (fun yb39 => (cbr yb39
 (x1 false)
 (lt (IntKind.i64.wrap (i3 + (1 : Int))) (fun yi41 =>
 (L_r05_Valid_0_0 a0 a1 a2 x0 x1 n i0 l1 l2 yi41))))))
 (x0 i0 l1 l2 i3 false))
def wv_r05_Valid (a0 : T_r01_Both) (a1 : T_r01_Less) (a2 : T_r01_Of) (p0 : Int) (p1 p2 : List PV) (K : Bool → Prop) : Prop :=
 (jn (fun (yj3 : Bool → Prop) =>
 (cbr (decide ((((List.length p1) : Nat) : Int) < (2 : Int)))
 (yj3 true)
 (cbr (decide ((((List.length p1) : Nat) : Int) > (100 : Int)))
 (yj3 true)
 (yj3 ((((List.length p2) : Nat) : Int) != (((List.length p1) : Nat) : Int))))))
 (fun yb2 => (cbr yb2
 (K false)
 (∃ n : Nat, L_r05_Valid_0_0 a0 a1 a2
 (fun yi59 yl60 yl61 _ _ => (jn (fun (yj75 : Bool → Prop) =>
 (asr (decide ((0 : Int) < (((List.length yl60) : Nat) : Int)))
 (lt (List.getD yl60 0 .nils) (fun yr76 =>
 (asr (conf (.agg [.i .i64, .i .i64]) yr76)
 (a2 (0 : Int) (fun yi77 yi78 => 
 (cbr (((intOfV (cellAt yr76 0)) == yi77) && (((intOfV (cellAt yr76 1)) == yi78) && true))
 (asr (decide ((0 : Int) < (((List.length yl61) : Nat) : Int)))
 (lt (List.getD yl61 0 .nils) (fun yr79 =>
 (asr (conf (.agg [.i .i64, .i .i64]) yr79)
 (a2 (0 : Int) (fun yi80 yi81 => 
 (cbr (((intOfV (cellAt yr79 0)) == yi80) && (((intOfV (cellAt yr79 1)) == yi81) && true))
 (lt (IntKind.i64.wrap ((((List.length yl60) : Nat) : Int) - (1 : Int))) (fun yi82 =>
 (asr (decide ((0 : Int) ≤ yi82))
 (asr (decide (yi82 < (((List.length yl60) : Nat) : Int)))
 (lt (List.getD yl60 (yi82.toNat) .nils) (fun yr83 =>
 (asr (conf (.agg [.i .i64, .i .i64]) yr83)
 (a2 yi59 (fun yi84 yi85 => 
 (yj75 (((intOfV (cellAt yr83 0)) == yi84) && (((intOfV (cellAt yr83 1)) == yi85) && true))))))))))))
 (yj75 false))))))))
 (yj75 false)))))))))
 (fun yb74 => (K yb74))))
 (fun yb86 => (K yb86))
 n p0 p1 p2 (0 : Int)))))
def w_r05_Valid (p0 : Int) (p1 p2 : List PV) (K : Bool → Prop) : Prop := wv_r05_Valid w_r01_Both w_r01_Less w_r01_Of p0 p1 p2 K
def pw_r05_Valid (w : T_r05_Valid) (as : List PV) (K : PV → Prop) : Prop :=
 match as with
 | [(.int .i64 p0), (.agg [(.data p1), (.data p2)])] => w p0 p1 p2 (fun r0 => K (.bool r0))
 | _ => False
def wp_r05_Valid (as : List PV) (K : PV → Prop) : Prop := pw_r05_Valid w_r05_Valid as K
def D_r05_Valid_0 (F : Frm) (H : Hp) (A0 : Int → List PV → List PV → Int → Prop) : Prop :=
 match F, H with
 | [(0, .v (.int .i64 i0)), (3, .box (.agg [(.data l1), (.data l2)])), (5, .v (.int .i64 i3))], [] => (A0 i0 l1 l2 i3)
 | _, _ => False
def X_r05_Valid_0_0 (Q : Ex → Frm → Hp → Prop) : Int → List PV → List PV → Int → Bool → Prop := (fun i0 l1 l2 i3 b4 => Q (.exit 0) [(0, .v (.int .i64 i0)), (3, .box (.agg [(.data l1), (.data l2)])), (5, .v (.int .i64 i3)), (29, .v (.bool b4))] [])
def X_r05_Valid_0_1 (Q : Ex → Frm → Hp → Prop) : Bool → Prop := (fun b0 => Q .ret [(4, .v (.bool b0))] [])
def R_r05_Valid_0 (a0 : T_r01_Both) (a1 : T_r01_Less) (a2 : T_r01_Of) (Q : Ex → Frm → Hp → Prop) (n : Nat) (F : Frm) (H : Hp) : Prop := D_r05_Valid_0 F H (fun i0 l1 l2 i3 => L_r05_Valid_0_0 a0 a1 a2 (X_r05_Valid_0_0 Q) (X_r05_Valid_0_1 Q) n i0 l1 l2 i3)
def lp_r05_Valid (a0 : T_r01_Both) (a1 : T_r01_Less) (a2 : T_r01_Of) : LP := fun id F H Q =>
 bif Nat.beq id 10970500 then D_r05_Valid_0 F H (fun i0 l1 l2 i3 => ∃ n : Nat, L_r05_Valid_0_0 a0 a1 a2 (X_r05_Valid_0_0 Q) (X_r05_Valid_0_1 Q) n i0 l1 l2 i3) else
 False
def S0_r05_Valid (e : List (Nat × EffF)) (a0 : T_r01_Both) (a1 : T_r01_Less) (a2 : T_r01_Of) : SE := ⟨(E e), lookS [(n_r01_Both, pw_r01_Both a0), (n_r01_Less, pw_r01_Less a1), (n_r01_Of, pw_r01_Of a2)], lookI [], lp_r05_Valid a0 a1 a2⟩
theorem se0_r05_Valid (e : List (Nat × EffF)) (he : EG e) : SEOk (S0_r05_Valid e w_r01_Both w_r01_Less w_r01_Of) := seOk_of ⟨(ok_r01_Both e he), (ok_r01_Less e he), (ok_r01_Of e he), trivial⟩ trivial he.ok
theorem body_r05_Valid_0_0 (e : List (Nat × EffF)) (a0 a1 a2 Q n i0 l1 l2 i3) : WC (E e) (callW (S0_r05_Valid e a0 a1 a2) 5) (lp_r05_Valid a0 a1 a2) b_10970500 [(0, .v (.int .i64 i0)), (3, .box (.agg [(.data l1), (.data l2)])), (5, .v (.int .i64 i3))] [] (fun x F' H' => match x with | .norm => R_r05_Valid_0 a0 a1 a2 Q n F' H' | .exit i => Q (.exit i) F' H' | .ret => Q .ret F' H') = L_r05_Valid_0_0 a0 a1 a2 (X_r05_Valid_0_0 Q) (X_r05_Valid_0_1 Q) (n + 1) i0 l1 l2 i3 := by kernel_rfl
theorem lpb_r05_Valid_0 (e : List (Nat × EffF)) (_ : EG e) : LpOk (E e) (lp_r05_Valid w_r01_Both w_r01_Less w_r01_Of) b_10970500 := (LpOk_no (by kernel_rfl))
theorem loop_r05_Valid_0 (e : List (Nat × EffF)) (he : EG e) : ∀ F H Q, lp_r05_Valid w_r01_Both w_r01_Less w_r01_Of 10970500 F H Q → LoopT (E e) b_10970500 F H Q := by
 intro F H Q h
 have go := LoopT.intro (callW_ok (se0_r05_Valid e he) 5) (lpb_r05_Valid_0 e he) (R_r05_Valid_0 w_r01_Both w_r01_Less w_r01_Of Q) (by
   intro F H h
   unfold R_r05_Valid_0 D_r05_Valid_0 at h
   split at h
   · exact h
   · exact h) (by
   intro n F H h
   unfold R_r05_Valid_0 D_r05_Valid_0 at h
   split at h
   · exact (body_r05_Valid_0_0 ..).mpr h
   · exact h.elim)
 have h : D_r05_Valid_0 F H _ := h
 unfold D_r05_Valid_0 at h
 split at h
 · obtain ⟨n, h⟩ := h; exact go n _ _ h
 · exact h.elim
theorem eq_r05_Valid (e : List (Nat × EffF)) (a0 a1 a2 p0 p1 p2 K) : WP (S0_r05_Valid e a0 a1 a2) 6 t_r05_Valid [(.int .i64 p0), (.agg [(.data p1), (.data p2)])] K = wv_r05_Valid a0 a1 a2 p0 p1 p2 (fun r0 => K (.bool r0)) := by kernel_rfl
theorem ok_r05_Valid (e : List (Nat × EffF)) (he : EG e) : OkF (E e) wp_r05_Valid n_r05_Valid := by
 intro as K h
 unfold wp_r05_Valid pw_r05_Valid at h
 split at h
 · exact WP_ok (se0_r05_Valid e he) (LpOk_by (l := [(10970500, b_10970500)]) ⟨loop_r05_Valid_0 e he, trivial⟩ (by kernel_rfl)) (by kernel_rfl) (by kernel_rfl) (fun _ => baseS_none (by kernel_rfl) _) (he.num _ (by kernel_rfl)) ((eq_r05_Valid ..).mpr h)
 · exact h.elim
abbrev T_r05_At : Type := List PV → Int → Int → (Int → Prop) → Prop
def L_r05_At_0_0 (x0 : List PV → Int → Int → Int → Bool → Prop) (x1 : Int → Prop) : Nat → List PV → Int → Int → Int → Prop
 | 0, _, _, _, _ => False
 | n + 1, l0, i1, i2, i3 =>
 (cbr (decide (i3 < (((List.length l0) : Nat) : Int)))
 (asr (decide ((0 : Int) ≤ i3))
 (asr (decide (i3 < (((List.length l0) : Nat) : Int)))
 (lt (List.getD l0 (i3.toNat) .nils) (fun yr3 =>
 (asr (conf (.agg [.i .i64, .i .i64]) yr3)
 (cbr (((intOfV (cellAt yr3 0)) == i1) && (((intOfV (cellAt yr3 1)) == i2) && true))
 (x1 i3)
 (lt (IntKind.i64.wrap (i3 + (1 : Int))) (fun yi4 =>
 (L_r05_At_0_0 x0 x1 n l0 i1 i2 yi4)))))))))
 (x0 l0 i1 i2 i3 false))
def wv_r05_At (p0 : List PV) (p1 p2 : Int) (K : Int → Prop) : Prop :=
 (∃ n : Nat, L_r05_At_0_0
 (fun _ _ _ _ _ => (K (-1 : Int)))
 (fun yi16 => (K yi16))
 n p0 p1 p2 (0 : Int))
def w_r05_At (p0 : List PV) (p1 p2 : Int) (K : Int → Prop) : Prop := wv_r05_At p0 p1 p2 K
def pw_r05_At (w : T_r05_At) (as : List PV) (K : PV → Prop) : Prop :=
 match as with
 | [(.data p0), (.agg [(.int .i64 p1), (.int .i64 p2)])] => w p0 p1 p2 (fun r0 => K (.int .i64 r0))
 | _ => False
def wp_r05_At (as : List PV) (K : PV → Prop) : Prop := pw_r05_At w_r05_At as K
def D_r05_At_0 (F : Frm) (H : Hp) (A0 : List PV → Int → Int → Int → Prop) : Prop :=
 match F, H with
 | [(0, .v (.data l0)), (3, .box (.agg [(.int .i64 i1), (.int .i64 i2)])), (5, .v (.int .i64 i3))], [] => (A0 l0 i1 i2 i3)
 | _, _ => False
def X_r05_At_0_0 (Q : Ex → Frm → Hp → Prop) : List PV → Int → Int → Int → Bool → Prop := (fun l0 i1 i2 i3 b4 => Q (.exit 0) [(0, .v (.data l0)), (3, .box (.agg [(.int .i64 i1), (.int .i64 i2)])), (5, .v (.int .i64 i3)), (9, .v (.bool b4))] [])
def X_r05_At_0_1 (Q : Ex → Frm → Hp → Prop) : Int → Prop := (fun i0 => Q .ret [(4, .v (.int .i64 i0))] [])
def R_r05_At_0 (Q : Ex → Frm → Hp → Prop) (n : Nat) (F : Frm) (H : Hp) : Prop := D_r05_At_0 F H (fun l0 i1 i2 i3 => L_r05_At_0_0 (X_r05_At_0_0 Q) (X_r05_At_0_1 Q) n l0 i1 i2 i3)
def lp_r05_At : LP := fun id F H Q =>
 bif Nat.beq id 30944100 then D_r05_At_0 F H (fun l0 i1 i2 i3 => ∃ n : Nat, L_r05_At_0_0 (X_r05_At_0_0 Q) (X_r05_At_0_1 Q) n l0 i1 i2 i3) else
 False
def S0_r05_At (e : List (Nat × EffF)) : SE := ⟨(E e), lookS [], lookI [], lp_r05_At⟩
theorem se0_r05_At (e : List (Nat × EffF)) (he : EG e) : SEOk (S0_r05_At e) := seOk_of trivial trivial he.ok
theorem body_r05_At_0_0 (e : List (Nat × EffF)) ( Q n l0 i1 i2 i3) : WC (E e) (callW (S0_r05_At e) 5) (lp_r05_At) b_30944100 [(0, .v (.data l0)), (3, .box (.agg [(.int .i64 i1), (.int .i64 i2)])), (5, .v (.int .i64 i3))] [] (fun x F' H' => match x with | .norm => R_r05_At_0 Q n F' H' | .exit i => Q (.exit i) F' H' | .ret => Q .ret F' H') = L_r05_At_0_0 (X_r05_At_0_0 Q) (X_r05_At_0_1 Q) (n + 1) l0 i1 i2 i3 := by kernel_rfl
theorem lpb_r05_At_0 (e : List (Nat × EffF)) (_ : EG e) : LpOk (E e) (lp_r05_At) b_30944100 := (LpOk_no (by kernel_rfl))
theorem loop_r05_At_0 (e : List (Nat × EffF)) (he : EG e) : ∀ F H Q, lp_r05_At 30944100 F H Q → LoopT (E e) b_30944100 F H Q := by
 intro F H Q h
 have go := LoopT.intro (callW_ok (se0_r05_At e he) 5) (lpb_r05_At_0 e he) (R_r05_At_0 Q) (by
   intro F H h
   unfold R_r05_At_0 D_r05_At_0 at h
   split at h
   · exact h
   · exact h) (by
   intro n F H h
   unfold R_r05_At_0 D_r05_At_0 at h
   split at h
   · exact (body_r05_At_0_0 ..).mpr h
   · exact h.elim)
 have h : D_r05_At_0 F H _ := h
 unfold D_r05_At_0 at h
 split at h
 · obtain ⟨n, h⟩ := h; exact go n _ _ h
 · exact h.elim
theorem eq_r05_At (e : List (Nat × EffF)) ( p0 p1 p2 K) : WP (S0_r05_At e) 6 t_r05_At [(.data p0), (.agg [(.int .i64 p1), (.int .i64 p2)])] K = wv_r05_At p0 p1 p2 (fun r0 => K (.int .i64 r0)) := by kernel_rfl
theorem ok_r05_At (e : List (Nat × EffF)) (he : EG e) : OkF (E e) wp_r05_At n_r05_At := by
 intro as K h
 unfold wp_r05_At pw_r05_At at h
 split at h
 · exact WP_ok (se0_r05_At e he) (LpOk_by (l := [(30944100, b_30944100)]) ⟨loop_r05_At_0 e he, trivial⟩ (by kernel_rfl)) (by kernel_rfl) (by kernel_rfl) (fun _ => baseS_none (by kernel_rfl) _) (he.num _ (by kernel_rfl)) ((eq_r05_At ..).mpr h)
 · exact h.elim
abbrev T_r05_To : Type := Int → Int → Int → Int → Int → Int → Int → Int → (Int → Int → Prop) → Prop
def wv_r05_To (_ p1 _ _ p4 p5 p6 p7 : Int) (K : Int → Int → Prop) : Prop :=
 (cbr (p1 == (1 : Int))
 (K p4 p5)
 (K p6 p7))
def w_r05_To (p0 p1 p2 p3 p4 p5 p6 p7 : Int) (K : Int → Int → Prop) : Prop := wv_r05_To p0 p1 p2 p3 p4 p5 p6 p7 K
def pw_r05_To (w : T_r05_To) (as : List PV) (K : PV → Prop) : Prop :=
 match as with
 | [(.agg [(.int .i64 p0), (.int .u8 p1), (.int .i64 p2), (.int .i64 p3), (.int .i64 p4), (.int .i64 p5), (.int .i64 p6), (.int .i64 p7)])] => w p0 p1 p2 p3 p4 p5 p6 p7 (fun r0 r1 => K (.agg [(.int .i64 r0), (.int .i64 r1)]))
 | _ => False
def wp_r05_To (as : List PV) (K : PV → Prop) : Prop := pw_r05_To w_r05_To as K
def lp_r05_To : LP := fun _ _ _ _ =>
 False
def S0_r05_To (e : List (Nat × EffF)) : SE := ⟨(E e), lookS [], lookI [], lp_r05_To⟩
theorem se0_r05_To (e : List (Nat × EffF)) (he : EG e) : SEOk (S0_r05_To e) := seOk_of trivial trivial he.ok
theorem eq_r05_To (e : List (Nat × EffF)) ( p0 p1 p2 p3 p4 p5 p6 p7 K) : WP (S0_r05_To e) 6 t_r05_To [(.agg [(.int .i64 p0), (.int .u8 p1), (.int .i64 p2), (.int .i64 p3), (.int .i64 p4), (.int .i64 p5), (.int .i64 p6), (.int .i64 p7)])] K = wv_r05_To p0 p1 p2 p3 p4 p5 p6 p7 (fun r0 r1 => K (.agg [(.int .i64 r0), (.int .i64 r1)])) := by kernel_rfl
theorem ok_r05_To (e : List (Nat × EffF)) (he : EG e) : OkF (E e) wp_r05_To n_r05_To := by
 intro as K h
 unfold wp_r05_To pw_r05_To at h
 split at h
 · exact WP_ok (se0_r05_To e he) (LpOk_no (by kernel_rfl)) (by kernel_rfl) (by kernel_rfl) (fun _ => baseS_none (by kernel_rfl) _) (he.num _ (by kernel_rfl)) ((eq_r05_To ..).mpr h)
 · exact h.elim
abbrev T_r05_points : Type := Int → List PV → (List PV → Prop) → Prop
def L_r05_points_1_0 (a0 : T_r01_Of) (a1 : T_r05_At) (a2 : T_r01_Less) (a3 : T_r05_To) (x34428200_0 : List PV → Int → Bool → Prop) : Nat → List PV → Int → Prop
 | 0, _, _ => False
 | n34428200 + 1, l0, i3 =>
 (jn (fun (yj30 : Bool → Prop) =>
 (cbr (decide (i3 > (0 : Int)))
 (asr (decide ((0 : Int) ≤ i3))
 (asr (decide (i3 < (((List.length l0) : Nat) : Int)))
 (asr (decide ((List.length l0) = (List.length l0)))
 (asr (decide ((0 + (i3.toNat)) < (List.length l0)))
 (lt (List.getD l0 (0 + (i3.toNat)) .nils) (fun yr44 =>
 (asr (conf (.agg [.i .i64, .i .i64]) yr44)
 (lt (IntKind.i64.wrap (i3 - (1 : Int))) (fun yi45 =>
 (asr (decide ((0 : Int) ≤ yi45))
 (asr (decide (yi45 < (((List.length l0) : Nat) : Int)))
 (asr (decide ((List.length l0) = (List.length l0)))
 (asr (decide ((0 + (yi45.toNat)) < (List.length l0)))
 (lt (List.getD l0 (0 + (yi45.toNat)) .nils) (fun yr46 =>
 (asr (conf (.agg [.i .i64, .i .i64]) yr46)
 (a2 (intOfV (cellAt yr44 0)) (intOfV (cellAt yr44 1)) (intOfV (cellAt yr46 0)) (intOfV (cellAt yr46 1)) (fun yb47 => 
 (yj30 yb47)))))))))))))))))))
 (yj30 false)))
 (fun yb29 => (cbr yb29
 (lt (IntKind.i64.wrap (i3 - (1 : Int))) (fun yi37 =>
 (asr (decide ((0 : Int) ≤ i3))
 (asr (decide (i3 < (((List.length l0) : Nat) : Int)))
 (asr (decide ((List.length l0) = (List.length l0)))
 (asr (decide ((0 + (i3.toNat)) < (List.length l0)))
 (lt (List.getD l0 (0 + (i3.toNat)) .nils) (fun yr38 =>
 (asr (conf (.agg [.i .i64, .i .i64]) yr38)
 (lt (IntKind.i64.wrap (i3 - (1 : Int))) (fun yi39 =>
 (asr (decide ((0 : Int) ≤ yi39))
 (asr (decide (yi39 < (((List.length l0) : Nat) : Int)))
 (asr (decide ((List.length l0) = (List.length l0)))
 (asr (decide ((0 + (yi39.toNat)) < (List.length l0)))
 (lt (List.getD l0 (0 + (yi39.toNat)) .nils) (fun yr40 =>
 (asr (conf (.agg [.i .i64, .i .i64]) yr40)
 (asr (decide ((0 : Int) ≤ yi37))
 (asr (decide (yi37 < (((List.length l0) : Nat) : Int)))
 (asr (decide ((List.length l0) = (List.length l0)))
 (asr (decide ((0 + (yi37.toNat)) < (List.length l0)))
 (lt (List.getD l0 (0 + (yi37.toNat)) .nils) (fun yr41 =>
 (asr (conf (.agg [.i .i64, .i .i64]) yr41)
 (asr (decide ((0 : Int) ≤ i3))
 (asr (decide (i3 < (((List.length l0) : Nat) : Int)))
 (asr (decide ((List.length (List.set l0 (0 + (yi37.toNat)) (.agg [(.int .i64 (intOfV (cellAt yr38 0))), (.int .i64 (intOfV (cellAt yr38 1)))]))) = (List.length l0)))
 (asr (decide ((0 + (i3.toNat)) < (List.length (List.set l0 (0 + (yi37.toNat)) (.agg [(.int .i64 (intOfV (cellAt yr38 0))), (.int .i64 (intOfV (cellAt yr38 1)))])))))
 (lt (List.getD (List.set l0 (0 + (yi37.toNat)) (.agg [(.int .i64 (intOfV (cellAt yr38 0))), (.int .i64 (intOfV (cellAt yr38 1)))])) (0 + (i3.toNat)) .nils) (fun yr42 =>
 (asr (conf (.agg [.i .i64, .i .i64]) yr42)
 (lt (IntKind.i64.wrap (i3 - (1 : Int))) (fun yi43 =>
 (asr (decide ((List.length l0) = List.length (List.set (List.set l0 (0 + (yi37.toNat)) (.agg [(.int .i64 (intOfV (cellAt yr38 0))), (.int .i64 (intOfV (cellAt yr38 1)))])) (0 + (i3.toNat)) (.agg [(.int .i64 (intOfV (cellAt yr40 0))), (.int .i64 (intOfV (cellAt yr40 1)))]))) && decide ((List.length l0) = List.length (List.set (List.set l0 (0 + (yi37.toNat)) (.agg [(.int .i64 (intOfV (cellAt yr38 0))), (.int .i64 (intOfV (cellAt yr38 1)))])) (0 + (i3.toNat)) (.agg [(.int .i64 (intOfV (cellAt yr40 0))), (.int .i64 (intOfV (cellAt yr40 1)))]))))
 (L_r05_points_1_0 a0 a1 a2 a3 x34428200_0 n34428200 (List.set (List.set l0 (0 + (yi37.toNat)) (.agg [(.int .i64 (intOfV (cellAt yr38 0))), (.int .i64 (intOfV (cellAt yr38 1)))])) (0 + (i3.toNat)) (.agg [(.int .i64 (intOfV (cellAt yr40 0))), (.int .i64 (intOfV (cellAt yr40 1)))])) yi43))))))))))))))))))))))))))))))))))))
 (x34428200_0 l0 i3 false))))
def L_r05_points_0_0 (a0 : T_r01_Of) (a1 : T_r05_At) (a2 : T_r01_Less) (a3 : T_r05_To) (x56755600_0 : List PV → List PV → Int → Bool → Prop) : Nat → List PV → List PV → Int → Prop
 | 0, _, _, _ => False
 | n56755600 + 1, l0, l1, i4 =>
 (cbr (decide (i4 < (((List.length l1) : Nat) : Int)))
 (asr (decide ((0 : Int) ≤ i4))
 (asr (decide (i4 < (((List.length l1) : Nat) : Int)))
 (lt (List.getD l1 (i4.toNat) .nils) (fun yr105 =>
 (asr (conf (.agg [.i .i64, .i .u8, .i .i64, .i .i64, .i .i64, .i .i64, .i .i64, .i .i64]) yr105)
 (jn (fun (yj121 : List PV → Prop) =>
 (asr (decide ((List.length l0) = (List.length l0)))
 (asr (decide ((0 + (List.length l0)) ≤ (List.length l0)))
 (a1 (List.take (List.length l0) l0) (intOfV (cellAt yr105 2)) (intOfV (cellAt yr105 3)) (fun yi159 => 
 (cbr (decide (yi159 ≥ (0 : Int)))
 (yj121 l0)
 (asr (decide ((List.length l0) = (List.length l0)))
 (asr (decide ((0 + (List.length l0)) ≤ (List.length l0)))
 (asr (!(decide (((0 + (List.length l0)) + 1) ≤ (List.length l0))))
 (asr (decide ((List.length l0) = (List.length l0)))
 (asr (decide ((((List.length l0) + 1) + 64) * (16 + 1) ≤ room))
 (lt (IntKind.i64.wrap ((((List.length (l0 ++ ([(.agg [(.int .i64 (intOfV (cellAt yr105 2))), (.int .i64 (intOfV (cellAt yr105 3)))])] : List PV))) : Nat) : Int) - (1 : Int))) (fun yi166 =>
 (asr (decide ((List.length (l0 ++ ([(.agg [(.int .i64 (intOfV (cellAt yr105 2))), (.int .i64 (intOfV (cellAt yr105 3)))])] : List PV))) = List.length (l0 ++ ([(.agg [(.int .i64 (intOfV (cellAt yr105 2))), (.int .i64 (intOfV (cellAt yr105 3)))])] : List PV))) && decide ((List.length (l0 ++ ([(.agg [(.int .i64 (intOfV (cellAt yr105 2))), (.int .i64 (intOfV (cellAt yr105 3)))])] : List PV))) = List.length (l0 ++ ([(.agg [(.int .i64 (intOfV (cellAt yr105 2))), (.int .i64 (intOfV (cellAt yr105 3)))])] : List PV))))
 (∃ n34428200 : Nat, L_r05_points_1_0 a0 a1 a2 a3
 (fun yl167 _ _ => (yj121 yl167))
 n34428200 (l0 ++ ([(.agg [(.int .i64 (intOfV (cellAt yr105 2))), (.int .i64 (intOfV (cellAt yr105 3)))])] : List PV)) yi166)))))))))))))))
 (fun yl120 => (asr (decide ((0 : Int) ≤ i4))
 (asr (decide (i4 < (((List.length l1) : Nat) : Int)))
 (lt (List.getD l1 (i4.toNat) .nils) (fun yr122 =>
 (asr (conf (.agg [.i .i64, .i .u8, .i .i64, .i .i64, .i .i64, .i .i64, .i .i64, .i .i64]) yr122)
 (a3 (intOfV (cellAt yr122 0)) (intOfV (cellAt yr122 1)) (intOfV (cellAt yr122 2)) (intOfV (cellAt yr122 3)) (intOfV (cellAt yr122 4)) (intOfV (cellAt yr122 5)) (intOfV (cellAt yr122 6)) (intOfV (cellAt yr122 7)) (fun yi123 yi124 => 
 (jn (fun (yj140 : List PV → Prop) =>
 (asr (decide ((List.length yl120) = (List.length yl120)))
 (asr (decide ((0 + (List.length yl120)) ≤ (List.length yl120)))
 (a1 (List.take (List.length yl120) yl120) yi123 yi124 (fun yi145 => 
 (cbr (decide (yi145 ≥ (0 : Int)))
 (yj140 yl120)
 (asr (decide ((List.length yl120) = (List.length yl120)))
 (asr (decide ((0 + (List.length yl120)) ≤ (List.length yl120)))
 (asr (!(decide (((0 + (List.length yl120)) + 1) ≤ (List.length yl120))))
 (asr (decide ((List.length yl120) = (List.length yl120)))
 (asr (decide ((((List.length yl120) + 1) + 64) * (16 + 1) ≤ room))
 (lt (IntKind.i64.wrap ((((List.length (yl120 ++ ([(.agg [(.int .i64 yi123), (.int .i64 yi124)])] : List PV))) : Nat) : Int) - (1 : Int))) (fun yi152 =>
 (asr (decide ((List.length (yl120 ++ ([(.agg [(.int .i64 yi123), (.int .i64 yi124)])] : List PV))) = List.length (yl120 ++ ([(.agg [(.int .i64 yi123), (.int .i64 yi124)])] : List PV))) && decide ((List.length (yl120 ++ ([(.agg [(.int .i64 yi123), (.int .i64 yi124)])] : List PV))) = List.length (yl120 ++ ([(.agg [(.int .i64 yi123), (.int .i64 yi124)])] : List PV))))
 (∃ n34428200 : Nat, L_r05_points_1_0 a0 a1 a2 a3
 (fun yl153 _ _ => (yj140 yl153))
 n34428200 (yl120 ++ ([(.agg [(.int .i64 yi123), (.int .i64 yi124)])] : List PV)) yi152)))))))))))))))
 (fun yl139 => (lt (IntKind.i64.wrap (i4 + (1 : Int))) (fun yi141 =>
 (asr (decide ((List.length yl139) = List.length yl139) && decide ((List.length yl139) = List.length yl139))
 (L_r05_points_0_0 a0 a1 a2 a3 x56755600_0 n56755600 yl139 l1 yi141))))))))))))))))))))
 (x56755600_0 l0 l1 i4 false))
def wv_r05_points (a0 : T_r01_Of) (a1 : T_r05_At) (a2 : T_r01_Less) (a3 : T_r05_To) (p0 : Int) (p1 : List PV) (K : List PV → Prop) : Prop :=
 (a0 (0 : Int) (fun yi4 yi5 => 
 (a0 p0 (fun yi6 yi7 => 
 (asr (decide (2 = List.length ([(.agg [(.int .i64 yi4), (.int .i64 yi5)]), (.agg [(.int .i64 yi6), (.int .i64 yi7)])] : List PV)) && decide (2 = List.length ([(.agg [(.int .i64 yi4), (.int .i64 yi5)]), (.agg [(.int .i64 yi6), (.int .i64 yi7)])] : List PV)))
 (∃ n56755600 : Nat, L_r05_points_0_0 a0 a1 a2 a3
 (fun yl174 _ _ _ => (asr (decide ((List.length yl174) = (List.length yl174)))
 (asr (decide ((0 + (List.length yl174)) ≤ (List.length yl174)))
 (K (List.take (List.length yl174) yl174)))))
 n56755600 ([(.agg [(.int .i64 yi4), (.int .i64 yi5)]), (.agg [(.int .i64 yi6), (.int .i64 yi7)])] : List PV) p1 (0 : Int)))))))
def w_r05_points (p0 : Int) (p1 : List PV) (K : List PV → Prop) : Prop := wv_r05_points w_r01_Of w_r05_At w_r01_Less w_r05_To p0 p1 K
def pw_r05_points (w : T_r05_points) (as : List PV) (K : PV → Prop) : Prop :=
 match as with
 | [(.int .i64 p0), (.data p1)] => w p0 p1 (fun r0 => K (.data r0))
 | _ => False
def wp_r05_points (as : List PV) (K : PV → Prop) : Prop := pw_r05_points w_r05_points as K
def D_r05_points_1 (F : Frm) (H : Hp) (A0 : List PV → Int → Prop) : Prop :=
 match F, H with
 | [(0, .v (.own 0 0 t1 t2 none)), (5, .v (.int .i64 i3))], [⟨false, true, 2, l0⟩] => asr (decide (t1 = List.length l0) && decide (t2 = List.length l0)) (A0 l0 i3)
 | _, _ => False
def D_r05_points_0 (F : Frm) (H : Hp) (A0 : List PV → List PV → Int → Prop) : Prop :=
 match F, H with
 | [(1, .v (.data l1)), (5, .v (.own 0 0 t2 t3 none)), (6, .v (.int .i64 i4))], [⟨false, true, 2, l0⟩] => asr (decide (t2 = List.length l0) && decide (t3 = List.length l0)) (A0 l0 l1 i4)
 | _, _ => False
def X_r05_points_1_0 (Q : Ex → Frm → Hp → Prop) : List PV → Int → Bool → Prop := (fun l0 i3 b4 => Q (.exit 0) [(0, .v (.own 0 0 (List.length l0) (List.length l0) none)), (5, .v (.int .i64 i3)), (31, .v (.bool b4))] [⟨false, true, 2, l0⟩])
def X_r05_points_0_0 (Q : Ex → Frm → Hp → Prop) : List PV → List PV → Int → Bool → Prop := (fun l0 l1 i4 b5 => Q (.exit 0) [(1, .v (.data l1)), (5, .v (.own 0 0 (List.length l0) (List.length l0) none)), (6, .v (.int .i64 i4)), (14, .v (.bool b5))] [⟨false, true, 2, l0⟩])
def R_r05_points_1 (a0 : T_r01_Of) (a1 : T_r05_At) (a2 : T_r01_Less) (a3 : T_r05_To) (Q : Ex → Frm → Hp → Prop) (n : Nat) (F : Frm) (H : Hp) : Prop := D_r05_points_1 F H (fun l0 i3 => L_r05_points_1_0 a0 a1 a2 a3 (X_r05_points_1_0 Q) n l0 i3)
def R_r05_points_0 (a0 : T_r01_Of) (a1 : T_r05_At) (a2 : T_r01_Less) (a3 : T_r05_To) (Q : Ex → Frm → Hp → Prop) (n : Nat) (F : Frm) (H : Hp) : Prop := D_r05_points_0 F H (fun l0 l1 i4 => L_r05_points_0_0 a0 a1 a2 a3 (X_r05_points_0_0 Q) n l0 l1 i4)
def lp_r05_points (a0 : T_r01_Of) (a1 : T_r05_At) (a2 : T_r01_Less) (a3 : T_r05_To) : LP := fun id F H Q =>
 bif Nat.beq id 34428200 then D_r05_points_1 F H (fun l0 i3 => ∃ n : Nat, L_r05_points_1_0 a0 a1 a2 a3 (X_r05_points_1_0 Q) n l0 i3) else
 bif Nat.beq id 56755600 then D_r05_points_0 F H (fun l0 l1 i4 => ∃ n : Nat, L_r05_points_0_0 a0 a1 a2 a3 (X_r05_points_0_0 Q) n l0 l1 i4) else
 False
def S0_r05_points (e : List (Nat × EffF)) (a0 : T_r01_Of) (a1 : T_r05_At) (a2 : T_r01_Less) (a3 : T_r05_To) : SE := ⟨(E e), lookS [(n_r01_Of, pw_r01_Of a0), (n_r05_At, pw_r05_At a1), (n_r01_Less, pw_r01_Less a2), (n_r05_To, pw_r05_To a3)], lookI [], lp_r05_points a0 a1 a2 a3⟩
def S1_r05_points (e : List (Nat × EffF)) (a0 : T_r01_Of) (a1 : T_r05_At) (a2 : T_r01_Less) (a3 : T_r05_To) : SE := ⟨(E e), lookS [(n_r01_Of, pw_r01_Of a0), (n_r05_At, pw_r05_At a1), (n_r01_Less, pw_r01_Less a2), (n_r05_To, pw_r05_To a3)], lookI [(n_r05_put, t_r05_put)], lp_r05_points a0 a1 a2 a3⟩
theorem se0_r05_points (e : List (Nat × EffF)) (he : EG e) : SEOk (S0_r05_points e w_r01_Of w_r05_At w_r01_Less w_r05_To) := seOk_of ⟨(ok_r01_Of e he), (ok_r05_At e he), (ok_r01_Less e he), (ok_r05_To e he), trivial⟩ trivial he.ok
theorem body_r05_points_1_0 (e : List (Nat × EffF)) (a0 a1 a2 a3 Q n l0 i3) : WC (E e) (callW (S0_r05_points e a0 a1 a2 a3) 5) (lp_r05_points a0 a1 a2 a3) b_34428200 [(0, .v (.own 0 0 (List.length l0) (List.length l0) none)), (5, .v (.int .i64 i3))] [⟨false, true, 2, l0⟩] (fun x F' H' => match x with | .norm => R_r05_points_1 a0 a1 a2 a3 Q n F' H' | .exit i => Q (.exit i) F' H' | .ret => Q .ret F' H') = L_r05_points_1_0 a0 a1 a2 a3 (X_r05_points_1_0 Q) (n + 1) l0 i3 := by kernel_rfl
theorem lpb_r05_points_1 (e : List (Nat × EffF)) (_ : EG e) : LpOk (E e) (lp_r05_points w_r01_Of w_r05_At w_r01_Less w_r05_To) b_34428200 := (LpOk_no (by kernel_rfl))
theorem loop_r05_points_1 (e : List (Nat × EffF)) (he : EG e) : ∀ F H Q, lp_r05_points w_r01_Of w_r05_At w_r01_Less w_r05_To 34428200 F H Q → LoopT (E e) b_34428200 F H Q := by
 intro F H Q h
 have go := LoopT.intro (callW_ok (se0_r05_points e he) 5) (lpb_r05_points_1 e he) (R_r05_points_1 w_r01_Of w_r05_At w_r01_Less w_r05_To Q) (by
   intro F H h
   unfold R_r05_points_1 D_r05_points_1 at h
   split at h
   · obtain ⟨hg, k⟩ := asr_iff.1 h
     clear h
     have h := k
     clear k
     try simp only [Bool.and_eq_true, decide_eq_true_eq] at hg
     obtain ⟨g0, g1⟩ := hg; subst g0; subst g1; exact h
   · exact h) (by
   intro n F H h
   unfold R_r05_points_1 D_r05_points_1 at h
   split at h
   · obtain ⟨hg, k⟩ := asr_iff.1 h
     clear h
     have h := k
     clear k
     try simp only [Bool.and_eq_true, decide_eq_true_eq] at hg
     obtain ⟨g0, g1⟩ := hg; subst g0; subst g1; exact (body_r05_points_1_0 ..).mpr h
   · exact h.elim)
 have h : D_r05_points_1 F H _ := h
 unfold D_r05_points_1 at h
 split at h
 · obtain ⟨hg, n, h⟩ := asr_iff.1 h; exact go n _ _ (asr_iff.2 ⟨hg, h⟩)
 · exact h.elim
theorem se1_r05_points (e : List (Nat × EffF)) (he : EG e) : SEOk (S1_r05_points e w_r01_Of w_r05_At w_r01_Less w_r05_To) := seOk_of ⟨(ok_r01_Of e he), (ok_r05_At e he), (ok_r01_Less e he), (ok_r05_To e he), trivial⟩ ⟨⟨by kernel_rfl, by kernel_rfl, rfl, fun as => baseS_none (by kernel_rfl) as, he.num _ (by kernel_rfl), (LpOk_by (l := [(34428200, b_34428200)]) ⟨loop_r05_points_1 e he, trivial⟩ (by kernel_rfl))⟩, trivial⟩ he.ok
theorem body_r05_points_0_0 (e : List (Nat × EffF)) (a0 a1 a2 a3 Q n l0 l1 i4) : WC (E e) (callW (S1_r05_points e a0 a1 a2 a3) 5) (lp_r05_points a0 a1 a2 a3) b_56755600 [(1, .v (.data l1)), (5, .v (.own 0 0 (List.length l0) (List.length l0) none)), (6, .v (.int .i64 i4))] [⟨false, true, 2, l0⟩] (fun x F' H' => match x with | .norm => R_r05_points_0 a0 a1 a2 a3 Q n F' H' | .exit i => Q (.exit i) F' H' | .ret => Q .ret F' H') = L_r05_points_0_0 a0 a1 a2 a3 (X_r05_points_0_0 Q) (n + 1) l0 l1 i4 := by kernel_rfl
theorem lpb_r05_points_0 (e : List (Nat × EffF)) (_ : EG e) : LpOk (E e) (lp_r05_points w_r01_Of w_r05_At w_r01_Less w_r05_To) b_56755600 := (LpOk_no (by kernel_rfl))
theorem loop_r05_points_0 (e : List (Nat × EffF)) (he : EG e) : ∀ F H Q, lp_r05_points w_r01_Of w_r05_At w_r01_Less w_r05_To 56755600 F H Q → LoopT (E e) b_56755600 F H Q := by
 intro F H Q h
 have go := LoopT.intro (callW_ok (se1_r05_points e he) 5) (lpb_r05_points_0 e he) (R_r05_points_0 w_r01_Of w_r05_At w_r01_Less w_r05_To Q) (by
   intro F H h
   unfold R_r05_points_0 D_r05_points_0 at h
   split at h
   · obtain ⟨hg, k⟩ := asr_iff.1 h
     clear h
     have h := k
     clear k
     try simp only [Bool.and_eq_true, decide_eq_true_eq] at hg
     obtain ⟨g0, g1⟩ := hg; subst g0; subst g1; exact h
   · exact h) (by
   intro n F H h
   unfold R_r05_points_0 D_r05_points_0 at h
   split at h
   · obtain ⟨hg, k⟩ := asr_iff.1 h
     clear h
     have h := k
     clear k
     try simp only [Bool.and_eq_true, decide_eq_true_eq] at hg
     obtain ⟨g0, g1⟩ := hg; subst g0; subst g1; exact (body_r05_points_0_0 ..).mpr h
   · exact h.elim)
 have h : D_r05_points_0 F H _ := h
 unfold D_r05_points_0 at h
 split at h
 · obtain ⟨hg, n, h⟩ := asr_iff.1 h; exact go n _ _ (asr_iff.2 ⟨hg, h⟩)
 · exact h.elim
theorem eq_r05_points (e : List (Nat × EffF)) (a0 a1 a2 a3 p0 p1 K) : WP (S1_r05_points e a0 a1 a2 a3) 6 t_r05_points [(.int .i64 p0), (.data p1)] K = wv_r05_points a0 a1 a2 a3 p0 p1 (fun r0 => K (.data r0)) := by kernel_rfl
theorem ok_r05_points (e : List (Nat × EffF)) (he : EG e) : OkF (E e) wp_r05_points n_r05_points := by
 intro as K h
 unfold wp_r05_points pw_r05_points at h
 split at h
 · exact WP_ok (se1_r05_points e he) (LpOk_by (l := [(56755600, b_56755600)]) ⟨loop_r05_points_0 e he, trivial⟩ (by kernel_rfl)) (by kernel_rfl) (by kernel_rfl) (fun _ => baseS_none (by kernel_rfl) _) (he.num _ (by kernel_rfl)) ((eq_r05_points ..).mpr h)
 · exact h.elim
abbrev T_r05_Told : Type := Int → Int → Int → Int → Int → Int → Int → Int → (Int → Int → Prop) → Prop
def wv_r05_Told (_ p1 _ _ p4 p5 p6 p7 : Int) (K : Int → Int → Prop) : Prop :=
 (cbr (p1 == (1 : Int))
 (K p6 p7)
 (K p4 p5))
def w_r05_Told (p0 p1 p2 p3 p4 p5 p6 p7 : Int) (K : Int → Int → Prop) : Prop := wv_r05_Told p0 p1 p2 p3 p4 p5 p6 p7 K
def pw_r05_Told (w : T_r05_Told) (as : List PV) (K : PV → Prop) : Prop :=
 match as with
 | [(.agg [(.int .i64 p0), (.int .u8 p1), (.int .i64 p2), (.int .i64 p3), (.int .i64 p4), (.int .i64 p5), (.int .i64 p6), (.int .i64 p7)])] => w p0 p1 p2 p3 p4 p5 p6 p7 (fun r0 r1 => K (.agg [(.int .i64 r0), (.int .i64 r1)]))
 | _ => False
def wp_r05_Told (as : List PV) (K : PV → Prop) : Prop := pw_r05_Told w_r05_Told as K
def lp_r05_Told : LP := fun _ _ _ _ =>
 False
def S0_r05_Told (e : List (Nat × EffF)) : SE := ⟨(E e), lookS [], lookI [], lp_r05_Told⟩
theorem se0_r05_Told (e : List (Nat × EffF)) (he : EG e) : SEOk (S0_r05_Told e) := seOk_of trivial trivial he.ok
theorem eq_r05_Told (e : List (Nat × EffF)) ( p0 p1 p2 p3 p4 p5 p6 p7 K) : WP (S0_r05_Told e) 6 t_r05_Told [(.agg [(.int .i64 p0), (.int .u8 p1), (.int .i64 p2), (.int .i64 p3), (.int .i64 p4), (.int .i64 p5), (.int .i64 p6), (.int .i64 p7)])] K = wv_r05_Told p0 p1 p2 p3 p4 p5 p6 p7 (fun r0 r1 => K (.agg [(.int .i64 r0), (.int .i64 r1)])) := by kernel_rfl
theorem ok_r05_Told (e : List (Nat × EffF)) (he : EG e) : OkF (E e) wp_r05_Told n_r05_Told := by
 intro as K h
 unfold wp_r05_Told pw_r05_Told at h
 split at h
 · exact WP_ok (se0_r05_Told e he) (LpOk_no (by kernel_rfl)) (by kernel_rfl) (by kernel_rfl) (fun _ => baseS_none (by kernel_rfl) _) (he.num _ (by kernel_rfl)) ((eq_r05_Told ..).mpr h)
 · exact h.elim
abbrev T_r05_fits : Type := List PV → List PV → Int → Int → Int → Int → Int → Int → Int → Int → (Bool → Int → Prop) → Prop
def wv_r05_fits (a0 : T_r05_At) (a1 : T_r05_To) (a2 : T_r05_Told) (a3 : T_r01_Add) (a4 : T_r01_Less) (p0 p1 : List PV) (p2 p3 p4 p5 p6 p7 p8 p9 : Int) (K : Bool → Int → Prop) : Prop :=
 (a0 p0 p4 p5 (fun yi6 => 
 (a1 p2 p3 p4 p5 p6 p7 p8 p9 (fun yi7 yi8 => 
 (a0 p0 yi7 yi8 (fun yi9 => 
 (a2 p2 p3 p4 p5 p6 p7 p8 p9 (fun yi10 yi11 => 
 (asr (decide ((0 : Int) ≤ yi6))
 (asr (decide (yi6 < (((List.length p1) : Nat) : Int)))
 (lt (List.getD p1 (yi6.toNat) .nils) (fun yr16 =>
 (asr (conf (.agg [.i .i64, .i .i64]) yr16)
 (a3 (intOfV (cellAt yr16 0)) (intOfV (cellAt yr16 1)) yi10 yi11 (fun yi17 yi18 yi19 => 
 (cbr (yi19 != (0 : Int))
 (K false yi19)
 (asr (decide ((0 : Int) ≤ yi9))
 (asr (decide (yi9 < (((List.length p1) : Nat) : Int)))
 (lt (List.getD p1 (yi9.toNat) .nils) (fun yr23 =>
 (asr (conf (.agg [.i .i64, .i .i64]) yr23)
 (cbr (!((yi17 == (intOfV (cellAt yr23 0))) && ((yi18 == (intOfV (cellAt yr23 1))) && true)))
 (K false (0 : Int))
 (cbr (p3 == (1 : Int))
 (K true (0 : Int))
 (cbr (yi10 == (0 : Int))
 (K (yi6 == yi9) (0 : Int))
 (jn (fun (yj29 : Bool → Prop) =>
 (cbr (decide (yi9 > (0 : Int)))
 (lt (IntKind.i64.wrap (yi9 - (1 : Int))) (fun yi30 =>
 (asr (decide ((0 : Int) ≤ yi30))
 (asr (decide (yi30 < (((List.length p1) : Nat) : Int)))
 (lt (List.getD p1 (yi30.toNat) .nils) (fun yr31 =>
 (asr (conf (.agg [.i .i64, .i .i64]) yr31)
 (asr (decide ((0 : Int) ≤ yi9))
 (asr (decide (yi9 < (((List.length p1) : Nat) : Int)))
 (lt (List.getD p1 (yi9.toNat) .nils) (fun yr32 =>
 (asr (conf (.agg [.i .i64, .i .i64]) yr32)
 (a4 (intOfV (cellAt yr31 0)) (intOfV (cellAt yr31 1)) (intOfV (cellAt yr32 0)) (intOfV (cellAt yr32 1)) (fun yb33 => 
 (yj29 yb33)))))))))))))))
 (yj29 false)))
 (fun yb28 => (K yb28 (0 : Int))))))))))))))))))))))))))))
def w_r05_fits (p0 p1 : List PV) (p2 p3 p4 p5 p6 p7 p8 p9 : Int) (K : Bool → Int → Prop) : Prop := wv_r05_fits w_r05_At w_r05_To w_r05_Told w_r01_Add w_r01_Less p0 p1 p2 p3 p4 p5 p6 p7 p8 p9 K
def pw_r05_fits (w : T_r05_fits) (as : List PV) (K : PV → Prop) : Prop :=
 match as with
 | [(.agg [(.data p0), (.data p1)]), (.agg [(.int .i64 p2), (.int .u8 p3), (.int .i64 p4), (.int .i64 p5), (.int .i64 p6), (.int .i64 p7), (.int .i64 p8), (.int .i64 p9)])] => w p0 p1 p2 p3 p4 p5 p6 p7 p8 p9 (fun r0 r1 => K (.tup [(.bool r0), (.int .i64 r1)]))
 | _ => False
def wp_r05_fits (as : List PV) (K : PV → Prop) : Prop := pw_r05_fits w_r05_fits as K
def lp_r05_fits (_ : T_r05_At) (_ : T_r05_To) (_ : T_r05_Told) (_ : T_r01_Add) (_ : T_r01_Less) : LP := fun _ _ _ _ =>
 False
def S0_r05_fits (e : List (Nat × EffF)) (a0 : T_r05_At) (a1 : T_r05_To) (a2 : T_r05_Told) (a3 : T_r01_Add) (a4 : T_r01_Less) : SE := ⟨(E e), lookS [(n_r05_At, pw_r05_At a0), (n_r05_To, pw_r05_To a1), (n_r05_Told, pw_r05_Told a2), (n_r01_Add, pw_r01_Add a3), (n_r01_Less, pw_r01_Less a4)], lookI [], lp_r05_fits a0 a1 a2 a3 a4⟩
theorem se0_r05_fits (e : List (Nat × EffF)) (he : EG e) : SEOk (S0_r05_fits e w_r05_At w_r05_To w_r05_Told w_r01_Add w_r01_Less) := seOk_of ⟨(ok_r05_At e he), (ok_r05_To e he), (ok_r05_Told e he), (ok_r01_Add e he), (ok_r01_Less e he), trivial⟩ trivial he.ok
theorem eq_r05_fits (e : List (Nat × EffF)) (a0 a1 a2 a3 a4 p0 p1 p2 p3 p4 p5 p6 p7 p8 p9 K) : WP (S0_r05_fits e a0 a1 a2 a3 a4) 6 t_r05_fits [(.agg [(.data p0), (.data p1)]), (.agg [(.int .i64 p2), (.int .u8 p3), (.int .i64 p4), (.int .i64 p5), (.int .i64 p6), (.int .i64 p7), (.int .i64 p8), (.int .i64 p9)])] K = wv_r05_fits a0 a1 a2 a3 a4 p0 p1 p2 p3 p4 p5 p6 p7 p8 p9 (fun r0 r1 => K (.tup [(.bool r0), (.int .i64 r1)])) := by kernel_rfl
theorem ok_r05_fits (e : List (Nat × EffF)) (he : EG e) : OkF (E e) wp_r05_fits n_r05_fits := by
 intro as K h
 unfold wp_r05_fits pw_r05_fits at h
 split at h
 · exact WP_ok (se0_r05_fits e he) (LpOk_no (by kernel_rfl)) (by kernel_rfl) (by kernel_rfl) (fun _ => baseS_none (by kernel_rfl) _) (he.num _ (by kernel_rfl)) ((eq_r05_fits ..).mpr h)
 · exact h.elim
abbrev T_r05_Fits : Type := Int → List PV → List PV → List PV → (Int → Int → Prop) → Prop
def L_r05_Fits_0_0 (a0 : T_r05_Check) (a1 : T_r05_Valid) (a2 : T_r05_points) (a3 : T_r05_At) (a4 : T_r05_fits) (x47445300_0 : List PV → List PV → List PV → List PV → Int → Bool → Prop) (x47445300_1 : Int → Int → Prop) : Nat → List PV → List PV → List PV → List PV → Int → Prop
 | 0, _, _, _, _, _ => False
 | n47445300 + 1, l0, l1, l2, l3, i4 =>
 (cbr (decide (i4 < (((List.length l3) : Nat) : Int)))
 (asr (decide ((0 : Int) ≤ i4))
 (asr (decide (i4 < (((List.length l3) : Nat) : Int)))
 (lt (List.getD l3 (i4.toNat) .nils) (fun yr20 =>
 (asr (conf (.agg [.i .i64, .i .i64]) yr20)
 (a3 l1 (intOfV (cellAt yr20 0)) (intOfV (cellAt yr20 1)) (fun yi21 => 
 (cbr (decide (yi21 < (0 : Int)))
 (x47445300_1 (0 : Int) (2 : Int))
 (lt (IntKind.i64.wrap (i4 + (1 : Int))) (fun yi22 =>
 (L_r05_Fits_0_0 a0 a1 a2 a3 a4 x47445300_0 x47445300_1 n47445300 l0 l1 l2 l3 yi22)))))))))))
 (x47445300_0 l0 l1 l2 l3 i4 false))
def L_r05_Fits_1_0 (a0 : T_r05_Check) (a1 : T_r05_Valid) (a2 : T_r05_points) (a3 : T_r05_At) (a4 : T_r05_fits) (x47445301_0 : List PV → List PV → List PV → Int → Bool → Prop) (x47445301_1 : Int → Int → Prop) : Nat → List PV → List PV → List PV → Int → Prop
 | 0, _, _, _, _ => False
 | n47445301 + 1, l0, l1, l2, i3 =>
 (cbr (decide (i3 < (((List.length l0) : Nat) : Int)))
 (asr (decide ((0 : Int) ≤ i3))
 (asr (decide (i3 < (((List.length l0) : Nat) : Int)))
 (lt (List.getD l0 (i3.toNat) .nils) (fun yr46 =>
 (asr (conf (.agg [.i .i64, .i .u8, .i .i64, .i .i64, .i .i64, .i .i64, .i .i64, .i .i64]) yr46)
 (a4 l1 l2 (intOfV (cellAt yr46 0)) (intOfV (cellAt yr46 1)) (intOfV (cellAt yr46 2)) (intOfV (cellAt yr46 3)) (intOfV (cellAt yr46 4)) (intOfV (cellAt yr46 5)) (intOfV (cellAt yr46 6)) (intOfV (cellAt yr46 7)) (fun yb47 yi48 => 
 (cbr (yi48 != (0 : Int))
 (x47445301_1 (0 : Int) yi48)
 (cbr (!yb47)
 (x47445301_1 i3 (0 : Int))
 (lt (IntKind.i64.wrap (i3 + (1 : Int))) (fun yi49 =>
 (L_r05_Fits_1_0 a0 a1 a2 a3 a4 x47445301_0 x47445301_1 n47445301 l0 l1 l2 yi49))))))))))))
 (x47445301_0 l0 l1 l2 i3 false))
def wv_r05_Fits (a0 : T_r05_Check) (a1 : T_r05_Valid) (a2 : T_r05_points) (a3 : T_r05_At) (a4 : T_r05_fits) (p0 : Int) (p1 p2 p3 : List PV) (K : Int → Int → Prop) : Prop :=
 (a0 p0 p3 (fun yi5 => 
 (cbr (yi5 != (0 : Int))
 (a0 p0 p3 (fun yi7 => 
 (K (0 : Int) yi7)))
 (a1 p0 p1 p2 (fun yb11 => 
 (cbr (!yb11)
 (K (0 : Int) (8 : Int))
 (a2 p0 p3 (fun yl13 => 
 (∃ n47445300 : Nat, L_r05_Fits_0_0 a0 a1 a2 a3 a4
 (fun yl31 yl32 yl33 _ _ _ => (∃ n47445301 : Nat, L_r05_Fits_1_0 a0 a1 a2 a3 a4
 (fun yl57 _ _ _ _ => (K (((List.length yl57) : Nat) : Int) (0 : Int)))
 (fun yi62 yi63 => (K yi62 yi63))
 n47445301 yl31 yl32 yl33 (0 : Int)))
 (fun yi64 yi65 => (K yi64 yi65))
 n47445300 p3 p1 p2 yl13 (0 : Int))))))))))
def w_r05_Fits (p0 : Int) (p1 p2 p3 : List PV) (K : Int → Int → Prop) : Prop := wv_r05_Fits w_r05_Check w_r05_Valid w_r05_points w_r05_At w_r05_fits p0 p1 p2 p3 K
def pw_r05_Fits (w : T_r05_Fits) (as : List PV) (K : PV → Prop) : Prop :=
 match as with
 | [(.int .i64 p0), (.agg [(.data p1), (.data p2)]), (.data p3)] => w p0 p1 p2 p3 (fun r0 r1 => K (.tup [(.int .i64 r0), (.int .i64 r1)]))
 | _ => False
def wp_r05_Fits (as : List PV) (K : PV → Prop) : Prop := pw_r05_Fits w_r05_Fits as K
def D_r05_Fits_0 (F : Frm) (H : Hp) (A0 : List PV → List PV → List PV → List PV → Int → Prop) : Prop :=
 match F, H with
 | [(2, .v (.data l0)), (4, .box (.agg [(.data l1), (.data l2)])), (8, .v (.data l3)), (9, .v (.int .i64 i4))], [] => (A0 l0 l1 l2 l3 i4)
 | _, _ => False
def D_r05_Fits_1 (F : Frm) (H : Hp) (A0 : List PV → List PV → List PV → Int → Prop) : Prop :=
 match F, H with
 | [(2, .v (.data l0)), (4, .box (.agg [(.data l1), (.data l2)])), (10, .v (.int .i64 i3))], [] => (A0 l0 l1 l2 i3)
 | _, _ => False
def X_r05_Fits_0_0 (Q : Ex → Frm → Hp → Prop) : List PV → List PV → List PV → List PV → Int → Bool → Prop := (fun l0 l1 l2 l3 i4 b5 => Q (.exit 0) [(2, .v (.data l0)), (4, .box (.agg [(.data l1), (.data l2)])), (8, .v (.data l3)), (9, .v (.int .i64 i4)), (30, .v (.bool b5))] [])
def X_r05_Fits_0_1 (Q : Ex → Frm → Hp → Prop) : Int → Int → Prop := (fun i0 i1 => Q .ret [(6, .v (.int .i64 i0)), (7, .v (.int .i64 i1))] [])
def X_r05_Fits_1_0 (Q : Ex → Frm → Hp → Prop) : List PV → List PV → List PV → Int → Bool → Prop := (fun l0 l1 l2 i3 b4 => Q (.exit 2) [(2, .v (.data l0)), (4, .box (.agg [(.data l1), (.data l2)])), (10, .v (.int .i64 i3)), (44, .v (.bool b4))] [])
def X_r05_Fits_1_1 (Q : Ex → Frm → Hp → Prop) : Int → Int → Prop := (fun i0 i1 => Q .ret [(6, .v (.int .i64 i0)), (7, .v (.int .i64 i1))] [])
def R_r05_Fits_0 (a0 : T_r05_Check) (a1 : T_r05_Valid) (a2 : T_r05_points) (a3 : T_r05_At) (a4 : T_r05_fits) (Q : Ex → Frm → Hp → Prop) (n : Nat) (F : Frm) (H : Hp) : Prop := D_r05_Fits_0 F H (fun l0 l1 l2 l3 i4 => L_r05_Fits_0_0 a0 a1 a2 a3 a4 (X_r05_Fits_0_0 Q) (X_r05_Fits_0_1 Q) n l0 l1 l2 l3 i4)
def R_r05_Fits_1 (a0 : T_r05_Check) (a1 : T_r05_Valid) (a2 : T_r05_points) (a3 : T_r05_At) (a4 : T_r05_fits) (Q : Ex → Frm → Hp → Prop) (n : Nat) (F : Frm) (H : Hp) : Prop := D_r05_Fits_1 F H (fun l0 l1 l2 i3 => L_r05_Fits_1_0 a0 a1 a2 a3 a4 (X_r05_Fits_1_0 Q) (X_r05_Fits_1_1 Q) n l0 l1 l2 i3)
def lp_r05_Fits (a0 : T_r05_Check) (a1 : T_r05_Valid) (a2 : T_r05_points) (a3 : T_r05_At) (a4 : T_r05_fits) : LP := fun id F H Q =>
 bif Nat.beq id 47445300 then D_r05_Fits_0 F H (fun l0 l1 l2 l3 i4 => ∃ n : Nat, L_r05_Fits_0_0 a0 a1 a2 a3 a4 (X_r05_Fits_0_0 Q) (X_r05_Fits_0_1 Q) n l0 l1 l2 l3 i4) else
 bif Nat.beq id 47445301 then D_r05_Fits_1 F H (fun l0 l1 l2 i3 => ∃ n : Nat, L_r05_Fits_1_0 a0 a1 a2 a3 a4 (X_r05_Fits_1_0 Q) (X_r05_Fits_1_1 Q) n l0 l1 l2 i3) else
 False
def S0_r05_Fits (e : List (Nat × EffF)) (a0 : T_r05_Check) (a1 : T_r05_Valid) (a2 : T_r05_points) (a3 : T_r05_At) (a4 : T_r05_fits) : SE := ⟨(E e), lookS [(n_r05_Check, pw_r05_Check a0), (n_r05_Valid, pw_r05_Valid a1), (n_r05_points, pw_r05_points a2), (n_r05_At, pw_r05_At a3), (n_r05_fits, pw_r05_fits a4)], lookI [], lp_r05_Fits a0 a1 a2 a3 a4⟩
theorem se0_r05_Fits (e : List (Nat × EffF)) (he : EG e) : SEOk (S0_r05_Fits e w_r05_Check w_r05_Valid w_r05_points w_r05_At w_r05_fits) := seOk_of ⟨(ok_r05_Check e he), (ok_r05_Valid e he), (ok_r05_points e he), (ok_r05_At e he), (ok_r05_fits e he), trivial⟩ trivial he.ok
theorem body_r05_Fits_0_0 (e : List (Nat × EffF)) (a0 a1 a2 a3 a4 Q n l0 l1 l2 l3 i4) : WC (E e) (callW (S0_r05_Fits e a0 a1 a2 a3 a4) 5) (lp_r05_Fits a0 a1 a2 a3 a4) b_47445300 [(2, .v (.data l0)), (4, .box (.agg [(.data l1), (.data l2)])), (8, .v (.data l3)), (9, .v (.int .i64 i4))] [] (fun x F' H' => match x with | .norm => R_r05_Fits_0 a0 a1 a2 a3 a4 Q n F' H' | .exit i => Q (.exit i) F' H' | .ret => Q .ret F' H') = L_r05_Fits_0_0 a0 a1 a2 a3 a4 (X_r05_Fits_0_0 Q) (X_r05_Fits_0_1 Q) (n + 1) l0 l1 l2 l3 i4 := by kernel_rfl
theorem lpb_r05_Fits_0 (e : List (Nat × EffF)) (_ : EG e) : LpOk (E e) (lp_r05_Fits w_r05_Check w_r05_Valid w_r05_points w_r05_At w_r05_fits) b_47445300 := (LpOk_no (by kernel_rfl))
theorem loop_r05_Fits_0 (e : List (Nat × EffF)) (he : EG e) : ∀ F H Q, lp_r05_Fits w_r05_Check w_r05_Valid w_r05_points w_r05_At w_r05_fits 47445300 F H Q → LoopT (E e) b_47445300 F H Q := by
 intro F H Q h
 have go := LoopT.intro (callW_ok (se0_r05_Fits e he) 5) (lpb_r05_Fits_0 e he) (R_r05_Fits_0 w_r05_Check w_r05_Valid w_r05_points w_r05_At w_r05_fits Q) (by
   intro F H h
   unfold R_r05_Fits_0 D_r05_Fits_0 at h
   split at h
   · exact h
   · exact h) (by
   intro n F H h
   unfold R_r05_Fits_0 D_r05_Fits_0 at h
   split at h
   · exact (body_r05_Fits_0_0 ..).mpr h
   · exact h.elim)
 have h : D_r05_Fits_0 F H _ := h
 unfold D_r05_Fits_0 at h
 split at h
 · obtain ⟨n, h⟩ := h; exact go n _ _ h
 · exact h.elim
theorem body_r05_Fits_1_0 (e : List (Nat × EffF)) (a0 a1 a2 a3 a4 Q n l0 l1 l2 i3) : WC (E e) (callW (S0_r05_Fits e a0 a1 a2 a3 a4) 5) (lp_r05_Fits a0 a1 a2 a3 a4) b_47445301 [(2, .v (.data l0)), (4, .box (.agg [(.data l1), (.data l2)])), (10, .v (.int .i64 i3))] [] (fun x F' H' => match x with | .norm => R_r05_Fits_1 a0 a1 a2 a3 a4 Q n F' H' | .exit i => Q (.exit i) F' H' | .ret => Q .ret F' H') = L_r05_Fits_1_0 a0 a1 a2 a3 a4 (X_r05_Fits_1_0 Q) (X_r05_Fits_1_1 Q) (n + 1) l0 l1 l2 i3 := by kernel_rfl
theorem lpb_r05_Fits_1 (e : List (Nat × EffF)) (_ : EG e) : LpOk (E e) (lp_r05_Fits w_r05_Check w_r05_Valid w_r05_points w_r05_At w_r05_fits) b_47445301 := (LpOk_no (by kernel_rfl))
theorem loop_r05_Fits_1 (e : List (Nat × EffF)) (he : EG e) : ∀ F H Q, lp_r05_Fits w_r05_Check w_r05_Valid w_r05_points w_r05_At w_r05_fits 47445301 F H Q → LoopT (E e) b_47445301 F H Q := by
 intro F H Q h
 have go := LoopT.intro (callW_ok (se0_r05_Fits e he) 5) (lpb_r05_Fits_1 e he) (R_r05_Fits_1 w_r05_Check w_r05_Valid w_r05_points w_r05_At w_r05_fits Q) (by
   intro F H h
   unfold R_r05_Fits_1 D_r05_Fits_1 at h
   split at h
   · exact h
   · exact h) (by
   intro n F H h
   unfold R_r05_Fits_1 D_r05_Fits_1 at h
   split at h
   · exact (body_r05_Fits_1_0 ..).mpr h
   · exact h.elim)
 have h : D_r05_Fits_1 F H _ := h
 unfold D_r05_Fits_1 at h
 split at h
 · obtain ⟨n, h⟩ := h; exact go n _ _ h
 · exact h.elim
theorem eq_r05_Fits (e : List (Nat × EffF)) (a0 a1 a2 a3 a4 p0 p1 p2 p3 K) : WP (S0_r05_Fits e a0 a1 a2 a3 a4) 6 t_r05_Fits [(.int .i64 p0), (.agg [(.data p1), (.data p2)]), (.data p3)] K = wv_r05_Fits a0 a1 a2 a3 a4 p0 p1 p2 p3 (fun r0 r1 => K (.tup [(.int .i64 r0), (.int .i64 r1)])) := by kernel_rfl
theorem ok_r05_Fits (e : List (Nat × EffF)) (he : EG e) : OkF (E e) wp_r05_Fits n_r05_Fits := by
 intro as K h
 unfold wp_r05_Fits pw_r05_Fits at h
 split at h
 · exact WP_ok (se0_r05_Fits e he) (LpOk_by (l := [(47445300, b_47445300), (47445301, b_47445301)]) ⟨loop_r05_Fits_0 e he, loop_r05_Fits_1 e he, trivial⟩ (by kernel_rfl)) (by kernel_rfl) (by kernel_rfl) (fun _ => baseS_none (by kernel_rfl) _) (he.num _ (by kernel_rfl)) ((eq_r05_Fits ..).mpr h)
 · exact h.elim
end Go.Pf.Vc
namespace Go.Pf.Vc
open Go Go.Pf
set_option linter.unusedVariables false
theorem det_r05_Check (p0 : Int) (p1 : List PV) (r0 : Int) (h : ∀ K : Int → Prop, K r0 → w_r05_Check p0 p1 K) (K : Int → Prop) : w_r05_Check p0 p1 K = K r0 :=
 propext ⟨fun k => detC (ok_r05_Check [] effG_nil) (as := [(.int .i64 p0), (.data p1)]) (x := (.int .i64 r0)) (fun K' k' => h (fun r0 => K' (.int .i64 r0)) k') (K := fun x => match x with | (.int .i64 r0) => K r0 | _ => False) k, h K⟩
theorem det_r05_Valid (p0 : Int) (p1 : List PV) (p2 : List PV) (r0 : Bool) (h : ∀ K : Bool → Prop, K r0 → w_r05_Valid p0 p1 p2 K) (K : Bool → Prop) : w_r05_Valid p0 p1 p2 K = K r0 :=
 propext ⟨fun k => detC (ok_r05_Valid [] effG_nil) (as := [(.int .i64 p0), (.agg [(.data p1), (.data p2)])]) (x := (.bool r0)) (fun K' k' => h (fun r0 => K' (.bool r0)) k') (K := fun x => match x with | (.bool r0) => K r0 | _ => False) k, h K⟩
theorem det_r05_At (p0 : List PV) (p1 : Int) (p2 : Int) (r0 : Int) (h : ∀ K : Int → Prop, K r0 → w_r05_At p0 p1 p2 K) (K : Int → Prop) : w_r05_At p0 p1 p2 K = K r0 :=
 propext ⟨fun k => detC (ok_r05_At [] effG_nil) (as := [(.data p0), (.agg [(.int .i64 p1), (.int .i64 p2)])]) (x := (.int .i64 r0)) (fun K' k' => h (fun r0 => K' (.int .i64 r0)) k') (K := fun x => match x with | (.int .i64 r0) => K r0 | _ => False) k, h K⟩
theorem det_r05_points (p0 : Int) (p1 : List PV) (r0 : List PV) (h : ∀ K : List PV → Prop, K r0 → w_r05_points p0 p1 K) (K : List PV → Prop) : w_r05_points p0 p1 K = K r0 :=
 propext ⟨fun k => detC (ok_r05_points [] effG_nil) (as := [(.int .i64 p0), (.data p1)]) (x := (.data r0)) (fun K' k' => h (fun r0 => K' (.data r0)) k') (K := fun x => match x with | (.data r0) => K r0 | _ => False) k, h K⟩
theorem det_r05_Fits (p0 : Int) (p1 : List PV) (p2 : List PV) (p3 : List PV) (r0 : Int) (r1 : Int) (h : ∀ K : Int → Int → Prop, K r0 r1 → w_r05_Fits p0 p1 p2 p3 K) (K : Int → Int → Prop) : w_r05_Fits p0 p1 p2 p3 K = K r0 r1 :=
 propext ⟨fun k => detC (ok_r05_Fits [] effG_nil) (as := [(.int .i64 p0), (.agg [(.data p1), (.data p2)]), (.data p3)]) (x := (.tup [(.int .i64 r0), (.int .i64 r1)])) (fun K' k' => h (fun r0 r1 => K' (.tup [(.int .i64 r0), (.int .i64 r1)])) k') (K := fun x => match x with | (.tup [(.int .i64 r0), (.int .i64 r1)]) => K r0 r1 | _ => False) k, h K⟩
end Go.Pf.Vc
namespace Go.Pf.Vc
open Go Go.Pf
set_option maxRecDepth 100000
abbrev T_l05_AuditFits : Type := Int → List PV → List PV → List PV → (Bool → Prop) → Prop
def wv_l05_AuditFits (a0 : T_r05_Great) (a1 : T_r05_GreatGuess) (a2 : T_audit_Fits) (a3 : T_r05_Fits) (p0 : Int) (p1 p2 p3 : List PV) (K : Bool → Prop) : Prop :=
 (jn (fun (yj9 : Bool → Prop) =>
 (a0 p3 (fun yb20 => 
 (cbr yb20
 (yj9 true)
 (a1 p1 p2 (fun yb21 => 
 (yj9 yb21)))))))
 (fun yb8 => (cbr yb8
 (K true)
 (a2 p0 p1 p2 p3 (fun yi12 yi13 => 
 (a3 p0 p1 p2 p3 (fun yi16 yi17 => 
 (jn (fun (yj19 : Bool → Prop) =>
 (cbr (yi12 == yi16)
 (yj19 (yi13 == yi17))
 (yj19 false)))
 (fun yb18 => (K yb18))))))))))
def w_l05_AuditFits (p0 : Int) (p1 p2 p3 : List PV) (K : Bool → Prop) : Prop := wv_l05_AuditFits w_r05_Great w_r05_GreatGuess w_audit_Fits w_r05_Fits p0 p1 p2 p3 K
def pw_l05_AuditFits (w : T_l05_AuditFits) (as : List PV) (K : PV → Prop) : Prop :=
 match as with
 | [(.int .i64 p0), (.agg [(.data p1), (.data p2)]), (.data p3)] => w p0 p1 p2 p3 (fun r0 => K (.bool r0))
 | _ => False
def wp_l05_AuditFits (as : List PV) (K : PV → Prop) : Prop := pw_l05_AuditFits w_l05_AuditFits as K
def lp_l05_AuditFits (_ : T_r05_Great) (_ : T_r05_GreatGuess) (_ : T_audit_Fits) (_ : T_r05_Fits) : LP := fun _ _ _ _ =>
 False
def S0_l05_AuditFits (a0 : T_r05_Great) (a1 : T_r05_GreatGuess) (a2 : T_audit_Fits) (a3 : T_r05_Fits) : SE := ⟨(E ef0), lookS [(n_r05_Great, pw_r05_Great a0), (n_r05_GreatGuess, pw_r05_GreatGuess a1), (n_audit_Fits, pw_audit_Fits a2), (n_r05_Fits, pw_r05_Fits a3)], lookI [], lp_l05_AuditFits a0 a1 a2 a3⟩
theorem se0_l05_AuditFits : SEOk (S0_l05_AuditFits w_r05_Great w_r05_GreatGuess w_audit_Fits w_r05_Fits) := seOk_of ⟨(ok_r05_Great ef0 effG0), (ok_r05_GreatGuess ef0 effG0), ok_audit_Fits, (ok_r05_Fits ef0 effG0), trivial⟩ trivial effG0.ok
theorem eq_l05_AuditFits (a0 a1 a2 a3 p0 p1 p2 p3 K) : WP (S0_l05_AuditFits a0 a1 a2 a3) 6 t_l05_AuditFits [(.int .i64 p0), (.agg [(.data p1), (.data p2)]), (.data p3)] K = wv_l05_AuditFits a0 a1 a2 a3 p0 p1 p2 p3 (fun r0 => K (.bool r0)) := by kernel_rfl
theorem ok_l05_AuditFits : OkF (E ef0) wp_l05_AuditFits n_l05_AuditFits := by
 intro as K h
 unfold wp_l05_AuditFits pw_l05_AuditFits at h
 split at h
 · exact WP_ok (se0_l05_AuditFits) (LpOk_no (by kernel_rfl)) (by kernel_rfl) (by kernel_rfl) (fun _ => baseS_none (by kernel_rfl) _) (effG0.num _ (by kernel_rfl)) ((eq_l05_AuditFits ..).mpr h)
 · exact h.elim
end Go.Pf.Vc
namespace Go.Pf.Vc
open Go Go.Pf
def I64 (n : Int) : Prop := -9223372036854775808 ≤ n ∧ n ≤ 9223372036854775807
def U64 (n : Int) : Prop := 0 ≤ n ∧ n ≤ 18446744073709551615
theorem wu64' (n : Int) : IntKind.u64.wrap n = n % 18446744073709551616 := by
 simp only [IntKind.wrap, IntKind.signed, IntKind.bits, Bool.false_and, Bool.false_eq_true, if_false]
 rfl
theorem wi64' (n : Int) : IntKind.i64.wrap n = if n % 18446744073709551616 ≥ 9223372036854775808 then n % 18446744073709551616 - 18446744073709551616 else n % 18446744073709551616 := by
 have e1 : (2 : Int) ^ 64 = 18446744073709551616 := rfl
 have e2 : (2 : Int) ^ (64 - 1) = 9223372036854775808 := rfl
 simp only [IntKind.wrap, IntKind.signed, IntKind.bits, Bool.true_and, e1, e2]
 by_cases h : n % 18446744073709551616 ≥ 9223372036854775808 <;> simp [h]
theorem wu64 {n : Int} (h : U64 n) : IntKind.u64.wrap n = n := by
 unfold U64 at h
 rw [wu64']
 omega
theorem wi64 {n : Int} (h : I64 n) : IntKind.i64.wrap n = n := by
 unfold I64 at h
 rw [wi64']
 split <;> omega
theorem cbr_true {x y : Prop} : cbr true x y = x := rfl
theorem cbr_false {x y : Prop} : cbr false x y = y := rfl
theorem asr_true {x : Prop} : asr true x = x := rfl
theorem size_eq {p : Int} (h : I64 p) (K : Int → Prop) : w_ratio_size p K = K (p.natAbs : Int) := by
 unfold I64 at h
 unfold w_ratio_size wv_ratio_size
 by_cases hp : p < 0
 · have e : IntKind.u64.wrap ((0 : Int) - IntKind.u64.wrap p) = (p.natAbs : Int) := by
     rw [wu64', wu64']
     omega
   rw [decide_eq_true hp, cbr_true, e]
 · rw [decide_eq_false hp, cbr_false, wu64 ⟨by omega, by omega⟩]
   congr 1
   omega
theorem gcd_loop (x : Int → Int → Bool → Prop) : ∀ (n a b : Nat), b < n → L_ratio_gcd_0_0 x n (a : Int) (b : Int) = x ((Nat.gcd a b : Nat) : Int) 0 false
 | 0, a, b, h => by omega
 | n + 1, a, b, h => by
   unfold L_ratio_gcd_0_0
   by_cases hb : b = 0
   · subst hb
     simp [cbr]
   · have h1 : (b : Int) > 0 := by omega
     have h2 : ¬ ((b : Int) = 0) := by omega
     rw [decide_eq_true h1, cbr_true, decide_eq_false h2, Bool.not_false, asr_true]
     have e : Int.tmod (a : Int) (b : Int) = ((a % b : Nat) : Int) := by rw [Int.tmod_eq_emod_of_nonneg (by omega)]; omega
     rw [e, gcd_loop x n b (a % b) (by have := Nat.mod_lt a (show b > 0 by omega); omega)]
     rw [Nat.gcd_comm a b, Nat.gcd_rec b a, Nat.gcd_comm]
theorem gcd_of (a b : Nat) (K : Int → Prop) (h : K ((Nat.gcd a b : Nat) : Int)) : w_ratio_gcd (a : Int) (b : Int) K := by
 unfold w_ratio_gcd wv_ratio_gcd
 exact ⟨b + 1, by rw [gcd_loop _ (b + 1) a b (by omega)]; exact h⟩
def RV (n d : Int) : Prop := 1 ≤ d ∧ d ≤ 1000000000000000000 ∧ -1000000000000000000 ≤ n ∧ n ≤ 1000000000000000000 ∧ Nat.gcd n.natAbs d.natAbs = 1
instance (n d : Int) : Decidable (RV n d) := by unfold RV; infer_instance
def chk (n d : Int) : Int := if RV n d then 0 else 8
theorem Check_of {n d : Int} (hn : I64 n) (hd : I64 d) {K : Int → Prop} (h : K (chk n d)) : w_ratio_Check n d K := by
 unfold w_ratio_Check wv_ratio_Check
 by_cases h1 : d < 1
 · have e : chk n d = 8 := if_neg fun h => by have := h.1; omega
   rw [decide_eq_true h1, cbr_true, ← e]; exact h
 · have hd' := hd; have hn' := hn
   unfold I64 at hd' hn'
   have ed : IntKind.u64.wrap d = ((d.natAbs : Nat) : Int) := by rw [wu64 ⟨by omega, by omega⟩]; omega
   rw [decide_eq_false h1, cbr_false, size_eq hn, ed]
   by_cases h2 : ((if ((d.natAbs : Nat) : Int) > ((n.natAbs : Nat) : Int) then ((d.natAbs : Nat) : Int) else ((n.natAbs : Nat) : Int)) > 1000000000000000000)
   · have e : chk n d = 8 := if_neg fun h => by
       obtain ⟨a1, a2, a3, a4, _⟩ := h
       revert h2; split <;> omega
     rw [decide_eq_true h2, cbr_true, ← e]; exact h
   · rw [decide_eq_false h2, cbr_false, size_eq hn]
     refine gcd_of _ _ _ ?_
     have h3 : 0 < Nat.gcd n.natAbs d.natAbs := Nat.gcd_pos_of_pos_right _ (by omega)
     have h4 : d ≤ 1000000000000000000 ∧ -1000000000000000000 ≤ n ∧ n ≤ 1000000000000000000 := by
       revert h2; split <;> omega
     by_cases h5 : ((Nat.gcd n.natAbs d.natAbs : Nat) : Int) > 1
     · have e : chk n d = 8 := if_neg fun h => by have := h.2.2.2.2; omega
       rw [decide_eq_true h5, cbr_true, ← e]; exact h
     · have e : chk n d = 0 := if_pos ⟨by omega, h4.1, h4.2.1, h4.2.2, by omega⟩
       rw [decide_eq_false h5, cbr_false, ← e]; exact h
end Go.Pf.Vc
namespace Go.Pf.Vc
open Go Go.Pf
theorem mask32 {p : Int} (h : U64 p) : IntKind.u64.wrap (BitVec.ofInt IntKind.u64.bits p &&& BitVec.ofInt IntKind.u64.bits (4294967295 : Int)).toNat = p % 4294967296 := by
 unfold U64 at h
 have e1 : (BitVec.ofInt 64 p).toNat = p.toNat := by
   rw [BitVec.toNat_ofInt]; omega
 have e2 : (BitVec.ofInt 64 (4294967295 : Int)).toNat = 4294967295 := rfl
 have e3 : (BitVec.ofInt IntKind.u64.bits p &&& BitVec.ofInt IntKind.u64.bits (4294967295 : Int)).toNat = p.toNat % 4294967296 := by
   show (BitVec.ofInt 64 p &&& BitVec.ofInt 64 (4294967295 : Int)).toNat = _
   rw [BitVec.toNat_and, e1, e2]
   exact Nat.and_two_pow_sub_one_eq_mod p.toNat 32
 rw [e3, wu64']
 omega
theorem fdiv32 (p : Int) : Int.fdiv p 4294967296 = p / 4294967296 := by
 rw [Int.fdiv_eq_ediv_of_nonneg _ (by omega)]
theorem Mul64_eq {a b : Int} (ha : U64 a) (hb : U64 b) (K : Int → Int → Prop) : w_m_Mul64 a b K = K (a * b / 18446744073709551616) (a * b % 18446744073709551616) := by
 unfold w_m_Mul64 wv_m_Mul64
 simp only [fdiv32]
 rw [mask32 ha, mask32 hb]
 unfold U64 at ha hb
 have ha' := ha; have hb' := hb
 obtain ⟨x1, hx1⟩ : ∃ x, x = a / 4294967296 := ⟨_, rfl⟩
 obtain ⟨x0, hx0⟩ : ∃ x, x = a % 4294967296 := ⟨_, rfl⟩
 obtain ⟨y1, hy1⟩ : ∃ x, x = b / 4294967296 := ⟨_, rfl⟩
 obtain ⟨y0, hy0⟩ : ∃ x, x = b % 4294967296 := ⟨_, rfl⟩
 rw [← hx1, ← hx0, ← hy1, ← hy0]
 have b1 : 0 ≤ x1 ∧ x1 ≤ 4294967295 := by omega
 have b2 : 0 ≤ x0 ∧ x0 ≤ 4294967295 := by omega
 have b3 : 0 ≤ y1 ∧ y1 ≤ 4294967295 := by omega
 have b4 : 0 ≤ y0 ∧ y0 ≤ 4294967295 := by omega
 have pb : ∀ x y : Int, 0 ≤ x ∧ x ≤ 4294967295 → 0 ≤ y ∧ y ≤ 4294967295 → 0 ≤ x * y ∧ x * y ≤ 18446744065119617025 := by
   intro x y hx hy
   refine ⟨Int.mul_nonneg hx.1 hy.1, ?_⟩
   have := Int.mul_le_mul hx.2 hy.2 hy.1 (by omega : (0 : Int) ≤ 4294967295)
   omega
 have p1 := pb x1 y1 b1 b3
 have p2 := pb x1 y0 b1 b4
 have p3 := pb x0 y1 b2 b3
 have p4 := pb x0 y0 b2 b4
 have ea : a = x1 * 4294967296 + x0 := by omega
 have eb : b = y1 * 4294967296 + y0 := by omega
 have eab : a * b = x1 * y1 * 18446744073709551616 + x1 * y0 * 4294967296 + x0 * y1 * 4294967296 + x0 * y0 := by
   rw [ea, eb]; grind
 obtain ⟨P, hP⟩ : ∃ x, x = x1 * y1 := ⟨_, rfl⟩
 obtain ⟨Q, hQ⟩ : ∃ x, x = x1 * y0 := ⟨_, rfl⟩
 obtain ⟨R, hR⟩ : ∃ x, x = x0 * y1 := ⟨_, rfl⟩
 obtain ⟨S, hS⟩ : ∃ x, x = x0 * y0 := ⟨_, rfl⟩
 rw [← hP] at p1; rw [← hQ] at p2; rw [← hR] at p3; rw [← hS] at p4
 rw [← hP, ← hQ, ← hR, ← hS] at eab ⊢
 have w1 : IntKind.u64.wrap S = S := wu64 ⟨by omega, by omega⟩
 have w2 : IntKind.u64.wrap Q = Q := wu64 ⟨by omega, by omega⟩
 have w3 : IntKind.u64.wrap R = R := wu64 ⟨by omega, by omega⟩
 have w4 : IntKind.u64.wrap P = P := wu64 ⟨by omega, by omega⟩
 rw [w1, w2, w3, w4]
 have w5 : IntKind.u64.wrap (Q + S / 4294967296) = Q + S / 4294967296 := wu64 ⟨by omega, by omega⟩
 rw [w5, mask32 ⟨by omega, by omega⟩]
 have w6 : IntKind.u64.wrap ((Q + S / 4294967296) % 4294967296 + R) = (Q + S / 4294967296) % 4294967296 + R := wu64 ⟨by omega, by omega⟩
 rw [w6]
 have w7 : IntKind.u64.wrap (P + (Q + S / 4294967296) / 4294967296) = P + (Q + S / 4294967296) / 4294967296 := by
   have : a * b / 18446744073709551616 ≤ 18446744073709551615 := by
     have h1 : a * b ≤ 18446744073709551615 * 18446744073709551615 := by
       have := Int.mul_le_mul ha'.2 hb'.2 hb'.1 (by omega : (0 : Int) ≤ 18446744073709551615)
       exact this
     omega
   exact wu64 ⟨by omega, by omega⟩
 rw [w7]
 have hab : a * b ≤ 18446744073709551615 * 18446744073709551615 := Int.mul_le_mul ha'.2 hb'.2 hb'.1 (by omega : (0 : Int) ≤ 18446744073709551615)
 rw [eab] at hab ⊢
 rw [wu64', wu64']
 congr 1
 omega
theorem Or2_of {a b : Int} {K : Int → Prop} (h : K (if a = 0 then b else a)) : w_cmp_Or_api_Errno [.int .i64 a, .int .i64 b] K := by
 unfold w_cmp_Or_api_Errno wv_cmp_Or_api_Errno
 refine ⟨3, ?_⟩
 have e1 : IntKind.i64.wrap 1 = 1 := by decide
 have e2 : IntKind.i64.wrap 2 = 2 := by decide
 by_cases ha : a = 0
 · by_cases hb : b = 0
   · simp [L_cmp_Or_api_Errno_0_0, cbr_true, cbr_false, asr_true, conf, confC, intOfV, e1, e2, ha, hb] at h ⊢; exact h
   · have e3 : (b != 0) = true := by simpa using hb
     simp [L_cmp_Or_api_Errno_0_0, cbr_true, cbr_false, asr_true, conf, confC, intOfV, e1, e2, ha, e3] at h ⊢; exact h
 · have e3 : (a != 0) = true := by simpa using ha
   simp [L_cmp_Or_api_Errno_0_0, cbr_true, cbr_false, asr_true, conf, confC, intOfV, e1, e2, ha, e3] at h ⊢; exact h
def chk2 (a b c d : Int) : Int := if chk a b = 0 then chk c d else chk a b
theorem check_of {a b c d : Int} (ha : I64 a) (hb : I64 b) (hc : I64 c) (hd : I64 d) {K : Int → Prop} (h : K (chk2 a b c d)) : w_ratio_check a b c d K := by
 unfold w_ratio_check wv_ratio_check
 exact Check_of ha hb (Check_of hc hd (Or2_of h))
end Go.Pf.Vc
namespace Go.Pf.Vc
open Go Go.Pf
def cmp3 (a b : Int) : Int := if a < b then -1 else if a > b then 1 else 0
theorem Compare_i_eq (a b : Int) (K : Int → Prop) : w_cmp_Compare_int64 a b K = K (cmp3 a b) := by
 unfold w_cmp_Compare_int64 wv_cmp_Compare_int64
 simp only [w_cmp_isNaN_int64, wv_cmp_isNaN_int64, bne_self_eq_false, cbr_false, cmp3]
 by_cases h : a < b
 · simp [h, cbr_true]
 · by_cases h2 : a > b
   · simp [h, h2, cbr_true, cbr_false]
   · simp [h, h2, cbr_false]
theorem Compare_u_eq (a b : Int) (K : Int → Prop) : w_cmp_Compare_uint64 a b K = K (cmp3 a b) := by
 unfold w_cmp_Compare_uint64 wv_cmp_Compare_uint64
 simp only [w_cmp_isNaN_uint64, wv_cmp_isNaN_uint64, bne_self_eq_false, cbr_false, cmp3]
 by_cases h : a < b
 · simp [h, cbr_true]
 · by_cases h2 : a > b
   · simp [h, h2, cbr_true, cbr_false]
   · simp [h, h2, cbr_false]
theorem Or2i_of {a b : Int} {K : Int → Prop} (h : K (if a = 0 then b else a)) : w_cmp_Or_int [.int .i64 a, .int .i64 b] K := by
 unfold w_cmp_Or_int wv_cmp_Or_int
 refine ⟨3, ?_⟩
 have e1 : IntKind.i64.wrap 1 = 1 := by decide
 have e2 : IntKind.i64.wrap 2 = 2 := by decide
 by_cases ha : a = 0
 · by_cases hb : b = 0
   · simp [L_cmp_Or_int_0_0, cbr_true, cbr_false, asr_true, conf, confC, intOfV, e1, e2, ha, hb] at h ⊢; exact h
   · have e3 : (b != 0) = true := by simpa using hb
     simp [L_cmp_Or_int_0_0, cbr_true, cbr_false, asr_true, conf, confC, intOfV, e1, e2, ha, e3] at h ⊢; exact h
 · have e3 : (a != 0) = true := by simpa using ha
   simp [L_cmp_Or_int_0_0, cbr_true, cbr_false, asr_true, conf, confC, intOfV, e1, e2, ha, e3] at h ⊢; exact h
theorem I64.of {n : Int} (h1 : -1000000000000000000 ≤ n) (h2 : n ≤ 1000000000000000000) : I64 n := ⟨by omega, by omega⟩
theorem chk2_zero {a b c d : Int} : chk2 a b c d = 0 ↔ RV a b ∧ RV c d := by
 unfold chk2 chk
 by_cases h1 : RV a b <;> by_cases h2 : RV c d <;> simp [h1, h2]
def cmpR (a b c d : Int) : Int := cmp3 (a * d) (c * b)
theorem cmp3_wide {x y : Int} (_ : 0 ≤ x) (_ : 0 ≤ y) : (if cmp3 (x / 18446744073709551616) (y / 18446744073709551616) = 0 then cmp3 (x % 18446744073709551616) (y % 18446744073709551616) else cmp3 (x / 18446744073709551616) (y / 18446744073709551616)) = cmp3 x y := by
 unfold cmp3
 split <;> rename_i h <;> revert h <;> repeat' split <;> intro h <;> omega
theorem U64.abs {n : Int} (h : I64 n) : U64 ((n.natAbs : Nat) : Int) := by unfold I64 at h; unfold U64; omega
theorem Cmp_of {a b c d : Int} (ha : I64 a) (hb : I64 b) (hc : I64 c) (hd : I64 d) {K : Int → Int → Prop} (h : K (if chk2 a b c d = 0 then cmpR a b c d else 0) (chk2 a b c d)) : w_ratio_Cmp a b c d K := by
 unfold w_ratio_Cmp wv_ratio_Cmp
 refine check_of ha hb hc hd ?_
 by_cases hk : chk2 a b c d = 0
 · rw [if_pos hk] at h
   rw [hk] at h ⊢
   obtain ⟨⟨b1, b2, a1, a2, _⟩, d1, d2, c1, c2, _⟩ := chk2_zero.1 hk
   simp only [bne_self_eq_false, cbr_false]
   by_cases hs : decide (a < 0) = decide (c < 0)
   · have e : (decide (a < 0) != decide (c < 0)) = false := by rw [hs]; simp
     rw [e, cbr_false, size_eq ha, wu64 ⟨by omega, by omega⟩, Mul64_eq (U64.abs ha) ⟨by omega, by omega⟩, size_eq hc, wu64 ⟨by omega, by omega⟩, Mul64_eq (U64.abs hc) ⟨by omega, by omega⟩, Compare_u_eq, Compare_u_eq]
     refine Or2i_of ?_
     have p1 : 0 ≤ ((a.natAbs : Nat) : Int) * d := Int.mul_nonneg (by omega) (by omega)
     have p2 : 0 ≤ ((c.natAbs : Nat) : Int) * b := Int.mul_nonneg (by omega) (by omega)
     rw [cmp3_wide p1 p2]
     by_cases hneg : a < 0
     · have hcn : c < 0 := by simpa [hneg] using hs.symm
       rw [decide_eq_true hneg, cbr_true]
       have e1 : ((a.natAbs : Nat) : Int) * d = -(a * d) := by
         rw [show ((a.natAbs : Nat) : Int) = -a by omega, Int.neg_mul]
       have e2 : ((c.natAbs : Nat) : Int) * b = -(c * b) := by
         rw [show ((c.natAbs : Nat) : Int) = -c by omega, Int.neg_mul]
       have e3 : IntKind.i64.wrap (0 - cmp3 (((a.natAbs : Nat) : Int) * d) (((c.natAbs : Nat) : Int) * b)) = cmpR a b c d := by
         rw [e1, e2]
         unfold cmpR cmp3
         rw [wi64 (by unfold I64; repeat' split <;> omega)]
         repeat' split <;> omega
       rw [e3]; exact h
     · have hcn : ¬ c < 0 := by simpa [hneg] using hs.symm
       rw [decide_eq_false hneg, cbr_false, show ((a.natAbs : Nat) : Int) = a by omega, show ((c.natAbs : Nat) : Int) = c by omega]
       exact h
   · have e : (decide (a < 0) != decide (c < 0)) = true := by simpa using hs
     rw [e, cbr_true, Compare_i_eq]
     have e2 : cmp3 a c = cmpR a b c d := by
       unfold cmpR cmp3
       by_cases hneg : a < 0
       · have hcn : ¬ c < 0 := by intro hcn; simp [hneg, hcn] at hs
         have q1 : a * d < 0 := Int.mul_neg_of_neg_of_pos hneg (by omega)
         have q2 : 0 ≤ c * b := Int.mul_nonneg (by omega) (by omega)
         rw [if_pos (by omega), if_pos (by omega)]
       · have hcn : c < 0 := by
           by_cases hcn : c < 0
           · exact hcn
           · simp [hneg, hcn] at hs
         have q1 : c * b < 0 := Int.mul_neg_of_neg_of_pos hcn (by omega)
         have q2 : 0 ≤ a * d := Int.mul_nonneg (by omega) (by omega)
         rw [if_neg (by omega), if_pos (by omega), if_neg (by omega), if_pos (by omega)]
     rw [e2]; exact h
 · rw [if_neg hk] at h
   have e : (chk2 a b c d != 0) = true := by simpa using hk
   rw [e, cbr_true]; exact h
end Go.Pf.Vc
namespace Go.Pf.Vc
open Go Go.Pf
def blen (x : Nat) : Nat := if x = 0 then 0 else x.log2 + 1
theorem blen_lt (x : Nat) : x < 2 ^ blen x := by
 unfold blen
 split
 · rename_i h; subst h; decide
 · exact Nat.lt_log2_self
theorem blen_le {x : Nat} (h : x ≠ 0) : 2 ^ (blen x - 1) ≤ x := by
 unfold blen
 rw [if_neg h]
 exact Nat.log2_self_le h
theorem blen_of {x m : Nat} (h1 : 2 ^ m ≤ x) (h2 : x < 2 ^ (m + 1)) : blen x = m + 1 := by
 have hx : x ≠ 0 := by have := Nat.two_pow_pos m; omega
 unfold blen
 rw [if_neg hx]
 congr 1
 have a := Nat.log2_self_le hx
 have b := Nat.lt_log2_self (n := x)
 have c1 : ¬ (x.log2 < m) := fun h => by
   have := Nat.pow_le_pow_right (show 0 < 2 by omega) (show x.log2 + 1 ≤ m by omega)
   omega
 have c2 : ¬ (m < x.log2) := fun h => by
   have := Nat.pow_le_pow_right (show 0 < 2 by omega) (show m + 1 ≤ x.log2 by omega)
   omega
 omega
theorem blen_div {x k : Nat} (h : 2 ^ k ≤ x) : blen x = k + blen (x / 2 ^ k) := by
 have hp := Nat.two_pow_pos k
 have hq : x / 2 ^ k ≠ 0 := by
   have := Nat.div_pos h hp
   omega
 have h1 := blen_le hq
 have h2 := blen_lt (x / 2 ^ k)
 obtain ⟨m, hm⟩ : ∃ m, blen (x / 2 ^ k) = m + 1 := ⟨blen (x / 2 ^ k) - 1, by
   have : blen (x / 2 ^ k) ≠ 0 := by unfold blen; rw [if_neg hq]; omega
   omega⟩
 rw [hm] at h1 h2 ⊢
 rw [Nat.add_sub_cancel] at h1
 have := blen_of (x := x) (m := k + m) (by
     rw [Nat.pow_add]
     calc 2 ^ k * 2 ^ m ≤ 2 ^ k * (x / 2 ^ k) := Nat.mul_le_mul_left _ h1
       _ ≤ x := Nat.mul_div_le _ _) (by
     rw [show k + m + 1 = k + (m + 1) by omega, Nat.pow_add]
     rw [Nat.mul_comm]
     exact (Nat.div_lt_iff_lt_mul hp).1 h2)
 omega
theorem tab_eq : ∀ x : Nat, x < 256 → intOfV (List.getD len8tab x .nils) = (blen x : Int) := by decide +kernel
theorem wu8 {n : Int} (h0 : 0 ≤ n) (h1 : n < 256) : IntKind.u8.wrap n = n := by
 have e1 : (2 : Int) ^ 8 = 256 := rfl
 simp only [IntKind.wrap, IntKind.signed, IntKind.bits, Bool.false_and, Bool.false_eq_true, if_false, e1]
 omega
theorem look_eq {n : Int} (h0 : 0 ≤ n) (h1 : n < 256) : intOfV (List.getD len8tab (IntKind.u8.wrap n).toNat .nils) = (blen n.toNat : Int) := by
 rw [wu8 h0 h1]
 exact tab_eq n.toNat (by omega)
theorem blen8 {n : Nat} (h : n < 256) : blen n ≤ 8 := by
 by_cases h0 : n = 0
 · subst h0; decide
 · have := blen_le h0
   have h2 : blen n - 1 < 8 := by
     refine Nat.lt_of_not_le fun hc => ?_
     have := Nat.pow_le_pow_right (show 0 < 2 by omega) hc
     omega
   omega
theorem leaf8 {n k : Int} (h0 : 0 ≤ n) (h1 : n < 256) (hk : 0 ≤ k ∧ k ≤ 56) {m : Int} (hm : m = k + blen n.toNat) {K : Int → Prop} (h : K m) :
   asr (decide ((0 : Int) ≤ (IntKind.u8.wrap n))) (asr (decide ((IntKind.u8.wrap n) < (256 : Int))) (K (IntKind.i64.wrap (k + (IntKind.i64.wrap (intOfV (List.getD len8tab ((IntKind.u8.wrap n).toNat) .nils))))))) := by
 have hb := blen8 (n := n.toNat) (by omega)
 have e1 : IntKind.i64.wrap (blen n.toNat : Int) = blen n.toNat := wi64 (by unfold I64; omega)
 have e2 : IntKind.i64.wrap (k + blen n.toNat : Int) = k + blen n.toNat := wi64 (by unfold I64; omega)
 rw [look_eq h0 h1, wu8 h0 h1, decide_eq_true h0, asr_true, decide_eq_true h1, asr_true, e1, e2, ← hm]
 exact h
theorem fdivn (p q : Int) (hq : 0 ≤ q) : Int.fdiv p q = p / q := Int.fdiv_eq_ediv_of_nonneg _ hq
theorem Len64_of {p : Int} (hp : U64 p) {K : Int → Prop} (h : K (blen p.toNat : Int)) : w_m_Len64 p K := by
 unfold U64 at hp
 unfold w_m_Len64 wv_m_Len64
 simp only [fdivn _ 4294967296 (by omega), fdivn _ 65536 (by omega), fdivn _ 256 (by omega)]
 have key : ∀ (k : Nat) (q : Int), 2 ^ k ≤ p.toNat → q = p / (2 ^ k : Nat) → (blen p.toNat : Int) = k + blen q.toNat := by
   intro k q hk hq
   have e : q.toNat = p.toNat / 2 ^ k := by
     rw [hq]
     obtain ⟨m, rfl⟩ : ∃ m : Nat, p = m := ⟨p.toNat, by omega⟩
     rw [← Int.natCast_ediv, Int.toNat_natCast, Int.toNat_natCast]
   rw [e]
   have := blen_div hk
   omega
 by_cases h1 : p ≥ 4294967296
 · rw [decide_eq_true h1, cbr_true]
   by_cases h2 : p / 4294967296 ≥ 65536
   · rw [decide_eq_true h2, cbr_true]
     by_cases h3 : p / 4294967296 / 65536 ≥ 256
     · rw [decide_eq_true h3, cbr_true]
       exact leaf8 (by omega) (by omega) (by omega) (key 56 _ (by omega) (by omega)) h
     · rw [decide_eq_false h3, cbr_false]
       exact leaf8 (by omega) (by omega) (by omega) (key 48 _ (by omega) (by omega)) h
   · rw [decide_eq_false h2, cbr_false]
     by_cases h3 : p / 4294967296 ≥ 256
     · rw [decide_eq_true h3, cbr_true]
       exact leaf8 (by omega) (by omega) (by omega) (key 40 _ (by omega) (by omega)) h
     · rw [decide_eq_false h3, cbr_false]
       exact leaf8 (by omega) (by omega) (by omega) (key 32 _ (by omega) (by omega)) h
 · rw [decide_eq_false h1, cbr_false]
   by_cases h2 : p ≥ 65536
   · rw [decide_eq_true h2, cbr_true]
     by_cases h3 : p / 65536 ≥ 256
     · rw [decide_eq_true h3, cbr_true]
       exact leaf8 (by omega) (by omega) (by omega) (key 24 _ (by omega) (by omega)) h
     · rw [decide_eq_false h3, cbr_false]
       exact leaf8 (by omega) (by omega) (by omega) (key 16 _ (by omega) (by omega)) h
   · rw [decide_eq_false h2, cbr_false]
     by_cases h3 : p ≥ 256
     · rw [decide_eq_true h3, cbr_true]
       exact leaf8 (by omega) (by omega) (by omega) (key 8 _ (by omega) (by omega)) h
     · rw [decide_eq_false h3, cbr_false]
       exact leaf8 (by omega) (by omega) (by omega) (by simp) h
theorem LeadingZeros64_of {p : Int} (hp : U64 p) {K : Int → Prop} (h : K (64 - blen p.toNat : Int)) : w_m_LeadingZeros64 p K := by
 unfold w_m_LeadingZeros64 wv_m_LeadingZeros64
 refine Len64_of hp ?_
 have hb : blen p.toNat ≤ 64 := by
   unfold U64 at hp
   by_cases h0 : p.toNat = 0
   · rw [h0]; decide
   · have := blen_le h0
     have h2 : blen p.toNat - 1 < 64 := by
       refine Nat.lt_of_not_le fun hc => ?_
       have := Nat.pow_le_pow_right (show 0 < 2 by omega) hc
       omega
     omega
 rw [wi64 (by unfold I64; omega)]
 exact h
end Go.Pf.Vc
namespace Go.Pf.Vc
open Go Go.Pf
structure DI (y yn1 yn0 u un q r : Int) : Prop where
 hy : y = yn1 * 4294967296 + yn0
 h1 : 2147483648 ≤ yn1 ∧ yn1 ≤ 4294967295
 h0 : 0 ≤ yn0 ∧ yn0 ≤ 4294967295
 hn : 0 ≤ un ∧ un ≤ 4294967295
 hu : q * yn1 + r = u
 hq : 0 ≤ q ∧ q ≤ 4294967297
 hr : 0 ≤ r ∧ r ≤ 4294967295
 hlt : u < y
 hU : u * 4294967296 + un < (q + 1) * y
def DG (y u un q : Int) : Prop := 0 ≤ q ∧ q ≤ 4294967295 ∧ q * y ≤ u * 4294967296 + un ∧ u * 4294967296 + un < (q + 1) * y
theorem DI.step {y yn1 yn0 u un q r : Int} (h : DI y yn1 yn0 u un q r) {A B C : Prop}
   (hA : DG y u un (q - 1) → 0 ≤ q - 1 → q - 1 ≤ 4294967296 → A)
   (hB : DI y yn1 yn0 u un (q - 1) (r + yn1) → B)
   (hC : DG y u un q → C) :
   cbr (decide (q ≥ (4294967296 : Int)))
     (cbr (decide ((IntKind.u64.wrap (r + yn1)) ≥ (4294967296 : Int))) A B)
     (cbr (decide ((IntKind.u64.wrap (q * yn0)) > (IntKind.u64.wrap ((IntKind.u64.wrap ((4294967296 : Int) * r)) + un))))
       (cbr (decide ((IntKind.u64.wrap (r + yn1)) ≥ (4294967296 : Int))) A B) C) := by
 have h' := h
 obtain ⟨hy, h1, h0, hn, hu, hq, hr, hlt, hU⟩ := h
 have e1 : IntKind.u64.wrap (r + yn1) = r + yn1 := wu64 ⟨by omega, by omega⟩
 have eq1 : q * y = q * yn1 * 4294967296 + q * yn0 := by rw [hy]; grind
 have eq2 : (q - 1) * y = q * y - y := by grind
 have eq3 : (q - 1) * yn1 = q * yn1 - yn1 := by grind
 have eq4 : (q - 1 + 1) * y = q * y := by grind
 have eq5 : (q - 1) * yn0 = q * yn0 - yn0 := by grind
 have big : u * 4294967296 + un < q * y → cbr (decide ((IntKind.u64.wrap (r + yn1)) ≥ (4294967296 : Int))) A B := by
   intro hb
   have q1 : 0 ≤ q - 1 := by
     refine Int.not_lt.1 fun hc => ?_
     have hq0 : q = 0 := by omega
     subst hq0
     simp at hb hu
     omega
   rw [e1]
   by_cases hc : r + yn1 ≥ 4294967296
   · rw [decide_eq_true hc, cbr_true]
     have hp : (q - 1) * yn0 ≤ 4294967296 * 4294967295 := Int.mul_le_mul (by omega) h0.2 h0.1 (by omega)
     have hle : (q - 1) * y ≤ u * 4294967296 + un := by
       have : (q - 1) * y = (q - 1) * yn1 * 4294967296 + (q - 1) * yn0 := by rw [hy]; grind
       omega
     have hlt32 : q - 1 ≤ 4294967295 := by
       refine Int.not_lt.1 fun hc => ?_
       have : 4294967296 * y ≤ (q - 1) * y := Int.mul_le_mul_of_nonneg_right (by omega) (by omega)
       omega
     exact hA ⟨q1, hlt32, hle, by rw [eq4]; exact hb⟩ q1 (by omega)
   · rw [decide_eq_false hc, cbr_false]
     exact hB ⟨hy, h1, h0, hn, by rw [eq3]; omega, ⟨q1, by omega⟩, ⟨by omega, by omega⟩, hlt, by rw [eq4]; exact hb⟩
 by_cases ha : q ≥ 4294967296
 · rw [decide_eq_true ha, cbr_true]
   refine big ?_
   have : 4294967296 * y ≤ q * y := Int.mul_le_mul_of_nonneg_right (by omega) (by omega)
   omega
 · rw [decide_eq_false ha, cbr_false]
   have hp : q * yn0 ≤ 4294967295 * 4294967295 := Int.mul_le_mul (by omega) h0.2 h0.1 (by omega)
   have hp0 : 0 ≤ q * yn0 := Int.mul_nonneg hq.1 h0.1
   have w1 : IntKind.u64.wrap (q * yn0) = q * yn0 := wu64 ⟨hp0, by omega⟩
   have w2 : IntKind.u64.wrap ((4294967296 : Int) * r) = 4294967296 * r := wu64 ⟨by omega, by omega⟩
   have w3 : IntKind.u64.wrap ((4294967296 : Int) * r + un) = 4294967296 * r + un := wu64 ⟨by omega, by omega⟩
   rw [w1, w2, w3]
   by_cases hb : q * yn0 > 4294967296 * r + un
   · rw [decide_eq_true hb, cbr_true]
     exact big (by omega)
   · rw [decide_eq_false hb, cbr_false]
     exact hC ⟨hq.1, by omega, by omega, hU⟩
theorem L0_of (W : Int → (Int → Prop) → Prop) {y yn1 yn0 u un : Int} (s v un0 : Int) {x0 x1 : Int → Int → Int → Int → Int → Int → Int → Int → Int → Bool → Prop}
   (hx : ∀ q r b, DG y u un q → x0 y s yn1 yn0 v un un0 q r b) (hx1 : ∀ q r b, DG y u un q → x1 y s yn1 yn0 v un un0 q r b) :
   ∀ (n : Nat) (q r : Int) (b : Bool), DI y yn1 yn0 u un q r → 4294967296 ≤ r + n * 2147483648 → L_m_Div64_0_1 W x0 x1 (n + 1) y s yn1 yn0 v un un0 q r b := by
 intro n
 induction n with
 | zero =>
   intro q r b h hn
   have := h.hr.2
   exact absurd hn (by omega)
 | succ n ih =>
   intro q r b h hn
   unfold L_m_Div64_0_1
   refine h.step (fun g a1 a2 => ?_) (fun g => ?_) (fun g => hx1 _ _ _ g)
   · rw [wu64 (n := q - 1) ⟨by omega, by omega⟩]
     exact hx _ _ _ g
   · have e1 : IntKind.u64.wrap (q - 1) = q - 1 := wu64 ⟨g.hq.1, by have := g.hq.2; omega⟩
     have e2 : IntKind.u64.wrap (r + yn1) = r + yn1 := wu64 ⟨g.hr.1, by have := g.hr.2; omega⟩
     rw [e1, e2]
     exact ih _ _ _ g (by have := h.h1.1; omega)
theorem L1_of (W : Int → (Int → Prop) → Prop) {y yn1 yn0 u un : Int} (s q1 v : Int) {x0 x1 : Int → Int → Int → Int → Int → Int → Int → Int → Int → Bool → Prop}
   (hx : ∀ q r b, DG y u un q → x0 y s yn1 yn0 un q1 r v q b) (hx1 : ∀ q r b, DG y u un q → x1 y s yn1 yn0 un q1 r v q b) :
   ∀ (n : Nat) (q r : Int) (b : Bool), DI y yn1 yn0 u un q r → 4294967296 ≤ r + n * 2147483648 → L_m_Div64_1_1 W x0 x1 (n + 1) y s yn1 yn0 un q1 r v q b := by
 intro n
 induction n with
 | zero =>
   intro q r b h hn
   have := h.hr.2
   exact absurd hn (by omega)
 | succ n ih =>
   intro q r b h hn
   unfold L_m_Div64_1_1
   refine h.step (fun g a1 a2 => ?_) (fun g => ?_) (fun g => hx1 _ _ _ g)
   · rw [wu64 (n := q - 1) ⟨by omega, by omega⟩]
     exact hx _ _ _ g
   · have e1 : IntKind.u64.wrap (q - 1) = q - 1 := wu64 ⟨g.hq.1, by have := g.hq.2; omega⟩
     have e2 : IntKind.u64.wrap (r + yn1) = r + yn1 := wu64 ⟨g.hr.1, by have := g.hr.2; omega⟩
     rw [e1, e2]
     exact ih _ _ _ g (by have := h.h1.1; omega)
theorem L0_of' (W : Int → (Int → Prop) → Prop) {y yn1 yn0 u un : Int} (s v un0 : Int) {x0 x1 : Int → Int → Int → Int → Int → Int → Int → Int → Int → Bool → Prop}
   (hx : ∀ q r b, DG y u un q → x0 y s yn1 yn0 v un un0 q r b) (hx1 : ∀ q r b, DG y u un q → x1 y s yn1 yn0 v un un0 q r b) (q r : Int) (h : DI y yn1 yn0 u un q r) : L_m_Div64_0_0 W x0 x1 3 y s yn1 yn0 v un un0 q r := by
 have := L0_of W s v un0 hx hx1 2 q r true h (by have := h.hr.1; omega)
 unfold L_m_Div64_0_1 at this
 unfold L_m_Div64_0_0
 exact this
theorem L1_of' (W : Int → (Int → Prop) → Prop) {y yn1 yn0 u un : Int} (s q1 v : Int) {x0 x1 : Int → Int → Int → Int → Int → Int → Int → Int → Int → Bool → Prop}
   (hx : ∀ q r b, DG y u un q → x0 y s yn1 yn0 un q1 r v q b) (hx1 : ∀ q r b, DG y u un q → x1 y s yn1 yn0 un q1 r v q b) (q r : Int) (h : DI y yn1 yn0 u un q r) : L_m_Div64_1_0 W x0 x1 3 y s yn1 yn0 un q1 r v q := by
 have := L1_of W s q1 v hx hx1 2 q r true h (by have := h.hr.1; omega)
 unfold L_m_Div64_1_1 at this
 unfold L_m_Div64_1_0
 exact this
end Go.Pf.Vc
namespace Go.Pf.Vc
open Go Go.Pf
theorem DI.init {y yn1 yn0 u un : Int} (hy : y = yn1 * 4294967296 + yn0) (h1 : 2147483648 ≤ yn1 ∧ yn1 ≤ 4294967295) (h0 : 0 ≤ yn0 ∧ yn0 ≤ 4294967295) (hn : 0 ≤ un ∧ un ≤ 4294967295)
   (hu : 0 ≤ u) (hlt : u < y) : DI y yn1 yn0 u un (u / yn1) (u - u / yn1 * yn1) := by
 have a1 := Int.mul_ediv_add_emod u yn1
 have a2 := Int.emod_nonneg u (show yn1 ≠ 0 by omega)
 have a3 := Int.emod_lt_of_pos u (show 0 < yn1 by omega)
 have a4 : u / yn1 * yn1 = yn1 * (u / yn1) := Int.mul_comm _ _
 have a5 : 0 ≤ u / yn1 := Int.ediv_nonneg hu (by omega)
 have a6 : u / yn1 ≤ 4294967297 := by
   refine Int.not_lt.1 fun hc => ?_
   have : yn1 * 4294967298 ≤ yn1 * (u / yn1) := Int.mul_le_mul_of_nonneg_left (by omega) (by omega)
   omega
 refine ⟨hy, h1, h0, hn, by omega, ⟨a5, a6⟩, ⟨by omega, by omega⟩, hlt, ?_⟩
 have e : (u / yn1 + 1) * y = yn1 * (u / yn1) * 4294967296 + yn1 * 4294967296 + (u / yn1 + 1) * yn0 := by
   obtain ⟨t, ht⟩ : ∃ t, t = u / yn1 := ⟨_, rfl⟩
   rw [← ht, hy]; grind
 have : 0 ≤ (u / yn1 + 1) * yn0 := Int.mul_nonneg (by omega) h0.1
 omega
theorem or_eq {a b : Int} {k : Nat} (ha : 0 ≤ a) (hb : 0 ≤ b ∧ b < 2 ^ k) (hab : a * 2 ^ k ≤ 18446744073709551615 ∧ b ≤ 18446744073709551615) (hs : a * 2 ^ k + b ≤ 18446744073709551615) :
   IntKind.u64.wrap (BitVec.ofInt IntKind.u64.bits (a * 2 ^ k) ||| BitVec.ofInt IntKind.u64.bits b).toNat = a * 2 ^ k + b := by
 obtain ⟨x, rfl⟩ : ∃ x : Nat, a = x := ⟨a.toNat, by omega⟩
 obtain ⟨z, rfl⟩ : ∃ z : Nat, b = z := ⟨b.toNat, by omega⟩
 have ec : ((x : Int) * 2 ^ k) = ((2 ^ k * x : Nat) : Int) := by push_cast; exact Int.mul_comm _ _
 rw [ec] at hab hs ⊢
 have hz : z < 2 ^ k := by have := hb.2; exact_mod_cast this
 have e : (BitVec.ofInt IntKind.u64.bits ((2 ^ k * x : Nat) : Int) ||| BitVec.ofInt IntKind.u64.bits (z : Int)).toNat = 2 ^ k * x + z := by
   show (BitVec.ofInt 64 ((2 ^ k * x : Nat) : Int) ||| BitVec.ofInt 64 (z : Int)).toNat = _
   rw [BitVec.toNat_or, BitVec.toNat_ofInt, BitVec.toNat_ofInt]
   have e1 : (((2 ^ k * x : Nat) : Int) % (2 ^ 64 : Nat)).toNat = 2 ^ k * x := by omega
   have e2 : ((z : Int) % (2 ^ 64 : Nat)).toNat = z := by omega
   rw [e1, e2, Nat.two_pow_add_eq_or_of_lt hz]
 rw [e, wu64 ⟨by omega, by omega⟩]
 push_cast; rfl
theorem rest_eq {u un q y : Int} (h0 : 0 ≤ u * 4294967296 + un - q * y) (h1 : u * 4294967296 + un - q * y ≤ 18446744073709551615) :
   IntKind.u64.wrap (IntKind.u64.wrap (IntKind.u64.wrap (u * 4294967296) + un) - IntKind.u64.wrap (q * y)) = u * 4294967296 + un - q * y := by
 simp only [wu64']
 omega
theorem tdivn {a b : Int} (h : 0 ≤ a) : Int.tdiv a b = a / b := Int.tdiv_eq_ediv_of_nonneg h
theorem tmodn {a b : Int} (h : 0 ≤ a) : Int.tmod a b = a % b := Int.tmod_eq_emod_of_nonneg h
theorem Div64_of {h l y : Int} (hh : U64 h) (hl : U64 l) (hy : U64 y) (hlt : h < y) {K : Int → Int → Prop}
   (k : K ((h * 18446744073709551616 + l) / y) ((h * 18446744073709551616 + l) % y)) : w_m_Div64 h l y K := by
 unfold U64 at hh hl hy
 unfold w_m_Div64 wv_m_Div64
 have b1 : (y == (0 : Int)) = false := beq_eq_false_iff_ne.2 (by omega)
 have b2 : decide (y ≤ h) = false := decide_eq_false (by omega)
 have b3 : (!(decide (y = (0 : Int)))) = true := by rw [decide_eq_false (by omega)]; rfl
 rw [b1, cbr_false, b2, cbr_false, b3]
 by_cases h0 : h = 0
 · subst h0
   have : ((0 : Int) == 0) = true := rfl
   rw [this, cbr_true, asr_true, asr_true, tdivn hl.1, tmodn hl.1]
   have e : (0 : Int) * 18446744073709551616 + l = l := by omega
   rw [e] at k
   have b4 : l / y ≤ l := Int.ediv_le_self _ hl.1
   rw [wu64 ⟨Int.ediv_nonneg hl.1 (by omega), by omega⟩]
   exact k
 · have b4 : (h == (0 : Int)) = false := beq_eq_false_iff_ne.2 h0
   rw [b4, cbr_false]
   refine LeadingZeros64_of ⟨by omega, by omega⟩ ?_
   have hyn : y.toNat ≠ 0 := by omega
   have c1 := blen_lt y.toNat
   have c2 := blen_le hyn
   have c3 : blen y.toNat ≤ 64 := by
     refine Nat.le_of_not_lt fun hc => ?_
     have := Nat.pow_le_pow_right (show 0 < 2 by omega) (show 64 ≤ blen y.toNat - 1 by omega)
     omega
   have c4 : 1 ≤ blen y.toNat := by
     refine Nat.le_of_not_lt fun hc => ?_
     have : blen y.toNat = 0 := by omega
     rw [this] at c1
     omega
   obtain ⟨m, hm⟩ : ∃ m, m = 64 - blen y.toNat := ⟨_, rfl⟩
   have es : (64 - (blen y.toNat : Int)) = (m : Int) := by omega
   rw [es]
   have m63 : m ≤ 63 := by omega
   have e1 : IntKind.u64.wrap (m : Int) = m := wu64 ⟨by omega, by omega⟩
   have e2 : IntKind.u64.wrap ((64 : Int) - m) = ((64 - m : Nat) : Int) := by
     rw [wu64 ⟨by omega, by omega⟩]; omega
   have e3 : min ((m : Int)).toNat IntKind.u64.bits = m := by
     show min ((m : Int)).toNat 64 = m
     rw [Int.toNat_natCast]; omega
   have e4 : min (((64 - m : Nat) : Int)).toNat IntKind.u64.bits = 64 - m := by
     show min (((64 - m : Nat) : Int)).toNat 64 = 64 - m
     rw [Int.toNat_natCast]; omega
   simp only [e1]
   rw [e2, e3, e4]
   have p64 : (2 : Int) ^ (64 - m) * 2 ^ m = 18446744073709551616 := by
     rw [← Int.pow_add, show 64 - m + m = 64 by omega]; rfl
   have p63 : (2 : Int) ^ (63 - m) * 2 ^ m = 9223372036854775808 := by
     rw [← Int.pow_add, show 63 - m + m = 63 by omega]; rfl
   have tp : (0 : Int) < 2 ^ m := Int.pow_pos (by omega)
   have tp' : (0 : Int) < 2 ^ (64 - m) := Int.pow_pos (by omega)
   have y1 : y < (2 : Int) ^ (64 - m) := by
     have : blen y.toNat = 64 - m := by omega
     rw [this] at c1
     have c1' : ((y.toNat : Nat) : Int) < ((2 ^ (64 - m) : Nat) : Int) := by exact_mod_cast c1
     push_cast at c1'
     omega
   have y2 : (2 : Int) ^ (63 - m) ≤ y := by
     have : blen y.toNat - 1 = 63 - m := by omega
     rw [this] at c2
     have c2' : ((2 ^ (63 - m) : Nat) : Int) ≤ ((y.toNat : Nat) : Int) := by exact_mod_cast c2
     push_cast at c2'
     omega
   have Y1 : y * 2 ^ m < 18446744073709551616 := by
     have := Int.mul_lt_mul_of_pos_right y1 tp
     omega
   have Y2 : 9223372036854775808 ≤ y * 2 ^ m := by
     have := Int.mul_le_mul_of_nonneg_right y2 (show (0 : Int) ≤ 2 ^ m by omega)
     omega
   have H1 : (h + 1) * 2 ^ m ≤ y * 2 ^ m := Int.mul_le_mul_of_nonneg_right (by omega) (by omega)
   have H2 : (h + 1) * 2 ^ m = h * 2 ^ m + 2 ^ m := by grind
   have H0 : 0 ≤ h * 2 ^ m := Int.mul_nonneg hh.1 (by omega)
   have fd : Int.fdiv l (2 ^ (64 - m)) = l / 2 ^ (64 - m) := fdivn _ _ (by omega)
   have L1 := Int.mul_ediv_add_emod l (2 ^ (64 - m))
   have L2 := Int.emod_nonneg l (show (2 : Int) ^ (64 - m) ≠ 0 by omega)
   have L3 := Int.emod_lt_of_pos l tp'
   have L4 : 0 ≤ l / 2 ^ (64 - m) := Int.ediv_nonneg hl.1 (by omega)
   have L5 : l / 2 ^ (64 - m) < 2 ^ m := by
     refine Int.ediv_lt_of_lt_mul tp' ?_
     rw [Int.mul_comm, p64]; omega
   have w1 : IntKind.u64.wrap (y * 2 ^ m) = y * 2 ^ m := wu64 ⟨by omega, by omega⟩
   have w2 : IntKind.u64.wrap (h * 2 ^ m) = h * 2 ^ m := wu64 ⟨by omega, by omega⟩
   have w3 : IntKind.u64.wrap (BitVec.ofInt IntKind.u64.bits (h * 2 ^ m) ||| BitVec.ofInt IntKind.u64.bits (l / 2 ^ (64 - m))).toNat = h * 2 ^ m + l / 2 ^ (64 - m) :=
     or_eq hh.1 ⟨L4, L5⟩ ⟨by omega, by omega⟩ (by omega)
   have w4 : IntKind.u64.wrap (l * 2 ^ m) = l % 2 ^ (64 - m) * 2 ^ m := by
     have e : l * 2 ^ m = (l / 2 ^ (64 - m)) * 18446744073709551616 + l % 2 ^ (64 - m) * 2 ^ m := by
       rw [← p64]
       obtain ⟨a, ha⟩ : ∃ a, a = l / 2 ^ (64 - m) := ⟨_, rfl⟩
       obtain ⟨b, hb⟩ : ∃ b, b = l % 2 ^ (64 - m) := ⟨_, rfl⟩
       obtain ⟨t, ht⟩ : ∃ t, t = (2 : Int) ^ m := ⟨_, rfl⟩
       obtain ⟨t', ht'⟩ : ∃ t, t = (2 : Int) ^ (64 - m) := ⟨_, rfl⟩
       rw [← ha, ← hb, ← ht'] at L1
       rw [← ha, ← hb, ← ht, ← ht']
       rw [← L1]; grind
     have e5 : l % 2 ^ (64 - m) * 2 ^ m < 18446744073709551616 := by
       rw [← p64]; exact Int.mul_lt_mul_of_pos_right L3 tp
     have e6 : 0 ≤ l % 2 ^ (64 - m) * 2 ^ m := Int.mul_nonneg L2 (by omega)
     rw [e, wu64']; omega
   have e5 : l % 2 ^ (64 - m) * 2 ^ m < 18446744073709551616 := by
     rw [← p64]; exact Int.mul_lt_mul_of_pos_right L3 tp
   have e6 : 0 ≤ l % 2 ^ (64 - m) * 2 ^ m := Int.mul_nonneg L2 (by omega)
   have eN : (h * 18446744073709551616 + l) * 2 ^ m = (h * 2 ^ m + l / 2 ^ (64 - m)) * 18446744073709551616 + l % 2 ^ (64 - m) * 2 ^ m := by
     rw [← p64]
     obtain ⟨a, ha⟩ : ∃ a, a = l / 2 ^ (64 - m) := ⟨_, rfl⟩
     obtain ⟨b, hb⟩ : ∃ b, b = l % 2 ^ (64 - m) := ⟨_, rfl⟩
     obtain ⟨t, ht⟩ : ∃ t, t = (2 : Int) ^ m := ⟨_, rfl⟩
     obtain ⟨t', ht'⟩ : ∃ t, t = (2 : Int) ^ (64 - m) := ⟨_, rfl⟩
     rw [← ha, ← hb, ← ht'] at L1
     rw [← ha, ← hb, ← ht, ← ht']
     rw [← L1]; grind
   have U1 : h * 2 ^ m + l / 2 ^ (64 - m) < y * 2 ^ m := by omega
   have U0 : 0 ≤ h * 2 ^ m + l / 2 ^ (64 - m) := by omega
   rw [fd, w1, w2, w3, w4]
   have b5 : (!(decide ((m : Int) < 0))) = true := by rw [decide_eq_false (by omega)]; rfl
   have b6 : (!(decide (((64 - m : Nat) : Int) < 0))) = true := by rw [decide_eq_false (by omega)]; rfl
   rw [b5, b6, asr_true, asr_true, asr_true, asr_true]
   generalize h * 2 ^ m + l / 2 ^ (64 - m) = u at *
   generalize hl0 : l % 2 ^ (64 - m) * 2 ^ m = v at *
   generalize hY : y * 2 ^ m = Y at *
   rw [fdivn Y _ (by omega), fdivn v _ (by omega), mask32 ⟨by omega, by omega⟩, mask32 ⟨by omega, by omega⟩, tdivn U0]
   have b7 : (!(decide (Y / 4294967296 = (0 : Int)))) = true := by rw [decide_eq_false (by omega)]; rfl
   rw [b7, asr_true]
   obtain ⟨yn1, hyn1⟩ : ∃ a, a = Y / 4294967296 := ⟨_, rfl⟩
   obtain ⟨yn0, hyn0⟩ : ∃ a, a = Y % 4294967296 := ⟨_, rfl⟩
   obtain ⟨un1, hun1⟩ : ∃ a, a = v / 4294967296 := ⟨_, rfl⟩
   obtain ⟨un0, hun0⟩ : ∃ a, a = v % 4294967296 := ⟨_, rfl⟩
   rw [← hyn1, ← hyn0, ← hun1, ← hun0]
   have d1 : 2147483648 ≤ yn1 ∧ yn1 ≤ 4294967295 := by omega
   have d0 : 0 ≤ yn0 ∧ yn0 ≤ 4294967295 := by omega
   have dn1 : 0 ≤ un1 ∧ un1 ≤ 4294967295 := by omega
   have dn0 : 0 ≤ un0 ∧ un0 ≤ 4294967295 := by omega
   have dY : Y = yn1 * 4294967296 + yn0 := by omega
   have g1 := DI.init dY d1 d0 dn1 U0 U1
   have x1 : IntKind.u64.wrap (u / yn1) = u / yn1 := wu64 ⟨g1.hq.1, by have := g1.hq.2; omega⟩
   have x2 : IntKind.u64.wrap (u - IntKind.u64.wrap (u / yn1 * yn1)) = u - u / yn1 * yn1 := by
     have r1 := g1.hr.1
     have r2 : 0 ≤ u / yn1 * yn1 := Int.mul_nonneg g1.hq.1 (by omega)
     have r3 := g1.hr.2
     rw [wu64 (n := u / yn1 * yn1) ⟨r2, by omega⟩, wu64 ⟨r1, by omega⟩]
   rw [x1, x2]
   have fin : ∀ q1 : Int, DG Y u un1 q1 → ∀ (un21 : Int), un21 = u * 4294967296 + un1 - q1 * Y → ∀ q0, DG Y un21 un0 q0 →
       K (IntKind.u64.wrap ((IntKind.u64.wrap (q1 * (4294967296 : Int))) + q0)) (Int.fdiv (IntKind.u64.wrap ((IntKind.u64.wrap ((IntKind.u64.wrap (un21 * (4294967296 : Int))) + un0)) - (IntKind.u64.wrap (q0 * Y)))) (2 ^ (min ((m : Int)).toNat IntKind.u64.bits))) := by
     intro q1 G1 un21 e21 q0 G0
     obtain ⟨a1, a2, a3, a4⟩ := G1
     obtain ⟨c1, c2, c3, c4⟩ := G0
     have s1 : (q1 + 1) * Y = q1 * Y + Y := by grind
     have s0 : (q0 + 1) * Y = q0 * Y + Y := by grind
     have w5 : IntKind.u64.wrap (q1 * 4294967296) = q1 * 4294967296 := wu64 ⟨by omega, by omega⟩
     have w6 : IntKind.u64.wrap (q1 * 4294967296 + q0) = q1 * 4294967296 + q0 := wu64 ⟨by omega, by omega⟩
     rw [rest_eq (by omega) (by omega), w5, w6, e3, fdivn _ _ (by omega)]
     have eT : un21 * 4294967296 + un0 - q0 * Y = (h * 18446744073709551616 + l - (q1 * 4294967296 + q0) * y) * 2 ^ m := by
       have f1 : (q1 * 4294967296 + q0) * Y = q1 * Y * 4294967296 + q0 * Y := by grind
       have f2 : (h * 18446744073709551616 + l - (q1 * 4294967296 + q0) * y) * 2 ^ m = (h * 18446744073709551616 + l) * 2 ^ m - (q1 * 4294967296 + q0) * Y := by
         rw [← hY, Int.sub_mul, Int.mul_assoc (q1 * 4294967296 + q0)]
       rw [f2, f1, eN]
       omega
     rw [eT, Int.mul_ediv_cancel _ (by omega)]
     have r0 : 0 ≤ h * 18446744073709551616 + l - (q1 * 4294967296 + q0) * y := by
       refine Int.not_lt.1 fun hc => ?_
       have := Int.mul_neg_of_neg_of_pos hc tp
       omega
     have r1 : h * 18446744073709551616 + l - (q1 * 4294967296 + q0) * y < y := by
       refine Int.not_le.1 fun hc => ?_
       have := Int.mul_le_mul_of_nonneg_right hc (show (0 : Int) ≤ 2 ^ m by omega)
       omega
     obtain ⟨Q, hQ⟩ : ∃ Q, Q = q1 * 4294967296 + q0 := ⟨_, rfl⟩
     rw [← hQ] at r0 r1 ⊢
     have z1 : (h * 18446744073709551616 + l) / y = Q := by
       have : h * 18446744073709551616 + l = (h * 18446744073709551616 + l - Q * y) + Q * y := by omega
       rw [this, Int.add_mul_ediv_right _ _ (by omega), Int.ediv_eq_zero_of_lt r0 r1]; omega
     have z2 : (h * 18446744073709551616 + l) % y = h * 18446744073709551616 + l - Q * y := by
       have := Int.mul_ediv_add_emod (h * 18446744073709551616 + l) y
       rw [z1, Int.mul_comm] at this
       omega
     rw [z1, z2] at k
     exact k
   have mid : ∀ q : Int, DG Y u un1 q → ∀ (X : Int → Int → Int → Int → Int → Int → Int → Int → Int → Bool → Prop), (∀ q0 r0 b0, DG Y (u * 4294967296 + un1 - q * Y) un0 q0 → X Y m yn1 yn0 un0 q r0 (u * 4294967296 + un1 - q * Y) q0 b0) →
       asr (!(decide (yn1 = (0 : Int)))) (∃ n : Nat, L_m_Div64_1_0 w_m_LeadingZeros64 X X n Y m yn1 yn0 un0 q ((IntKind.u64.wrap ((IntKind.u64.wrap ((IntKind.u64.wrap ((IntKind.u64.wrap (u * (4294967296 : Int))) + un1)) - (IntKind.u64.wrap (q * Y)))) - (IntKind.u64.wrap ((IntKind.u64.wrap (Int.tdiv (IntKind.u64.wrap ((IntKind.u64.wrap ((IntKind.u64.wrap (u * (4294967296 : Int))) + un1)) - (IntKind.u64.wrap (q * Y)))) yn1)) * yn1))))) (IntKind.u64.wrap ((IntKind.u64.wrap ((IntKind.u64.wrap (u * (4294967296 : Int))) + un1)) - (IntKind.u64.wrap (q * Y)))) (IntKind.u64.wrap (Int.tdiv (IntKind.u64.wrap ((IntKind.u64.wrap ((IntKind.u64.wrap (u * (4294967296 : Int))) + un1)) - (IntKind.u64.wrap (q * Y)))) yn1))) := by
     intro q G X hX
     obtain ⟨a1, a2, a3, a4⟩ := G
     have s1 : (q + 1) * Y = q * Y + Y := by grind
     have b8 : (!(decide (yn1 = (0 : Int)))) = true := by rw [decide_eq_false (by omega)]; rfl
     rw [b8, asr_true, rest_eq (by omega) (by omega), tdivn (by omega)]
     have g0 := DI.init dY d1 d0 dn0 (u := u * 4294967296 + un1 - q * Y) (by omega) (by omega)
     generalize u * 4294967296 + un1 - q * Y = u2 at *
     have x1 : IntKind.u64.wrap (u2 / yn1) = u2 / yn1 := wu64 ⟨g0.hq.1, by have := g0.hq.2; omega⟩
     have x2 : IntKind.u64.wrap (u2 - IntKind.u64.wrap (u2 / yn1 * yn1)) = u2 - u2 / yn1 * yn1 := by
       have r1 := g0.hr.1
       have r2 : 0 ≤ u2 / yn1 * yn1 := Int.mul_nonneg g0.hq.1 (by omega)
       have r3 := g0.hr.2
       have r4 := g0.hlt
       rw [wu64 (n := u2 / yn1 * yn1) ⟨r2, by omega⟩, wu64 ⟨r1, by omega⟩]
     rw [x1, x2]
     exact ⟨3, L1_of' _ _ _ _ (fun q0 r0 b0 g => hX q0 r0 b0 g) (fun q0 r0 b0 g => hX q0 r0 b0 g) _ _ g0⟩
   have leaf : ∀ {P : Prop}, P → asr (!(decide ((m : Int) < 0))) P := fun p => by rw [b5, asr_true]; exact p
   refine ⟨3, L0_of' _ _ _ _ (fun q r b G => ?_) (fun q r b G => ?_) _ _ g1⟩
   · exact mid q G _ (fun q0 r0 b0 G0 => leaf (fin q G _ rfl q0 G0))
   · exact mid q G _ (fun q0 r0 b0 G0 => leaf (fin q G _ rfl q0 G0))
end Go.Pf.Vc
namespace Go.Pf.Vc
open Go Go.Pf
theorem Rem64_of {h l y : Int} (hh : U64 h) (hl : U64 l) (hy : U64 y) (h0 : 0 < y) {K : Int → Prop}
   (k : K ((h * 18446744073709551616 + l) % y)) : w_m_Rem64 h l y K := by
 unfold w_m_Rem64 wv_m_Rem64
 have b3 : (!(decide (y = (0 : Int)))) = true := by rw [decide_eq_false (by omega)]; rfl
 have a1 := Int.emod_nonneg h (show y ≠ 0 by omega)
 have a2 := Int.emod_lt_of_pos h h0
 have hh' := hh
 unfold U64 at hh hy
 rw [b3, asr_true, tmodn hh.1]
 refine Div64_of ⟨a1, by omega⟩ hl ⟨by omega, by omega⟩ a2 ?_
 have e : (h % y * 18446744073709551616 + l) % y = (h * 18446744073709551616 + l) % y := by
   rw [Int.add_emod, Int.mul_emod, Int.emod_emod, ← Int.mul_emod, ← Int.add_emod]
 rw [e]
 exact k
def outS (s : Bool) (a b : Int) (K : Int → Int → Int → Prop) : Prop :=
 if a ≤ 1000000000000000000 ∧ b ≤ 1000000000000000000 then K (if s then -a else a) b 0 else K 0 0 16
theorem signed_eq {s : Bool} {a b : Int} (ha : 0 ≤ a) (hb : 0 ≤ b) (K : Int → Int → Int → Prop) : w_ratio_signed s a b K = outS s a b K := by
 unfold w_ratio_signed wv_ratio_signed outS
 by_cases h : a ≤ 1000000000000000000 ∧ b ≤ 1000000000000000000
 · have e : decide ((if b > a then b else a) > (1000000000000000000 : Int)) = false := by
     refine decide_eq_false ?_
     split <;> omega
   have w1 : IntKind.i64.wrap a = a := wi64 ⟨by omega, by omega⟩
   have w2 : IntKind.i64.wrap b = b := wi64 ⟨by omega, by omega⟩
   have w3 : IntKind.i64.wrap (0 - a) = -a := by rw [wi64 ⟨by omega, by omega⟩]; omega
   rw [e, cbr_false, if_pos h, w1, w2, w3]
   cases s
   · rfl
   · rfl
 · have e : decide ((if b > a then b else a) > (1000000000000000000 : Int)) = true := by
     refine decide_eq_true ?_
     split <;> omega
   rw [e, cbr_true, if_neg h]
end Go.Pf.Vc
namespace Go.Pf.Vc
open Go Go.Pf
theorem tail_of {s : Bool} {hi lo p1 p3 : Int} {g : Nat} (hh : U64 hi) (hl : U64 lo) (hg : 0 < g) (g1 : (g : Int) ≤ 1000000000000000000)
    (h1 : 0 ≤ p1 ∧ p1 ≤ 1000000000000000000) (h3 : 0 ≤ p3 ∧ p3 ≤ 1000000000000000000) {K : Int → Int → Int → Prop}
    (k : outS s (((hi * 18446744073709551616 + lo).toNat / Nat.gcd (hi * 18446744073709551616 + lo).toNat g : Nat) : Int)
      (((p1.toNat / g) * (p3.toNat / Nat.gcd (hi * 18446744073709551616 + lo).toNat g) : Nat) : Int) K) :
    (w_m_Rem64 hi lo (g : Int) (fun (yi12 : Int) => 
 (w_ratio_gcd yi12 (g : Int) (fun (yi13 : Int) => 
 (cbr (decide (hi ≥ yi13))
 (K (0 : Int) (0 : Int) (16 : Int))
 (w_m_Div64 hi lo yi13 (fun (yi14 : Int) (_ : Int) => 
 (asr (!(decide ((g : Int) = (0 : Int))))
 (asr (!(decide (yi13 = (0 : Int))))
 (w_m_Mul64 (IntKind.u64.wrap (Int.tdiv (IntKind.u64.wrap p1) (g : Int))) (IntKind.u64.wrap (Int.tdiv (IntKind.u64.wrap p3) yi13)) (fun (yi16 : Int) (yi17 : Int) => 
 (cbr (decide (yi16 > (0 : Int)))
 (K (0 : Int) (0 : Int) (16 : Int))
 (w_ratio_signed s yi14 yi17 (fun (yi18 : Int) (yi19 : Int) (yi20 : Int) => 
 (K yi18 yi19 yi20))))))))))))))) := by
  unfold U64 at hh hl
  obtain ⟨X, hX⟩ : ∃ X : Nat, X = (hi * 18446744073709551616 + lo).toNat := ⟨_, rfl⟩
  have eX : hi * 18446744073709551616 + lo = (X : Int) := by omega
  rw [← hX] at k
  refine Rem64_of hh hl ⟨by omega, by omega⟩ (by omega) ?_
  rw [eX, ← Int.natCast_emod]
  refine gcd_of _ _ _ ?_
  have eg : Nat.gcd (X % g) g = Nat.gcd X g := by rw [Nat.gcd_comm, Nat.gcd_comm X, Nat.gcd_rec g X, Nat.gcd_comm]
  rw [eg]
  have gp : 0 < Nat.gcd X g := Nat.gcd_pos_of_pos_right _ hg
  have gl : Nat.gcd X g ≤ g := Nat.le_of_dvd hg (Nat.gcd_dvd_right _ _)
  generalize Nat.gcd X g = G at *
  by_cases hb : hi ≥ (G : Int)
  · rw [decide_eq_true hb, cbr_true]
    unfold outS at k
    have : 18446744073709551616 ≤ X / G := by
      rw [Nat.le_div_iff_mul_le gp]
      omega
    rw [if_neg (by omega)] at k
    exact k
  · rw [decide_eq_false hb, cbr_false]
    refine Div64_of hh hl ⟨by omega, by omega⟩ (by omega) ?_
    rw [eX]
    have n3 : (!(decide ((g : Int) = (0 : Int)))) = true := by rw [decide_eq_false (by omega)]; rfl
    have n4 : (!(decide ((G : Int) = (0 : Int)))) = true := by rw [decide_eq_false (by omega)]; rfl
    have e1 : IntKind.u64.wrap p1 = (p1.toNat : Int) := by rw [wu64 ⟨by omega, by omega⟩]; omega
    have e3 : IntKind.u64.wrap p3 = (p3.toNat : Int) := by rw [wu64 ⟨by omega, by omega⟩]; omega
    rw [n3, n4, asr_true, asr_true, e1, e3, tdivn (by omega), tdivn (by omega), ← Int.natCast_ediv, ← Int.natCast_ediv, ← Int.natCast_ediv]
    have q1 : p1.toNat / g ≤ p1.toNat := Nat.div_le_self _ _
    have q3 : p3.toNat / G ≤ p3.toNat := Nat.div_le_self _ _
    generalize p1.toNat / g = A at *
    generalize p3.toNat / G = B at *
    generalize X / G = N at *
    rw [wu64 (n := (A : Int)) ⟨by omega, by omega⟩, wu64 (n := (B : Int)) ⟨by omega, by omega⟩, Mul64_eq ⟨by omega, by omega⟩ ⟨by omega, by omega⟩, ← Int.natCast_mul]
    generalize A * B = D at *
    by_cases hd : ((D : Int) / 18446744073709551616) > 0
    · rw [decide_eq_true hd, cbr_true]
      unfold outS at k
      rw [if_neg (by omega)] at k
      exact k
    · rw [decide_eq_false hd, cbr_false]
      have eD : (D : Int) % 18446744073709551616 = D := by omega
      rw [eD, signed_eq (by omega) (by omega)]
      exact k
end Go.Pf.Vc
namespace Go.Pf.Vc
open Go Go.Pf
theorem Add64_of {p q c : Int} {K : Int → Int → Prop} (hc : c.toNat ≤ 1) (k : K (((p.toNat + q.toNat + c.toNat) % 18446744073709551616 : Nat) : Int) (((p.toNat + q.toNat + c.toNat) / 18446744073709551616 : Nat) : Int)) : w_m_Add64 p q c K := by
 unfold w_m_Add64
 rw [decide_eq_true hc, asr_true]
 exact k
theorem Sub64_of {p q c : Int} {K : Int → Int → Prop} (hc : c.toNat ≤ 1) (k : K (((p.toNat + 18446744073709551616 - q.toNat - c.toNat) % 18446744073709551616 : Nat) : Int) ((if q.toNat + c.toNat ≤ p.toNat then 0 else 1 : Nat) : Int)) : w_m_Sub64 p q c K := by
 unfold w_m_Sub64
 rw [decide_eq_true hc, asr_true]
 have e : (bif Nat.ble (q.toNat + c.toNat) p.toNat then 0 else 1 : Nat) = (if q.toNat + c.toNat ≤ p.toNat then 0 else 1 : Nat) := by
   by_cases h : q.toNat + c.toNat ≤ p.toNat
   · rw [if_pos h, show Nat.ble (q.toNat + c.toNat) p.toNat = true from Nat.ble_eq_true_of_le h]; rfl
   · rw [if_neg h]
     cases hb : Nat.ble (q.toNat + c.toNat) p.toNat
     · rfl
     · exact absurd (Nat.le_of_ble_eq_true hb) h
 rw [e]
 exact k
theorem add_wide {X Y : Int} (hx : 0 ≤ X) (hy : 0 ≤ Y) (hs : X + Y < 340282366920938463463374607431768211456) {F : Int → Int → Int → Int → Prop}
   (h : ∀ c1 c2, F ((X + Y) % 18446744073709551616) c1 ((X + Y) / 18446744073709551616) c2) :
   w_m_Add64 (X % 18446744073709551616) (Y % 18446744073709551616) 0 (fun lo c1 => w_m_Add64 (X / 18446744073709551616) (Y / 18446744073709551616) c1 (fun hi c2 => F lo c1 hi c2)) := by
 obtain ⟨x, rfl⟩ : ∃ x : Nat, X = x := ⟨X.toNat, by omega⟩
 obtain ⟨y, rfl⟩ : ∃ y : Nat, Y = y := ⟨Y.toNat, by omega⟩
 refine Add64_of (by decide) (Add64_of (by omega) ?_)
 have e1 : (((((x : Int) % 18446744073709551616).toNat + ((y : Int) % 18446744073709551616).toNat + (0 : Int).toNat) % 18446744073709551616 : Nat) : Int) = ((x : Int) + y) % 18446744073709551616 := by omega
 have e2 : (((((x : Int) / 18446744073709551616).toNat + ((y : Int) / 18446744073709551616).toNat + (((((x : Int) % 18446744073709551616).toNat + ((y : Int) % 18446744073709551616).toNat + (0 : Int).toNat) / 18446744073709551616 : Nat) : Int).toNat) % 18446744073709551616 : Nat) : Int) = ((x : Int) + y) / 18446744073709551616 := by omega
 rw [e1, e2]
 exact h _ _
theorem sub_wide {X Y : Int} (hy : 0 ≤ Y) (hxy : Y ≤ X) (hs : X < 340282366920938463463374607431768211456) {F : Int → Int → Int → Int → Prop}
   (h : ∀ c1 c2, F ((X - Y) % 18446744073709551616) c1 ((X - Y) / 18446744073709551616) c2) :
   w_m_Sub64 (X % 18446744073709551616) (Y % 18446744073709551616) 0 (fun lo c1 => w_m_Sub64 (X / 18446744073709551616) (Y / 18446744073709551616) c1 (fun hi c2 => F lo c1 hi c2)) := by
 obtain ⟨x, rfl⟩ : ∃ x : Nat, X = x := ⟨X.toNat, by omega⟩
 obtain ⟨y, rfl⟩ : ∃ y : Nat, Y = y := ⟨Y.toNat, by omega⟩
 refine Sub64_of (by decide) (Sub64_of (by split <;> omega) ?_)
 have e1 : (((((x : Int) % 18446744073709551616).toNat + 18446744073709551616 - ((y : Int) % 18446744073709551616).toNat - (0 : Int).toNat) % 18446744073709551616 : Nat) : Int) = ((x : Int) - y) % 18446744073709551616 := by omega
 rw [e1]
 by_cases hb : ((y : Int) % 18446744073709551616).toNat + (0 : Int).toNat ≤ ((x : Int) % 18446744073709551616).toNat
 · rw [if_pos hb]
   have e2 : (((((x : Int) / 18446744073709551616).toNat + 18446744073709551616 - ((y : Int) / 18446744073709551616).toNat - ((0 : Nat) : Int).toNat) % 18446744073709551616 : Nat) : Int) = ((x : Int) - y) / 18446744073709551616 := by omega
   rw [e2]
   exact h _ _
 · rw [if_neg hb]
   have e2 : (((((x : Int) / 18446744073709551616).toNat + 18446744073709551616 - ((y : Int) / 18446744073709551616).toNat - ((1 : Nat) : Int).toNat) % 18446744073709551616 : Nat) : Int) = ((x : Int) - y) / 18446744073709551616 := by omega
   rw [e2]
   exact h _ _
end Go.Pf.Vc
namespace Go.Pf.Vc
open Go Go.Pf
def outA (s : Bool) (Z p1 p3 : Int) (g : Nat) (K : Int → Int → Int → Prop) : Prop :=
 if Z = 0 then K 0 1 0 else outS s ((Z.toNat / Nat.gcd Z.toNat g : Nat) : Int) (((p1.toNat / g) * (p3.toNat / Nat.gcd Z.toNat g) : Nat) : Int) K
theorem fin_of {s : Bool} {Z p1 p3 : Int} {g : Nat} (hz : 0 ≤ Z) (hz2 : Z < 340282366920938463463374607431768211456) (hg : 0 < g) (g1 : (g : Int) ≤ 1000000000000000000)
    (h1 : 0 ≤ p1 ∧ p1 ≤ 1000000000000000000) (h3 : 0 ≤ p3 ∧ p3 ≤ 1000000000000000000) {K : Int → Int → Int → Prop}
    (k : outA s Z p1 p3 g K) :
    cbr (Z / 18446744073709551616 == (0 : Int)) (cbr (Z % 18446744073709551616 == (0 : Int)) (K 0 1 0) (w_m_Rem64 (Z / 18446744073709551616) (Z % 18446744073709551616) (g : Int) (fun (yi12 : Int) => 
 (w_ratio_gcd yi12 (g : Int) (fun (yi13 : Int) => 
 (cbr (decide ((Z / 18446744073709551616) ≥ yi13))
 (K (0 : Int) (0 : Int) (16 : Int))
 (w_m_Div64 (Z / 18446744073709551616) (Z % 18446744073709551616) yi13 (fun (yi14 : Int) (_ : Int) => 
 (asr (!(decide ((g : Int) = (0 : Int))))
 (asr (!(decide (yi13 = (0 : Int))))
 (w_m_Mul64 (IntKind.u64.wrap (Int.tdiv (IntKind.u64.wrap p1) (g : Int))) (IntKind.u64.wrap (Int.tdiv (IntKind.u64.wrap p3) yi13)) (fun (yi16 : Int) (yi17 : Int) => 
 (cbr (decide (yi16 > (0 : Int)))
 (K (0 : Int) (0 : Int) (16 : Int))
 (w_ratio_signed s yi14 yi17 (fun (yi18 : Int) (yi19 : Int) (yi20 : Int) => 
 (K yi18 yi19 yi20)))))))))))))))) (w_m_Rem64 (Z / 18446744073709551616) (Z % 18446744073709551616) (g : Int) (fun (yi12 : Int) => 
 (w_ratio_gcd yi12 (g : Int) (fun (yi13 : Int) => 
 (cbr (decide ((Z / 18446744073709551616) ≥ yi13))
 (K (0 : Int) (0 : Int) (16 : Int))
 (w_m_Div64 (Z / 18446744073709551616) (Z % 18446744073709551616) yi13 (fun (yi14 : Int) (_ : Int) => 
 (asr (!(decide ((g : Int) = (0 : Int))))
 (asr (!(decide (yi13 = (0 : Int))))
 (w_m_Mul64 (IntKind.u64.wrap (Int.tdiv (IntKind.u64.wrap p1) (g : Int))) (IntKind.u64.wrap (Int.tdiv (IntKind.u64.wrap p3) yi13)) (fun (yi16 : Int) (yi17 : Int) => 
 (cbr (decide (yi16 > (0 : Int)))
 (K (0 : Int) (0 : Int) (16 : Int))
 (w_ratio_signed s yi14 yi17 (fun (yi18 : Int) (yi19 : Int) (yi20 : Int) => 
 (K yi18 yi19 yi20))))))))))))))) := by
  unfold outA at k
  have eZ : Z / 18446744073709551616 * 18446744073709551616 + Z % 18446744073709551616 = Z := by omega
  by_cases h0 : Z = 0
  · rw [if_pos h0] at k
    subst h0
    have e1 : ((0 : Int) / 18446744073709551616 == (0 : Int)) = true := by decide
    have e2 : ((0 : Int) % 18446744073709551616 == (0 : Int)) = true := by decide
    rw [e1, cbr_true, e2, cbr_true]
    exact k
  · rw [if_neg h0] at k
    have t := tail_of (s := s) (hi := Z / 18446744073709551616) (lo := Z % 18446744073709551616) (p1 := p1) (p3 := p3) (g := g) (K := K) ⟨by omega, by omega⟩ ⟨by omega, by omega⟩ hg g1 h1 h3 (by rw [eZ]; exact k)
    cases h4 : (Z / 18446744073709551616 == (0 : Int))
    · rw [cbr_false]; exact t
    · rw [cbr_true]
      cases h2 : (Z % 18446744073709551616 == (0 : Int))
      · rw [cbr_false]; exact t
      · have := beq_iff_eq.1 h2
        have := beq_iff_eq.1 h4
        exact absurd (show Z = 0 by omega) h0
theorem outA_congr {s s' : Bool} {Z Z' p1 p3 : Int} {g : Nat} {K : Int → Int → Int → Prop} (k : outA s' Z' p1 p3 g K) (hz : Z = Z') (hs : Z ≠ 0 → s = s') : outA s Z p1 p3 g K := by
 subst hz
 unfold outA at k ⊢
 by_cases h : Z = 0
 · rw [if_pos h] at k ⊢; exact k
 · rw [if_neg h] at k ⊢; rw [hs h]; exact k
theorem Add_of {a b c d : Int} (ha : I64 a) (hb : I64 b) (hc : I64 c) (hd : I64 d) {K : Int → Int → Int → Prop}
   (k : if chk2 a b c d = 0 then outA (decide (a * (d / (Nat.gcd b.natAbs d.natAbs : Nat)) + c * (b / (Nat.gcd b.natAbs d.natAbs : Nat)) < 0))
       ((a * (d / (Nat.gcd b.natAbs d.natAbs : Nat)) + c * (b / (Nat.gcd b.natAbs d.natAbs : Nat))).natAbs : Int) b d (Nat.gcd b.natAbs d.natAbs) K
     else K 0 0 (chk2 a b c d)) : w_ratio_Add a b c d K := by
 unfold w_ratio_Add wv_ratio_Add
 refine check_of ha hb hc hd ?_
 by_cases h : chk2 a b c d = 0
 · rw [if_pos h] at k
   have : (chk2 a b c d != (0 : Int)) = false := by rw [h]; rfl
   rw [this, cbr_false]
   obtain ⟨⟨b1, b2, a1, a2, _⟩, d1, d2, c1, c2, _⟩ := chk2_zero.1 h
   have wb : IntKind.u64.wrap b = ((b.natAbs : Nat) : Int) := by rw [wu64 ⟨by omega, by omega⟩]; omega
   have wd : IntKind.u64.wrap d = ((d.natAbs : Nat) : Int) := by rw [wu64 ⟨by omega, by omega⟩]; omega
   have g1 : 0 < Nat.gcd b.natAbs d.natAbs := Nat.gcd_pos_of_pos_right _ (by omega)
   have g2 : Nat.gcd b.natAbs d.natAbs ≤ d.natAbs := Nat.le_of_dvd (by omega) (Nat.gcd_dvd_right _ _)
   have go : w_ratio_gcd (IntKind.u64.wrap b) (IntKind.u64.wrap d) = w_ratio_gcd ((b.natAbs : Nat) : Int) ((d.natAbs : Nat) : Int) := by rw [wb, wd]
   rw [go]
   refine gcd_of _ _ _ ?_
   generalize Nat.gcd b.natAbs d.natAbs = g at *
   have n3 : (!(decide ((g : Int) = (0 : Int)))) = true := by rw [decide_eq_false (by omega)]; rfl
   have q1 : 0 ≤ b / (g : Int) := Int.ediv_nonneg (by omega) (by omega)
   have q2 : 0 ≤ d / (g : Int) := Int.ediv_nonneg (by omega) (by omega)
   have q3 : b / (g : Int) ≤ b := Int.ediv_le_self _ (by omega)
   have q4 : d / (g : Int) ≤ d := Int.ediv_le_self _ (by omega)
   have ed : IntKind.u64.wrap (Int.tdiv (IntKind.u64.wrap d) (g : Int)) = d / (g : Int) := by
     rw [wu64 (n := d) ⟨by omega, by omega⟩, tdivn (by omega), wu64 ⟨by omega, by omega⟩]
   have eb : IntKind.u64.wrap (Int.tdiv (IntKind.u64.wrap b) (g : Int)) = b / (g : Int) := by
     rw [wu64 (n := b) ⟨by omega, by omega⟩, tdivn (by omega), wu64 ⟨by omega, by omega⟩]
   have asr_of : ∀ {c : Bool} {P : Prop}, c = true → P → asr c P := fun h p => by rw [h, asr_true]; exact p
   rw [size_eq ha]
   refine asr_of n3 ?_
   rw [Mul64_eq (U64.abs ha) (by rw [ed]; exact ⟨by omega, by omega⟩), size_eq hc]
   refine asr_of n3 ?_
   rw [Mul64_eq (U64.abs hc) (by rw [eb]; exact ⟨by omega, by omega⟩)]
   obtain ⟨X, hX⟩ : ∃ X, X = ((a.natAbs : Nat) : Int) * IntKind.u64.wrap (Int.tdiv (IntKind.u64.wrap d) (g : Int)) := ⟨_, rfl⟩
   obtain ⟨Y, hY⟩ : ∃ Y, Y = ((c.natAbs : Nat) : Int) * IntKind.u64.wrap (Int.tdiv (IntKind.u64.wrap b) (g : Int)) := ⟨_, rfl⟩
   rw [← hX, ← hY]
   rw [ed] at hX; rw [eb] at hY
   have X0 : 0 ≤ X := by rw [hX]; exact Int.mul_nonneg (by omega) q2
   have Y0 : 0 ≤ Y := by rw [hY]; exact Int.mul_nonneg (by omega) q1
   have X1 : X ≤ 1000000000000000000 * 1000000000000000000 := by rw [hX]; exact Int.mul_le_mul (by omega) (by omega) q2 (by omega)
   have Y1 : Y ≤ 1000000000000000000 * 1000000000000000000 := by rw [hY]; exact Int.mul_le_mul (by omega) (by omega) q1 (by omega)
   have ax : a * (d / (g : Int)) = if a < 0 then -X else X := by
     split
     · rw [hX, show ((a.natAbs : Nat) : Int) = -a by omega, Int.neg_mul, Int.neg_neg]
     · rw [hX, show ((a.natAbs : Nat) : Int) = a by omega]
   have cy : c * (b / (g : Int)) = if c < 0 then -Y else Y := by
     split
     · rw [hY, show ((c.natAbs : Nat) : Int) = -c by omega, Int.neg_mul, Int.neg_neg]
     · rw [hY, show ((c.natAbs : Nat) : Int) = c by omega]
   rw [ax, cy] at k
   clear hX hY ax cy ed eb n3
   by_cases hs : decide (a < 0) = decide (c < 0)
   · have e : (decide (a < 0) == decide (c < 0)) = true := beq_iff_eq.2 hs
     rw [e, cbr_true]
     refine add_wide X0 Y0 (by omega) (fun c1 c2 => ?_)
     refine fin_of (by omega) (by omega) g1 (by omega) ⟨by omega, b2⟩ ⟨by omega, d2⟩ (outA_congr k ?_ ?_)
     · by_cases h1 : a < 0
       · have h2 : c < 0 := by simpa [h1] using hs.symm
         rw [if_pos h1, if_pos h2]; omega
       · have h2 : ¬ c < 0 := by simpa [h1] using hs.symm
         rw [if_neg h1, if_neg h2]; omega
     · intro h0
       by_cases h1 : a < 0
       · have h2 : c < 0 := by simpa [h1] using hs.symm
         rw [if_pos h1, if_pos h2, decide_eq_true h1, decide_eq_true (by omega)]
       · have h2 : ¬ c < 0 := by simpa [h1] using hs.symm
         rw [if_neg h1, if_neg h2, decide_eq_false h1, decide_eq_false (by omega)]
   · have e : (decide (a < 0) == decide (c < 0)) = false := beq_eq_false_iff_ne.2 hs
     rw [e, cbr_false]
     have h12 : (a < 0 ∧ ¬ c < 0) ∨ (¬ a < 0 ∧ c < 0) := by
       by_cases h1 : a < 0 <;> by_cases h2 : c < 0 <;> simp [h1, h2] at hs ⊢
     by_cases hlt : X < Y
     · have kk : outA (!decide (a < 0)) (Y - X) b d g K := by
         refine outA_congr k ?_ ?_
         · rcases h12 with ⟨h1, h2⟩ | ⟨h1, h2⟩
           · rw [if_pos h1, if_neg h2]; omega
           · rw [if_neg h1, if_pos h2]; omega
         · intro h0
           rcases h12 with ⟨h1, h2⟩ | ⟨h1, h2⟩
           · rw [if_pos h1, if_neg h2, decide_eq_true h1, decide_eq_false (by omega)]; rfl
           · rw [if_neg h1, if_pos h2, decide_eq_false h1, decide_eq_true (by omega)]; rfl
       by_cases h1 : X / 18446744073709551616 < Y / 18446744073709551616
       · rw [decide_eq_true h1, cbr_true]
         refine sub_wide X0 (by omega) (by omega) (fun c1 c2 => ?_)
         exact fin_of (by omega) (by omega) g1 (by omega) ⟨by omega, b2⟩ ⟨by omega, d2⟩ kk
       · have e1 : (X / 18446744073709551616 == Y / 18446744073709551616) = true := beq_iff_eq.2 (by omega)
         rw [decide_eq_false h1, cbr_false, e1, cbr_true, decide_eq_true (show X % 18446744073709551616 < Y % 18446744073709551616 by have := beq_iff_eq.1 e1; omega), cbr_true]
         refine sub_wide X0 (by omega) (by omega) (fun c1 c2 => ?_)
         exact fin_of (by omega) (by omega) g1 (by omega) ⟨by omega, b2⟩ ⟨by omega, d2⟩ kk
     · have kk : outA (decide (a < 0)) (X - Y) b d g K := by
         refine outA_congr k ?_ ?_
         · rcases h12 with ⟨h1, h2⟩ | ⟨h1, h2⟩
           · rw [if_pos h1, if_neg h2]; omega
           · rw [if_neg h1, if_pos h2]; omega
         · intro h0
           rcases h12 with ⟨h1, h2⟩ | ⟨h1, h2⟩
           · rw [if_pos h1, if_neg h2, decide_eq_true h1, decide_eq_true (by omega)]
           · rw [if_neg h1, if_pos h2, decide_eq_false h1, decide_eq_false (by omega)]
       have h1 : ¬ X / 18446744073709551616 < Y / 18446744073709551616 := by omega
       rw [decide_eq_false h1, cbr_false]
       cases e1 : (X / 18446744073709551616 == Y / 18446744073709551616)
       · rw [cbr_false]
         refine sub_wide Y0 (by omega) (by omega) (fun c1 c2 => ?_)
         exact fin_of (by omega) (by omega) g1 (by omega) ⟨by omega, b2⟩ ⟨by omega, d2⟩ kk
       · rw [cbr_true, decide_eq_false (show ¬ X % 18446744073709551616 < Y % 18446744073709551616 by have := beq_iff_eq.1 e1; omega), cbr_false]
         refine sub_wide Y0 (by omega) (by omega) (fun c1 c2 => ?_)
         exact fin_of (by omega) (by omega) g1 (by omega) ⟨by omega, b2⟩ ⟨by omega, d2⟩ kk
 · rw [if_neg h] at k
   have : (chk2 a b c d != (0 : Int)) = true := by rw [bne_iff_ne]; exact h
   rw [this, cbr_true]
   exact k
end Go.Pf.Vc
namespace Go.Pf.Vc
open Go Go.Pf
theorem RV.neg {c d : Int} (h : RV c d) : RV (-c) d := by
 obtain ⟨d1, d2, c1, c2, g⟩ := h
 exact ⟨d1, d2, by omega, by omega, by rw [Int.natAbs_neg]; exact g⟩
end Go.Pf.Vc
namespace Go.Pf.Vc
open Go Go.Pf
theorem asr_of {c : Bool} {P : Prop} (h : c = true) (p : P) : asr c P := by rw [h, asr_true]; exact p
end Go.Pf.Vc
namespace Go.Pf.Vc
open Go Go.Pf
def incr (l : List Int) (i : Nat) : Prop := ∀ j, i ≤ j → j + 1 < l.length → l.getD j 0 < l.getD (j + 1) 0
end Go.Pf.Vc
namespace Go.Pf.Vc
open Go Go.Pf
def small (q : Rat) : Prop := -1000000000000000000 ≤ q.num ∧ q.num ≤ 1000000000000000000 ∧ (q.den : Int) ≤ 1000000000000000000
instance (q : Rat) : Decidable (small q) := by unfold small; infer_instance
theorem small.rv {q : Rat} (h : small q) : RV q.num q.den := by
 obtain ⟨h1, h2, h3⟩ := h
 have := q.den_pos
 exact ⟨by omega, h3, h1, h2, q.reduced⟩
theorem rv_rat {n d : Int} (h : RV n d) : ∃ q : Rat, small q ∧ q.num = n ∧ (q.den : Int) = d := by
 obtain ⟨h1, h2, h3, h4, h5⟩ := h
 refine ⟨⟨n, d.toNat, by omega, ?_⟩, ⟨h3, h4, by show ((d.toNat : Nat) : Int) ≤ _; omega⟩, rfl, by show ((d.toNat : Nat) : Int) = _; omega⟩
 have : d.natAbs = d.toNat := by omega
 rw [this] at h5
 exact h5
theorem small.i1 {q : Rat} (h : small q) : I64 q.num := ⟨by have := h.1; omega, by have := h.2.1; omega⟩
theorem small.i2 {q : Rat} (h : small q) : I64 (q.den : Int) := ⟨by omega, by have := h.2.2; omega⟩
theorem small_chk2 {q r : Rat} (h : small q) (k : small r) : chk2 q.num q.den r.num r.den = 0 := chk2_zero.2 ⟨h.rv, k.rv⟩
def fitK (q : Rat) (K : Int → Int → Int → Prop) : Prop := if small q then K q.num q.den 0 else K 0 0 16
theorem outS_fit {q : Rat} {s : Bool} {a b : Int} (ha : a = (q.num.natAbs : Int)) (hb : b = (q.den : Int)) (hs : q.num ≠ 0 → s = decide (q.num < 0)) (K : Int → Int → Int → Prop) : outS s a b K = fitK q K := by
 unfold outS fitK
 subst ha hb
 by_cases h : small q
 · have h' := h
   obtain ⟨h1, h2, h3⟩ := h
   rw [if_pos (show _ ∧ _ from ⟨by omega, h3⟩), if_pos h']
   have e : (if s = true then -((q.num.natAbs : Nat) : Int) else ((q.num.natAbs : Nat) : Int)) = q.num := by
     by_cases h0 : q.num = 0
     · rw [h0]; cases s <;> rfl
     · rw [hs h0]
       by_cases h1 : q.num < 0
       · rw [decide_eq_true h1, if_pos rfl]; omega
       · rw [decide_eq_false h1, if_neg (by simp)]; omega
   rw [e]
 · rw [if_neg h, if_neg]
   intro h2
   exact h ⟨by omega, by omega, h2.2⟩
theorem dvd_gcd_l (x : Int) (d : Nat) : ((Nat.gcd x.natAbs d : Nat) : Int) ∣ x := by
 rw [← Int.dvd_natAbs, Int.ofNat_dvd]; exact Nat.gcd_dvd_left _ _
theorem det_fit {w : (Int → Int → Int → Prop) → Prop} {q : Rat} (det : ∀ r0 r1 r2, (∀ K : Int → Int → Int → Prop, K r0 r1 r2 → w K) → ∀ K, w K = K r0 r1 r2) (h : ∀ K, fitK q K → w K) (K : Int → Int → Int → Prop) : w K = fitK q K := by
 unfold fitK at h ⊢
 by_cases hs : small q
 · simp only [if_pos hs] at h ⊢
   exact det _ _ _ h K
 · simp only [if_neg hs] at h ⊢
   exact det _ _ _ h K
end Go.Pf.Vc
namespace Go.Pf.Vc
open Go Go.Pf
theorem add_parts (q r : Rat) : (q + r).num = (q.num * (r.den / Nat.gcd q.den r.den : Nat) + r.num * (q.den / Nat.gcd q.den r.den : Nat)) / (Nat.gcd (q.num * (r.den / Nat.gcd q.den r.den : Nat) + r.num * (q.den / Nat.gcd q.den r.den : Nat)).natAbs (Nat.gcd q.den r.den) : Nat) ∧
   (q + r).den = (q.den / Nat.gcd q.den r.den) * r.den / Nat.gcd (q.num * (r.den / Nat.gcd q.den r.den : Nat) + r.num * (q.den / Nat.gcd q.den r.den : Nat)).natAbs (Nat.gcd q.den r.den) := by
 have e : q + r = Rat.add q r := rfl
 rw [e]
 delta Rat.add
 by_cases hg : q.den.gcd r.den = 1
 · simp only [hg, dif_pos, Nat.div_one, Nat.gcd_one_right, Int.natCast_one, Int.ediv_one, and_self]
 · simp only [hg, dif_neg, not_false_eq_true, Rat.maybeNormalize_eq]
   constructor
   · first | rfl | simp only [Int.divExact_eq_tdiv]
   · first | rfl | simp only []
theorem outA_fit {q r : Rat} {Z : Int} {g : Nat} (e1 : (q + r).num = Z / (Nat.gcd Z.natAbs g : Nat)) (e2 : (q + r).den = (q.den / g) * r.den / Nat.gcd Z.natAbs g) (hgp : 0 < g) (hgd : g ∣ r.den) (K : Int → Int → Int → Prop) :
   outA (decide (Z < 0)) (Z.natAbs : Int) q.den r.den g K = fitK (q + r) K := by
 unfold outA
 by_cases h0 : Z = 0
 · subst h0
   have : (q + r) = 0 := by
     apply Rat.num_eq_zero.1
     rw [e1]; simp
   rw [this, if_pos (by rfl)]
   unfold fitK
   rw [if_pos (by decide)]; rfl
 · have hne : ¬ ((Z.natAbs : Nat) : Int) = 0 := by omega
   rw [if_neg hne]
   have hdv : ((Nat.gcd Z.natAbs g : Nat) : Int) ∣ Z := dvd_gcd_l _ _
   have hhp : 0 < Nat.gcd Z.natAbs g := Nat.gcd_pos_of_pos_right _ hgp
   have hhg : Nat.gcd Z.natAbs g ∣ r.den := Nat.dvd_trans (Nat.gcd_dvd_right _ _) hgd
   refine outS_fit ?_ ?_ ?_ K
   · rw [e1, Int.natAbs_ediv_of_dvd hdv]; simp
   · rw [e2]; simp only [Int.toNat_natCast]; rw [Nat.mul_div_assoc _ hhg]
   · intro h
     rw [e1]
     obtain ⟨k, hk⟩ := hdv
     revert hhp hk
     generalize Nat.gcd Z.natAbs g = h
     intro hhp hk
     have e : Z / (h : Int) = k := by rw [hk, Int.mul_ediv_cancel_left _ (by omega)]
     rw [e]
     have : Z < 0 ↔ k < 0 := by
       rw [hk]
       constructor
       · intro hk; refine Int.not_le.1 fun hk2 => ?_
         have := Int.mul_nonneg (show 0 ≤ (h : Int) by omega) hk2
         omega
       · intro hk; exact Int.mul_neg_of_pos_of_neg (by omega) hk
     simp only [this]
theorem add_fit (q r : Rat) (K : Int → Int → Int → Prop) :
   outA (decide (q.num * ((r.den : Int) / (Nat.gcd (q.den : Int).natAbs (r.den : Int).natAbs : Nat)) + r.num * ((q.den : Int) / (Nat.gcd (q.den : Int).natAbs (r.den : Int).natAbs : Nat)) < 0))
     ((q.num * ((r.den : Int) / (Nat.gcd (q.den : Int).natAbs (r.den : Int).natAbs : Nat)) + r.num * ((q.den : Int) / (Nat.gcd (q.den : Int).natAbs (r.den : Int).natAbs : Nat))).natAbs : Int) q.den r.den (Nat.gcd (q.den : Int).natAbs (r.den : Int).natAbs) K = fitK (q + r) K := by
 obtain ⟨e1, e2⟩ := add_parts q r
 rw [Int.natCast_ediv, Int.natCast_ediv] at e1 e2
 exact outA_fit e1 e2 (Nat.gcd_pos_of_pos_left _ q.den_pos) (Nat.gcd_dvd_right _ _) K
theorem rAdd_eq {q r : Rat} (hq : small q) (hr : small r) (K : Int → Int → Int → Prop) : w_ratio_Add q.num q.den r.num r.den K = fitK (q + r) K :=
 det_fit (fun r0 r1 r2 h K => det_ratio_Add _ _ _ _ r0 r1 r2 h K) (fun K k => Add_of hq.i1 hq.i2 hr.i1 hr.i2 (by rw [if_pos (small_chk2 hq hr), add_fit]; exact k)) K
def cmpQ (q r : Rat) : Int := if q < r then -1 else if r < q then 1 else 0
theorem cmpR_eq (q r : Rat) : cmpR q.num q.den r.num r.den = cmpQ q r := by
 unfold cmpR cmp3 cmpQ
 simp only [Rat.lt_iff]
theorem rCmp_eq {q r : Rat} (hq : small q) (hr : small r) (K : Int → Int → Prop) : w_ratio_Cmp q.num q.den r.num r.den K = K (cmpQ q r) 0 :=
 det_ratio_Cmp _ _ _ _ _ _ (fun K k => Cmp_of hq.i1 hq.i2 hr.i1 hr.i2 (by rw [small_chk2 hq hr, if_pos rfl, cmpR_eq]; exact k)) K
theorem rCheck_eq {n d : Int} (hn : I64 n) (hd : I64 d) (K : Int → Prop) : w_ratio_Check n d K = K (chk n d) :=
 det_ratio_Check _ _ _ (fun _ k => Check_of hn hd k) K
end Go.Pf.Vc
namespace Go.Pf.Vc
open Go Go.Pf
theorem sAbs_eq {p : Int} (h : I64 p) (K : Int → Prop) : w_r01_abs p K = K (p.natAbs : Int) := by
 unfold I64 at h
 unfold w_r01_abs wv_r01_abs
 by_cases hp : p < 0
 · have e0 : IntKind.i64.wrap (p + 1) = p + 1 := wi64 ⟨by omega, by omega⟩
   have e1 : IntKind.i64.wrap ((0 : Int) - (p + 1)) = -(p + 1) := by rw [wi64 ⟨by omega, by omega⟩]; omega
   have e2 : IntKind.u64.wrap (-(p + 1)) = -(p + 1) := wu64 ⟨by omega, by omega⟩
   have e3 : IntKind.u64.wrap (-(p + 1) + 1) = (p.natAbs : Int) := by rw [wu64 ⟨by omega, by omega⟩]; omega
   rw [decide_eq_true hp, cbr_true, e0, e1, e2, e3]
 · rw [decide_eq_false hp, cbr_false, wu64 ⟨by omega, by omega⟩]
   congr 1
   omega
theorem sgcd_loop (x : Int → Int → Bool → Prop) : ∀ (n a b : Nat), b < n → L_r01_gcd_0_0 x n (a : Int) (b : Int) = x ((Nat.gcd a b : Nat) : Int) 0 false
 | 0, a, b, h => by omega
 | n + 1, a, b, h => by
   unfold L_r01_gcd_0_0
   by_cases hb : b = 0
   · subst hb
     simp [cbr]
   · have h1 : ((b : Int) != 0) = true := by simp; omega
     have h2 : ¬ ((b : Int) = 0) := by omega
     rw [h1, cbr_true, decide_eq_false h2, Bool.not_false, asr_true]
     have e : Int.tmod (a : Int) (b : Int) = ((a % b : Nat) : Int) := by rw [Int.tmod_eq_emod_of_nonneg (by omega)]; omega
     rw [e, sgcd_loop x n b (a % b) (by have := Nat.mod_lt a (show b > 0 by omega); omega)]
     rw [Nat.gcd_comm a b, Nat.gcd_rec b a, Nat.gcd_comm]
theorem sgcd_eq (a b : Nat) (K : Int → Prop) : w_r01_gcd (a : Int) (b : Int) K = K ((Nat.gcd a b : Nat) : Int) := by
 refine det_r01_gcd _ _ _ (fun K h => ?_) K
 unfold w_r01_gcd wv_r01_gcd
 exact ⟨b + 1, by rw [sgcd_loop _ (b + 1) a b (by omega)]; exact h⟩
theorem bne_f {a b : Int} (h : a = b) : (a != b) = false := by simp [h]
theorem bne_t {a b : Int} (h : a ≠ b) : (a != b) = true := by simp [h]
theorem beq_f {a b : Int} (h : a ≠ b) : (a == b) = false := by simp [h]
theorem beq_t {a b : Int} (h : a = b) : (a == b) = true := by simp [h]
theorem sCheck_eq {n d : Int} (hn : I64 n) (_ : I64 d) (K : Int → Prop) : w_r01_Check n d K = K (chk n d) := by
 unfold w_r01_Check wv_r01_Check
 by_cases h1 : d < 1
 · rw [decide_eq_true h1, cbr_true, chk, if_neg (fun h => by have := h.1; omega)]
 · rw [decide_eq_false h1, cbr_false]
   by_cases h2 : d > 1000000000000000000
   · rw [decide_eq_true h2, cbr_true, chk, if_neg (fun h => by have := h.2.1; omega)]
   · rw [decide_eq_false h2, cbr_false]
     by_cases h3 : n < -1000000000000000000
     · rw [decide_eq_true h3, cbr_true, chk, if_neg (fun h => by have := h.2.2.1; omega)]
     · rw [decide_eq_false h3, cbr_false]
       by_cases h4 : n > 1000000000000000000
       · rw [decide_eq_true h4, cbr_true, chk, if_neg (fun h => by have := h.2.2.2.1; omega)]
       · have ed : IntKind.u64.wrap d = ((d.natAbs : Nat) : Int) := by rw [wu64 ⟨by omega, by omega⟩]; omega
         rw [decide_eq_false h4, cbr_false, sAbs_eq hn, ed, sgcd_eq]
         by_cases h5 : Nat.gcd n.natAbs d.natAbs = 1
         · rw [h5, bne_f (by rfl), cbr_false, chk, if_pos ⟨by omega, by omega, by omega, by omega, h5⟩]
         · rw [bne_t (by omega), cbr_true, chk, if_neg (fun h => h5 h.2.2.2.2)]
theorem sBoth_eq {a b c d : Int} (ha : I64 a) (hb : I64 b) (hc : I64 c) (hd : I64 d) (K : Int → Prop) : w_r01_Both a b c d K = K (chk2 a b c d) := by
 unfold w_r01_Both wv_r01_Both
 rw [sCheck_eq ha hb, sCheck_eq ha hb, sCheck_eq hc hd, chk2]
 by_cases h : chk a b = 0
 · rw [bne_f h, cbr_false, if_pos h]
 · rw [bne_t h, cbr_true, if_neg h]
theorem or32 {m s : Int} (_ : 0 ≤ m) (hs : 0 ≤ s ∧ s < 4294967296) : IntKind.u64.wrap (BitVec.ofInt IntKind.u64.bits (IntKind.u64.wrap (m * 4294967296)) ||| BitVec.ofInt IntKind.u64.bits s).toNat = m % 4294967296 * 4294967296 + s := by
 have e : IntKind.u64.wrap (m * 4294967296) = m % 4294967296 * 2 ^ 32 := by rw [wu64']; omega
 rw [e, or_eq (k := 32) (by omega) ⟨hs.1, by omega⟩ ⟨by omega, by omega⟩ (by omega)]
 omega
theorem times_eq {a b : Int} (ha : U64 a) (hb : U64 b) (K : Int → Int → Prop) : w_r01_times a b K = K (a * b / 18446744073709551616) (a * b % 18446744073709551616) := by
 unfold w_r01_times wv_r01_times
 simp only [fdiv32]
 rw [mask32 ha, mask32 hb]
 unfold U64 at ha hb
 have ha' := ha; have hb' := hb
 obtain ⟨x1, hx1⟩ : ∃ x, x = a / 4294967296 := ⟨_, rfl⟩
 obtain ⟨x0, hx0⟩ : ∃ x, x = a % 4294967296 := ⟨_, rfl⟩
 obtain ⟨y1, hy1⟩ : ∃ x, x = b / 4294967296 := ⟨_, rfl⟩
 obtain ⟨y0, hy0⟩ : ∃ x, x = b % 4294967296 := ⟨_, rfl⟩
 rw [← hx1, ← hx0, ← hy1, ← hy0]
 have b1 : 0 ≤ x1 ∧ x1 ≤ 4294967295 := by omega
 have b2 : 0 ≤ x0 ∧ x0 ≤ 4294967295 := by omega
 have b3 : 0 ≤ y1 ∧ y1 ≤ 4294967295 := by omega
 have b4 : 0 ≤ y0 ∧ y0 ≤ 4294967295 := by omega
 have pb : ∀ x y : Int, 0 ≤ x ∧ x ≤ 4294967295 → 0 ≤ y ∧ y ≤ 4294967295 → 0 ≤ x * y ∧ x * y ≤ 18446744065119617025 := by
   intro x y hx hy
   refine ⟨Int.mul_nonneg hx.1 hy.1, ?_⟩
   have := Int.mul_le_mul hx.2 hy.2 hy.1 (by omega : (0 : Int) ≤ 4294967295)
   omega
 have p1 := pb x1 y1 b1 b3
 have p2 := pb x1 y0 b1 b4
 have p3 := pb x0 y1 b2 b3
 have p4 := pb x0 y0 b2 b4
 have ea : a = x1 * 4294967296 + x0 := by omega
 have eb : b = y1 * 4294967296 + y0 := by omega
 have eab : a * b = x1 * y1 * 18446744073709551616 + x1 * y0 * 4294967296 + x0 * y1 * 4294967296 + x0 * y0 := by
   rw [ea, eb]; grind
 obtain ⟨P, hP⟩ : ∃ x, x = x1 * y1 := ⟨_, rfl⟩
 obtain ⟨Q, hQ⟩ : ∃ x, x = x1 * y0 := ⟨_, rfl⟩
 obtain ⟨R, hR⟩ : ∃ x, x = x0 * y1 := ⟨_, rfl⟩
 obtain ⟨S, hS⟩ : ∃ x, x = x0 * y0 := ⟨_, rfl⟩
 rw [← hP] at p1; rw [← hQ] at p2; rw [← hR] at p3; rw [← hS] at p4
 rw [← hP, ← hQ, ← hR, ← hS] at eab ⊢
 have w1 : IntKind.u64.wrap S = S := wu64 ⟨by omega, by omega⟩
 have w2 : IntKind.u64.wrap Q = Q := wu64 ⟨by omega, by omega⟩
 have w3 : IntKind.u64.wrap R = R := wu64 ⟨by omega, by omega⟩
 have w4 : IntKind.u64.wrap P = P := wu64 ⟨by omega, by omega⟩
 rw [w1, w2, w3, w4, mask32 (p := Q) ⟨by omega, by omega⟩, mask32 (p := S) ⟨by omega, by omega⟩]
 have w5 : IntKind.u64.wrap (Q % 4294967296 + R) = Q % 4294967296 + R := wu64 ⟨by omega, by omega⟩
 rw [w5]
 have w6 : IntKind.u64.wrap (Q % 4294967296 + R + S / 4294967296) = Q % 4294967296 + R + S / 4294967296 := wu64 ⟨by omega, by omega⟩
 rw [w6, or32 (by omega) ⟨by omega, by omega⟩]
 have hab : a * b ≤ 18446744073709551615 * 18446744073709551615 := Int.mul_le_mul ha'.2 hb'.2 hb'.1 (by omega : (0 : Int) ≤ 18446744073709551615)
 rw [eab] at hab ⊢
 have w7 : IntKind.u64.wrap (P + Q / 4294967296) = P + Q / 4294967296 := wu64 ⟨by omega, by omega⟩
 rw [w7, wu64 ⟨by omega, by omega⟩]
 congr 1 <;> omega
theorem plus_eq {X Y : Int} (hx : 0 ≤ X) (hy : 0 ≤ Y) (hs : X + Y < 340282366920938463463374607431768211456) (K : Int → Int → Prop) :
   w_r01_plus (X / 18446744073709551616) (X % 18446744073709551616) (Y / 18446744073709551616) (Y % 18446744073709551616) K = K ((X + Y) / 18446744073709551616) ((X + Y) % 18446744073709551616) := by
 unfold w_r01_plus wv_r01_plus
 rw [wu64', wu64', wu64']
 by_cases h : (X % 18446744073709551616 + Y % 18446744073709551616) % 18446744073709551616 < X % 18446744073709551616
 · rw [decide_eq_true h, cbr_true]
   congr 1 <;> omega
 · rw [decide_eq_false h, cbr_false]
   congr 1 <;> omega
theorem minus_eq {X Y : Int} (hy : 0 ≤ Y) (hs : Y ≤ X) (hx : X < 340282366920938463463374607431768211456) (K : Int → Int → Prop) :
   w_r01_minus (X / 18446744073709551616) (X % 18446744073709551616) (Y / 18446744073709551616) (Y % 18446744073709551616) K = K ((X - Y) / 18446744073709551616) ((X - Y) % 18446744073709551616) := by
 unfold w_r01_minus wv_r01_minus
 rw [wu64', wu64', wu64']
 by_cases h : X % 18446744073709551616 < Y % 18446744073709551616
 · rw [decide_eq_true h, cbr_true]
   congr 1 <;> omega
 · rw [decide_eq_false h, cbr_false]
   congr 1 <;> omega
theorem lessW_eq {X Y : Int} (_ : 0 ≤ X) (_ : 0 ≤ Y) (K : Bool → Prop) :
   w_r01_less (X / 18446744073709551616) (X % 18446744073709551616) (Y / 18446744073709551616) (Y % 18446744073709551616) K = K (decide (X < Y)) := by
 unfold w_r01_less wv_r01_less
 by_cases h : X / 18446744073709551616 < Y / 18446744073709551616
 · rw [decide_eq_true h, cbr_true, decide_eq_true (by omega)]
 · rw [decide_eq_false h, cbr_false]
   by_cases h2 : X / 18446744073709551616 = Y / 18446744073709551616
   · rw [beq_t h2, cbr_true]
     congr 1
     rw [decide_eq_decide]; omega
   · rw [beq_f h2, cbr_false, decide_eq_false (by omega)]
theorem and63 {i : Int} (h : 0 ≤ i ∧ i ≤ 127) : IntKind.i64.wrap (BitVec.ofInt IntKind.i64.bits i &&& BitVec.ofInt IntKind.i64.bits (63 : Int)).toNat = i % 64 := by
 have e1 : (BitVec.ofInt 64 i).toNat = i.toNat := by
   rw [BitVec.toNat_ofInt]; omega
 have e2 : (BitVec.ofInt 64 (63 : Int)).toNat = 63 := rfl
 have e3 : (BitVec.ofInt IntKind.i64.bits i &&& BitVec.ofInt IntKind.i64.bits (63 : Int)).toNat = i.toNat % 64 := by
   show (BitVec.ofInt 64 i &&& BitVec.ofInt 64 (63 : Int)).toNat = _
   rw [BitVec.toNat_and, e1, e2]
   exact Nat.and_two_pow_sub_one_eq_mod i.toNat 6
 rw [e3, wi64 ⟨by omega, by omega⟩]
 omega
theorem and1 {p : Int} (h : U64 p) : IntKind.u64.wrap (BitVec.ofInt IntKind.u64.bits p &&& BitVec.ofInt IntKind.u64.bits (1 : Int)).toNat = p % 2 := by
 unfold U64 at h
 have e1 : (BitVec.ofInt 64 p).toNat = p.toNat := by
   rw [BitVec.toNat_ofInt]; omega
 have e2 : (BitVec.ofInt 64 (1 : Int)).toNat = 1 := rfl
 have e3 : (BitVec.ofInt IntKind.u64.bits p &&& BitVec.ofInt IntKind.u64.bits (1 : Int)).toNat = p.toNat % 2 := by
   show (BitVec.ofInt 64 p &&& BitVec.ofInt 64 (1 : Int)).toNat = _
   rw [BitVec.toNat_and, e1, e2]
   exact Nat.and_two_pow_sub_one_eq_mod p.toNat 1
 rw [e3, wu64']
 omega
theorem or1 {m s : Int} (hm : 0 ≤ m ∧ m ≤ 9223372036854775807) (hs : 0 ≤ s ∧ s < 2) : IntKind.u64.wrap (BitVec.ofInt IntKind.u64.bits (m * 2) ||| BitVec.ofInt IntKind.u64.bits s).toNat = m * 2 + s := by
 have := or_eq (a := m) (b := s) (k := 1) hm.1 ⟨hs.1, by omega⟩ ⟨by omega, by omega⟩ (by omega)
 simpa using this
theorem pow_cast (i : Nat) : (2 : Int) ^ i = ((2 ^ i : Nat) : Int) := by rw [Int.natCast_pow]; rfl
theorem bit_lo' {W : Nat} (hW : W = 2 ^ 64) {A : Int} (hA : 0 ≤ A) {i : Nat} (hi : i < 64) : A % (W : Int) / (2 ^ i : Int) % ((2 : Nat) : Int) = A / (2 ^ i : Int) % ((2 : Nat) : Int) := by
 obtain ⟨a, rfl⟩ : ∃ a : Nat, A = a := ⟨A.toNat, by omega⟩
 have : (a % W / 2 ^ i % 2 : Nat) = a / 2 ^ i % 2 := by
   have e : W = 2 ^ i * 2 ^ (64 - i) := by rw [← Nat.pow_add]; rw [show i + (64 - i) = 64 by omega, hW]
   rw [e, Nat.mod_mul_right_div_self]
   have e2 : 2 ^ (64 - i) = 2 * 2 ^ (63 - i) := by rw [show 64 - i = (63 - i) + 1 by omega, Nat.pow_succ, Nat.mul_comm]
   rw [e2, Nat.mod_mul_right_mod]
 rw [pow_cast, ← Int.natCast_emod, ← Int.natCast_ediv, ← Int.natCast_emod, ← Int.natCast_ediv, ← Int.natCast_emod, this]
theorem bit_lo {A : Int} (hA : 0 ≤ A) {i : Nat} (hi : i < 64) : A % 18446744073709551616 / (2 ^ i : Int) % 2 = A / (2 ^ i : Int) % 2 := bit_lo' (W := 18446744073709551616) rfl hA hi
theorem bit_hi' {W : Nat} (hW : W = 2 ^ 64) {A : Int} (hA : 0 ≤ A) {i : Nat} (hi : 64 ≤ i) : A / (W : Int) / (2 ^ (i - 64) : Int) = A / (2 ^ i : Int) := by
 obtain ⟨a, rfl⟩ : ∃ a : Nat, A = a := ⟨A.toNat, by omega⟩
 have : (a / W / 2 ^ (i - 64) : Nat) = a / 2 ^ i := by
   have e : (2 ^ i : Nat) = W * 2 ^ (i - 64) := by
     rw [hW, ← Nat.pow_add, show 64 + (i - 64) = i by omega]
   rw [e, Nat.div_div_eq_div_mul]
 rw [pow_cast, pow_cast, ← Int.natCast_ediv, ← Int.natCast_ediv, ← Int.natCast_ediv, this]
theorem bit_hi {A : Int} (hA : 0 ≤ A) {i : Nat} (hi : 64 ≤ i) : A / 18446744073709551616 / (2 ^ (i - 64) : Int) = A / (2 ^ i : Int) := bit_hi' (W := 18446744073709551616) rfl hA hi
theorem div_step {d B q r b : Int} (hd : 0 < d) (hq : B / d = q) (hr : B % d = r) (hb : 0 ≤ b ∧ b ≤ 1) :
   (2 * B + b) / d = (if 2 * r + b ≥ d then 2 * q + 1 else 2 * q) ∧ (2 * B + b) % d = (if 2 * r + b ≥ d then 2 * r + b - d else 2 * r + b) := by
 have h1 := Int.mul_ediv_add_emod B d
 have h2 := Int.emod_nonneg B (show d ≠ 0 by omega)
 have h3 := Int.emod_lt_of_pos B hd
 rw [hq, hr] at h1
 rw [hr] at h2 h3
 split
 · refine (Int.ediv_emod_unique hd).2 ⟨?_, by omega, by omega⟩
   grind
 · refine (Int.ediv_emod_unique hd).2 ⟨?_, by omega, by omega⟩
   grind
end Go.Pf.Vc
namespace Go.Pf.Vc
open Go Go.Pf
theorem split_loop {A d : Int} (hA : 0 ≤ A ∧ A < 340282366920938463463374607431768211456) (hd : 0 < d ∧ d < 9223372036854775808) {x0 : Int → Int → Int → Int → Int → Int → Int → Int → Int → Bool → Prop}
   (k0 : x0 d (A / 18446744073709551616) (A % 18446744073709551616) 0 0 (A / d / 18446744073709551616) (A / d % 18446744073709551616) (A % d) (-1) false) :
   ∀ (k n : Nat), k ≤ 128 → k < n → L_r01_split_0_0 w_r01_plus x0 n d (A / 18446744073709551616) (A % 18446744073709551616) 0 0
     (A / 2 ^ k / d / 18446744073709551616) (A / 2 ^ k / d % 18446744073709551616) (A / 2 ^ k % d) ((k : Int) - 1) := by
 intro k
 induction k with
 | zero =>
   intro n _ hn
   match n, hn with
   | n + 1, _ =>
     unfold L_r01_split_0_0
     rw [decide_eq_false (by omega), cbr_false]
     have e : A / 2 ^ 0 = A := by rw [Int.pow_zero, Int.ediv_one]
     rw [e]
     exact k0
 | succ k ih =>
   intro n hk hn
   match n, hn with
   | n + 1, hn =>
     unfold L_r01_split_0_0
     have e8 : ((k + 1 : Nat) : Int) - 1 = (k : Int) := by omega
     rw [e8, decide_eq_true (by omega), cbr_true]
     rw [and63 (i := (k : Int)) ⟨by omega, by omega⟩]
     have en : (!decide ((k : Int) % 64 < 0)) = true := by rw [decide_eq_false (by omega)]; rfl
     have em : min ((k : Int) % 64).toNat IntKind.u64.bits = k % 64 := by show min _ 64 = _; omega
     rw [en, asr_true, asr_true, em]
     have pp : ∀ m : Nat, (0 : Int) ≤ 2 ^ m := fun m => by rw [pow_cast]; exact Int.natCast_nonneg _
     have p1 : ∀ m : Nat, (0 : Int) < 2 ^ m := fun m => by rw [pow_cast]; exact Int.natCast_pos.2 (Nat.two_pow_pos m)
     simp only [fdivn _ _ (pp _)]
     have hC0 : 0 ≤ A / 2 ^ k := Int.ediv_nonneg hA.1 (pp _)
     have hCA : A / 2 ^ k ≤ A := Int.ediv_le_self _ hA.1
     have hBC : A / 2 ^ (k + 1) = A / 2 ^ k / 2 := by
       rw [Int.pow_succ, Int.ediv_ediv_of_nonneg (pp k)]
     obtain ⟨C, hC⟩ : ∃ C, C = A / 2 ^ k := ⟨_, rfl⟩
     have ih2 := ih n (by omega) (by omega)
     rw [← hC] at hC0 hCA hBC ih2
     rw [hBC]
     obtain ⟨b, hb⟩ : ∃ b, b = C % 2 := ⟨_, rfl⟩
     have hCb : C = 2 * (C / 2) + b := by omega
     obtain ⟨s1, s2⟩ := div_step (B := C / 2) (b := b) hd.1 rfl rfl ⟨by omega, by omega⟩
     rw [← hCb] at s1 s2
     have r0 := Int.emod_nonneg (C / 2) (show d ≠ 0 by omega)
     have r1 := Int.emod_lt_of_pos (C / 2) hd.1
     have q0 : 0 ≤ C / 2 / d := Int.ediv_nonneg (by omega) (by omega)
     have q1 : C / 2 / d ≤ C / 2 := Int.ediv_le_self _ (by omega)
     rw [s1, s2] at ih2
     obtain ⟨q, hq⟩ : ∃ q, q = C / 2 / d := ⟨_, rfl⟩
     obtain ⟨r, hr⟩ : ∃ r, r = C / 2 % d := ⟨_, rfl⟩
     rw [← hq, ← hr] at ih2
     rw [← hq] at q0 q1
     rw [← hr] at r0 r1
     rw [← hq, ← hr]
     have e2 : IntKind.u64.wrap (r * 2) = r * 2 := wu64 ⟨by omega, by omega⟩
     rw [e2, wi64 (n := (k : Int) - 1) ⟨by omega, by omega⟩]
     rw [plus_eq q0 q0 (by omega), plus_eq q0 q0 (by omega)]
     have hlo : 0 ≤ A % 18446744073709551616 / 2 ^ (k % 64) ∧ A % 18446744073709551616 / 2 ^ (k % 64) ≤ 18446744073709551615 := by
       refine ⟨Int.ediv_nonneg (by omega) (pp _), ?_⟩
       have := Int.ediv_le_self (a := A % 18446744073709551616) (2 ^ (k % 64)) (by omega)
       omega
     have hhi : 0 ≤ A / 18446744073709551616 / 2 ^ (k % 64) ∧ A / 18446744073709551616 / 2 ^ (k % 64) ≤ 18446744073709551615 := by
       refine ⟨Int.ediv_nonneg (by omega) (pp _), ?_⟩
       have := Int.ediv_le_self (a := A / 18446744073709551616) (2 ^ (k % 64)) (by omega)
       omega
     rw [and1 hlo, and1 hhi]
     have go : ∀ bb : Int, bb = b → cbr (decide (IntKind.u64.wrap (BitVec.ofInt IntKind.u64.bits (r * 2) ||| BitVec.ofInt IntKind.u64.bits bb).toNat ≥ d))
         (L_r01_split_0_0 w_r01_plus x0 n d (A / 18446744073709551616) (A % 18446744073709551616) 0 0 ((q + q) / 18446744073709551616) (IntKind.u64.wrap (BitVec.ofInt IntKind.u64.bits ((q + q) % 18446744073709551616) ||| BitVec.ofInt IntKind.u64.bits (1 : Int)).toNat) (IntKind.u64.wrap ((IntKind.u64.wrap (BitVec.ofInt IntKind.u64.bits (r * 2) ||| BitVec.ofInt IntKind.u64.bits bb).toNat) - d)) ((k : Int) - 1))
         (L_r01_split_0_0 w_r01_plus x0 n d (A / 18446744073709551616) (A % 18446744073709551616) 0 0 ((q + q) / 18446744073709551616) ((q + q) % 18446744073709551616) (IntKind.u64.wrap (BitVec.ofInt IntKind.u64.bits (r * 2) ||| BitVec.ofInt IntKind.u64.bits bb).toNat) ((k : Int) - 1)) := by
       intro bb hbb
       rw [hbb, or1 ⟨r0, by omega⟩ ⟨by omega, by omega⟩]
       by_cases hge : 2 * r + b ≥ d
       · rw [if_pos hge, if_pos hge] at ih2
         rw [decide_eq_true (show r * 2 + b ≥ d by omega), cbr_true, wu64 (n := r * 2 + b - d) ⟨by omega, by omega⟩]
         have e3 : (q + q) % 18446744073709551616 = ((q % 9223372036854775808) * 2) := by omega
         rw [e3, or1 ⟨by omega, by omega⟩ ⟨by omega, by omega⟩]
         have e4 : (q + q) / 18446744073709551616 = (2 * q + 1) / 18446744073709551616 := by omega
         have e5 : q % 9223372036854775808 * 2 + 1 = (2 * q + 1) % 18446744073709551616 := by omega
         rw [e4, e5, show r * 2 + b - d = 2 * r + b - d by omega]
         exact ih2
       · rw [if_neg hge, if_neg hge] at ih2
         rw [decide_eq_false (show ¬ r * 2 + b ≥ d by omega), cbr_false, show q + q = 2 * q by omega, show r * 2 + b = 2 * r + b by omega]
         exact ih2
     by_cases h64 : (k : Int) ≥ 64
     · rw [decide_eq_true h64, cbr_true]
       refine go _ ?_
       rw [show k % 64 = k - 64 by omega, bit_hi hA.1 (by omega), ← hC, hb]
     · rw [decide_eq_false h64, cbr_false]
       refine go _ ?_
       rw [show k % 64 = k by omega, bit_lo hA.1 (by omega), ← hC, hb]
theorem split_eq {A d : Int} (hA : 0 ≤ A ∧ A < 340282366920938463463374607431768211456) (hd : 0 < d ∧ d < 9223372036854775808) (K : Int → Int → Int → Prop) :
   w_r01_split (A / 18446744073709551616) (A % 18446744073709551616) d K = K (A / d / 18446744073709551616) (A / d % 18446744073709551616) (A % d) := by
 refine det_r01_split _ _ _ _ _ _ (fun K h => ?_) K
 unfold w_r01_split wv_r01_split
 refine ⟨129, ?_⟩
 have e := split_loop (x0 := fun yi4 yi5 yi6 yi7 yi8 yi9 yi10 yi11 yi12 yb13 => K yi9 yi10 yi11) hA hd h 128 129 (by omega) (by omega)
 have z : A / 2 ^ 128 = 0 := Int.ediv_eq_zero_of_lt hA.1 hA.2
 rw [z, Int.zero_ediv, Int.zero_emod] at e
 exact e
theorem made_eq {s : Bool} {X Y : Int} (hx : 0 ≤ X) (hy : 0 ≤ Y) (K : Int → Int → Int → Prop) :
   w_r01_made s (X / 18446744073709551616) (X % 18446744073709551616) (Y / 18446744073709551616) (Y % 18446744073709551616) K = outS s X Y K := by
 unfold w_r01_made wv_r01_made outS
 by_cases h : X ≤ 1000000000000000000 ∧ Y ≤ 1000000000000000000
 · have e1 : IntKind.i64.wrap (X % 18446744073709551616) = X := by rw [show X % 18446744073709551616 = X by omega, wi64 ⟨by omega, by omega⟩]
   have e2 : IntKind.i64.wrap (Y % 18446744073709551616) = Y := by rw [show Y % 18446744073709551616 = Y by omega, wi64 ⟨by omega, by omega⟩]
   rw [if_pos h, decide_eq_false (by omega), cbr_false, decide_eq_false (by omega), cbr_false, decide_eq_false (by omega), cbr_false, decide_eq_false (by omega), cbr_false, e1, e2]
   cases s
   · rw [cbr_false]; rfl
   · rw [cbr_true, wi64 ⟨by omega, by omega⟩, Int.zero_sub]; rfl
 · rw [if_neg h]
   by_cases h1 : X / 18446744073709551616 > 0
   · rw [decide_eq_true h1, cbr_true]
   · rw [decide_eq_false h1, cbr_false]
     by_cases h2 : Y / 18446744073709551616 > 0
     · rw [decide_eq_true h2, cbr_true]
     · rw [decide_eq_false h2, cbr_false]
       by_cases h3 : X % 18446744073709551616 > 1000000000000000000
       · rw [decide_eq_true h3, cbr_true]
       · rw [decide_eq_false h3, cbr_false, decide_eq_true (by omega), cbr_true]
end Go.Pf.Vc
namespace Go.Pf.Vc
open Go Go.Pf
theorem nz_asr {g : Int} (h : g ≠ 0) {P : Prop} : asr (!(decide (g = (0 : Int)))) P = P := by
 rw [decide_eq_false h]; rfl
theorem wuN {n : Nat} (h : (n : Int) ≤ 18446744073709551615) : IntKind.u64.wrap (n : Int) = n := wu64 ⟨by omega, h⟩
theorem tdivN (a b : Nat) : Int.tdiv (a : Int) (b : Int) = ((a / b : Nat) : Int) := by
 rw [Int.tdiv_eq_ediv_of_nonneg (by omega), Int.natCast_ediv]
theorem split_nat {A d : Nat} (hA : A < 340282366920938463463374607431768211456) (hd : 0 < d ∧ d < 9223372036854775808) (K : Int → Int → Int → Prop) :
   w_r01_split ((A : Int) / 18446744073709551616) ((A : Int) % 18446744073709551616) d K = K (((A / d : Nat) : Int) / 18446744073709551616) (((A / d : Nat) : Int) % 18446744073709551616) ((A % d : Nat) : Int) := by
 rw [split_eq ⟨by omega, by omega⟩ ⟨by omega, by omega⟩, Int.natCast_ediv, Int.natCast_emod]
theorem times_nat {a b : Nat} (ha : a ≤ 18446744073709551615) (hb : b ≤ 18446744073709551615) (K : Int → Int → Prop) :
   w_r01_times (a : Int) (b : Int) K = K (((a * b : Nat) : Int) / 18446744073709551616) (((a * b : Nat) : Int) % 18446744073709551616) := by
 rw [times_eq ⟨by omega, by omega⟩ ⟨by omega, by omega⟩, Int.natCast_mul]
theorem minus_any {a b c d : Int} {K : Int → Int → Prop} {Z : Prop} (h : ∀ u v, K u v = Z) : w_r01_minus a b c d K = Z := by
 unfold w_r01_minus wv_r01_minus
 simp only [h]
 by_cases e : b < d
 · rw [decide_eq_true e, cbr_true]
 · rw [decide_eq_false e, cbr_false]
theorem sfin_eq {s : Bool} {Z p1 p3 g : Nat} (hZ : Z < 340282366920938463463374607431768211456) (hg : 0 < g) (g1 : g ≤ 1000000000000000000) (h1 : p1 ≤ 1000000000000000000) (h3 : p3 ≤ 1000000000000000000) (K : Int → Int → Int → Prop) :
   cbr (((Z : Int) / 18446744073709551616 == (0 : Int)) && (((Z : Int) % 18446744073709551616 == (0 : Int)) && true)) (K 0 1 0)
     (w_r01_split ((Z : Int) / 18446744073709551616) ((Z : Int) % 18446744073709551616) (g : Int) (fun _ _ yi30 =>
       (w_r01_gcd yi30 (g : Int) (fun yi31 =>
         (w_r01_split ((Z : Int) / 18446744073709551616) ((Z : Int) % 18446744073709551616) yi31 (fun yi32 yi33 _ =>
           (asr (!(decide ((g : Int) = (0 : Int)))) (asr (!(decide (yi31 = (0 : Int))))
             (w_r01_times (IntKind.u64.wrap (Int.tdiv (IntKind.u64.wrap (p1 : Int)) (g : Int))) (IntKind.u64.wrap (Int.tdiv (IntKind.u64.wrap (p3 : Int)) yi31)) (fun yi35 yi36 =>
               (w_r01_made s yi32 yi33 yi35 yi36 (fun yi37 yi38 yi39 => K yi37 yi38 yi39)))))))))))) = outA s (Z : Int) p1 p3 g K := by
 unfold outA
 by_cases h0 : Z = 0
 · subst h0; rfl
 · have e : (((Z : Int) / 18446744073709551616 == (0 : Int)) && (((Z : Int) % 18446744073709551616 == (0 : Int)) && true)) = false := by
     by_cases e1 : (Z : Int) / 18446744073709551616 = 0
     · rw [beq_t e1, beq_f (by omega)]; rfl
     · rw [beq_f e1]; rfl
   have hg0 : 0 < Nat.gcd Z g := Nat.gcd_pos_of_pos_right _ hg
   have hgg : Nat.gcd Z g ≤ g := Nat.gcd_le_right _ hg
   have eg : Nat.gcd (Z % g) g = Nat.gcd Z g := by rw [Nat.gcd_comm Z g, Nat.gcd_rec g Z]
   have q1 : p1 / g ≤ p1 := Nat.div_le_self _ _
   have q3 : p3 / Nat.gcd Z g ≤ p3 := Nat.div_le_self _ _
   rw [e, cbr_false, if_neg (by omega), split_nat hZ ⟨hg, by omega⟩]
   simp only [sgcd_eq, eg]
   rw [split_nat hZ ⟨hg0, by omega⟩, nz_asr (by omega), nz_asr (by omega), wuN (by omega), wuN (by omega), tdivN, tdivN, wuN (by omega), wuN (by omega), times_nat (by omega) (by omega)]
   rw [made_eq (Int.natCast_nonneg _) (Int.natCast_nonneg _)]
   simp only [Int.toNat_natCast]
theorem sAdd_eq {q r : Rat} (hq : small q) (hr : small r) (K : Int → Int → Int → Prop) : w_r01_Add q.num q.den r.num r.den K = fitK (q + r) K := by
 unfold w_r01_Add wv_r01_Add
 rw [sBoth_eq hq.i1 hq.i2 hr.i1 hr.i2, small_chk2 hq hr, bne_f rfl, cbr_false, ← add_fit]
 obtain ⟨a1, a2, a3⟩ := hq
 obtain ⟨b1, b2, b3⟩ := hr
 have dq := q.den_pos
 have dr := r.den_pos
 have g0 : 0 < Nat.gcd q.den r.den := Nat.gcd_pos_of_pos_left _ dq
 have gl : Nat.gcd q.den r.den ≤ q.den := Nat.gcd_le_left _ dq
 have w1 : w_r01_gcd (IntKind.u64.wrap (q.den : Int)) (IntKind.u64.wrap (r.den : Int)) = w_r01_gcd (q.den : Int) (r.den : Int) := by rw [wuN (by omega), wuN (by omega)]
 rw [w1, sgcd_eq, sAbs_eq ⟨by omega, by omega⟩, nz_asr (by omega)]
 show _ = outA (decide (q.num * ((r.den : Int) / (Nat.gcd q.den r.den : Nat)) + r.num * ((q.den : Int) / (Nat.gcd q.den r.den : Nat)) < 0)) ((q.num * ((r.den : Int) / (Nat.gcd q.den r.den : Nat)) + r.num * ((q.den : Int) / (Nat.gcd q.den r.den : Nat))).natAbs : Int) q.den r.den (Nat.gcd q.den r.den) K
 obtain ⟨g, hg⟩ : ∃ g, g = Nat.gcd q.den r.den := ⟨_, rfl⟩
 rw [← hg] at g0 gl ⊢
 have q3 : r.den / g ≤ r.den := Nat.div_le_self _ _
 have q4 : q.den / g ≤ q.den := Nat.div_le_self _ _
 have t1 : IntKind.u64.wrap (Int.tdiv (IntKind.u64.wrap (r.den : Int)) (g : Int)) = ((r.den / g : Nat) : Int) := by rw [wuN (by omega), tdivN, wuN (by omega)]
 have t2 : IntKind.u64.wrap (Int.tdiv (IntKind.u64.wrap (q.den : Int)) (g : Int)) = ((q.den / g : Nat) : Int) := by rw [wuN (by omega), tdivN, wuN (by omega)]
 rw [t1, times_nat (by omega) (by omega)]
 rw [sAbs_eq ⟨by omega, by omega⟩, nz_asr (by omega), t2, times_nat (by omega) (by omega)]
 rw [← Int.natCast_ediv, ← Int.natCast_ediv]
 obtain ⟨x, hx⟩ : ∃ x, x = r.den / g := ⟨_, rfl⟩
 obtain ⟨y, hy⟩ : ∃ y, y = q.den / g := ⟨_, rfl⟩
 rw [← hx] at q3 ⊢
 rw [← hy] at q4 ⊢
 have X1 : q.num.natAbs * x ≤ 1000000000000000000 * 1000000000000000000 := Nat.mul_le_mul (by omega) (by omega)
 have Y1 : r.num.natAbs * y ≤ 1000000000000000000 * 1000000000000000000 := Nat.mul_le_mul (by omega) (by omega)
 have ax : q.num * (x : Int) = if q.num < 0 then -((q.num.natAbs * x : Nat) : Int) else ((q.num.natAbs * x : Nat) : Int) := by
   rw [Int.natCast_mul]
   split
   · rw [show ((q.num.natAbs : Nat) : Int) = -q.num by omega, Int.neg_mul, Int.neg_neg]
   · rw [show ((q.num.natAbs : Nat) : Int) = q.num by omega]
 have cy : r.num * (y : Int) = if r.num < 0 then -((r.num.natAbs * y : Nat) : Int) else ((r.num.natAbs * y : Nat) : Int) := by
   rw [Int.natCast_mul]
   split
   · rw [show ((r.num.natAbs : Nat) : Int) = -r.num by omega, Int.neg_mul, Int.neg_neg]
   · rw [show ((r.num.natAbs : Nat) : Int) = r.num by omega]
 rw [ax, cy]
 obtain ⟨X, hX⟩ : ∃ X, X = q.num.natAbs * x := ⟨_, rfl⟩
 obtain ⟨Y, hY⟩ : ∃ Y, Y = r.num.natAbs * y := ⟨_, rfl⟩
 rw [← hX] at X1 ⊢
 rw [← hY] at Y1 ⊢
 rw [plus_eq (by omega) (by omega) (by omega)]
 have fin := fun (s : Bool) (Z : Nat) (hZ : Z < 340282366920938463463374607431768211456) => sfin_eq (s := s) (Z := Z) (p1 := q.den) (p3 := r.den) (g := g) hZ g0 (by omega) (by omega) (by omega) K
 simp only [t2, ← hy] at fin
 have cong : ∀ (s s' : Bool) (Z Z' : Int), Z = Z' → (Z ≠ 0 → s = s') → outA s Z q.den r.den g K = outA s' Z' q.den r.den g K := by
   intro s s' Z Z' h1 h2
   subst h1
   by_cases h : Z = 0
   · unfold outA; rw [if_pos h, if_pos h]
   · rw [h2 h]
 by_cases hs : decide (q.num < 0) = decide (r.num < 0)
 · have e : (decide (q.num < 0) != decide (r.num < 0)) = false := by rw [hs]; simp
   rw [e, cbr_false, show (X : Int) + Y = ((X + Y : Nat) : Int) by omega]
   rw [fin (decide (q.num < 0)) (X + Y) (by omega)]
   refine cong _ _ _ _ ?_ ?_
   · by_cases h1 : q.num < 0
     · have h2 : r.num < 0 := by simpa [h1] using hs.symm
       rw [if_pos h1, if_pos h2]; omega
     · have h2 : ¬ r.num < 0 := by simpa [h1] using hs.symm
       rw [if_neg h1, if_neg h2]; omega
   · intro h0
     by_cases h1 : q.num < 0
     · have h2 : r.num < 0 := by simpa [h1] using hs.symm
       rw [if_pos h1, if_pos h2, decide_eq_true h1, decide_eq_true (by omega)]
     · have h2 : ¬ r.num < 0 := by simpa [h1] using hs.symm
       rw [if_neg h1, if_neg h2, decide_eq_false h1, decide_eq_false (by omega)]
 · have e : (decide (q.num < 0) != decide (r.num < 0)) = true := by simpa using hs
   have h12 : (q.num < 0 ∧ ¬ r.num < 0) ∨ (¬ q.num < 0 ∧ r.num < 0) := by
     by_cases h1 : q.num < 0 <;> by_cases h2 : r.num < 0 <;> simp [h1, h2] at hs ⊢
   rw [e, cbr_true]
   by_cases hlt : X < Y
   · refine minus_any (fun u v => ?_)
     rw [lessW_eq (by omega) (by omega), decide_eq_true (by omega), cbr_true, minus_eq (by omega) (by omega) (by omega)]
     have ez : (Y : Int) - X = ((Y - X : Nat) : Int) := by omega
     rw [ez]
     rw [fin (decide (r.num < 0)) (Y - X) (by omega)]
     refine cong _ _ _ _ ?_ ?_
     · rcases h12 with ⟨h1, h2⟩ | ⟨h1, h2⟩
       · rw [if_pos h1, if_neg h2]; omega
       · rw [if_neg h1, if_pos h2]; omega
     · intro h0
       rcases h12 with ⟨h1, h2⟩ | ⟨h1, h2⟩
       · rw [if_pos h1, if_neg h2, decide_eq_false h2, decide_eq_false (by omega)]
       · rw [if_neg h1, if_pos h2, decide_eq_true h2, decide_eq_true (by omega)]
   · rw [minus_eq (by omega) (by omega) (by omega), lessW_eq (by omega) (by omega), decide_eq_false (by omega), cbr_false]
     have ez : (X : Int) - Y = ((X - Y : Nat) : Int) := by omega
     rw [ez]
     rw [fin (decide (q.num < 0)) (X - Y) (by omega)]
     refine cong _ _ _ _ ?_ ?_
     · rcases h12 with ⟨h1, h2⟩ | ⟨h1, h2⟩
       · rw [if_pos h1, if_neg h2]; omega
       · rw [if_neg h1, if_pos h2]; omega
     · intro h0
       rcases h12 with ⟨h1, h2⟩ | ⟨h1, h2⟩
       · rw [if_pos h1, if_neg h2, decide_eq_true h1, decide_eq_true (by omega)]
       · rw [if_neg h1, if_pos h2, decide_eq_false h1, decide_eq_false (by omega)]
theorem small.neg {q : Rat} (hq : small q) : small (-q) := by
 obtain ⟨a1, a2, a3⟩ := hq
 unfold small
 rw [Rat.neg_num, Rat.neg_den]
 omega
theorem sLess_eq {q r : Rat} (hq : small q) (hr : small r) (K : Bool → Prop) : w_r01_Less q.num q.den r.num r.den K = K (decide (q < r)) := by
 unfold w_r01_Less wv_r01_Less
 have hq' := hq; have hr' := hr
 obtain ⟨a1, a2, a3⟩ := hq
 obtain ⟨b1, b2, b3⟩ := hr
 have dq := q.den_pos
 have dr := r.den_pos
 have e : decide (q < r) = decide (q.num * r.den < r.num * q.den) := by rw [decide_eq_decide]; exact Rat.lt_iff q r
 rw [e]
 by_cases hs : (decide (q.num < 0) != decide (r.num < 0)) = true
 · rw [hs, cbr_true]
   by_cases h1 : q.num < 0
   · have h2 : ¬ r.num < 0 := by simpa [h1] using hs
     have p1 : q.num * r.den < 0 := Int.mul_neg_of_neg_of_pos h1 (by omega)
     have p2 : 0 ≤ r.num * q.den := Int.mul_nonneg (by omega) (by omega)
     rw [decide_eq_true h1, decide_eq_true (by omega)]
   · have h2 : r.num < 0 := by simpa [h1] using hs
     have p1 : r.num * q.den < 0 := Int.mul_neg_of_neg_of_pos h2 (by omega)
     have p2 : 0 ≤ q.num * r.den := Int.mul_nonneg (by omega) (by omega)
     rw [decide_eq_false h1, decide_eq_false (by omega)]
 · have hs' : (decide (q.num < 0) != decide (r.num < 0)) = false := by simpa using hs
   rw [hs', cbr_false, sAbs_eq hq'.i1, wuN (by omega), times_nat (by omega) (by omega), sAbs_eq hr'.i1, wuN (by omega), times_nat (by omega) (by omega), lessW_eq (Int.natCast_nonneg _) (Int.natCast_nonneg _), lessW_eq (Int.natCast_nonneg _) (Int.natCast_nonneg _), Int.natCast_mul, Int.natCast_mul]
   by_cases h1 : q.num < 0
   · have h2 : r.num < 0 := by simpa [h1] using hs'
     rw [decide_eq_true h1, cbr_true, show ((q.num.natAbs : Nat) : Int) = -q.num by omega, show ((r.num.natAbs : Nat) : Int) = -r.num by omega, Int.neg_mul, Int.neg_mul]
     congr 1
     rw [decide_eq_decide]; omega
   · have h2 : ¬ r.num < 0 := by simpa [h1] using hs'
     rw [decide_eq_false h1, cbr_false, show ((q.num.natAbs : Nat) : Int) = q.num by omega, show ((r.num.natAbs : Nat) : Int) = r.num by omega]
theorem sOf_eq (n : Int) (K : Int → Int → Prop) : w_r01_Of n K = K (n : Rat).num (n : Rat).den := rfl
end Go.Pf.Vc
namespace Go.Pf.Vc
open Go Go.Pf
theorem cbT {c : Prop} [Decidable c] {P Q : Prop} (h : c) : cbr (decide c) P Q = P := by rw [decide_eq_true h, cbr_true]
theorem cbF {c : Prop} [Decidable c] {P Q : Prop} (h : ¬ c) : cbr (decide c) P Q = Q := by rw [decide_eq_false h, cbr_false]
theorem cnT {a b : Int} {P Q : Prop} (h : a ≠ b) : cbr (a != b) P Q = P := by rw [bne_t h, cbr_true]
theorem cnF {a b : Int} {P Q : Prop} (h : a = b) : cbr (a != b) P Q = Q := by rw [bne_f h, cbr_false]
theorem ceT {a b : Int} {P Q : Prop} (h : a = b) : cbr (a == b) P Q = P := by rw [beq_t h, cbr_true]
theorem ceF {a b : Int} {P Q : Prop} (h : a ≠ b) : cbr (a == b) P Q = Q := by rw [beq_f h, cbr_false]
theorem asT {c : Prop} [Decidable c] {P : Prop} (h : c) : asr (decide c) P = P := by rw [decide_eq_true h, asr_true]
theorem wib {n : Int} (h1 : -9223372036854775808 ≤ n) (h2 : n ≤ 9223372036854775807) : IntKind.i64.wrap n = n := wi64 ⟨h1, h2⟩
theorem cast1 (i : Nat) : (i : Int) + 1 = ((i + 1 : Nat) : Int) := by omega
theorem small_int {x : Int} (h : -1000000000000000000 ≤ x ∧ x ≤ 1000000000000000000) : small (x : Rat) := by
 unfold small
 rw [Rat.num_intCast, Rat.den_intCast]
 omega
def allD (dens : List Int) : Prop := ∀ d ∈ dens, 0 ≤ d ∧ d ≤ 12
def someD (dens : List Int) : Prop := ∃ d ∈ dens, 0 < d
instance (l : List Int) : Decidable (allD l) := by unfold allD; infer_instance
instance (l : List Int) : Decidable (someD l) := by unfold someD; infer_instance
def VC (len : Int) (cuts dens : List Int) : Prop :=
 1 ≤ len ∧ len ≤ 1000 ∧ 2 ≤ cuts.length ∧ cuts.length ≤ 40 ∧ dens.length + 1 = cuts.length ∧ cuts.getD 0 0 = 0 ∧ cuts.getD (cuts.length - 1) 0 = len ∧ incr cuts 0 ∧ allD dens ∧ someD dens
theorem incr_iff (l : List Int) : incr l 0 ↔ ∀ j, j < l.length → j + 1 < l.length → l.getD j 0 < l.getD (j + 1) 0 := ⟨fun h j _ h2 => h j (by omega) h2, fun h j _ h2 => h j (by omega) h2⟩
instance (l : List Int) : Decidable (incr l 0) := decidable_of_iff _ (incr_iff l).symm
instance (len : Int) (cuts dens : List Int) : Decidable (VC len cuts dens) := by unfold VC; infer_instance
def ckC (len : Int) (cuts dens : List Int) : Int := if len > 1000 ∨ cuts.length > 40 then 4 else if VC len cuts dens then 0 else 8
def PT (len : Int) (n d : Int) : Prop := RV n d ∧ 0 ≤ n ∧ n ≤ len * d
instance (len n d : Int) : Decidable (PT len n d) := by unfold PT; infer_instance
theorem PT_rat {len n d : Int} (h : PT len n d) : ∃ q : Rat, small q ∧ q.num = n ∧ (q.den : Int) = d ∧ 0 ≤ q ∧ q ≤ (len : Rat) := by
 obtain ⟨h1, h2, h3⟩ := h
 obtain ⟨q, e1, e2, e3⟩ := rv_rat h1
 refine ⟨q, e1, e2, e3, ?_, ?_⟩
 · rw [← Rat.num_nonneg, e2]; exact h2
 · rw [Rat.le_iff, e2, e3, Rat.num_intCast, Rat.den_intCast]; simpa using h3
theorem int_lt_iff (x : Int) (q : Rat) : ((x : Rat) < q) ↔ x * (q.den : Int) < q.num := by
 rw [Rat.lt_iff, Rat.num_intCast, Rat.den_intCast]; simp
end Go.Pf.Vc
namespace Go.Pf.Vc
open Go Go.Pf
section
variable {len : Int} {cuts dens : List Int}
theorem VC.step (h : VC len cuts dens) {i : Nat} (hi : i + 1 < cuts.length) : cuts.getD i 0 < cuts.getD (i + 1) 0 := h.2.2.2.2.2.2.2.1 i (Nat.zero_le _) hi
theorem VC.mono (h : VC len cuts dens) {i : Nat} : ∀ {j : Nat}, i ≤ j → j < cuts.length → cuts.getD i 0 ≤ cuts.getD j 0
 | 0, hij, _ => by have : i = 0 := by omega
                   subst this; exact Int.le_refl _
 | j + 1, hij, hj => by
   by_cases e : i = j + 1
   · subst e; exact Int.le_refl _
   · have h1 := h.mono (i := i) (j := j) (by omega) (by omega)
     have h2 := h.step (i := j) hj
     omega
theorem VC.lo (h : VC len cuts dens) {i : Nat} (hi : i < cuts.length) : 0 ≤ cuts.getD i 0 := by
 have := h.mono (Nat.zero_le i) hi
 rw [h.2.2.2.2.2.1] at this; exact this
theorem VC.hi (h : VC len cuts dens) {i : Nat} (hi : i < cuts.length) : cuts.getD i 0 ≤ len := by
 have := h.mono (i := i) (j := cuts.length - 1) (by omega) (by omega)
 rw [h.2.2.2.2.2.2.1] at this; exact this
theorem VC.den (h : VC len cuts dens) {i : Nat} (hi : i < dens.length) : 0 ≤ dens.getD i 0 ∧ dens.getD i 0 ≤ 12 := by
 rw [List.getD_eq_getElem?_getD, List.getElem?_eq_getElem hi]
 exact h.2.2.2.2.2.2.2.2.1 _ (List.getElem_mem hi)
theorem VC.l1 (h : VC len cuts dens) : dens.length + 1 = cuts.length := h.2.2.2.2.1
theorem VC.l2 (h : VC len cuts dens) : cuts.length ≤ 40 := h.2.2.2.1
def totS (cuts dens : List Int) : Nat → Nat → Int → Int
 | 0, _, s => s
 | r + 1, i, s => totS cuts dens r (i + 1) (s + dens.getD i 0 * (cuts.getD (i + 1) 0 - cuts.getD i 0))
def totC (cuts dens : List Int) : Int := totS cuts dens dens.length 0 0
def fit {α : Type} (q : Rat) (k : Rat → Except Int α) : Except Int α := if small q then k q else .error 16
def valS (cuts dens : List Int) (b : Rat) : Nat → Nat → Rat → Rat → Except Int Rat
 | 0, _, _, sum => .ok sum
 | r + 1, i, p, sum =>
   let en : Rat := if b < (cuts.getD (i + 1) 0 : Int) then b else (cuts.getD (i + 1) 0 : Int)
   if dens.getD i 0 = 0 ∨ ¬ p < en then valS cuts dens b r (i + 1) (if p < en then en else p) sum
   else fit (en - p) fun l => fit (l * (dens.getD i 0 : Int)) fun w => fit (sum + w) fun s => valS cuts dens b r (i + 1) en s
def valC (cuts dens : List Int) (a b : Rat) : Except Int Rat := valS cuts dens b dens.length 0 a 0
end
end Go.Pf.Vc
namespace Go.Pf.Vc
open Go Go.Pf
def rt (n d : Int) : Rat := mkRat n d.toNat
theorem rt_self (q : Rat) : rt q.num q.den = q := by unfold rt; rw [Int.toNat_natCast, Rat.mkRat_self]
theorem rt_of {n d : Int} (h : RV n d) : small (rt n d) ∧ (rt n d).num = n ∧ ((rt n d).den : Int) = d := by
 obtain ⟨q, h1, h2, h3⟩ := rv_rat h
 subst h2 h3
 rw [rt_self]; exact ⟨h1, rfl, rfl⟩
theorem PT.pt {len n d : Int} (h : PT len n d) : small (rt n d) ∧ (rt n d).num = n ∧ ((rt n d).den : Int) = d ∧ 0 ≤ rt n d ∧ rt n d ≤ (len : Rat) := by
 obtain ⟨q, h1, h2, h3, h4, h5⟩ := PT_rat h
 subst h2 h3
 rw [rt_self]; exact ⟨h1, rfl, rfl, h4, h5⟩
theorem PT_of {len : Int} {q : Rat} (h : small q) (h0 : 0 ≤ q) (h1 : q ≤ (len : Rat)) : PT len q.num q.den := by
 refine ⟨h.rv, Rat.num_nonneg.2 h0, ?_⟩
 rw [Rat.le_iff, Rat.num_intCast, Rat.den_intCast] at h1
 simpa using h1
section
variable {len : Int} {cuts dens : List Int}
def valR (len : Int) (cuts dens : List Int) (an ad bn bd : Int) : Except Int Rat :=
 if ckC len cuts dens = 0 then (if PT len an ad ∧ PT len bn bd ∧ ¬ rt bn bd < rt an ad then valC cuts dens (rt an ad) (rt bn bd) else .error 2) else .error (ckC len cuts dens)
end
end Go.Pf.Vc
namespace Go.Pf.Vc
open Go Go.Pf
section
variable {len : Int} {cuts dens : List Int}
theorem dPoint_eq (hl : -1000000000000000000 ≤ len ∧ len ≤ 1000000000000000000) {n d : Int} (hn : I64 n) (hd : I64 d) (K : Bool → Prop) :
   w_r02_Point len n d K = K (decide (PT len n d)) := by
 unfold w_r02_Point wv_r02_Point
 rw [sCheck_eq hn hd]
 by_cases h : RV n d
 · obtain ⟨q, e1, e2, e3⟩ := rv_rat h
   rw [chk, if_pos h, ceT rfl]
   by_cases h0 : n ≥ 0
   · rw [cbT h0, sOf_eq, ← e2, ← e3, sLess_eq (small_int hl) e1]
     congr 1
     have : ((len : Rat) < q) ↔ len * (q.den : Int) < q.num := int_lt_iff _ _
     by_cases h3 : (len : Rat) < q
     · have h4 := this.1 h3
       rw [decide_eq_true h3, decide_eq_false]; rfl
       intro hp; have := hp.2.2; omega
     · have h4 : ¬ _ := fun x => h3 (this.2 x)
       rw [decide_eq_false h3, decide_eq_true]; rfl
       exact ⟨e1.rv, by omega, by omega⟩
   · rw [cbF h0, decide_eq_false]
     intro hp; have := hp.2.1; omega
 · rw [chk, if_neg h, ceF (by decide), decide_eq_false]
   intro hp; exact h hp.1
end
end Go.Pf.Vc
namespace Go.Pf.Vc
open Go Go.Pf
section
variable {len : Int} {cuts dens : List Int}
theorem add_zero (q : Rat) : q + 0 = q := by grind
end
end Go.Pf.Vc
namespace Go.Pf.Vc
open Go Go.Pf
structure Ck where
 len : Int
 cuts : List Int
 dens : List Int
instance : Inhabited Ck := ⟨⟨0, [], []⟩⟩
def Ck.fin (c : Ck) : Prop := c.cuts.length < 4611686018427387904 ∧ c.dens.length < 4611686018427387904
def Ck.ok (c : Ck) : Prop := VC c.len c.cuts c.dens
instance (c : Ck) : Decidable c.ok := by unfold Ck.ok; infer_instance
theorem drop_cons {α : Type} {l : List α} {i : Nat} (d : α) (h : i < l.length) : l.drop i = l.getD i d :: l.drop (i + 1) := by
 rw [List.drop_eq_getElem_cons h, List.getD_eq_getElem?_getD, List.getElem?_eq_getElem h]; rfl
section
variable {l : List Ck}
def finC (l : List Ck) : Prop := ∀ i, i < l.length → (l.getD i default).fin
end
end Go.Pf.Vc
namespace Go.Pf.Vc
open Go Go.Pf
section
variable {l : List Ck}
structure DK (l : List Ck) : Prop where
 n6 : l.length ≤ 6
 n0 : 1 ≤ l.length
 ok : ∀ i, i < l.length → (l.getD i default).ok
 len : ∀ i, i < l.length → (l.getD i default).len = (l.getD 0 default).len
theorem DK.fin {l : List Ck} (h : DK l) : finC l := fun i hi => by
 have h1 := (h.ok i hi).l1; have h2 := (h.ok i hi).l2
 exact ⟨by omega, by omega⟩
def qrow (agent kind an ad bn bd cn cd : Int) : PV := .agg [.int .i64 agent, .int .u8 kind, .int .i64 an, .int .i64 ad, .int .i64 bn, .int .i64 bd, .int .i64 cn, .int .i64 cd]
def Ck.value (an ad bn bd : Int) (c : Ck) : Except Int Rat := valR c.len c.cuts c.dens an ad bn bd
end
end Go.Pf.Vc
namespace Go.Pf.Vc
open Go Go.Pf
section
variable {l : List Ck}
def shr (c : Ck) (n : Int) : Rat := (totC c.cuts c.dens : Rat) / (n : Rat)
theorem small_div {n d : Int} (hn : -1000000000000000000 ≤ n ∧ n ≤ 1000000000000000000) (hd : 1 ≤ d ∧ d ≤ 1000000000000000000) : small ((n : Rat) / (d : Rat)) := by
 have e : (n : Rat) / (d : Rat) = mkRat n d.toNat := by
   rw [Rat.mkRat_eq_div]
   have h1 : ((d.toNat : Nat) : Int) = d := by omega
   have h2 : ((d.toNat : Nat) : Rat) = (d : Rat) := by rw [← Rat.intCast_natCast, h1]
   rw [h2]
 rw [e]
 unfold small
 rw [Rat.num_mkRat, Rat.den_mkRat, if_neg (by omega), if_neg (by omega)]
 have g0 : 0 < d.toNat.gcd n.natAbs := Nat.gcd_pos_of_pos_left _ (by omega)
 have h1 : (n / (d.toNat.gcd n.natAbs : Nat)).natAbs ≤ n.natAbs := by
   rw [Int.natAbs_ediv_of_dvd, Int.natAbs_natCast]
   · exact Nat.div_le_self _ _
   · rw [← Int.dvd_natAbs, Int.ofNat_dvd]; exact Nat.gcd_dvd_right _ _
 have h2 : d.toNat / d.toNat.gcd n.natAbs ≤ d.toNat := Nat.div_le_self _ _
 generalize n / (d.toNat.gcd n.natAbs : Nat) = x at *
 generalize d.toNat / d.toNat.gcd n.natAbs = y at *
 omega
end
end Go.Pf.Vc
namespace Go.Pf.Vc
open Go Go.Pf
def Fr (D B : Int) (q : Rat) : Prop := ∃ n : Int, -B ≤ n ∧ n ≤ B ∧ q = (n : Rat) / (D : Rat)
theorem Fr.small {D B : Int} {q : Rat} (h : Fr D B q) (hD : 1 ≤ D ∧ D ≤ 1000000000000000000) (hB : B ≤ 1000000000000000000) : small q := by
 obtain ⟨n, h1, h2, rfl⟩ := h
 exact small_div ⟨by omega, by omega⟩ hD
theorem Fr.add {D B1 B2 : Int} {q r : Rat} (h : Fr D B1 q) (k : Fr D B2 r) : Fr D (B1 + B2) (q + r) := by
 obtain ⟨n, h1, h2, rfl⟩ := h
 obtain ⟨m, k1, k2, rfl⟩ := k
 exact ⟨n + m, by omega, by omega, by rw [Rat.intCast_add]; grind⟩
theorem Fr.sub {D B1 B2 : Int} {q r : Rat} (h : Fr D B1 q) (k : Fr D B2 r) : Fr D (B1 + B2) (q - r) := by
 obtain ⟨n, h1, h2, rfl⟩ := h
 obtain ⟨m, k1, k2, rfl⟩ := k
 exact ⟨n - m, by omega, by omega, by rw [Rat.intCast_sub]; grind⟩
theorem Fr.mono {D B1 B2 : Int} {q : Rat} (h : Fr D B1 q) (hb : B1 ≤ B2) : Fr D B2 q := by
 obtain ⟨n, h1, h2, e⟩ := h
 exact ⟨n, by omega, by omega, e⟩
section
variable {len : Int} {cuts dens : List Int}
def rem (cuts dens : List Int) : Nat → Nat → Int
 | 0, _ => 0
 | r + 1, i => dens.getD i 0 * (cuts.getD (i + 1) 0 - cuts.getD i 0) + rem cuts dens r (i + 1)
end
end Go.Pf.Vc
namespace Go.Pf.Vc
open Go Go.Pf
structure Qy where
 agent : Int
 kind : Int
 an : Int
 ad : Int
 bn : Int
 bd : Int
 cn : Int
 cd : Int
 deriving DecidableEq
instance : Inhabited Qy := ⟨⟨0, 0, 0, 0, 0, 0, 0, 0⟩⟩
def encQ (q : Qy) : PV := qrow q.agent q.kind q.an q.ad q.bn q.bd q.cn q.cd
def logs (l : List Qy) : List PV := l.map encQ
theorem logs_len (l : List Qy) : (logs l).length = l.length := List.length_map ..
theorem logs_at {l : List Qy} {i : Nat} (h : i < l.length) : List.getD (logs l) i .nils = encQ (l.getD i default) := by
 unfold logs
 rw [List.getD_eq_getElem?_getD, List.getD_eq_getElem?_getD, List.getElem?_map, List.getElem?_eq_getElem h]
 rfl
theorem asQ {q : Qy} {P : Prop} : asr (conf (.agg [.i .i64, .i .u8, .i .i64, .i .i64, .i .i64, .i .i64, .i .i64, .i .i64]) (encQ q)) P = P := rfl
structure Sp where
 a : Int
 b : Int
 c : Int
 d : Int
 deriving DecidableEq
instance : Inhabited Sp := ⟨⟨0, 0, 0, 0⟩⟩
def encS (s : Sp) : PV := .agg [.int .i64 s.a, .int .i64 s.b, .int .i64 s.c, .int .i64 s.d]
def spans (l : List Sp) : List PV := l.map encS
theorem spans_len (l : List Sp) : (spans l).length = l.length := List.length_map ..
theorem spans_at {l : List Sp} {i : Nat} (h : i < l.length) : List.getD (spans l) i .nils = encS (l.getD i default) := by
 unfold spans
 rw [List.getD_eq_getElem?_getD, List.getD_eq_getElem?_getD, List.getElem?_map, List.getElem?_eq_getElem h]
 rfl
theorem asS {s : Sp} {P : Prop} : asr (conf (.agg [.i .i64, .i .i64, .i .i64, .i .i64]) (encS s)) P = P := rfl
end Go.Pf.Vc
namespace Go.Pf.Vc
open Go Go.Pf
section
variable {l : List Ck}
theorem cmpQ_ge (x y : Rat) : decide (cmpQ x y ≥ 0) = !decide (x < y) := by
 unfold cmpQ
 by_cases h : x < y
 · simp [h]
 · by_cases h2 : y < x <;> simp [h, h2]
end
end Go.Pf.Vc
namespace Go.Pf.Vc
open Go Go.Pf
def dsR : DS := .a [.i .i64, .i .i64]
def dsQ : DS := .a [.i .i64, .i .u8, dsR, dsR, dsR]
theorem inK_i64 {n : Int} (h : inK .i64 n) : I64 n := by
 have e1 : IntKind.i64.min = -9223372036854775808 := by decide
 have e2 : IntKind.i64.max = 9223372036854775807 := by decide
 unfold inK at h
 rw [e1, e2] at h
 exact h
theorem F_i {c : List PV} (h : HasF (.i .i64) c) : ∃ n, c = [.int .i64 n] ∧ I64 n := by
 simp only [HasF] at h
 obtain ⟨n, e, k⟩ := h
 exact ⟨n, e, inK_i64 k⟩
theorem F_r {c : List PV} (h : HasF dsR c) : ∃ n d, c = [.int .i64 n, .int .i64 d] ∧ I64 n ∧ I64 d := by
 simp only [dsR, HasF, HasL] at h
 obtain ⟨c1, c2, rfl, ⟨n, rfl, hn⟩, c3, c4, rfl, ⟨d, rfl, hd⟩, rfl⟩ := h
 exact ⟨n, d, rfl, inK_i64 hn, inK_i64 hd⟩
def Ck.i64 (c : Ck) : Prop := I64 c.len ∧ (∀ n ∈ c.cuts, I64 n) ∧ ∀ n ∈ c.dens, I64 n
theorem agg_of {x : PV} {l : List DS} (h : x.isAgg = (DS.a l).isA) : x = .agg x.cells := by
 cases x <;> first | rfl | cases h
theorem single_of {x y : PV} (h : x.isAgg = false) (e : x.cells = [y]) : x = y := by
 cases x <;> first | (simp only [PV.cells, List.cons.injEq, and_true] at e; exact e) | cases h
end Go.Pf.Vc
namespace Go.Pf.Vc
abbrev RS : Type := Rat × Rat
def canon : List RS → Prop
 | [] => True
 | s :: r => s.1 < s.2 ∧ (∀ t ∈ r, s.2 < t.1) ∧ canon r
end Go.Pf.Vc
namespace Go.Pf.Vc
def incrR : List Rat → Prop
 | [] => True
 | x :: r => (∀ y ∈ r, x < y) ∧ incrR r
def jn (f : Rat → Bool) : List Rat → Option RS → List RS
 | x :: y :: r, none => if f x then jn f (y :: r) (some (x, y)) else jn f (y :: r) none
 | x :: y :: r, some c => if f x then (if c.2 = x then jn f (y :: r) (some (c.1, y)) else c :: jn f (y :: r) (some (x, y))) else jn f (y :: r) (some c)
 | _, none => []
 | _, some c => [c]
end Go.Pf.Vc
namespace Go.Pf.Vc
def insR (p : Rat) : List Rat → List Rat
 | [] => [p]
 | x :: r => if p = x then x :: r else if p < x then p :: x :: r else x :: insR p r
theorem insR_mem {p z : Rat} : ∀ (l : List Rat), z ∈ insR p l ↔ (z = p ∨ z ∈ l)
 | [] => by unfold insR; simp
 | x :: r => by
   unfold insR
   by_cases h : p = x
   · rw [if_pos h]
     subst h
     simp
   · rw [if_neg h]
     by_cases h2 : p < x
     · rw [if_pos h2]; simp
     · rw [if_neg h2, List.mem_cons, insR_mem r, List.mem_cons]
       constructor
       · rintro (h | h | h)
         · exact .inr (.inl h)
         · exact .inl h
         · exact .inr (.inr h)
       · rintro (h | h | h)
         · exact .inr (.inl h)
         · exact .inl h
         · exact .inr (.inr h)
theorem insR_incr {p : Rat} : ∀ (l : List Rat), incrR l → incrR (insR p l)
 | [], _ => ⟨by simp, trivial⟩
 | x :: r, h => by
   unfold insR
   by_cases h1 : p = x
   · rw [if_pos h1]; exact h
   · rw [if_neg h1]
     by_cases h2 : p < x
     · rw [if_pos h2]
       refine ⟨fun y hy => ?_, h⟩
       rcases List.mem_cons.1 hy with rfl | hy
       · exact h2
       · have := h.1 y hy; grind
     · rw [if_neg h2]
       refine ⟨fun y hy => ?_, insR_incr r h.2⟩
       rcases (insR_mem r).1 hy with rfl | hy
       · grind
       · exact h.1 y hy
def endsR : List RS → List Rat → List Rat
 | [], out => out
 | s :: a, out => endsR a (insR s.2 (insR s.1 out))
theorem endsR_incr : ∀ (a : List RS) (out : List Rat), incrR out → incrR (endsR a out)
 | [], _, h => h
 | _ :: a, _, h => endsR_incr a _ (insR_incr _ (insR_incr _ h))
end Go.Pf.Vc
namespace Go.Pf.Vc
open Go Go.Pf
def Sp.rs (s : Sp) : RS := (rt s.a s.b, rt s.c s.d)
def Sp.ok (s : Sp) : Prop := RV s.a s.b ∧ RV s.c s.d ∧ rt s.a s.b < rt s.c s.d
instance (s : Sp) : Decidable s.ok := by unfold Sp.ok; infer_instance
def Sp.i64 (s : Sp) : Prop := I64 s.a ∧ I64 s.b ∧ I64 s.c ∧ I64 s.d
theorem cmpQ_neg (q r : Rat) : decide (cmpQ q r < 0) = decide (q < r) := by
 unfold cmpQ
 by_cases h : q < r
 · rw [if_pos h]; simp [h]
 · rw [if_neg h]
   split <;> simp [h]
theorem cmpQ_le (q r : Rat) : decide (cmpQ q r ≤ 0) = !decide (r < q) := by
 unfold cmpQ
 by_cases h : q < r
 · have : ¬ r < q := by grind
   rw [if_pos h]; simp [this]
 · rw [if_neg h]
   by_cases h2 : r < q
   · rw [if_pos h2]; simp [h2]
   · rw [if_neg h2]; simp [h2]
end Go.Pf.Vc
namespace Go.Pf.Vc
open Go Go.Pf
theorem asSp {s : Sp} {P : Prop} : asr (conf (.agg [.i .i64, .i .i64, .i .i64, .i .i64]) (encS s)) P = P := rfl
def allOkB (l : List Sp) : Bool := l.all fun s => decide s.ok
def allE (l : List Sp) : Int := if l.length > 60 then 4 else if allOkB l then 0 else 8
end Go.Pf.Vc
namespace Go.Pf.Vc
open Go Go.Pf
def gapB : Sp → List Sp → Bool
 | _, [] => true
 | s, t :: r => decide (s.rs.2 < t.rs.1) && gapB t r
def rsL (l : List Sp) : List RS := l.map Sp.rs
def pieceE (l : List Sp) : Int := if allE l = 0 then (match l with | [] => 0 | s :: r => if gapB s r then 0 else 8) else allE l
theorem allE_zero {l : List Sp} (h : allE l = 0) : l.length ≤ 60 ∧ ∀ s ∈ l, s.ok := by
 unfold allE at h
 split at h
 · cases h
 · split at h
   · rename_i h1 h2
     exact ⟨by omega, fun s hs => by simpa using List.all_eq_true.1 h2 s hs⟩
   · cases h
end Go.Pf.Vc
namespace Go.Pf.Vc
open Go Go.Pf
theorem gap_canon : ∀ (r : List Sp) (s : Sp), s.ok → (∀ t ∈ r, t.ok) → (gapB s r = true ↔ canon (rsL (s :: r)))
 | [], s, hs, _ => ⟨fun _ => ⟨hs.2.2, by simp, trivial⟩, fun _ => rfl⟩
 | t :: r, s, hs, h => by
   have ht := h t List.mem_cons_self
   have ih := gap_canon r t ht fun u hu => h u (List.mem_cons_of_mem _ hu)
   unfold gapB
   rw [Bool.and_eq_true, decide_eq_true_eq, ih]
   constructor
   · rintro ⟨h1, h2⟩
     refine ⟨hs.2.2, fun u hu => ?_, h2⟩
     rcases List.mem_cons.1 hu with rfl | hu
     · exact h1
     · have := h2.2.1 u hu
       have := h2.1
       show s.rs.2 < u.1
       grind
   · rintro ⟨_, h2, h3⟩
     exact ⟨h2 _ List.mem_cons_self, h3⟩
end Go.Pf.Vc
namespace Go.Pf.Vc
open Go Go.Pf
def bothE (a b : List Sp) : Int := if pieceE a = 0 then pieceE b else pieceE a
end Go.Pf.Vc
namespace Go.Pf.Vc
open Go Go.Pf Go.Sort
theorem rvB_iff {n d : Int} : rvB n d = true ↔ RV n d := by
 unfold rvB RV
 simp only [Bool.and_eq_true, decide_eq_true_eq]
theorem cmpI_lt {a b c d : Int} (h : RV a b) (k : RV c d) : cmpI a b c d < 0 ↔ rt a b < rt c d := by
 obtain ⟨_, h2, h3⟩ := rt_of h
 obtain ⟨_, k2, k3⟩ := rt_of k
 rw [Rat.lt_iff, h2, h3, k2, k3]
 unfold cmpI
 by_cases h : a * d < c * b
 · rw [if_pos h]; simp [h]
 · rw [if_neg h]
   split <;> simp [h]
def ratOf : PV → Rat
 | .agg (.int _ a :: .int _ b :: _) => rt a b
 | _ => 0
theorem rows_some {s : Srt} : ∀ {l : List PV}, (∀ x ∈ l, s.gd x = true) → ∃ d, s.rows? l = some d
 | [], _ => ⟨[], rfl⟩
 | x :: r, h => by
   obtain ⟨d, hd⟩ := rows_some (s := s) (l := r) fun y hy => h y (List.mem_cons_of_mem _ hy)
   refine ⟨⟨x, h x List.mem_cons_self⟩ :: d, ?_⟩
   simp only [Srt.rows?]
   rw [dif_pos (h x List.mem_cons_self), hd]
theorem RV.i1 {n d : Int} (h : RV n d) : I64 n := by obtain ⟨h1, h2, h3, h4, _⟩ := h; exact ⟨by omega, by omega⟩
theorem RV.i2 {n d : Int} (h : RV n d) : I64 d := by obtain ⟨h1, h2, h3, h4, _⟩ := h; exact ⟨by omega, by omega⟩
theorem Sp.ok.i64 {s : Sp} (h : s.ok) : s.i64 := ⟨h.1.i1, h.1.i2, h.2.1.i1, h.2.1.i2⟩
end Go.Pf.Vc
namespace Go.Pf.Vc
open Go Go.Pf
def spOf (r : RS) : Sp := ⟨r.1.num, r.1.den, r.2.num, r.2.den⟩
def rsp (l : List RS) : List PV := spans (l.map spOf)
def smallS (r : RS) : Prop := small r.1 ∧ small r.2
theorem rsp_len (l : List RS) : (rsp l).length = l.length := by unfold rsp; rw [spans_len, List.length_map]
def encR (r : RS) : PV := encS (spOf r)
theorem rsp_at {l : List RS} {i : Nat} (h : i < l.length) : List.getD (rsp l) i .nils = encR (l.getD i default) := by
 unfold rsp
 rw [spans_at (by rw [List.length_map]; exact h)]
 unfold encR
 congr 1
 rw [List.getD_eq_getElem?_getD, List.getD_eq_getElem?_getD, List.getElem?_map, List.getElem?_eq_getElem h]
 rfl
theorem encR0 (r : RS) : intOfV (cellAt (encR r) 0) = r.1.num := rfl
theorem encR1 (r : RS) : intOfV (cellAt (encR r) 1) = r.1.den := rfl
theorem encR2 (r : RS) : intOfV (cellAt (encR r) 2) = r.2.num := rfl
theorem encR3 (r : RS) : intOfV (cellAt (encR r) 3) = r.2.den := rfl
theorem asR (r : RS) (P : Prop) : asr (conf (.agg [.i .i64, .i .i64, .i .i64, .i .i64]) (encR r)) P = P := rfl
theorem asE {α : Type} [DecidableEq α] (a : α) (P : Prop) : asr (decide (a = a)) P = P := by rw [decide_eq_true rfl, asr_true]
theorem asEE {α : Type} [DecidableEq α] (a : α) (b : Bool) (P : Prop) : asr (decide (a = a) && b) P = asr b P := by rw [decide_eq_true rfl, Bool.true_and]
theorem asNo {c : Prop} [Decidable c] {P : Prop} (h : ¬ c) : asr (!decide c) P = P := by rw [decide_eq_false h]; rfl
theorem asTr (P : Prop) : asr (decide True) P = P := by rw [decide_true]; rfl
theorem asTd {c : Prop} [Decidable c] {b : Bool} {P : Prop} (h : c) : asr (decide c && b) P = asr b P := by rw [decide_eq_true h, Bool.true_and]
theorem smallS_mem {l : List RS} (h : ∀ s ∈ l, smallS s) {i : Nat} (hi : i < l.length) : smallS (l.getD i default) := by
 rw [List.getD_eq_getElem?_getD, List.getElem?_eq_getElem hi]
 exact h _ (List.getElem_mem hi)
theorem rs_spOf {r : RS} (_ : smallS r) : (spOf r).rs = r := by
 show (rt r.1.num r.1.den, rt r.2.num r.2.den) = r
 rw [rt_self, rt_self]
theorem spOf_ok {r : RS} (h : smallS r) (hv : r.1 < r.2) : (spOf r).ok := ⟨h.1.rv, h.2.rv, by
 show rt r.1.num r.1.den < rt r.2.num r.2.den
 rw [rt_self, rt_self]; exact hv⟩
end Go.Pf.Vc
namespace Go.Pf.Vc
open Go Go.Pf
theorem sLess_rv {a b c d : Int} (h : RV a b) (k : RV c d) (K : Bool → Prop) : w_r01_Less a b c d K = K (decide (rt a b < rt c d)) := by
 obtain ⟨h1, h2, h3⟩ := rt_of h
 obtain ⟨k1, k2, k3⟩ := rt_of k
 have := sLess_eq h1 k1 K
 rw [h2, h3, k2, k3] at this
 exact this
def inB (l : List RS) (p : Rat) : Bool := l.any fun s => !decide (p < s.1) && decide (p < s.2)
end Go.Pf.Vc
namespace Go.Pf.Vc
open Go Go.Pf
def encW (q : Rat) : PV := .agg [.int .i64 q.num, .int .i64 q.den]
def rts (l : List Rat) : List PV := l.map encW
theorem rts_len (l : List Rat) : (rts l).length = l.length := List.length_map ..
theorem rts_at {l : List Rat} {i : Nat} (h : i < l.length) : List.getD (rts l) i .nils = encW (l.getD i 0) := by
 unfold rts
 rw [List.getD_eq_getElem?_getD, List.getD_eq_getElem?_getD, List.getElem?_map, List.getElem?_eq_getElem h]
 rfl
theorem encW0 (q : Rat) : intOfV (cellAt (encW q) 0) = q.num := rfl
theorem encW1 (q : Rat) : intOfV (cellAt (encW q) 1) = q.den := rfl
theorem asW (q : Rat) (P : Prop) : asr (conf (.agg [.i .i64, .i .i64]) (encW q)) P = P := rfl
theorem rts_one (q : Rat) : ([.agg [.int .i64 q.num, .int .i64 q.den]] : List PV) = rts [q] := rfl
theorem encW_is (q : Rat) : (.agg [.int .i64 q.num, .int .i64 q.den] : PV) = encW q := rfl
theorem rts_app (a b : List Rat) : rts a ++ rts b = rts (a ++ b) := by unfold rts; rw [List.map_append]
theorem rts_set (l : List Rat) (i : Nat) (q : Rat) : List.set (rts l) i (encW q) = rts (l.set i q) := by unfold rts; rw [List.map_set]
theorem rts_take (l : List Rat) (n : Nat) : List.take n (rts l) = rts (l.take n) := by unfold rts; rw [List.map_take]
theorem ratEq (a b : Rat) : ((a.num == b.num) && (((a.den : Int) == (b.den : Int)) && true)) = decide (a = b) := by
 rw [Bool.and_true, Bool.eq_iff_iff]
 simp only [Bool.and_eq_true, beq_iff_eq, decide_eq_true_eq]
 constructor
 · rintro ⟨h1, h2⟩; exact Rat.ext h1 (by omega)
 · rintro rfl; exact ⟨rfl, rfl⟩
theorem getD_ratMem {l : List Rat} {i : Nat} (h : i < l.length) : l.getD i 0 ∈ l := by
 rw [List.getD_eq_getElem?_getD, List.getElem?_eq_getElem h]
 exact List.getElem_mem h
theorem insR_last {q x : Rat} : ∀ {pre : List Rat}, incrR (pre ++ [x]) → q ∉ pre ++ [x] → insR q (pre ++ [x]) = if q < x then insR q pre ++ [x] else pre ++ [x, q]
 | [], h, hn => by
   have hne : q ≠ x := fun e => hn (by simp [e])
   show insR q [x] = _
   unfold insR
   rw [if_neg hne]
   split <;> rfl
 | y :: pre, h, hn => by
   have h2 : incrR (pre ++ [x]) := h.2
   have hy : q ≠ y := fun e => hn (by simp [e])
   have hx : y < x := h.1 x (by simp)
   have ih := insR_last (q := q) h2 (fun hm => hn (List.mem_cons_of_mem _ hm))
   show insR q (y :: (pre ++ [x])) = _
   unfold insR
   rw [if_neg hy, if_neg hy]
   by_cases h3 : q < y
   · rw [if_pos h3, if_pos h3, if_pos (by grind)]
     rfl
   · rw [if_neg h3, if_neg h3, ih]
     split <;> rfl
theorem incrR_left : ∀ {a b : List Rat}, incrR (a ++ b) → incrR a
 | [], _, _ => trivial
 | _ :: _, _, h => ⟨fun z hz => h.1 z (List.mem_append_left _ hz), incrR_left h.2⟩
end Go.Pf.Vc
namespace Go.Pf.Vc
open Go Go.Pf
theorem insR_small {q : Rat} (hq : small q) {out : List Rat} (hs : ∀ z ∈ out, small z) : ∀ z ∈ insR q out, small z := fun z hz => by
 rcases (insR_mem out).1 hz with rfl | h
 · exact hq
 · exact hs z h
theorem insR_len {q : Rat} : ∀ (out : List Rat), (insR q out).length ≤ out.length + 1
 | [] => Nat.le_refl _
 | x :: r => by
   unfold insR
   split
   · simp
   · split
     · simp
     · have := insR_len (q := q) r
       simp only [List.length_cons]; omega
theorem insR_in {q : Rat} : ∀ {out : List Rat}, incrR out → q ∈ out → insR q out = out
 | [], _, h => by cases h
 | x :: r, hi, h => by
   unfold insR
   by_cases h1 : q = x
   · rw [if_pos h1]
   · rw [if_neg h1]
     have h2 : q ∈ r := by
       rcases List.mem_cons.1 h with h3 | h3
       · exact absurd h3 h1
       · exact h3
     have := hi.1 q h2
     rw [if_neg (by grind), insR_in hi.2 h2]
theorem endsR_len : ∀ (l : List RS) (out : List Rat), (endsR l out).length ≤ out.length + 2 * l.length
 | [], _ => Nat.le_refl _
 | s :: a, out => by
   have h1 := endsR_len a (insR s.2 (insR s.1 out))
   have h2 := insR_len (q := s.2) (insR s.1 out)
   have h3 := insR_len (q := s.1) out
   show (endsR a _).length ≤ _
   simp only [List.length_cons]; omega
end Go.Pf.Vc
namespace Go.Pf.Vc
open Go Go.Pf
theorem canon_lt {l : List RS} (h : canon l) : ∀ s ∈ l, s.1 < s.2 := by
 induction l with
 | nil => intro s hs; cases hs
 | cons t r ih =>
   intro s hs
   rcases List.mem_cons.1 hs with rfl | hs
   · exact h.1
   · exact ih h.2.2 s hs
end Go.Pf.Vc
namespace Go.Pf.Vc
open Go Go.Pf
theorem cmpI_Q {a b c d : Int} (h : RV a b) (k : RV c d) : cmpI a b c d = cmpQ (rt a b) (rt c d) := by
 obtain ⟨_, h2, h3⟩ := rt_of h
 obtain ⟨_, k2, k3⟩ := rt_of k
 unfold cmpI cmpQ
 simp only [Rat.lt_iff, h2, h3, k2, k3]
end Go.Pf.Vc
namespace Go.Pf.Vc
open Go Go.Pf
structure Pc (l : List RS) : Prop where
 c : canon l
 s : ∀ s ∈ l, smallS s
 n : l.length ≤ 60
theorem rsL_spOf {l : List RS} (h : ∀ s ∈ l, smallS s) : rsL (l.map spOf) = l := by
 induction l with
 | nil => rfl
 | cons s r ih =>
   show (spOf s).rs :: rsL (r.map spOf) = _
   rw [rs_spOf (h s List.mem_cons_self), ih fun t ht => h t (List.mem_cons_of_mem _ ht)]
theorem Pc.ok {l : List RS} (h : Pc l) : ∀ s ∈ l.map spOf, s.ok := fun s hs => by
 obtain ⟨t, ht, rfl⟩ := List.mem_map.1 hs
 exact spOf_ok (h.s t ht) (canon_lt h.c t ht)
theorem Pc.i64 {l : List RS} (h : Pc l) : ∀ s ∈ l.map spOf, s.i64 := fun s hs => by
 obtain ⟨t, ht, rfl⟩ := List.mem_map.1 hs
 have := h.s t ht
 exact ⟨this.1.i1, this.1.i2, this.2.i1, this.2.i2⟩
theorem Pc.e {l : List RS} (h : Pc l) : pieceE (l.map spOf) = 0 := by
 have hl := h.n
 have ho := h.ok
 have hc := h.c
 rw [← rsL_spOf h.s] at hc
 have h1 : allOkB (l.map spOf) = true := List.all_eq_true.2 fun s hs => decide_eq_true (ho s hs)
 have h2 : allE (l.map spOf) = 0 := by
   unfold allE
   rw [if_neg (by rw [List.length_map]; omega), h1, if_pos rfl]
 unfold pieceE
 rw [h2]
 cases l with
 | nil => rfl
 | cons s r =>
   have hg : gapB (spOf s) (r.map spOf) = true := (gap_canon _ _ (ho _ (by simp)) (fun t ht => ho t (List.mem_cons_of_mem _ ht))).2 hc
   show (if (0 : Int) = 0 then (if gapB (spOf s) (r.map spOf) then 0 else 8) else _) = _
   rw [if_pos rfl, hg, if_pos rfl]
theorem Pc.both {a b : List RS} (ha : Pc a) (hb : Pc b) : bothE (a.map spOf) (b.map spOf) = 0 := by
 unfold bothE
 rw [ha.e, if_pos rfl, hb.e]
end Go.Pf.Vc
namespace Go.Pf.Vc
open Go Go.Pf
def sumO (v : RS → Rat) : List RS → Rat → Option Rat
 | [], q => some q
 | s :: r, q => if small (v s) ∧ small (q + v s) then sumO v r (q + v s) else none
def optK (o : Option Rat) (K : Int → Int → Int → Prop) : Prop := match o with | some q => K q.num q.den 0 | none => K 0 0 16
theorem small_zero : small 0 := by decide +kernel
end Go.Pf.Vc
namespace Go.Pf.Vc
open Go Go.Pf
theorem nz (P Q : Prop) : cbr ((0 : Int) != 0) P Q = Q := rfl
theorem ez (P Q : Prop) : cbr ((0 : Int) == 0) P Q = P := rfl
end Go.Pf.Vc
namespace Go.Pf.Vc
open Go Go.Pf
def outW (w : (Int → Int → Int → Prop) → Prop) (t : Rat) : Prop := (∃ c, c ≠ 0 ∧ ∀ K, w K = K 0 0 c) ∨ (small t ∧ ∀ K, w K = K t.num t.den 0)
theorem outW.const {w : (Int → Int → Int → Prop) → Prop} {t : Rat} (h : outW w t) (P : Prop) : w (fun _ _ _ => P) = P := by
 rcases h with ⟨c, _, q⟩ | ⟨_, q⟩ <;> rw [q]
end Go.Pf.Vc
namespace Go.Pf.Vc
open Go Go.Pf
abbrev Rl : Type := Nat × Nat × Int
def hAt (h : List Int) (i : Nat) : Int := h.getD i 0
def relax (r : Rl) (h : List Int) : List Int := if hAt h r.1 + r.2.2 > hAt h r.2.1 then h.set r.2.1 (hAt h r.1 + r.2.2) else h
def pass (R : List Rl) (h : List Int) : List Int := R.foldl (fun h r => relax r h) h
def leH (h x : List Int) : Prop := ∀ i, hAt h i ≤ hAt x i
theorem leH.refl (h : List Int) : leH h h := fun _ => Int.le_refl _
theorem leH.trans {a b c : List Int} (h : leH a b) (k : leH b c) : leH a c := fun i => Int.le_trans (h i) (k i)
theorem countP_lt {α : Type} {p q : α → Bool} : ∀ {l : List α}, (∀ a ∈ l, p a = true → q a = true) → (∃ a ∈ l, q a = true ∧ p a = false) → l.countP p < l.countP q
 | [], _, ⟨_, h, _⟩ => by cases h
 | b :: l, h1, ⟨a, ha, hq, hp⟩ => by
   have hle : l.countP p ≤ l.countP q := List.countP_mono_left fun c hc => h1 c (List.mem_cons_of_mem _ hc)
   rw [List.countP_cons, List.countP_cons]
   rcases List.mem_cons.1 ha with rfl | ha
   · rw [hp, hq]; simp; omega
   · have := countP_lt (fun c hc => h1 c (List.mem_cons_of_mem _ hc)) ⟨a, ha, hq, hp⟩
     have hb := h1 b List.mem_cons_self
     cases hpb : p b with
     | false => simp; split <;> omega
     | true => rw [hb hpb]; simp; omega
end Go.Pf.Vc
namespace Go.Pf.Vc
open Go Go.Pf
structure Cm where
 f : Rat
 t : Rat
 v : Rat
 m : Bool
instance : Inhabited Cm := ⟨⟨0, 0, 0, false⟩⟩
def encCm (c : Cm) : PV := .agg [.int .i64 c.f.num, .int .i64 c.f.den, .int .i64 c.t.num, .int .i64 c.t.den, .int .i64 c.v.num, .int .i64 c.v.den, .bool c.m]
def Qy.i64 (q : Qy) : Prop := I64 q.an ∧ I64 q.ad ∧ I64 q.bn ∧ I64 q.bd ∧ I64 q.cn ∧ I64 q.cd
theorem aorder_rv {a b c d : Int} (h : RV a b) (k : RV c d) (K : Int → Prop) : w_audit_order a b c d K = K (cmpQ (rt a b) (rt c d)) := by
 obtain ⟨h1, h2, h3⟩ := rt_of h
 obtain ⟨k1, k2, k3⟩ := rt_of k
 unfold w_audit_order wv_audit_order
 have := rCmp_eq h1 k1 (fun x _ => K x)
 rw [h2, h3, k2, k3] at this
 rw [this]
def posR (a b : Int) : Bool := decide (RV a b) && decide (0 ≤ a)
theorem pos_test {a b : Int} (ha : I64 a) (hb : I64 b) (J : Bool → Prop) : w_ratio_Check a b (fun y => cbr (y != 0) (J true) (J (decide (a < 0)))) = J (!posR a b) := by
 rw [rCheck_eq ha hb]
 unfold posR
 by_cases h : RV a b
 · rw [show chk a b = 0 from if_pos h, nz, decide_eq_true h, Bool.true_and]
   congr 1
   rw [Bool.eq_iff_iff]
   simp only [decide_eq_true_eq, Bool.not_eq_true', decide_eq_false_iff_not]
   omega
 · rw [show chk a b = 8 from if_neg h, decide_eq_false h]
   rfl
theorem pos_jn {a b : Int} (ha : I64 a) (hb : I64 b) (F : Bool → Prop) : Go.Pf.jn (fun J : Bool → Prop => w_ratio_Check a b (fun y => cbr (y != (0 : Int)) (J true) (J (decide (a < (0 : Int)))))) F = F (!posR a b) := pos_test ha hb F
def twoP (n : Int) (a b c d : Int) : Bool := decide (rt a b ≤ rt c d) && decide (rt c d ≤ (n : Rat))
def qOk (n : Int) (q : Qy) : Bool := posR q.an q.ad && (posR q.bn q.bd && (posR q.cn q.cd && (if q.kind = 1 then twoP n q.an q.ad q.bn q.bd else if q.kind = 2 then twoP n q.an q.ad q.cn q.cd else false)))
def cmOf (q : Qy) : Cm := if q.kind = 1 then ⟨rt q.an q.ad, rt q.bn q.bd, rt q.cn q.cd, false⟩ else ⟨rt q.an q.ad, rt q.cn q.cd, rt q.bn q.bd, true⟩
theorem claimed_loop {x0 : List PV → Int → Int → Int → Int → Int → Int → Int → Int → Int → Int → Int → Int → Int → Int → Int → Bool → Int → Int → Bool → Prop} {x1 : List PV → Int → Int → Int → Int → Int → Int → Bool → Bool → Prop}
   {a1 b1 a2 b2 a3 b3 : Int} (h1 : I64 a1) (k1 : I64 b1) (h2 : I64 a2) (k2 : I64 b2) (h3 : I64 a3) (k3 : I64 b3) (i1 i2 i3 i4 i5 i6 i7 i8 i9 i10 i11 i12 i13 i14 i15 : Int) (b : Bool) :
   L_audit_claimed_0_0 w_ratio_Check w_audit_order w_audit_whole x0 x1 4 [.agg [.int .i64 a1, .int .i64 b1], .agg [.int .i64 a2, .int .i64 b2], .agg [.int .i64 a3, .int .i64 b3]] i1 i2 i3 i4 i5 i6 i7 i8 i9 i10 i11 i12 i13 i14 i15 b 3 0 =
     if posR a1 b1 && (posR a2 b2 && posR a3 b3) then x0 [.agg [.int .i64 a1, .int .i64 b1], .agg [.int .i64 a2, .int .i64 b2], .agg [.int .i64 a3, .int .i64 b3]] i1 i2 i3 i4 i5 i6 i7 i8 i9 i10 i11 i12 i13 i14 i15 b 3 3 false
     else x1 [.agg [.int .i64 a1, .int .i64 b1], .agg [.int .i64 a2, .int .i64 b2], .agg [.int .i64 a3, .int .i64 b3]] 0 0 0 0 0 0 false false := by
 have e0 : IntKind.i64.wrap ((0 : Int) + 1) = 1 := by decide
 have e1 : IntKind.i64.wrap ((1 : Int) + 1) = 2 := by decide
 have e2 : IntKind.i64.wrap ((2 : Int) + 1) = 3 := by decide
 generalize hr : ([.agg [.int .i64 a1, .int .i64 b1], .agg [.int .i64 a2, .int .i64 b2], .agg [.int .i64 a3, .int .i64 b3]] : List PV) = rows
 have hl : rows.length = 3 := by rw [← hr]; rfl
 have d0 : List.getD rows (0 + (0 : Int).toNat) .nils = .agg [.int .i64 a1, .int .i64 b1] := by rw [← hr]; rfl
 have d1 : List.getD rows (0 + (1 : Int).toNat) .nils = .agg [.int .i64 a2, .int .i64 b2] := by rw [← hr]; rfl
 have d2 : List.getD rows (0 + (2 : Int).toNat) .nils = .agg [.int .i64 a3, .int .i64 b3] := by rw [← hr]; rfl
 have cw : ∀ (a b : Int) (P : Prop), asr (conf (.agg [.i .i64, .i .i64]) (.agg [.int .i64 a, .int .i64 b])) P = P := fun _ _ _ => rfl
 have c0 : ∀ a b : Int, intOfV (cellAt (.agg [.int .i64 a, .int .i64 b]) 0) = a := fun _ _ => rfl
 have c1 : ∀ a b : Int, intOfV (cellAt (.agg [.int .i64 a, .int .i64 b]) 1) = b := fun _ _ => rfl
 rw [L_audit_claimed_0_0]
 dsimp only [lt]
 simp (discharger := omega) only [hl, d0, cw, c0, c1, cbT, asT, e0, decide_true, asr_true, Bool.and_self]
 rw [pos_jn h1 k1]
 cases posR a1 b1 with
 | false => rfl
 | true =>
   rw [Bool.not_true, cbr_false, L_audit_claimed_0_0]
   dsimp only [lt]
   simp (discharger := omega) only [hl, d1, cw, c0, c1, cbT, asT, e1, decide_true, asr_true, Bool.and_self]
   rw [pos_jn h2 k2]
   cases posR a2 b2 with
   | false => rfl
   | true =>
     rw [Bool.not_true, cbr_false, L_audit_claimed_0_0]
     dsimp only [lt]
     simp (discharger := omega) only [hl, d2, cw, c0, c1, cbT, asT, e2, decide_true, asr_true, Bool.and_self]
     rw [pos_jn h3 k3]
     cases posR a3 b3 with
     | false => rfl
     | true =>
       rw [Bool.not_true, cbr_false, L_audit_claimed_0_0, cbF (by decide)]
       rfl
theorem awhole_eq (n : Int) (K : Int → Int → Prop) : w_audit_whole n K = K (n : Rat).num (n : Rat).den := rfl
theorem posR_rv {a b : Int} (h : posR a b = true) : RV a b ∧ 0 ≤ a := by
 unfold posR at h
 simpa using h
theorem small_int3 {n : Int} (h1 : -1000000000000000000 ≤ n) (h2 : n ≤ 1000000000000000000) : small (n : Rat) := ⟨h1, h2, by show ((1 : Nat) : Int) ≤ _; omega⟩
theorem two_test {n a b c d : Int} (hn : small (n : Rat)) (h : RV a b) (k : RV c d) (J : Bool → Prop) :
   w_audit_order a b c d (fun y => cbr (decide (y ≤ 0)) (w_audit_whole n (fun x z => w_audit_order c d x z (fun u => J (decide (u ≤ 0))))) (J false)) = J (twoP n a b c d) := by
 rw [aorder_rv h k, cmpQ_le]
 have hw : RV (n : Rat).num (n : Rat).den := hn.rv
 rw [awhole_eq, aorder_rv k hw, cmpQ_le, rt_self]
 unfold twoP
 rw [show decide (rt a b ≤ rt c d) = !decide (rt c d < rt a b) by rw [← decide_not]; simp [Rat.not_lt], show decide (rt c d ≤ (n : Rat)) = !decide ((n : Rat) < rt c d) by rw [← decide_not]; simp [Rat.not_lt]]
 cases decide (rt c d < rt a b) <;> rfl
theorem claimed_eq {n ag k an ad bn bd cn cd : Int} (h1 : I64 an) (h2 : I64 ad) (h3 : I64 bn) (h4 : I64 bd) (h5 : I64 cn) (h6 : I64 cd) (hn : small (n : Rat)) (K : Int → Int → Int → Int → Int → Int → Bool → Bool → Prop) :
   w_audit_claimed n ag k an ad bn bd cn cd K = if posR an ad && (posR bn bd && posR cn cd) then (if k = 1 then K an ad bn bd cn cd false (twoP n an ad bn bd) else if k = 2 then K an ad cn cd bn bd true (twoP n an ad cn cd) else K 0 0 0 0 0 0 false false) else K 0 0 0 0 0 0 false false := by
 have key : ∀ K, (if posR an ad && (posR bn bd && posR cn cd) then (if k = 1 then K an ad bn bd cn cd false (twoP n an ad bn bd) else if k = 2 then K an ad cn cd bn bd true (twoP n an ad cn cd) else K 0 0 0 0 0 0 false false) else K 0 0 0 0 0 0 false false) → w_audit_claimed n ag k an ad bn bd cn cd K := by
   intro K q
   unfold w_audit_claimed wv_audit_claimed
   refine asr_iff.2 ⟨by simp, 4, ?_⟩
   refine (claimed_loop h1 h2 h3 h4 h5 h6 ..).mpr ?_
   split at q
   · rename_i hp
     rw [if_pos hp]
     simp only [Bool.and_eq_true] at hp
     obtain ⟨p1, p2, p3⟩ := hp
     dsimp only [Go.Pf.jn]
     split at q
     · rename_i hk
       rw [ceT hk, two_test hn (posR_rv p1).1 (posR_rv p2).1 (fun b => K an ad bn bd cn cd false b)]
       exact q
     · rename_i hk
       rw [ceF hk]
       split at q
       · rename_i hk2
         rw [ceT hk2, two_test hn (posR_rv p1).1 (posR_rv p3).1 (fun b => K an ad cn cd bn bd true b)]
         exact q
       · rename_i hk2
         rw [ceF hk2]
         exact q
   · rename_i hp
     rw [if_neg hp]
     exact q
 by_cases hp : (posR an ad && (posR bn bd && posR cn cd)) = true
 · rw [if_pos hp]
   by_cases hk : k = 1
   · rw [if_pos hk]
     exact det_audit_claimed _ _ _ _ _ _ _ _ _ _ _ _ _ _ _ _ _ (fun K q => key K (by rw [if_pos hp, if_pos hk]; exact q)) K
   · rw [if_neg hk]
     by_cases hk2 : k = 2
     · rw [if_pos hk2]
       exact det_audit_claimed _ _ _ _ _ _ _ _ _ _ _ _ _ _ _ _ _ (fun K q => key K (by rw [if_pos hp, if_neg hk, if_pos hk2]; exact q)) K
     · rw [if_neg hk2]
       exact det_audit_claimed _ _ _ _ _ _ _ _ _ _ _ _ _ _ _ _ _ (fun K q => key K (by rw [if_pos hp, if_neg hk, if_neg hk2]; exact q)) K
 · rw [if_neg hp]
   exact det_audit_claimed _ _ _ _ _ _ _ _ _ _ _ _ _ _ _ _ _ (fun K q => key K (by rw [if_neg hp]; exact q)) K
structure Cm.ok (n : Int) (c : Cm) : Prop where
 f : small c.f
 t : small c.t
 v : small c.v
 f0 : 0 ≤ c.f
 v0 : 0 ≤ c.v
 ft : c.f ≤ c.t
 tn : c.t ≤ (n : Rat)
def Qy.q64 (q : Qy) : Prop := I64 q.an ∧ I64 q.ad ∧ I64 q.bn ∧ I64 q.bd ∧ I64 q.cn ∧ I64 q.cd
theorem rt_pos {a b : Int} (h : RV a b) : 0 ≤ rt a b ↔ 0 ≤ a := by
 obtain ⟨_, h2, _⟩ := rt_of h
 rw [← Rat.num_nonneg, h2]
theorem qOk_cm {n : Int} {q : Qy} (h : qOk n q = true) : (cmOf q).ok n := by
 unfold qOk at h
 simp only [Bool.and_eq_true] at h
 obtain ⟨h1, h2, h3, h4⟩ := h
 obtain ⟨r1, p1⟩ := posR_rv h1
 obtain ⟨r2, p2⟩ := posR_rv h2
 obtain ⟨r3, p3⟩ := posR_rv h3
 have s1 := (rt_of r1).1
 have s2 := (rt_of r2).1
 have s3 := (rt_of r3).1
 have q1 := (rt_pos r1).2 p1
 have q2 := (rt_pos r2).2 p2
 have q3 := (rt_pos r3).2 p3
 unfold cmOf
 by_cases hk : q.kind = 1
 · rw [if_pos hk] at h4 ⊢
   unfold twoP at h4
   simp only [Bool.and_eq_true, decide_eq_true_eq] at h4
   exact ⟨s1, s2, s3, q1, q3, h4.1, h4.2⟩
 · rw [if_neg hk] at h4 ⊢
   by_cases hk2 : q.kind = 2
   · rw [if_pos hk2] at h4
     unfold twoP at h4
     simp only [Bool.and_eq_true, decide_eq_true_eq] at h4
     exact ⟨s1, s3, s2, q1, q2, h4.1, h4.2⟩
   · rw [if_neg hk2] at h4; cases h4
theorem claimed_ok {n : Int} {q : Qy} (h64 : q.q64) (hn : small (n : Rat)) (h : qOk n q = true) (K : Int → Int → Int → Int → Int → Int → Bool → Bool → Prop) :
   w_audit_claimed n q.agent q.kind q.an q.ad q.bn q.bd q.cn q.cd K = K (cmOf q).f.num (cmOf q).f.den (cmOf q).t.num (cmOf q).t.den (cmOf q).v.num (cmOf q).v.den (cmOf q).m true := by
 obtain ⟨a1, a2, a3, a4, a5, a6⟩ := h64
 rw [claimed_eq a1 a2 a3 a4 a5 a6 hn]
 unfold qOk at h
 simp only [Bool.and_eq_true] at h
 obtain ⟨h1, h2, h3, h4⟩ := h
 obtain ⟨_, e1, e2⟩ := rt_of (posR_rv h1).1
 obtain ⟨_, e3, e4⟩ := rt_of (posR_rv h2).1
 obtain ⟨_, e5, e6⟩ := rt_of (posR_rv h3).1
 rw [if_pos (by rw [h1, h2, h3]; rfl)]
 unfold cmOf
 by_cases hk : q.kind = 1
 · rw [if_pos hk] at h4 ⊢
   rw [if_pos hk, h4]
   dsimp only
   rw [e1, e2, e3, e4, e5, e6]
 · rw [if_neg hk] at h4 ⊢
   rw [if_neg hk]
   by_cases hk2 : q.kind = 2
   · rw [if_pos hk2] at h4 ⊢
     rw [h4]
     dsimp only
     rw [e1, e2, e3, e4, e5, e6]
   · rw [if_neg hk2] at h4; cases h4
theorem claimed_no {n : Int} {q : Qy} (h64 : q.q64) (hn : small (n : Rat)) (h : qOk n q = false) {K : Int → Int → Int → Int → Int → Int → Bool → Bool → Prop} {K0 : Prop} (hK : ∀ a b c d e f g, K a b c d e f g false = K0) :
   w_audit_claimed n q.agent q.kind q.an q.ad q.bn q.bd q.cn q.cd K = K0 := by
 obtain ⟨a1, a2, a3, a4, a5, a6⟩ := h64
 rw [claimed_eq a1 a2 a3 a4 a5 a6 hn]
 unfold qOk at h
 split
 · rename_i hp
   simp only [Bool.and_eq_true] at hp
   obtain ⟨h1, h2, h3⟩ := hp
   rw [h1, h2, h3, Bool.true_and, Bool.true_and, Bool.true_and] at h
   split
   · rename_i hk; rw [if_pos hk] at h; rw [h]; exact hK ..
   · rename_i hk
     rw [if_neg hk] at h
     split
     · rename_i hk2; rw [if_pos hk2] at h; rw [h]; exact hK ..
     · exact hK ..
 · exact hK ..
end Go.Pf.Vc
namespace Go.Pf.Vc
open Go Go.Pf
def cms (l : List Cm) : List PV := l.map encCm
theorem cms_len (l : List Cm) : (cms l).length = l.length := List.length_map ..
theorem cms_at {l : List Cm} {i : Nat} (h : i < l.length) : List.getD (cms l) i .nils = encCm (l.getD i default) := by
 unfold cms
 rw [List.getD_eq_getElem?_getD, List.getD_eq_getElem?_getD, List.getElem?_map, List.getElem?_eq_getElem h]
 rfl
theorem asCm (c : Cm) (P : Prop) : asr (conf (.agg [.i .i64, .i .i64, .i .i64, .i .i64, .i .i64, .i .i64, .b]) (encCm c)) P = P := rfl
theorem encCm0 (c : Cm) : intOfV (cellAt (encCm c) 0) = c.f.num := rfl
theorem encCm1 (c : Cm) : intOfV (cellAt (encCm c) 1) = c.f.den := rfl
theorem encCm2 (c : Cm) : intOfV (cellAt (encCm c) 2) = c.t.num := rfl
theorem encCm3 (c : Cm) : intOfV (cellAt (encCm c) 3) = c.t.den := rfl
theorem encCm4 (c : Cm) : intOfV (cellAt (encCm c) 4) = c.v.num := rfl
theorem encCm5 (c : Cm) : intOfV (cellAt (encCm c) 5) = c.v.den := rfl
theorem encCm6 (c : Cm) : boolOfV (cellAt (encCm c) 6) = c.m := rfl
theorem cms_one (c : Cm) : ([.agg [.int .i64 c.f.num, .int .i64 c.f.den, .int .i64 c.t.num, .int .i64 c.t.den, .int .i64 c.v.num, .int .i64 c.v.den, .bool c.m]] : List PV) = cms [c] := rfl
theorem cms_app (a b : List Cm) : cms a ++ cms b = cms (a ++ b) := by unfold cms; rw [List.map_append]
theorem encQ0 (q : Qy) : intOfV (cellAt (encQ q) 0) = q.agent := rfl
theorem encQ1 (q : Qy) : intOfV (cellAt (encQ q) 1) = q.kind := rfl
theorem encQ2 (q : Qy) : intOfV (cellAt (encQ q) 2) = q.an := rfl
theorem encQ3 (q : Qy) : intOfV (cellAt (encQ q) 3) = q.ad := rfl
theorem encQ4 (q : Qy) : intOfV (cellAt (encQ q) 4) = q.bn := rfl
theorem encQ5 (q : Qy) : intOfV (cellAt (encQ q) 5) = q.bd := rfl
theorem encQ6 (q : Qy) : intOfV (cellAt (encQ q) 6) = q.cn := rfl
theorem encQ7 (q : Qy) : intOfV (cellAt (encQ q) 7) = q.cd := rfl
theorem q64_at {log : List Qy} (h : ∀ q ∈ log, q.q64) {i : Nat} (hi : i < log.length) : (log.getD i default).q64 := by
 rw [List.getD_eq_getElem?_getD, List.getElem?_eq_getElem hi]
 exact h _ (List.getElem_mem hi)
theorem claims_loop {N : Int} (hN : small (N : Rat)) {log : List Qy} (h64 : ∀ q ∈ log, q.q64) (hl : log.length < 1000) {x0 : Int → List PV → Int → Int → Bool → Prop} {x1 : Int → Prop} {x2 : List PV → Int → List PV → Int → Int → Bool → Prop} {x3 : List PV → Int → Prop} {X : Prop} (hx3 : ∀ l, x3 l 8 = X) :
   ∀ (r i n : Nat) (acc : List Cm), i + r = log.length → r < n → acc.length ≤ i →
     L_audit_claims_0_1 w_audit_claimed x0 x1 x2 x3 n (cms acc) N (logs log) (log.length : Int) (i : Int) = if (log.drop i).all (qOk N) then x2 (cms (acc ++ (log.drop i).map cmOf)) N (logs log) (log.length : Int) (log.length : Int) false else X := by
 intro r
 induction r with
 | zero =>
   intro i n acc hi hn ha
   obtain ⟨n, rfl⟩ : ∃ m, n = m + 1 := ⟨n - 1, by omega⟩
   obtain rfl : i = log.length := by omega
   rw [L_audit_claims_0_1, cbF (by omega), List.drop_length]
   simp
 | succ r ih =>
   intro i n acc hi hn ha
   obtain ⟨n, rfl⟩ : ∃ m, n = m + 1 := ⟨n - 1, by omega⟩
   have hil : i < log.length := by omega
   have e1 := wib (n := (i : Int) + 1) (by omega) (by omega)
   have hd : log.drop i = log.getD i default :: log.drop (i + 1) := drop_cons default hil
   have hq := q64_at h64 hil
   generalize log.getD i default = q at hd hq
   have hq2 := logs_at hil
   rw [L_audit_claims_0_1, cbT (by omega)]
   dsimp only [lt]
   rw [logs_len, asT (by omega), asT (by omega), Int.toNat_natCast, hq2]
   have hge : log.getD i default = q := by
     have := congrArg List.head? hd
     rw [drop_cons default hil] at this
     simpa using this
   rw [hge, asQ, encQ0, encQ1, encQ2, encQ3, encQ4, encQ5, encQ6, encQ7, hd, List.all_cons]
   cases hk : qOk N q with
   | false =>
     rw [claimed_no hq hN hk (K0 := X) (fun a b c d e f g => by rw [Bool.not_false, cbr_true, hx3])]
     rfl
   | true =>
     rw [claimed_ok hq hN hk, Bool.not_true, cbr_false, cms_len, asE, asT (by omega), asNo (by omega), asE, asT (by show _ ≤ 35184372088832; omega), e1, cms_one, cms_app, asEE, asE, cast1, ih (i + 1) n _ (by omega) (by omega) (by simp; omega)]
     simp [List.append_assoc]
def claimsE (n : Int) (log : List Qy) : Int := if n < 1 ∨ n > 1000 then 2 else if log.length > 40 then 4 else if log.all (qOk n) then 0 else 8
theorem claims_eq {N : Int} {log : List Qy} (h64 : ∀ q ∈ log, q.q64) (hl : log.length < 1000) (K : List PV → Int → Prop) :
   w_audit_claims N (logs log) K = K (if claimsE N log = 0 then cms (log.map cmOf) else []) (claimsE N log) := by
 refine det_audit_claims _ _ _ _ (fun K k => ?_) K
 unfold w_audit_claims wv_audit_claims
 dsimp only [Go.Pf.jn]
 rw [logs_len]
 by_cases h1 : N < 1
 · have e : claimsE N log = 2 := by unfold claimsE; rw [if_pos (.inl h1)]
   rw [e] at k
   rw [cbT h1, cbr_true]; exact k
 · rw [cbF h1]
   by_cases h2 : N > 1000
   · have e : claimsE N log = 2 := by unfold claimsE; rw [if_pos (.inr h2)]
     rw [e] at k
     rw [decide_eq_true h2, cbr_true]; exact k
   · have e : claimsE N log = if log.length > 40 then 4 else if log.all (qOk N) then 0 else 8 := by unfold claimsE; rw [if_neg (by omega)]
     rw [e] at k
     clear e
     rw [decide_eq_false h2, cbr_false]
     by_cases h3 : log.length > 40
     · rw [if_pos h3] at k
       rw [cbT (by omega)]; exact k
     · rw [if_neg h3] at k
       rw [cbF (by omega)]
       have hN : small (N : Rat) := small_int3 (by omega) (by omega)
       refine ⟨log.length + 1, ?_⟩
       cases log with
       | nil =>
         rw [L_audit_claims_0_0, cbF (by simp)]
         exact k
       | cons q t =>
         have hq := h64 q List.mem_cons_self
         have e1 := wib (n := (0 : Int) + 1) (by omega) (by omega)
         have hat : List.getD (logs (q :: t)) ((0 : Int).toNat) .nils = encQ q := rfl
         rw [L_audit_claims_0_0, cbT (by simp only [List.length_cons]; omega)]
         dsimp only [lt]
         rw [logs_len, asT (by omega), asT (by simp only [List.length_cons]; omega), hat, asQ, encQ0, encQ1, encQ2, encQ3, encQ4, encQ5, encQ6, encQ7]
         rw [List.all_cons] at k
         cases hk : qOk N q with
         | false =>
           rw [hk] at k
           rw [claimed_no hq hN hk (K0 := K [] 8) (fun a b c d e f g => by rw [Bool.not_false, cbr_true])]
           exact k
         | true =>
           rw [hk, Bool.true_and] at k
           rw [claimed_ok hq hN hk, Bool.not_true, cbr_false, e1, cms_one]
           refine asr_iff.2 ⟨by simp [cms], ?_⟩
           refine (claims_loop (log := q :: t) hN h64 hl (X := K [] 8) (fun _ => rfl) t.length 1 _ [cmOf q] (by simp; omega) (by simp) (by simp)).mpr ?_
           simp only [List.drop_succ_cons, List.drop_zero]
           split
           · rename_i ht
             rw [if_pos ht] at k
             rw [asTr, cms_len, asT (by omega), ← cms_len, List.take_length]
             exact k
           · rename_i ht
             rw [if_neg ht] at k
             exact k
theorem claimsE_zero {N : Int} {log : List Qy} (h : claimsE N log = 0) : 1 ≤ N ∧ N ≤ 1000 ∧ log.length ≤ 40 ∧ log.all (qOk N) = true := by
 unfold claimsE at h
 split at h
 · cases h
 · split at h
   · cases h
   · split at h
     · rename_i h1 h2 h3; exact ⟨by omega, by omega, by omega, h3⟩
     · cases h
theorem claimsE_ok {N : Int} {log : List Qy} (h : claimsE N log = 0) : ∀ c ∈ log.map cmOf, c.ok N := by
 obtain ⟨_, _, _, h4⟩ := claimsE_zero h
 intro c hc
 obtain ⟨q, hq, rfl⟩ := List.mem_map.1 hc
 exact qOk_cm (List.all_eq_true.1 h4 q hq)
end Go.Pf.Vc
namespace Go.Pf.Vc
open Go Go.Pf Go.Sort
def dedR : Rat → List Rat → List Rat
 | _, [] => []
 | p, x :: r => if x = p then dedR p r else x :: dedR x r
def compR : List Rat → List Rat
 | [] => []
 | x :: r => x :: dedR x r
theorem dedR_len : ∀ (p : Rat) (r : List Rat), (dedR p r).length ≤ r.length
 | _, [] => Nat.le_refl _
 | p, x :: r => by
   unfold dedR
   split
   · have := dedR_len p r; simp only [List.length_cons]; omega
   · have := dedR_len x r; simp only [List.length_cons]; omega
end Go.Pf.Vc
