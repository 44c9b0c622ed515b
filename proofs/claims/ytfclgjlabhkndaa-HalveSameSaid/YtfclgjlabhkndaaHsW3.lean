/- Part 3 of what the statement rests on: a verified evaluator over pure values, the conditions of the program's functions, and their plain laws. -/
import Derived.Test.YtfclgjlabhkndaaHsW2
noncomputable section
namespace Go.Pf.Vc
open Go Go.Pf
set_option maxRecDepth 100000
def L_cake_Mark_0_0 (a0 : T_cake_Check) (a1 : T_cake_point) (a2 : T_ratio_gcd) (a3 : T_cake_whole) (a4 : T_cake_less) (a5 : T_ratio_Add) (a6 : T_ratio_Add) (a7 : T_ratio_Add) (a8 : T_ratio_Add) (x0 : Int → Int → Int → Int → Int → Int → Prop) (x1 : Int → Int → Int → Int → Int → Int → Ls → Ls → Int → Int → Ls → Int → Int → Bool → Prop) : Nat → Int → Int → Int → Int → Int → Int → Ls → Ls → Int → Int → Ls → Int → Int → Prop
 | 0, _, _, _, _, _, _, _, _, _, _, _, _, _ => False
 | n + 1, i0, i1, i2, i3, i4, i5, l6, l7, i8, i9, l10, i11, i12 =>
 (cbr (decide (i12 < i11))
 (asr (decide ((0 : Int) ≤ i12))
 (asr (decide (i12 < (((List.length l10) : Nat) : Int)))
 (asr (conf zI (List.getD l10 (i12.toNat) .nils))
 (asr (decide ((0 : Int) ≤ (IntKind.i64.wrap (i12 + (1 : Int)))))
 (asr (decide ((IntKind.i64.wrap (i12 + (1 : Int))) < (((List.length l6) : Nat) : Int)))
 (asr (conf zI (List.getD l6 ((IntKind.i64.wrap (i12 + (1 : Int))).toNat) .nils))
 (a3 (intOfV (List.getD l6 ((IntKind.i64.wrap (i12 + (1 : Int))).toNat) .nils)) (fun yi3 yi4 => 
 (a4 i8 i9 yi3 yi4 (fun yb5 => 
 (cbr (!yb5)
 (L_cake_Mark_0_0 a0 a1 a2 a3 a4 a5 a6 a7 a8 x0 x1 n i0 i1 i2 i3 i4 i5 l6 l7 i8 i9 l10 i11 (IntKind.i64.wrap (i12 + (1 : Int))))
 (a3 (0 : Int) (fun yi6 yi7 => 
 (cbr (decide ((intOfV (List.getD l10 (i12.toNat) .nils)) > (0 : Int)))
 (a5 yi3 yi4 i8 i9 (fun yi8 yi9 yi10 => 
 (cbr (yi10 != (0 : Int))
 (x0 i0 i1 i2 i3 i4 yi10)
 (a3 (intOfV (List.getD l10 (i12.toNat) .nils)) (fun yi11 yi12 => 
 (a6 yi8 yi9 yi11 yi12 (fun yi13 yi14 yi15 => 
 (cbr (yi15 != (0 : Int))
 (x0 i0 i1 i2 i3 i4 yi15)
 (cbr ((intOfV (List.getD l10 (i12.toNat) .nils)) == (0 : Int))
 (L_cake_Mark_0_0 a0 a1 a2 a3 a4 a5 a6 a7 a8 x0 x1 n i0 i1 i2 i3 i4 i5 l6 l7 yi3 yi4 l10 i11 (IntKind.i64.wrap (i12 + (1 : Int))))
 (a4 yi13 yi14 i0 i1 (fun yb16 => 
 (cbr yb16
 (a5 i0 i1 yi13 yi14 (fun yi17 yi18 yi19 => 
 (cbr (yi19 != (0 : Int))
 (cbr (yi19 != (0 : Int))
 (x0 yi17 yi18 i2 i3 yi19 (0 : Int))
 (L_cake_Mark_0_0 a0 a1 a2 a3 a4 a5 a6 a7 a8 x0 x1 n yi17 yi18 i2 i3 yi19 i5 l6 l7 yi3 yi4 l10 i11 (IntKind.i64.wrap (i12 + (1 : Int)))))
 (cbr (yi19 != (0 : Int))
 (x0 yi17 yi18 i2 i3 (6 : Int) (0 : Int))
 (L_cake_Mark_0_0 a0 a1 a2 a3 a4 a5 a6 a7 a8 x0 x1 n yi17 yi18 i2 i3 (6 : Int) i5 l6 l7 yi3 yi4 l10 i11 (IntKind.i64.wrap (i12 + (1 : Int))))))))
 (a3 (intOfV (List.getD l10 (i12.toNat) .nils)) (fun yi20 yi21 => 
 (a7 i0 i1 yi20 yi21 (fun yi22 yi23 yi24 => 
 (cbr (yi24 == (0 : Int))
 (a8 i8 i9 yi22 yi23 (fun yi25 yi26 yi27 => 
 (x0 i0 i1 yi25 yi26 yi27 (0 : Int))))
 (x0 i0 i1 i2 i3 yi24 (0 : Int)))))))))))))))))))
 (cbr ((intOfV (List.getD l10 (i12.toNat) .nils)) == (0 : Int))
 (L_cake_Mark_0_0 a0 a1 a2 a3 a4 a5 a6 a7 a8 x0 x1 n i0 i1 i2 i3 i4 i5 l6 l7 yi3 yi4 l10 i11 (IntKind.i64.wrap (i12 + (1 : Int))))
 (a4 yi6 yi7 i0 i1 (fun yb28 => 
 (cbr yb28
 (a5 i0 i1 yi6 yi7 (fun yi29 yi30 yi31 => 
 (cbr (yi31 != (0 : Int))
 (cbr (yi31 != (0 : Int))
 (x0 yi29 yi30 i2 i3 yi31 (0 : Int))
 (L_cake_Mark_0_0 a0 a1 a2 a3 a4 a5 a6 a7 a8 x0 x1 n yi29 yi30 i2 i3 yi31 i5 l6 l7 yi3 yi4 l10 i11 (IntKind.i64.wrap (i12 + (1 : Int)))))
 (cbr (yi31 != (0 : Int))
 (x0 yi29 yi30 i2 i3 (6 : Int) (0 : Int))
 (L_cake_Mark_0_0 a0 a1 a2 a3 a4 a5 a6 a7 a8 x0 x1 n yi29 yi30 i2 i3 (6 : Int) i5 l6 l7 yi3 yi4 l10 i11 (IntKind.i64.wrap (i12 + (1 : Int))))))))
 (a3 (intOfV (List.getD l10 (i12.toNat) .nils)) (fun yi32 yi33 => 
 (a7 i0 i1 yi32 yi33 (fun yi34 yi35 yi36 => 
 (cbr (yi36 == (0 : Int))
 (a8 i8 i9 yi34 yi35 (fun yi37 yi38 yi39 => 
 (x0 i0 i1 yi37 yi38 yi39 (0 : Int))))
 (x0 i0 i1 i2 i3 yi36 (0 : Int)))))))))))))))))))))))))
 (x1 i0 i1 i2 i3 i4 i5 l6 l7 i8 i9 l10 i11 i12 false))
def wv_cake_Mark (a0 : T_cake_Check) (a1 : T_cake_point) (a2 : T_ratio_gcd) (a3 : T_cake_whole) (a4 : T_cake_less) (a5 : T_ratio_Add) (a6 : T_ratio_Add) (a7 : T_ratio_Add) (a8 : T_ratio_Add) (p0 : Int) (p1 p2 : Ls) (p3 p4 p5 p6 : Int) (K : Int → Int → Int → Prop) : Prop :=
 (a0 p0 p1 p2 (fun yi0 => 
 (cbr (yi0 != (0 : Int))
 (K (0 : Int) (0 : Int) yi0)
 (a1 p0 p1 p2 p3 p4 (fun yb1 => 
 (cbr (!yb1)
 (K (0 : Int) (0 : Int) (2 : Int))
 (a2 p5 p6 (fun yi2 => 
 (cbr (yi2 != (0 : Int))
 (K (0 : Int) (0 : Int) (2 : Int))
 (cbr (decide (p5 < (0 : Int)))
 (K (0 : Int) (0 : Int) (2 : Int))
 (cbr (p5 == (0 : Int))
 (K p3 p4 (0 : Int))
 (∃ n : Nat, L_cake_Mark_0_0 a0 a1 a2 a3 a4 a5 a6 a7 a8
 (fun _ _ yi42 yi43 yi44 yi45 => (cbr (yi45 != (0 : Int))
 (cbr (yi45 != (0 : Int))
 (K (0 : Int) (0 : Int) yi45)
 (K yi42 yi43 (0 : Int)))
 (cbr (yi44 != (0 : Int))
 (K (0 : Int) (0 : Int) yi44)
 (K yi42 yi43 (0 : Int)))))
 (fun _ _ yi48 yi49 yi50 _ _ _ _ _ _ _ _ _ => (cbr (yi50 != (0 : Int))
 (K (0 : Int) (0 : Int) yi50)
 (K yi48 yi49 (0 : Int))))
 n p5 p6 (0 : Int) (0 : Int) (6 : Int) p0 p1 p2 p3 p4 p2 (((List.length p2) : Nat) : Int) (0 : Int)))))))))))))
def w_cake_Mark : T_cake_Value := wv_cake_Mark w_cake_Check w_cake_point w_ratio_Check w_cake_whole w_cake_less w_ratio_Sub w_ratio_Mul w_ratio_Div w_ratio_Add
def X_cake_Mark_0_0 (Q : Qx) : Int → Int → Int → Int → Int → Int → Prop := (fun i0 i1 i2 i3 i4 i5 => Q .ret [(6, .v (.int .i64 i5))] [⟨false, true, 2, ([(.agg [(.int .i64 i0), (.int .i64 i1)])] : Ls)⟩, ⟨false, true, 2, ([(.agg [(.int .i64 i2), (.int .i64 i3)])] : Ls)⟩, ⟨false, true, 1, ([(.int .i64 i4)] : Ls)⟩])
def X_cake_Mark_0_1 (Q : Qx) : Int → Int → Int → Int → Int → Int → Ls → Ls → Int → Int → Ls → Int → Int → Bool → Prop := (fun i0 i1 i2 i3 i4 i5 l6 l7 i8 i9 l10 i11 i12 b13 => Q (.exit 0) [(2, .v (.fn (.func n_cake_Mark_1) [] [(.ptr 0 1 0 0), (.ptr 2 1 0 0), (.ptr 1 1 0 0)])), (3, .box (.agg [(.int .i64 i5), (.data l6), (.data l7)])), (4, .box (.agg [(.int .i64 i8), (.int .i64 i9)])), (14, .v (.data l10)), (15, .v (.int .i64 i11)), (16, .v (.int .i64 i12)), (17, .v (.bool b13))] [⟨false, true, 2, ([(.agg [(.int .i64 i0), (.int .i64 i1)])] : Ls)⟩, ⟨false, true, 2, ([(.agg [(.int .i64 i2), (.int .i64 i3)])] : Ls)⟩, ⟨false, true, 1, ([(.int .i64 i4)] : Ls)⟩])
def St_cake_Mark_0 (a0 : T_cake_Check) (a1 : T_cake_point) (a2 : T_ratio_gcd) (a3 : T_cake_whole) (a4 : T_cake_less) (a5 : T_ratio_Add) (a6 : T_ratio_Add) (a7 : T_ratio_Add) (a8 : T_ratio_Add) (Q : Qx) : List St := [⟨(pS (hB false true 2 (rC pt6 rN) (hB false true 2 (rC pt6 rN) (hB false true 1 (rC pt0 rN) hN))) (fV 2 (vF n_cake_Mark_1 lN (lC (vP 0 0 (nK 1) (nK 0)) (lC (vP 2 0 (nK 1) (nK 0)) (lC (vP 1 0 (nK 1) (nK 0)) lN)))) (fX 3 pt13 (fX 4 pt6 pt15))) fN), L_cake_Mark_0_0 a0 a1 a2 a3 a4 a5 a6 a7 a8 (X_cake_Mark_0_0 Q) (X_cake_Mark_0_1 Q)⟩]
def lp_cake_Mark (a0 : T_cake_Check) (a1 : T_cake_point) (a2 : T_ratio_gcd) (a3 : T_cake_whole) (a4 : T_cake_less) (a5 : T_ratio_Add) (a6 : T_ratio_Add) (a7 : T_ratio_Add) (a8 : T_ratio_Add) : LP := lpS [(41613500, St_cake_Mark_0 a0 a1 a2 a3 a4 a5 a6 a7 a8)]
def S0_cake_Mark (e : Es) (a0 : T_cake_Check) (a1 : T_cake_point) (a2 : T_ratio_gcd) (a3 : T_cake_whole) (a4 : T_cake_less) (a5 : T_ratio_Add) (a6 : T_ratio_Add) (a7 : T_ratio_Add) (a8 : T_ratio_Add) : SE := ⟨(E e), lookS [(n_cake_Check, sg_cake_Check.pw a0), (n_cake_point, sg_cake_point.pw a1), (n_ratio_Check, sg_ratio_Check.pw a2), (n_cake_whole, sg_cake_whole.pw a3), (n_cake_less, sg_cake_less.pw a4), (n_ratio_Sub, sg_ratio_Add.pw a5), (n_ratio_Mul, sg_ratio_Add.pw a6), (n_ratio_Div, sg_ratio_Add.pw a7), (n_ratio_Add, sg_ratio_Add.pw a8)], lookI [(n_cake_Mark_1, t_cake_Mark_1)], lp_cake_Mark a0 a1 a2 a3 a4 a5 a6 a7 a8, fun _ => none⟩
def S1_cake_Mark (e : Es) (a0 : T_cake_Check) (a1 : T_cake_point) (a2 : T_ratio_gcd) (a3 : T_cake_whole) (a4 : T_cake_less) (a5 : T_ratio_Add) (a6 : T_ratio_Add) (a7 : T_ratio_Add) (a8 : T_ratio_Add) : SE := ⟨(E e), lookS [(n_cake_Check, sg_cake_Check.pw a0), (n_cake_point, sg_cake_point.pw a1), (n_ratio_Check, sg_ratio_Check.pw a2), (n_cake_whole, sg_cake_whole.pw a3), (n_cake_less, sg_cake_less.pw a4), (n_ratio_Sub, sg_ratio_Add.pw a5), (n_ratio_Mul, sg_ratio_Add.pw a6), (n_ratio_Div, sg_ratio_Add.pw a7), (n_ratio_Add, sg_ratio_Add.pw a8)], lookI [(n_cake_walk, t_cake_walk), (n_cake_Mark_1, t_cake_Mark_1)], lp_cake_Mark a0 a1 a2 a3 a4 a5 a6 a7 a8, fun _ => none⟩
theorem se0_cake_Mark (e : Es) (he : EG e) : SEOk (Uni (E e)) (S0_cake_Mark e w_cake_Check w_cake_point w_ratio_Check w_cake_whole w_cake_less w_ratio_Sub w_ratio_Mul w_ratio_Div w_ratio_Add) := seOk_of (Sub.uni _) ⟨(ok_cake_Check e he), (ok_cake_point e he), (ok_ratio_Check e he), (ok_cake_whole e he), (ok_cake_less e he), (ok_ratio_Sub e he), (ok_ratio_Mul e he), (ok_ratio_Div e he), (ok_ratio_Add e he), trivial⟩ ⟨⟨by kernel_rfl, by kernel_rfl, rfl, fun az => baseS_none (by kernel_rfl) az, he.num _ (by kernel_rfl), by kernel_rfl, (LpOk_no (by kernel_rfl))⟩, trivial⟩ he.ok
theorem body_cake_Mark_0 (e : Es) (a0 a1 a2 a3 a4 a5 a6 a7 a8) : BodOk (S0_cake_Mark e a0 a1 a2 a3 a4 a5 a6 a7 a8) 5 yk0 b_41613500 false (St_cake_Mark_0 a0 a1 a2 a3 a4 a5 a6 a7 a8) := fun _ => ⟨fun _ => by kernel_rfl, fun _ _ => by kernel_rfl, trivial⟩
theorem loop_cake_Mark_0 (e : Es) (he : EG e) : LpT (Uni (E e)) (lp_cake_Mark w_cake_Check w_cake_point w_ratio_Check w_cake_whole w_cake_less w_ratio_Sub w_ratio_Mul w_ratio_Div w_ratio_Add) [] 41613500 (.loop 41613500 b_41613500) := fun _ _ _ => LoopT.st (Sub.uni _) (callW_ok (se0_cake_Mark e he) 5) (YOk.no _ _) (LpOk_no (by kernel_rfl)) (body_cake_Mark_0 e _ _ _ _ _ _ _ _ _ _)
theorem se1_cake_Mark (e : Es) (he : EG e) : SEOk (Uni (E e)) (S1_cake_Mark e w_cake_Check w_cake_point w_ratio_Check w_cake_whole w_cake_less w_ratio_Sub w_ratio_Mul w_ratio_Div w_ratio_Add) := seOk_of (Sub.uni _) ⟨(ok_cake_Check e he), (ok_cake_point e he), (ok_ratio_Check e he), (ok_cake_whole e he), (ok_cake_less e he), (ok_ratio_Sub e he), (ok_ratio_Mul e he), (ok_ratio_Div e he), (ok_ratio_Add e he), trivial⟩ ⟨⟨by kernel_rfl, by kernel_rfl, rfl, fun az => baseS_none (by kernel_rfl) az, he.num _ (by kernel_rfl), by kernel_rfl, (LpOk_by (l := [(41613500, .loop 41613500 b_41613500)]) ⟨loop_cake_Mark_0 e he, trivial⟩ (by kernel_rfl))⟩, ⟨by kernel_rfl, by kernel_rfl, rfl, fun az => baseS_none (by kernel_rfl) az, he.num _ (by kernel_rfl), by kernel_rfl, (LpOk_no (by kernel_rfl))⟩, trivial⟩ he.ok
theorem eq_cake_Mark (e : Es) (a0 a1 a2 a3 a4 a5 a6 a7 a8) : EqW (S1_cake_Mark e a0 a1 a2 a3 a4 a5 a6 a7 a8) 6 t_cake_Mark sg_cake_Value (wv_cake_Mark a0 a1 a2 a3 a4 a5 a6 a7 a8) := fun _ _ => by kernel_rfl
theorem ok_cake_Mark (e : Es) (he : EG e) : OkF (E e) (sg_cake_Value.pw w_cake_Mark) n_cake_Mark := okU he (eq_cake_Mark e _ _ _ _ _ _ _ _ _) (se1_cake_Mark e he) RngOk.flat (LpOk_no (by kernel_rfl))
end Go.Pf.Vc
namespace Go.Pf.Vc
open Go Go.Pf
set_option linter.unusedVariables false
theorem det_cake_Check (p0 : Int) (p1 : Ls) (p2 : Ls) (r0 : Int) (h : ∀ K : Int → Prop, K r0 → w_cake_Check p0 p1 p2 K) (K : Int → Prop) : w_cake_Check p0 p1 p2 K = K r0 :=
 propext ⟨fun k => detC (ok_cake_Check [] effG_nil) (az := [(.agg [(.int .i64 p0), (.data p1), (.data p2)])]) (x := (.int .i64 r0)) (fun K' k' => h (fun r0 => K' (.int .i64 r0)) k') (K := fun x => match x with | (.int .i64 r0) => K r0 | _ => False) k, h K⟩
theorem det_cake_Total (p0 : Int) (p1 : Ls) (p2 : Ls) (r0 : Int) (r1 : Int) (h : ∀ K : Int → Int → Prop, K r0 r1 → w_cake_Total p0 p1 p2 K) (K : Int → Int → Prop) : w_cake_Total p0 p1 p2 K = K r0 r1 :=
 propext ⟨fun k => detC (ok_cake_Total [] effG_nil) (az := [(.agg [(.int .i64 p0), (.data p1), (.data p2)])]) (x := (.tup [(.int .i64 r0), (.int .i64 r1)])) (fun K' k' => h (fun r0 r1 => K' (.tup [(.int .i64 r0), (.int .i64 r1)])) k') (K := fun x => match x with | (.tup [(.int .i64 r0), (.int .i64 r1)]) => K r0 r1 | _ => False) k, h K⟩
theorem det_cake_Value (p0 : Int) (p1 : Ls) (p2 : Ls) (p3 : Int) (p4 : Int) (p5 : Int) (p6 : Int) (r0 : Int) (r1 : Int) (r2 : Int) (h : ∀ K : Int → Int → Int → Prop, K r0 r1 r2 → w_cake_Value p0 p1 p2 p3 p4 p5 p6 K) (K : Int → Int → Int → Prop) : w_cake_Value p0 p1 p2 p3 p4 p5 p6 K = K r0 r1 r2 :=
 propext ⟨fun k => detC (ok_cake_Value [] effG_nil) (az := [(.agg [(.int .i64 p0), (.data p1), (.data p2)]), (.agg [(.int .i64 p3), (.int .i64 p4)]), (.agg [(.int .i64 p5), (.int .i64 p6)])]) (x := (.tup [(.agg [(.int .i64 r0), (.int .i64 r1)]), (.int .i64 r2)])) (fun K' k' => h (fun r0 r1 r2 => K' (.tup [(.agg [(.int .i64 r0), (.int .i64 r1)]), (.int .i64 r2)])) k') (K := fun x => match x with | (.tup [(.agg [(.int .i64 r0), (.int .i64 r1)]), (.int .i64 r2)]) => K r0 r1 r2 | _ => False) k, h K⟩
theorem det_cake_Mark (p0 : Int) (p1 : Ls) (p2 : Ls) (p3 : Int) (p4 : Int) (p5 : Int) (p6 : Int) (r0 : Int) (r1 : Int) (r2 : Int) (h : ∀ K : Int → Int → Int → Prop, K r0 r1 r2 → w_cake_Mark p0 p1 p2 p3 p4 p5 p6 K) (K : Int → Int → Int → Prop) : w_cake_Mark p0 p1 p2 p3 p4 p5 p6 K = K r0 r1 r2 :=
 propext ⟨fun k => detC (ok_cake_Mark [] effG_nil) (az := [(.agg [(.int .i64 p0), (.data p1), (.data p2)]), (.agg [(.int .i64 p3), (.int .i64 p4)]), (.agg [(.int .i64 p5), (.int .i64 p6)])]) (x := (.tup [(.agg [(.int .i64 r0), (.int .i64 r1)]), (.int .i64 r2)])) (fun K' k' => h (fun r0 r1 r2 => K' (.tup [(.agg [(.int .i64 r0), (.int .i64 r1)]), (.int .i64 r2)])) k') (K := fun x => match x with | (.tup [(.agg [(.int .i64 r0), (.int .i64 r1)]), (.int .i64 r2)]) => K r0 r1 r2 | _ => False) k, h K⟩
end Go.Pf.Vc
namespace Go.Pf.Vc
open Go Go.Pf
set_option maxRecDepth 100000
abbrev T_ask_Check : Type := Ls → Ls → (Int → Prop) → Prop
def L_ask_Check_0_0 (a0 : T_cake_Check) (x12157600_0 : Int → Prop) (x12157600_1 : Ls → Ls → Ls → Int → Int → Bool → Prop) : Nat → Ls → Ls → Ls → Int → Int → Prop
 | 0, _, _, _, _, _ => False
 | n12157600 + 1, l0, l1, l2, i3, i4 =>
 (cbr (decide (i4 < i3))
 (asr (decide ((0 : Int) ≤ i4))
 (asr (decide (i4 < (((List.length l2) : Nat) : Int)))
 (asr (conf zK (List.getD l2 (i4.toNat) .nils))
 (a0 (intOfV (cellAt (List.getD l2 (i4.toNat) .nils) 0)) (datOfV (cellAt (List.getD l2 (i4.toNat) .nils) 1)) (datOfV (cellAt (List.getD l2 (i4.toNat) .nils) 2)) (fun yi0 => 
 (cbr (yi0 != (0 : Int))
 (x12157600_0 yi0)
 (L_ask_Check_0_0 a0 x12157600_0 x12157600_1 n12157600 l0 l1 l2 i3 (IntKind.i64.wrap (i4 + (1 : Int))))))))))
 (x12157600_1 l0 l1 l2 i3 i4 false))
def L_ask_Check_1_0 (a0 : T_cake_Check) (x12157601_0 : Int → Prop) (x12157601_1 : Ls → Ls → Ls → Int → Int → Bool → Prop) : Nat → Ls → Ls → Ls → Int → Int → Prop
 | 0, _, _, _, _, _ => False
 | n12157601 + 1, l0, l1, l2, i3, i4 =>
 (cbr (decide (i4 < i3))
 (asr (decide ((0 : Int) ≤ i4))
 (asr (decide (i4 < (((List.length l2) : Nat) : Int)))
 (asr (conf zK (List.getD l2 (i4.toNat) .nils))
 (asr (decide ((0 : Int) < (((List.length l0) : Nat) : Int)))
 (asr (conf zK (List.getD l0 0 .nils))
 (cbr ((intOfV (cellAt (List.getD l2 (i4.toNat) .nils) 0)) != (intOfV (cellAt (List.getD l0 0 .nils) 0)))
 (x12157601_0 (8 : Int))
 (L_ask_Check_1_0 a0 x12157601_0 x12157601_1 n12157601 l0 l1 l2 i3 (IntKind.i64.wrap (i4 + (1 : Int))))))))))
 (x12157601_1 l0 l1 l2 i3 i4 false))
def wv_ask_Check (a0 : T_cake_Check) (p0 p1 : Ls) (K : Int → Prop) : Prop :=
 (cbr (decide ((((List.length p0) : Nat) : Int) > (6 : Int)))
 (K (4 : Int))
 (cbr (decide ((((List.length p1) : Nat) : Int) > (2000 : Int)))
 (K (4 : Int))
 (cbr ((((List.length p0) : Nat) : Int) == (0 : Int))
 (K (8 : Int))
 (∃ n12157600 : Nat, L_ask_Check_0_0 a0
 (fun yi1 => (K yi1))
 (fun yl2 yl3 _ _ _ _ => (∃ n12157601 : Nat, L_ask_Check_1_0 a0
 (fun yi8 => (K yi8))
 (fun _ _ _ _ _ _ => (K (0 : Int)))
 n12157601 yl2 yl3 yl2 (((List.length yl2) : Nat) : Int) (0 : Int)))
 n12157600 p0 p1 p0 (((List.length p0) : Nat) : Int) (0 : Int)))))
def w_ask_Check : T_ask_Check := wv_ask_Check w_cake_Check
def pt16 : VPt := vA pt12
def sg_ask_Check : Sg := ⟨(lC pt16 lN), Int → Prop, fun K => (fun r0 => K (.int .i64 r0))⟩
def X_ask_Check_0_0 (Q : Qx) : Int → Prop := (fun i0 => Q .ret [(2, .v (.int .i64 i0))] [])
def X_ask_Check_0_1 (Q : Qx) : Ls → Ls → Ls → Int → Int → Bool → Prop := (fun l0 l1 l2 i3 i4 b5 => Q (.exit 0) [(1, .box (.agg [(.data l0), (.data l1)])), (23, .v (.data l2)), (24, .v (.int .i64 i3)), (25, .v (.int .i64 i4)), (26, .v (.bool b5))] [])
def X_ask_Check_1_0 (Q : Qx) : Int → Prop := (fun i0 => Q .ret [(2, .v (.int .i64 i0))] [])
def X_ask_Check_1_1 (Q : Qx) : Ls → Ls → Ls → Int → Int → Bool → Prop := (fun l0 l1 l2 i3 i4 b5 => Q (.exit 2) [(1, .box (.agg [(.data l0), (.data l1)])), (36, .v (.data l2)), (37, .v (.int .i64 i3)), (38, .v (.int .i64 i4)), (39, .v (.bool b5))] [])
def St_ask_Check_0 (a0 : T_cake_Check) (Q : Qx) : List St := [⟨(pS hN (fX 1 pt16 (fV 23 vD (fV 24 pt0 (fV 25 pt0 fN)))) fN), L_ask_Check_0_0 a0 (X_ask_Check_0_0 Q) (X_ask_Check_0_1 Q)⟩]
def St_ask_Check_1 (a0 : T_cake_Check) (Q : Qx) : List St := [⟨(pS hN (fX 1 pt16 (fV 36 vD (fV 37 pt0 (fV 38 pt0 fN)))) fN), L_ask_Check_1_0 a0 (X_ask_Check_1_0 Q) (X_ask_Check_1_1 Q)⟩]
def lp_ask_Check (a0 : T_cake_Check) : LP := lpS [(12157600, St_ask_Check_0 a0), (12157601, St_ask_Check_1 a0)]
def S0_ask_Check (e : Es) (a0 : T_cake_Check) : SE := sE (E e) [(n_cake_Check, sg_cake_Check.pw a0)] (lp_ask_Check a0)
theorem se0_ask_Check (e : Es) (he : EG e) : SEOk (Uni (E e)) (S0_ask_Check e w_cake_Check) := seOk_of (Sub.uni _) ⟨(ok_cake_Check e he), trivial⟩ trivial he.ok
theorem body_ask_Check_0 (e : Es) (a0) : BodOk (S0_ask_Check e a0) 5 yk0 b_12157600 false (St_ask_Check_0 a0) := fun _ => ⟨fun _ => by kernel_rfl, fun _ _ => by kernel_rfl, trivial⟩
theorem loop_ask_Check_0 (e : Es) (he : EG e) : LpT (Uni (E e)) (lp_ask_Check w_cake_Check) [] 12157600 (.loop 12157600 b_12157600) := fun _ _ _ => LoopT.st (Sub.uni _) (callW_ok (se0_ask_Check e he) 5) (YOk.no _ _) (LpOk_no (by kernel_rfl)) (body_ask_Check_0 e _ _)
theorem body_ask_Check_1 (e : Es) (a0) : BodOk (S0_ask_Check e a0) 5 yk0 b_12157601 false (St_ask_Check_1 a0) := fun _ => ⟨fun _ => by kernel_rfl, fun _ _ => by kernel_rfl, trivial⟩
theorem loop_ask_Check_1 (e : Es) (he : EG e) : LpT (Uni (E e)) (lp_ask_Check w_cake_Check) [] 12157601 (.loop 12157601 b_12157601) := fun _ _ _ => LoopT.st (Sub.uni _) (callW_ok (se0_ask_Check e he) 5) (YOk.no _ _) (LpOk_no (by kernel_rfl)) (body_ask_Check_1 e _ _)
theorem eq_ask_Check (e : Es) (a0) : EqW (S0_ask_Check e a0) 6 t_ask_Check sg_ask_Check (wv_ask_Check a0) := fun _ _ => by kernel_rfl
theorem ok_ask_Check (e : Es) (he : EG e) : OkF (E e) (sg_ask_Check.pw w_ask_Check) n_ask_Check := okU he (eq_ask_Check e _) (se0_ask_Check e he) RngOk.flat (LpOk_by (l := [(12157600, .loop 12157600 b_12157600), (12157601, .loop 12157601 b_12157601)]) ⟨loop_ask_Check_0 e he, loop_ask_Check_1 e he, trivial⟩ (by kernel_rfl))
abbrev T_ask_copied : Type := Ls → (Ls → Prop) → Prop
mutual
def L_ask_copied_0_0 (a0 : T_s_Clone_int_int) (x0 : Ls → Ls → Int → Int → Bool → Prop) (x1 : Ls → Int → Int → Bool → Prop) : Nat → Ls → Int → Int → Prop
 | 0, _, _, _ => False
 | n + 1, l0, i1, i2 =>
 (cbr (decide (i2 < i1))
 (asr (decide ((0 : Int) ≤ i2))
 (asr (decide (i2 < (((List.length l0) : Nat) : Int)))
 (asr (conf zK (List.getD l0 (i2.toNat) .nils))
 (a0 (datOfV (cellAt (List.getD l0 (i2.toNat) .nils) 1)) (fun yl0 => 
 (a0 (datOfV (cellAt (List.getD l0 (i2.toNat) .nils) 2)) (fun yl1 => 
 (asr (decide (1 = List.length ([(.agg [(.int .i64 (intOfV (cellAt (List.getD l0 (i2.toNat) .nils) 0))), (.data yl0), (.data yl1)])] : Ls)) && decide (1 = List.length ([(.agg [(.int .i64 (intOfV (cellAt (List.getD l0 (i2.toNat) .nils) 0))), (.data yl0), (.data yl1)])] : Ls)))
 (L_ask_copied_0_1 a0 x0 x1 n ([(.agg [(.int .i64 (intOfV (cellAt (List.getD l0 (i2.toNat) .nils) 0))), (.data yl0), (.data yl1)])] : Ls) l0 i1 (IntKind.i64.wrap (i2 + (1 : Int))))))))))))
 (x1 l0 i1 i2 false))
def L_ask_copied_0_1 (a0 : T_s_Clone_int_int) (x0 : Ls → Ls → Int → Int → Bool → Prop) (x1 : Ls → Int → Int → Bool → Prop) : Nat → Ls → Ls → Int → Int → Prop
 | 0, _, _, _, _ => False
 | n + 1, l0, l3, i4, i5 =>
 (cbr (decide (i5 < i4))
 (asr (decide ((0 : Int) ≤ i5))
 (asr (decide (i5 < (((List.length l3) : Nat) : Int)))
 (asr (conf zK (List.getD l3 (i5.toNat) .nils))
 (a0 (datOfV (cellAt (List.getD l3 (i5.toNat) .nils) 1)) (fun yl2 => 
 (a0 (datOfV (cellAt (List.getD l3 (i5.toNat) .nils) 2)) (fun yl3 => 
 (asr (decide ((List.length l0) = (List.length l0)))
 (asr (decide ((0 + (List.length l0)) ≤ (List.length l0)))
 (asr (!(decide (((0 + (List.length l0)) + 1) ≤ (List.length l0))))
 (asr (decide ((List.length l0) = (List.length l0)))
 (asr (decide ((((List.length l0) + 1) + 64) * (56 + 1) ≤ room))
 (asr (decide ((List.length (l0 ++ ([(.agg [(.int .i64 (intOfV (cellAt (List.getD l3 (i5.toNat) .nils) 0))), (.data yl2), (.data yl3)])] : Ls))) = List.length (l0 ++ ([(.agg [(.int .i64 (intOfV (cellAt (List.getD l3 (i5.toNat) .nils) 0))), (.data yl2), (.data yl3)])] : Ls))) && decide ((List.length (l0 ++ ([(.agg [(.int .i64 (intOfV (cellAt (List.getD l3 (i5.toNat) .nils) 0))), (.data yl2), (.data yl3)])] : Ls))) = List.length (l0 ++ ([(.agg [(.int .i64 (intOfV (cellAt (List.getD l3 (i5.toNat) .nils) 0))), (.data yl2), (.data yl3)])] : Ls))))
 (L_ask_copied_0_1 a0 x0 x1 n (l0 ++ ([(.agg [(.int .i64 (intOfV (cellAt (List.getD l3 (i5.toNat) .nils) 0))), (.data yl2), (.data yl3)])] : Ls)) l3 i4 (IntKind.i64.wrap (i5 + (1 : Int)))))))))))))))))
 (x0 l0 l3 i4 i5 false))
end
def wv_ask_copied (a0 : T_s_Clone_int_int) (p0 : Ls) (K : Ls → Prop) : Prop :=
 (∃ n : Nat, L_ask_copied_0_0 a0
 (fun yl4 _ _ _ _ => (asr (decide ((List.length yl4) = (List.length yl4)))
 (asr (decide ((0 + (List.length yl4)) ≤ (List.length yl4)))
 (K (List.take (List.length yl4) yl4)))))
 (fun _ _ _ _ => (K ([] : Ls)))
 n p0 (((List.length p0) : Nat) : Int) (0 : Int))
def w_ask_copied : T_ask_copied := wv_ask_copied w_s_Clone_int_int
def sg_ask_copied : Sg := ⟨pt7, Ls → Prop, fun K => (fun r0 => K (.data r0))⟩
def X_ask_copied_0_0 (Q : Qx) : Ls → Ls → Int → Int → Bool → Prop := (fun l0 l3 i4 i5 b6 => Q (.exit 0) [(3, .v (.own 0 0 (List.length l0) (List.length l0) none)), (6, .v (.data l3)), (7, .v (.int .i64 i4)), (8, .v (.int .i64 i5)), (9, .v (.bool b6))] [⟨false, true, 3, l0⟩])
def X_ask_copied_0_1 (Q : Qx) : Ls → Int → Int → Bool → Prop := (fun l0 i1 i2 b3 => Q (.exit 0) [(3, .v .nils), (6, .v (.data l0)), (7, .v (.int .i64 i1)), (8, .v (.int .i64 i2)), (9, .v (.bool b3))] [])
def pt17 : HPt := hB false true 3 rA hN
def pt18 : VPt := vW 0 (nK 0) (nT 0) (nT 0)
def St_ask_copied_0 (a0 : T_s_Clone_int_int) (Q : Qx) : List St := [⟨(pS hN (fV 3 vNs pt8) fN), L_ask_copied_0_0 a0 (X_ask_copied_0_0 Q) (X_ask_copied_0_1 Q)⟩, ⟨(pS pt17 (fV 3 pt18 pt8) fN), L_ask_copied_0_1 a0 (X_ask_copied_0_0 Q) (X_ask_copied_0_1 Q)⟩]
def lp_ask_copied (a0 : T_s_Clone_int_int) : LP := lpS [(94933800, St_ask_copied_0 a0)]
def S0_ask_copied (e : Es) (a0 : T_s_Clone_int_int) : SE := sE (E e) [(n_s_Clone_int_int, pw_s_Clone_int_int a0)] (lp_ask_copied a0)
theorem se0_ask_copied (e : Es) (he : EG e) : SEOk (Uni (E e)) (S0_ask_copied e w_s_Clone_int_int) := seOk_of (Sub.uni _) ⟨(ok_s_Clone_int_int e he), trivial⟩ trivial he.ok
theorem body_ask_copied_0 (e : Es) (a0) : BodOk (S0_ask_copied e a0) 5 yk0 b_94933800 false (St_ask_copied_0 a0) := fun _ => ⟨fun _ => by kernel_rfl, fun _ _ => by kernel_rfl, fun _ => by kernel_rfl, fun _ _ => by kernel_rfl, trivial⟩
theorem loop_ask_copied_0 (e : Es) (he : EG e) : LpT (Uni (E e)) (lp_ask_copied w_s_Clone_int_int) [] 94933800 (.loop 94933800 b_94933800) := fun _ _ _ => LoopT.st (Sub.uni _) (callW_ok (se0_ask_copied e he) 5) (YOk.no _ _) (LpOk_no (by kernel_rfl)) (body_ask_copied_0 e _ _)
theorem eq_ask_copied (e : Es) (a0) : EqW (S0_ask_copied e a0) 6 t_ask_copied sg_ask_copied (wv_ask_copied a0) := fun _ _ => by kernel_rfl
theorem ok_ask_copied (e : Es) (he : EG e) : OkF (E e) (sg_ask_copied.pw w_ask_copied) n_ask_copied := okU he (eq_ask_copied e _) (se0_ask_copied e he) RngOk.flat (LpOk_by (l := [(94933800, .loop 94933800 b_94933800)]) ⟨loop_ask_copied_0 e he, trivial⟩ (by kernel_rfl))
abbrev T_ask_Open : Type := Ls → (Ls → Ls → Int → Prop) → Prop
def wv_ask_Open (a0 : T_ask_Check) (a1 : T_ask_copied) (p0 : Ls) (K : Ls → Ls → Int → Prop) : Prop :=
 (a0 p0 ([] : Ls) (fun yi0 => 
 (cbr (yi0 != (0 : Int))
 (K ([] : Ls) ([] : Ls) yi0)
 (a1 p0 (fun yl1 => 
 (K yl1 ([] : Ls) (0 : Int)))))))
def w_ask_Open : T_ask_Open := wv_ask_Open w_ask_Check w_ask_copied
def sg_ask_Open : Sg := ⟨pt7, Ls → Ls → Int → Prop, fun K => (fun r0 r1 r2 => K (.tup [(.agg [(.data r0), (.data r1)]), (.int .i64 r2)]))⟩
def S0_ask_Open (e : Es) (a0 : T_ask_Check) (a1 : T_ask_copied) : SE := sE (E e) [(n_ask_Check, sg_ask_Check.pw a0), (n_ask_copied, sg_ask_copied.pw a1)] lp0
theorem eq_ask_Open (e : Es) (a0 a1) : EqW (S0_ask_Open e a0 a1) 6 t_ask_Open sg_ask_Open (wv_ask_Open a0 a1) := fun _ _ => by kernel_rfl
theorem ok_ask_Open (e : Es) (he : EG e) : OkF (E e) (sg_ask_Open.pw w_ask_Open) n_ask_Open := okU he (eq_ask_Open e _ _) (seOk_of (Sub.uni _) ⟨(ok_ask_Check e he), (ok_ask_copied e he), trivial⟩ trivial he.ok) RngOk.flat (LpOk_no (by kernel_rfl))
abbrev T_ask_office_has : Type := Ls → Ls → Int → (Bool → Prop) → Prop
def wv_ask_office_has (p0 _ : Ls) (p2 : Int) (K : Bool → Prop) : Prop :=
 (cbr (decide (p2 ≥ (0 : Int)))
 (K (decide (p2 < (((List.length p0) : Nat) : Int))))
 (K false))
def w_ask_office_has : T_ask_office_has := wv_ask_office_has
def sg_ask_office_has : Sg := ⟨(lC pt16 pt1), Bool → Prop, fun K => (fun r0 => K (.bool r0))⟩
def S0_ask_office_has (e : Es) : SE := sE (E e) [] lp0
theorem eq_ask_office_has (e : Es) : EqW (S0_ask_office_has e) 6 t_ask_office_has sg_ask_office_has wv_ask_office_has := fun _ _ => by kernel_rfl
theorem ok_ask_office_has (e : Es) (he : EG e) : OkF (E e) (sg_ask_office_has.pw w_ask_office_has) n_ask_office_has := okU he (eq_ask_office_has e) (seOk_of (Sub.uni _) trivial trivial he.ok) RngOk.flat (LpOk_no (by kernel_rfl))
abbrev T_ask_Total : Type := Ls → Ls → Int → (Int → Int → Prop) → Prop
def wv_ask_Total (a0 : T_ask_Check) (a1 : T_ask_office_has) (a2 : T_cake_Total) (p0 p1 : Ls) (p2 : Int) (K : Int → Int → Prop) : Prop :=
 (a0 p0 p1 (fun yi3 => 
 (cbr (yi3 != (0 : Int))
 (K (0 : Int) yi3)
 (a1 p0 p1 p2 (fun yb7 => 
 (cbr (!yb7)
 (K (0 : Int) (2 : Int))
 (asr (decide ((0 : Int) ≤ p2))
 (asr (decide (p2 < (((List.length p0) : Nat) : Int)))
 (lt (List.getD p0 (p2.toNat) .nils) (fun yr11 =>
 (asr (conf zK yr11)
 (a2 (intOfV (cellAt yr11 0)) (datOfV (cellAt yr11 1)) (datOfV (cellAt yr11 2)) (fun yi12 yi13 => 
 (K yi12 yi13))))))))))))))
def w_ask_Total : T_ask_Total := wv_ask_Total w_ask_Check w_ask_office_has w_cake_Total
def sg_ask_Total : Sg := ⟨(lC pt16 pt1), Int → Int → Prop, fun K => (fun r0 r1 => K (.tup [(.int .i64 r0), (.int .i64 r1)]))⟩
def S0_ask_Total (e : Es) (a0 : T_ask_Check) (a1 : T_ask_office_has) (a2 : T_cake_Total) : SE := sE (E e) [(n_ask_Check, sg_ask_Check.pw a0), (n_ask_office_has, sg_ask_office_has.pw a1), (n_cake_Total, sg_cake_Total.pw a2)] lp0
theorem eq_ask_Total (e : Es) (a0 a1 a2) : EqW (S0_ask_Total e a0 a1 a2) 6 t_ask_Total sg_ask_Total (wv_ask_Total a0 a1 a2) := fun _ _ => by kernel_rfl
theorem ok_ask_Total (e : Es) (he : EG e) : OkF (E e) (sg_ask_Total.pw w_ask_Total) n_ask_Total := okU he (eq_ask_Total e _ _ _) (seOk_of (Sub.uni _) ⟨(ok_ask_Check e he), (ok_ask_office_has e he), (ok_cake_Total e he), trivial⟩ trivial he.ok) RngOk.flat (LpOk_no (by kernel_rfl))
abbrev T_ask_office_value : Type := Ls → Ls → Int → Int → Int → Int → Int → (Int → Int → Int → Prop) → Prop
def wv_ask_office_value (a0 : T_cake_Value) (p0 _ : Ls) (p2 p3 p4 p5 p6 : Int) (K : Int → Int → Int → Prop) : Prop :=
 (asr (decide ((0 : Int) ≤ p2))
 (asr (decide (p2 < (((List.length p0) : Nat) : Int)))
 (asr (conf zK (List.getD p0 (p2.toNat) .nils))
 (a0 (intOfV (cellAt (List.getD p0 (p2.toNat) .nils) 0)) (datOfV (cellAt (List.getD p0 (p2.toNat) .nils) 1)) (datOfV (cellAt (List.getD p0 (p2.toNat) .nils) 2)) p3 p4 p5 p6 (fun yi0 yi1 yi2 => 
 (K yi0 yi1 yi2))))))
def w_ask_office_value : T_ask_office_value := wv_ask_office_value w_cake_Value
def pt19 : LPt := lC pt16 (lC pt0 pt9)
def sg_ask_office_value : Sg := ⟨pt19, Int → Int → Int → Prop, fun K => (fun r0 r1 r2 => K (.tup [(.agg [(.int .i64 r0), (.int .i64 r1)]), (.int .i64 r2)]))⟩
def S0_ask_office_value (e : Es) (a0 : T_cake_Value) : SE := sE (E e) [(n_cake_Value, sg_cake_Value.pw a0)] lp0
theorem eq_ask_office_value (e : Es) (a0) : EqW (S0_ask_office_value e a0) 6 t_ask_office_value sg_ask_office_value (wv_ask_office_value a0) := fun _ _ => by kernel_rfl
theorem ok_ask_office_value (e : Es) (he : EG e) : OkF (E e) (sg_ask_office_value.pw w_ask_office_value) n_ask_office_value := okU he (eq_ask_office_value e _) (seOk_of (Sub.uni _) ⟨(ok_cake_Value e he), trivial⟩ trivial he.ok) RngOk.flat (LpOk_no (by kernel_rfl))
abbrev T_ask_Value : Type := Ls → Ls → Int → Int → Int → Int → Int → (Ls → Ls → Int → Int → Int → Prop) → Prop
def wv_ask_Value (a0 : T_ask_Check) (a1 : T_ask_office_has) (a2 : T_ask_office_value) (a3 : T_ask_copied) (p0 p1 : Ls) (p2 p3 p4 p5 p6 : Int) (K : Ls → Ls → Int → Int → Int → Prop) : Prop :=
 (a0 p0 p1 (fun yi0 => 
 (cbr (yi0 != (0 : Int))
 (K ([] : Ls) ([] : Ls) (0 : Int) (0 : Int) yi0)
 (a1 p0 p1 p2 (fun yb1 => 
 (cbr (!yb1)
 (K ([] : Ls) ([] : Ls) (0 : Int) (0 : Int) (2 : Int))
 (a2 p0 p1 p2 p3 p4 p5 p6 (fun yi2 yi3 yi4 => 
 (cbr (yi4 != (0 : Int))
 (K ([] : Ls) ([] : Ls) (0 : Int) (0 : Int) yi4)
 (cbr (decide ((((List.length p1) : Nat) : Int) ≥ (2000 : Int)))
 (K ([] : Ls) ([] : Ls) (0 : Int) (0 : Int) (4 : Int))
 (asr (decide ((0 : Int) ≤ (IntKind.i64.wrap ((((List.length p1) : Nat) : Int) + (1 : Int)))))
 (asr (decide ((((IntKind.i64.wrap ((((List.length p1) : Nat) : Int) + (1 : Int))).toNat) + 64) * (64 + 1) ≤ room))
 (a3 p0 (fun yl5 => 
 (asr (headOk 8 p1)
 (asr (decide ((List.length (List.replicate ((IntKind.i64.wrap ((((List.length p1) : Nat) : Int) + (1 : Int))).toNat) ((.agg [(.int .i64 (0)), (.int .u8 (0)), (.int .i64 (0)), (.int .i64 (0)), (.int .i64 (0)), (.int .i64 (0)), (.int .i64 (0)), (.int .i64 (0))]) : PV))) = ((IntKind.i64.wrap ((((List.length p1) : Nat) : Int) + (1 : Int))).toNat)))
 (asr (decide (0 ≤ ((IntKind.i64.wrap ((((List.length p1) : Nat) : Int) + (1 : Int))).toNat)))
 (cbr (List.isEmpty p1)
 (asr (decide ((List.length (List.replicate ((IntKind.i64.wrap ((((List.length p1) : Nat) : Int) + (1 : Int))).toNat) ((.agg [(.int .i64 (0)), (.int .u8 (0)), (.int .i64 (0)), (.int .i64 (0)), (.int .i64 (0)), (.int .i64 (0)), (.int .i64 (0)), (.int .i64 (0))]) : PV))) = ((IntKind.i64.wrap ((((List.length p1) : Nat) : Int) + (1 : Int))).toNat)))
 (asr (decide (0 ≤ ((IntKind.i64.wrap ((((List.length p1) : Nat) : Int) + (1 : Int))).toNat)))
 (asr (decide (1 ≤ ((IntKind.i64.wrap ((((List.length p1) : Nat) : Int) + (1 : Int))).toNat)))
 (asr (decide ((List.length (([(.agg [(.int .i64 p2), (.int .u8 (1 : Int)), (.int .i64 p3), (.int .i64 p4), (.int .i64 p5), (.int .i64 p6), (.int .i64 yi2), (.int .i64 yi3)])] : Ls) ++ (List.drop 1 (List.replicate ((IntKind.i64.wrap ((((List.length p1) : Nat) : Int) + (1 : Int))).toNat) ((.agg [(.int .i64 (0)), (.int .u8 (0)), (.int .i64 (0)), (.int .i64 (0)), (.int .i64 (0)), (.int .i64 (0)), (.int .i64 (0)), (.int .i64 (0))]) : PV))))) = ((IntKind.i64.wrap ((((List.length p1) : Nat) : Int) + (1 : Int))).toNat)))
 (asr (decide (1 ≤ ((IntKind.i64.wrap ((((List.length p1) : Nat) : Int) + (1 : Int))).toNat)))
 (K yl5 (List.take 1 (([(.agg [(.int .i64 p2), (.int .u8 (1 : Int)), (.int .i64 p3), (.int .i64 p4), (.int .i64 p5), (.int .i64 p6), (.int .i64 yi2), (.int .i64 yi3)])] : Ls) ++ (List.drop 1 (List.replicate ((IntKind.i64.wrap ((((List.length p1) : Nat) : Int) + (1 : Int))).toNat) ((.agg [(.int .i64 (0)), (.int .u8 (0)), (.int .i64 (0)), (.int .i64 (0)), (.int .i64 (0)), (.int .i64 (0)), (.int .i64 (0)), (.int .i64 (0))]) : PV))))) yi2 yi3 (0 : Int)))))))
 (asr (decide ((0 + (List.length p1)) ≤ ((IntKind.i64.wrap ((((List.length p1) : Nat) : Int) + (1 : Int))).toNat)))
 (asr (decide ((List.length (p1 ++ (List.drop (0 + (List.length p1)) (List.replicate ((IntKind.i64.wrap ((((List.length p1) : Nat) : Int) + (1 : Int))).toNat) ((.agg [(.int .i64 (0)), (.int .u8 (0)), (.int .i64 (0)), (.int .i64 (0)), (.int .i64 (0)), (.int .i64 (0)), (.int .i64 (0)), (.int .i64 (0))]) : PV))))) = ((IntKind.i64.wrap ((((List.length p1) : Nat) : Int) + (1 : Int))).toNat)))
 (asr (decide ((0 + (0 + (List.length p1))) ≤ ((IntKind.i64.wrap ((((List.length p1) : Nat) : Int) + (1 : Int))).toNat)))
 (asr (decide (((0 + (List.length p1)) + 1) ≤ ((IntKind.i64.wrap ((((List.length p1) : Nat) : Int) + (1 : Int))).toNat)))
 (asr (decide ((List.length ((List.take (0 + (0 + (List.length p1))) (p1 ++ (List.drop (0 + (List.length p1)) (List.replicate ((IntKind.i64.wrap ((((List.length p1) : Nat) : Int) + (1 : Int))).toNat) ((.agg [(.int .i64 (0)), (.int .u8 (0)), (.int .i64 (0)), (.int .i64 (0)), (.int .i64 (0)), (.int .i64 (0)), (.int .i64 (0)), (.int .i64 (0))]) : PV))))) ++ (([(.agg [(.int .i64 p2), (.int .u8 (1 : Int)), (.int .i64 p3), (.int .i64 p4), (.int .i64 p5), (.int .i64 p6), (.int .i64 yi2), (.int .i64 yi3)])] : Ls) ++ (List.drop ((0 + (0 + (List.length p1))) + 1) (p1 ++ (List.drop (0 + (List.length p1)) (List.replicate ((IntKind.i64.wrap ((((List.length p1) : Nat) : Int) + (1 : Int))).toNat) ((.agg [(.int .i64 (0)), (.int .u8 (0)), (.int .i64 (0)), (.int .i64 (0)), (.int .i64 (0)), (.int .i64 (0)), (.int .i64 (0)), (.int .i64 (0))]) : PV)))))))) = ((IntKind.i64.wrap ((((List.length p1) : Nat) : Int) + (1 : Int))).toNat)))
 (asr (decide ((0 + ((0 + (List.length p1)) + 1)) ≤ ((IntKind.i64.wrap ((((List.length p1) : Nat) : Int) + (1 : Int))).toNat)))
 (K yl5 (List.take ((0 + (List.length p1)) + 1) ((List.take (0 + (0 + (List.length p1))) (p1 ++ (List.drop (0 + (List.length p1)) (List.replicate ((IntKind.i64.wrap ((((List.length p1) : Nat) : Int) + (1 : Int))).toNat) ((.agg [(.int .i64 (0)), (.int .u8 (0)), (.int .i64 (0)), (.int .i64 (0)), (.int .i64 (0)), (.int .i64 (0)), (.int .i64 (0)), (.int .i64 (0))]) : PV))))) ++ (([(.agg [(.int .i64 p2), (.int .u8 (1 : Int)), (.int .i64 p3), (.int .i64 p4), (.int .i64 p5), (.int .i64 p6), (.int .i64 yi2), (.int .i64 yi3)])] : Ls) ++ (List.drop ((0 + (0 + (List.length p1))) + 1) (p1 ++ (List.drop (0 + (List.length p1)) (List.replicate ((IntKind.i64.wrap ((((List.length p1) : Nat) : Int) + (1 : Int))).toNat) ((.agg [(.int .i64 (0)), (.int .u8 (0)), (.int .i64 (0)), (.int .i64 (0)), (.int .i64 (0)), (.int .i64 (0)), (.int .i64 (0)), (.int .i64 (0))]) : PV)))))))) yi2 yi3 (0 : Int))))))))))))))))))))))))))
def w_ask_Value : T_ask_Value := wv_ask_Value w_ask_Check w_ask_office_has w_ask_office_value w_ask_copied
def sg_ask_Value : Sg := ⟨pt19, Ls → Ls → Int → Int → Int → Prop, fun K => (fun r0 r1 r2 r3 r4 => K (.tup [(.agg [(.data r0), (.data r1)]), (.agg [(.int .i64 r2), (.int .i64 r3)]), (.int .i64 r4)]))⟩
def S0_ask_Value (e : Es) (a0 : T_ask_Check) (a1 : T_ask_office_has) (a2 : T_ask_office_value) (a3 : T_ask_copied) : SE := ⟨(E e), lookS [(n_ask_Check, sg_ask_Check.pw a0), (n_ask_office_has, sg_ask_office_has.pw a1), (n_ask_office_value, sg_ask_office_value.pw a2), (n_ask_copied, sg_ask_copied.pw a3)], lookI [(n_ask_office_ask, t_ask_office_ask)], lp0, fun _ => none⟩
theorem eq_ask_Value (e : Es) (a0 a1 a2 a3) : EqW (S0_ask_Value e a0 a1 a2 a3) 6 t_ask_Value sg_ask_Value (wv_ask_Value a0 a1 a2 a3) := fun _ _ => by kernel_rfl
theorem ok_ask_Value (e : Es) (he : EG e) : OkF (E e) (sg_ask_Value.pw w_ask_Value) n_ask_Value := okU he (eq_ask_Value e _ _ _ _) (seOk_of (Sub.uni _) ⟨(ok_ask_Check e he), (ok_ask_office_has e he), (ok_ask_office_value e he), (ok_ask_copied e he), trivial⟩ ⟨⟨by kernel_rfl, by kernel_rfl, rfl, fun az => baseS_none (by kernel_rfl) az, he.num _ (by kernel_rfl), by kernel_rfl, (LpOk_no (by kernel_rfl))⟩, trivial⟩ he.ok) RngOk.flat (LpOk_no (by kernel_rfl))
def wv_ask_office_mark (a0 : T_cake_Value) (p0 _ : Ls) (p2 p3 p4 p5 p6 : Int) (K : Int → Int → Int → Prop) : Prop :=
 (asr (decide ((0 : Int) ≤ p2))
 (asr (decide (p2 < (((List.length p0) : Nat) : Int)))
 (asr (conf zK (List.getD p0 (p2.toNat) .nils))
 (a0 (intOfV (cellAt (List.getD p0 (p2.toNat) .nils) 0)) (datOfV (cellAt (List.getD p0 (p2.toNat) .nils) 1)) (datOfV (cellAt (List.getD p0 (p2.toNat) .nils) 2)) p3 p4 p5 p6 (fun yi0 yi1 yi2 => 
 (K yi0 yi1 yi2))))))
def w_ask_office_mark : T_ask_office_value := wv_ask_office_mark w_cake_Mark
def S0_ask_office_mark (e : Es) (a0 : T_cake_Value) : SE := sE (E e) [(n_cake_Mark, sg_cake_Value.pw a0)] lp0
theorem eq_ask_office_mark (e : Es) (a0) : EqW (S0_ask_office_mark e a0) 6 t_ask_office_mark sg_ask_office_value (wv_ask_office_mark a0) := fun _ _ => by kernel_rfl
theorem ok_ask_office_mark (e : Es) (he : EG e) : OkF (E e) (sg_ask_office_value.pw w_ask_office_mark) n_ask_office_mark := okU he (eq_ask_office_mark e _) (seOk_of (Sub.uni _) ⟨(ok_cake_Mark e he), trivial⟩ trivial he.ok) RngOk.flat (LpOk_no (by kernel_rfl))
def wv_ask_Mark (a0 : T_ask_Check) (a1 : T_ask_office_has) (a2 : T_ask_office_value) (a3 : T_ask_copied) (p0 p1 : Ls) (p2 p3 p4 p5 p6 : Int) (K : Ls → Ls → Int → Int → Int → Prop) : Prop :=
 (a0 p0 p1 (fun yi0 => 
 (cbr (yi0 != (0 : Int))
 (K ([] : Ls) ([] : Ls) (0 : Int) (0 : Int) yi0)
 (a1 p0 p1 p2 (fun yb1 => 
 (cbr (!yb1)
 (K ([] : Ls) ([] : Ls) (0 : Int) (0 : Int) (2 : Int))
 (a2 p0 p1 p2 p3 p4 p5 p6 (fun yi2 yi3 yi4 => 
 (cbr (yi4 != (0 : Int))
 (K ([] : Ls) ([] : Ls) (0 : Int) (0 : Int) yi4)
 (cbr (decide ((((List.length p1) : Nat) : Int) ≥ (2000 : Int)))
 (K ([] : Ls) ([] : Ls) (0 : Int) (0 : Int) (4 : Int))
 (asr (decide ((0 : Int) ≤ (IntKind.i64.wrap ((((List.length p1) : Nat) : Int) + (1 : Int)))))
 (asr (decide ((((IntKind.i64.wrap ((((List.length p1) : Nat) : Int) + (1 : Int))).toNat) + 64) * (64 + 1) ≤ room))
 (a3 p0 (fun yl5 => 
 (asr (headOk 8 p1)
 (asr (decide ((List.length (List.replicate ((IntKind.i64.wrap ((((List.length p1) : Nat) : Int) + (1 : Int))).toNat) ((.agg [(.int .i64 (0)), (.int .u8 (0)), (.int .i64 (0)), (.int .i64 (0)), (.int .i64 (0)), (.int .i64 (0)), (.int .i64 (0)), (.int .i64 (0))]) : PV))) = ((IntKind.i64.wrap ((((List.length p1) : Nat) : Int) + (1 : Int))).toNat)))
 (asr (decide (0 ≤ ((IntKind.i64.wrap ((((List.length p1) : Nat) : Int) + (1 : Int))).toNat)))
 (cbr (List.isEmpty p1)
 (asr (decide ((List.length (List.replicate ((IntKind.i64.wrap ((((List.length p1) : Nat) : Int) + (1 : Int))).toNat) ((.agg [(.int .i64 (0)), (.int .u8 (0)), (.int .i64 (0)), (.int .i64 (0)), (.int .i64 (0)), (.int .i64 (0)), (.int .i64 (0)), (.int .i64 (0))]) : PV))) = ((IntKind.i64.wrap ((((List.length p1) : Nat) : Int) + (1 : Int))).toNat)))
 (asr (decide (0 ≤ ((IntKind.i64.wrap ((((List.length p1) : Nat) : Int) + (1 : Int))).toNat)))
 (asr (decide (1 ≤ ((IntKind.i64.wrap ((((List.length p1) : Nat) : Int) + (1 : Int))).toNat)))
 (asr (decide ((List.length (([(.agg [(.int .i64 p2), (.int .u8 (2 : Int)), (.int .i64 p3), (.int .i64 p4), (.int .i64 p5), (.int .i64 p6), (.int .i64 yi2), (.int .i64 yi3)])] : Ls) ++ (List.drop 1 (List.replicate ((IntKind.i64.wrap ((((List.length p1) : Nat) : Int) + (1 : Int))).toNat) ((.agg [(.int .i64 (0)), (.int .u8 (0)), (.int .i64 (0)), (.int .i64 (0)), (.int .i64 (0)), (.int .i64 (0)), (.int .i64 (0)), (.int .i64 (0))]) : PV))))) = ((IntKind.i64.wrap ((((List.length p1) : Nat) : Int) + (1 : Int))).toNat)))
 (asr (decide (1 ≤ ((IntKind.i64.wrap ((((List.length p1) : Nat) : Int) + (1 : Int))).toNat)))
 (K yl5 (List.take 1 (([(.agg [(.int .i64 p2), (.int .u8 (2 : Int)), (.int .i64 p3), (.int .i64 p4), (.int .i64 p5), (.int .i64 p6), (.int .i64 yi2), (.int .i64 yi3)])] : Ls) ++ (List.drop 1 (List.replicate ((IntKind.i64.wrap ((((List.length p1) : Nat) : Int) + (1 : Int))).toNat) ((.agg [(.int .i64 (0)), (.int .u8 (0)), (.int .i64 (0)), (.int .i64 (0)), (.int .i64 (0)), (.int .i64 (0)), (.int .i64 (0)), (.int .i64 (0))]) : PV))))) yi2 yi3 (0 : Int)))))))
 (asr (decide ((0 + (List.length p1)) ≤ ((IntKind.i64.wrap ((((List.length p1) : Nat) : Int) + (1 : Int))).toNat)))
 (asr (decide ((List.length (p1 ++ (List.drop (0 + (List.length p1)) (List.replicate ((IntKind.i64.wrap ((((List.length p1) : Nat) : Int) + (1 : Int))).toNat) ((.agg [(.int .i64 (0)), (.int .u8 (0)), (.int .i64 (0)), (.int .i64 (0)), (.int .i64 (0)), (.int .i64 (0)), (.int .i64 (0)), (.int .i64 (0))]) : PV))))) = ((IntKind.i64.wrap ((((List.length p1) : Nat) : Int) + (1 : Int))).toNat)))
 (asr (decide ((0 + (0 + (List.length p1))) ≤ ((IntKind.i64.wrap ((((List.length p1) : Nat) : Int) + (1 : Int))).toNat)))
 (asr (decide (((0 + (List.length p1)) + 1) ≤ ((IntKind.i64.wrap ((((List.length p1) : Nat) : Int) + (1 : Int))).toNat)))
 (asr (decide ((List.length ((List.take (0 + (0 + (List.length p1))) (p1 ++ (List.drop (0 + (List.length p1)) (List.replicate ((IntKind.i64.wrap ((((List.length p1) : Nat) : Int) + (1 : Int))).toNat) ((.agg [(.int .i64 (0)), (.int .u8 (0)), (.int .i64 (0)), (.int .i64 (0)), (.int .i64 (0)), (.int .i64 (0)), (.int .i64 (0)), (.int .i64 (0))]) : PV))))) ++ (([(.agg [(.int .i64 p2), (.int .u8 (2 : Int)), (.int .i64 p3), (.int .i64 p4), (.int .i64 p5), (.int .i64 p6), (.int .i64 yi2), (.int .i64 yi3)])] : Ls) ++ (List.drop ((0 + (0 + (List.length p1))) + 1) (p1 ++ (List.drop (0 + (List.length p1)) (List.replicate ((IntKind.i64.wrap ((((List.length p1) : Nat) : Int) + (1 : Int))).toNat) ((.agg [(.int .i64 (0)), (.int .u8 (0)), (.int .i64 (0)), (.int .i64 (0)), (.int .i64 (0)), (.int .i64 (0)), (.int .i64 (0)), (.int .i64 (0))]) : PV)))))))) = ((IntKind.i64.wrap ((((List.length p1) : Nat) : Int) + (1 : Int))).toNat)))
 (asr (decide ((0 + ((0 + (List.length p1)) + 1)) ≤ ((IntKind.i64.wrap ((((List.length p1) : Nat) : Int) + (1 : Int))).toNat)))
 (K yl5 (List.take ((0 + (List.length p1)) + 1) ((List.take (0 + (0 + (List.length p1))) (p1 ++ (List.drop (0 + (List.length p1)) (List.replicate ((IntKind.i64.wrap ((((List.length p1) : Nat) : Int) + (1 : Int))).toNat) ((.agg [(.int .i64 (0)), (.int .u8 (0)), (.int .i64 (0)), (.int .i64 (0)), (.int .i64 (0)), (.int .i64 (0)), (.int .i64 (0)), (.int .i64 (0))]) : PV))))) ++ (([(.agg [(.int .i64 p2), (.int .u8 (2 : Int)), (.int .i64 p3), (.int .i64 p4), (.int .i64 p5), (.int .i64 p6), (.int .i64 yi2), (.int .i64 yi3)])] : Ls) ++ (List.drop ((0 + (0 + (List.length p1))) + 1) (p1 ++ (List.drop (0 + (List.length p1)) (List.replicate ((IntKind.i64.wrap ((((List.length p1) : Nat) : Int) + (1 : Int))).toNat) ((.agg [(.int .i64 (0)), (.int .u8 (0)), (.int .i64 (0)), (.int .i64 (0)), (.int .i64 (0)), (.int .i64 (0)), (.int .i64 (0)), (.int .i64 (0))]) : PV)))))))) yi2 yi3 (0 : Int))))))))))))))))))))))))))
def w_ask_Mark : T_ask_Value := wv_ask_Mark w_ask_Check w_ask_office_has w_ask_office_mark w_ask_copied
def S0_ask_Mark (e : Es) (a0 : T_ask_Check) (a1 : T_ask_office_has) (a2 : T_ask_office_value) (a3 : T_ask_copied) : SE := ⟨(E e), lookS [(n_ask_Check, sg_ask_Check.pw a0), (n_ask_office_has, sg_ask_office_has.pw a1), (n_ask_office_mark, sg_ask_office_value.pw a2), (n_ask_copied, sg_ask_copied.pw a3)], lookI [(n_ask_office_ask, t_ask_office_ask)], lp0, fun _ => none⟩
theorem eq_ask_Mark (e : Es) (a0 a1 a2 a3) : EqW (S0_ask_Mark e a0 a1 a2 a3) 6 t_ask_Mark sg_ask_Value (wv_ask_Mark a0 a1 a2 a3) := fun _ _ => by kernel_rfl
theorem ok_ask_Mark (e : Es) (he : EG e) : OkF (E e) (sg_ask_Value.pw w_ask_Mark) n_ask_Mark := okU he (eq_ask_Mark e _ _ _ _) (seOk_of (Sub.uni _) ⟨(ok_ask_Check e he), (ok_ask_office_has e he), (ok_ask_office_mark e he), (ok_ask_copied e he), trivial⟩ ⟨⟨by kernel_rfl, by kernel_rfl, rfl, fun az => baseS_none (by kernel_rfl) az, he.num _ (by kernel_rfl), by kernel_rfl, (LpOk_no (by kernel_rfl))⟩, trivial⟩ he.ok) RngOk.flat (LpOk_no (by kernel_rfl))
end Go.Pf.Vc
namespace Go.Pf.Vc
open Go Go.Pf
set_option linter.unusedVariables false
theorem det_ask_Check (p0 : Ls) (p1 : Ls) (r0 : Int) (h : ∀ K : Int → Prop, K r0 → w_ask_Check p0 p1 K) (K : Int → Prop) : w_ask_Check p0 p1 K = K r0 :=
 propext ⟨fun k => detC (ok_ask_Check [] effG_nil) (az := [(.agg [(.data p0), (.data p1)])]) (x := (.int .i64 r0)) (fun K' k' => h (fun r0 => K' (.int .i64 r0)) k') (K := fun x => match x with | (.int .i64 r0) => K r0 | _ => False) k, h K⟩
theorem det_ask_copied (p0 : Ls) (r0 : Ls) (h : ∀ K : Ls → Prop, K r0 → w_ask_copied p0 K) (K : Ls → Prop) : w_ask_copied p0 K = K r0 :=
 propext ⟨fun k => detC (ok_ask_copied [] effG_nil) (az := [(.data p0)]) (x := (.data r0)) (fun K' k' => h (fun r0 => K' (.data r0)) k') (K := fun x => match x with | (.data r0) => K r0 | _ => False) k, h K⟩
theorem det_ask_Value (p0 : Ls) (p1 : Ls) (p2 : Int) (p3 : Int) (p4 : Int) (p5 : Int) (p6 : Int) (r0 : Ls) (r1 : Ls) (r2 : Int) (r3 : Int) (r4 : Int) (h : ∀ K : Ls → Ls → Int → Int → Int → Prop, K r0 r1 r2 r3 r4 → w_ask_Value p0 p1 p2 p3 p4 p5 p6 K) (K : Ls → Ls → Int → Int → Int → Prop) : w_ask_Value p0 p1 p2 p3 p4 p5 p6 K = K r0 r1 r2 r3 r4 :=
 propext ⟨fun k => detC (ok_ask_Value [] effG_nil) (az := [(.agg [(.data p0), (.data p1)]), (.int .i64 p2), (.agg [(.int .i64 p3), (.int .i64 p4)]), (.agg [(.int .i64 p5), (.int .i64 p6)])]) (x := (.tup [(.agg [(.data r0), (.data r1)]), (.agg [(.int .i64 r2), (.int .i64 r3)]), (.int .i64 r4)])) (fun K' k' => h (fun r0 r1 r2 r3 r4 => K' (.tup [(.agg [(.data r0), (.data r1)]), (.agg [(.int .i64 r2), (.int .i64 r3)]), (.int .i64 r4)])) k') (K := fun x => match x with | (.tup [(.agg [(.data r0), (.data r1)]), (.agg [(.int .i64 r2), (.int .i64 r3)]), (.int .i64 r4)]) => K r0 r1 r2 r3 r4 | _ => False) k, h K⟩
theorem det_ask_Mark (p0 : Ls) (p1 : Ls) (p2 : Int) (p3 : Int) (p4 : Int) (p5 : Int) (p6 : Int) (r0 : Ls) (r1 : Ls) (r2 : Int) (r3 : Int) (r4 : Int) (h : ∀ K : Ls → Ls → Int → Int → Int → Prop, K r0 r1 r2 r3 r4 → w_ask_Mark p0 p1 p2 p3 p4 p5 p6 K) (K : Ls → Ls → Int → Int → Int → Prop) : w_ask_Mark p0 p1 p2 p3 p4 p5 p6 K = K r0 r1 r2 r3 r4 :=
 propext ⟨fun k => detC (ok_ask_Mark [] effG_nil) (az := [(.agg [(.data p0), (.data p1)]), (.int .i64 p2), (.agg [(.int .i64 p3), (.int .i64 p4)]), (.agg [(.int .i64 p5), (.int .i64 p6)])]) (x := (.tup [(.agg [(.data r0), (.data r1)]), (.agg [(.int .i64 r2), (.int .i64 r3)]), (.int .i64 r4)])) (fun K' k' => h (fun r0 r1 r2 r3 r4 => K' (.tup [(.agg [(.data r0), (.data r1)]), (.agg [(.int .i64 r2), (.int .i64 r3)]), (.int .i64 r4)])) k') (K := fun x => match x with | (.tup [(.agg [(.data r0), (.data r1)]), (.agg [(.int .i64 r2), (.int .i64 r3)]), (.int .i64 r4)]) => K r0 r1 r2 r3 r4 | _ => False) k, h K⟩
end Go.Pf.Vc
namespace Go.Pf.Vc
open Go Go.Pf
set_option maxRecDepth 100000
def wv_r01_Of (p0 : Int) (K : Int → Int → Prop) : Prop :=
 (K p0 (1 : Int))
def w_r01_Of : T_cake_whole := wv_r01_Of
def S0_r01_Of (e : Es) : SE := sE (E e) [] lp0
theorem eq_r01_Of (e : Es) : EqW (S0_r01_Of e) 6 t_r01_Of sg_cake_whole wv_r01_Of := fun _ _ => by kernel_rfl
theorem ok_r01_Of (e : Es) (he : EG e) : OkF (E e) (sg_cake_whole.pw w_r01_Of) n_r01_Of := okU he (eq_r01_Of e) (seOk_of (Sub.uni _) trivial trivial he.ok) RngOk.flat (LpOk_no (by kernel_rfl))
end Go.Pf.Vc
namespace Go.Pf.Vc
open Go Go.Pf
set_option maxRecDepth 100000
abbrev T_r02_Great : Type := Int → Ls → Ls → (Bool → Prop) → Prop
def wv_r02_Great (_ : Int) (p1 p2 : Ls) (K : Bool → Prop) : Prop :=
 (cbr (decide ((((List.length p1) : Nat) : Int) > (60 : Int)))
 (K true)
 (K (decide ((((List.length p2) : Nat) : Int) > (60 : Int)))))
def w_r02_Great : T_r02_Great := wv_r02_Great
def sg_r02_Great : Sg := ⟨pt14, Bool → Prop, fun K => (fun r0 => K (.bool r0))⟩
def S0_r02_Great (e : Es) : SE := sE (E e) [] lp0
theorem eq_r02_Great (e : Es) : EqW (S0_r02_Great e) 6 t_r02_Great sg_r02_Great wv_r02_Great := fun _ _ => by kernel_rfl
theorem ok_r02_Great (e : Es) (he : EG e) : OkF (E e) (sg_r02_Great.pw w_r02_Great) n_r02_Great := okU he (eq_r02_Great e) (seOk_of (Sub.uni _) trivial trivial he.ok) RngOk.flat (LpOk_no (by kernel_rfl))
def L_r02_Check_0_0 (x0 : Int → Prop) (x1 : Int → Ls → Ls → Bool → Int → Bool → Prop) : Nat → Int → Ls → Ls → Bool → Int → Prop
 | 0, _, _, _, _, _ => False
 | n + 1, i0, l1, l2, b3, i4 =>
 (cbr (decide (i4 < (((List.length l2) : Nat) : Int)))
 (asr (decide ((0 : Int) ≤ (IntKind.i64.wrap (i4 + (1 : Int)))))
 (asr (decide ((IntKind.i64.wrap (i4 + (1 : Int))) < (((List.length l1) : Nat) : Int)))
 (asr (conf zI (List.getD l1 ((IntKind.i64.wrap (i4 + (1 : Int))).toNat) .nils))
 (asr (decide ((0 : Int) ≤ i4))
 (asr (decide (i4 < (((List.length l1) : Nat) : Int)))
 (asr (conf zI (List.getD l1 (i4.toNat) .nils))
 (cbr (decide ((intOfV (List.getD l1 ((IntKind.i64.wrap (i4 + (1 : Int))).toNat) .nils)) ≤ (intOfV (List.getD l1 (i4.toNat) .nils))))
 (x0 (8 : Int))
 (asr (decide ((0 : Int) ≤ i4))
 (asr (decide (i4 < (((List.length l2) : Nat) : Int)))
 (asr (conf zI (List.getD l2 (i4.toNat) .nils))
 (cbr (decide ((intOfV (List.getD l2 (i4.toNat) .nils)) < (0 : Int)))
 (x0 (8 : Int))
 (asr (decide ((0 : Int) ≤ i4))
 (asr (decide (i4 < (((List.length l2) : Nat) : Int)))
 (asr (conf zI (List.getD l2 (i4.toNat) .nils))
 (cbr (decide ((intOfV (List.getD l2 (i4.toNat) .nils)) > (12 : Int)))
 (x0 (8 : Int))
 (cbr b3
 (L_r02_Check_0_0 x0 x1 n i0 l1 l2 true (IntKind.i64.wrap (i4 + (1 : Int))))
 (asr (decide ((0 : Int) ≤ i4))
 (asr (decide (i4 < (((List.length l2) : Nat) : Int)))
 (asr (conf zI (List.getD l2 (i4.toNat) .nils))
 (L_r02_Check_0_0 x0 x1 n i0 l1 l2 (decide ((intOfV (List.getD l2 (i4.toNat) .nils)) > (0 : Int))) (IntKind.i64.wrap (i4 + (1 : Int)))))))))))))))))))))))
 (x1 i0 l1 l2 b3 i4 false))
def wv_r02_Check (p0 : Int) (p1 p2 : Ls) (K : Int → Prop) : Prop :=
 (cbr (decide (p0 > (1000 : Int)))
 (K (4 : Int))
 (cbr (decide ((((List.length p1) : Nat) : Int) > (40 : Int)))
 (K (4 : Int))
 (cbr (decide (p0 < (1 : Int)))
 (K (8 : Int))
 (cbr (decide ((((List.length p1) : Nat) : Int) < (2 : Int)))
 (K (8 : Int))
 (cbr ((((List.length p2) : Nat) : Int) != (IntKind.i64.wrap ((((List.length p1) : Nat) : Int) - (1 : Int))))
 (K (8 : Int))
 (asr (decide ((0 : Int) < (((List.length p1) : Nat) : Int)))
 (asr (conf zI (List.getD p1 0 .nils))
 (cbr ((intOfV (List.getD p1 0 .nils)) != (0 : Int))
 (K (8 : Int))
 (asr (decide ((0 : Int) ≤ (IntKind.i64.wrap ((((List.length p1) : Nat) : Int) - (1 : Int)))))
 (asr (decide ((IntKind.i64.wrap ((((List.length p1) : Nat) : Int) - (1 : Int))) < (((List.length p1) : Nat) : Int)))
 (asr (conf zI (List.getD p1 ((IntKind.i64.wrap ((((List.length p1) : Nat) : Int) - (1 : Int))).toNat) .nils))
 (cbr ((intOfV (List.getD p1 ((IntKind.i64.wrap ((((List.length p1) : Nat) : Int) - (1 : Int))).toNat) .nils)) != p0)
 (K (8 : Int))
 (∃ n : Nat, L_r02_Check_0_0
 (fun yi0 => (K yi0))
 (fun _ _ _ yb4 _ _ => (cbr (!yb4)
 (K (8 : Int))
 (K (0 : Int))))
 n p0 p1 p2 false (0 : Int))))))))))))))
def w_r02_Check : T_cake_Check := wv_r02_Check
def X_r02_Check_0_0 (Q : Qx) : Int → Prop := (fun i0 => Q .ret [(2, .v (.int .i64 i0))] [])
def X_r02_Check_0_1 (Q : Qx) : Int → Ls → Ls → Bool → Int → Bool → Prop := (fun i0 l1 l2 b3 i4 b5 => Q (.exit 0) [(1, .box (.agg [(.int .i64 i0), (.data l1), (.data l2)])), (3, .v (.bool b3)), (4, .v (.int .i64 i4)), (57, .v (.bool b5))] [])
def St_r02_Check_0 (Q : Qx) : List St := [⟨(pS hN (fX 1 pt13 (fV 3 vB pt10)) fN), L_r02_Check_0_0 (X_r02_Check_0_0 Q) (X_r02_Check_0_1 Q)⟩]
def lp_r02_Check : LP := lpS [(94526800, St_r02_Check_0)]
def S0_r02_Check (e : Es) : SE := sE (E e) [] (lp_r02_Check)
theorem se0_r02_Check (e : Es) (he : EG e) : SEOk (Uni (E e)) (S0_r02_Check e) := seOk_of (Sub.uni _) trivial trivial he.ok
theorem body_r02_Check_0 (e : Es) : BodOk (S0_r02_Check e) 5 yk0 b_94526800 false (St_r02_Check_0) := fun _ => ⟨fun _ => by kernel_rfl, fun _ _ => by kernel_rfl, trivial⟩
theorem loop_r02_Check_0 (e : Es) (he : EG e) : LpT (Uni (E e)) (lp_r02_Check) [] 94526800 (.loop 94526800 b_94526800) := fun _ _ _ => LoopT.st (Sub.uni _) (callW_ok (se0_r02_Check e he) 5) (YOk.no _ _) (LpOk_no (by kernel_rfl)) (body_r02_Check_0 e _)
theorem eq_r02_Check (e : Es) : EqW (S0_r02_Check e) 6 t_r02_Check sg_cake_Check wv_r02_Check := fun _ _ => by kernel_rfl
theorem ok_r02_Check (e : Es) (he : EG e) : OkF (E e) (sg_cake_Check.pw w_r02_Check) n_r02_Check := okU he (eq_r02_Check e) (se0_r02_Check e he) RngOk.flat (LpOk_by (l := [(94526800, .loop 94526800 b_94526800)]) ⟨loop_r02_Check_0 e he, trivial⟩ (by kernel_rfl))
abbrev T_r02_Normal : Type := Int → Ls → Ls → (Int → Ls → Ls → Int → Prop) → Prop
mutual
def L_r02_Normal_0_0 (a0 : T_cake_Check) (x0 : Ls → Int → Ls → Ls → Int → Int → Int → Bool → Prop) (x1 : Ls → Ls → Int → Ls → Ls → Int → Int → Int → Bool → Prop) : Nat → Ls → Int → Ls → Ls → Int → Int → Int → Prop
 | 0, _, _, _, _, _, _, _ => False
 | n + 1, l0, i1, l2, l3, i4, i5, i8 =>
 (cbr (decide (i8 < (((List.length l3) : Nat) : Int)))
 (jn (fun (yj24 : Bool → Prop) =>
 (cbr (decide (i8 > (0 : Int)))
 (asr (decide ((0 : Int) ≤ i8))
 (asr (decide (i8 < (((List.length l3) : Nat) : Int)))
 (lt (List.getD l3 (i8.toNat) .nils) (fun yr59 =>
 (asr (conf zI yr59)
 (lt (IntKind.i64.wrap (i8 - (1 : Int))) (fun yi60 =>
 (asr (decide ((0 : Int) ≤ yi60))
 (asr (decide (yi60 < (((List.length l3) : Nat) : Int)))
 (lt (List.getD l3 (yi60.toNat) .nils) (fun yr61 =>
 (asr (conf zI yr61)
 (yj24 ((intOfV yr59) != (intOfV yr61)))))))))))))))
 (yj24 false)))
 (fun yb23 => (cbr yb23
 (asr (decide ((0 : Int) ≤ i8))
 (asr (decide (i8 < (((List.length l2) : Nat) : Int)))
 (lt (List.getD l2 (i8.toNat) .nils) (fun yr26 =>
 (asr (conf zI yr26)
 (asr (decide ((List.length l0) = (List.length l0)))
 (asr (decide ((0 + (List.length l0)) ≤ (List.length l0)))
 (asr (!(decide (((0 + (List.length l0)) + 1) ≤ (List.length l0))))
 (asr (decide ((List.length l0) = (List.length l0)))
 (asr (decide ((((List.length l0) + 1) + 64) * (8 + 1) ≤ room))
 (lt (IntKind.i64.wrap (i8 - (1 : Int))) (fun yi27 =>
 (asr (decide ((0 : Int) ≤ yi27))
 (asr (decide (yi27 < (((List.length l3) : Nat) : Int)))
 (lt (List.getD l3 (yi27.toNat) .nils) (fun yr28 =>
 (asr (conf zI yr28)
 (lt (IntKind.i64.wrap (i8 + (1 : Int))) (fun yi29 =>
 (asr (decide ((List.length (l0 ++ ([(.int .i64 (intOfV yr26))] : Ls))) = List.length (l0 ++ ([(.int .i64 (intOfV yr26))] : Ls))) && decide ((List.length (l0 ++ ([(.int .i64 (intOfV yr26))] : Ls))) = List.length (l0 ++ ([(.int .i64 (intOfV yr26))] : Ls))) && decide (1 = List.length ([(.int .i64 (intOfV yr28))] : Ls)) && decide (1 = List.length ([(.int .i64 (intOfV yr28))] : Ls)))
 (L_r02_Normal_0_1 a0 x0 x1 n (l0 ++ ([(.int .i64 (intOfV yr26))] : Ls)) ([(.int .i64 (intOfV yr28))] : Ls) i1 l2 l3 i4 i5 yi29)))))))))))))))))))))
 (lt (IntKind.i64.wrap (i8 + (1 : Int))) (fun yi58 =>
 (asr (decide ((List.length l0) = List.length l0) && decide ((List.length l0) = List.length l0))
 (L_r02_Normal_0_0 a0 x0 x1 n l0 i1 l2 l3 i4 i5 yi58)))))))
 (x0 l0 i1 l2 l3 i4 i5 i8 false))
def L_r02_Normal_0_1 (a0 : T_cake_Check) (x0 : Ls → Int → Ls → Ls → Int → Int → Int → Bool → Prop) (x1 : Ls → Ls → Int → Ls → Ls → Int → Int → Int → Bool → Prop) : Nat → Ls → Ls → Int → Ls → Ls → Int → Int → Int → Prop
 | 0, _, _, _, _, _, _, _, _ => False
 | n + 1, l0, l1, i2, l3, l4, i5, i6, i11 =>
 (cbr (decide (i11 < (((List.length l4) : Nat) : Int)))
 (jn (fun (yj44 : Ls → Ls → Prop) =>
 (jn (fun (yj50 : Bool → Prop) =>
 (cbr (decide (i11 > (0 : Int)))
 (asr (decide ((0 : Int) ≤ i11))
 (asr (decide (i11 < (((List.length l4) : Nat) : Int)))
 (lt (List.getD l4 (i11.toNat) .nils) (fun yr55 =>
 (asr (conf zI yr55)
 (lt (IntKind.i64.wrap (i11 - (1 : Int))) (fun yi56 =>
 (asr (decide ((0 : Int) ≤ yi56))
 (asr (decide (yi56 < (((List.length l4) : Nat) : Int)))
 (lt (List.getD l4 (yi56.toNat) .nils) (fun yr57 =>
 (asr (conf zI yr57)
 (yj50 ((intOfV yr55) != (intOfV yr57)))))))))))))))
 (yj50 false)))
 (fun yb49 => (cbr yb49
 (asr (decide ((0 : Int) ≤ i11))
 (asr (decide (i11 < (((List.length l3) : Nat) : Int)))
 (lt (List.getD l3 (i11.toNat) .nils) (fun yr52 =>
 (asr (conf zI yr52)
 (asr (decide ((List.length l0) = (List.length l0)))
 (asr (decide ((0 + (List.length l0)) ≤ (List.length l0)))
 (asr (!(decide (((0 + (List.length l0)) + 1) ≤ (List.length l0))))
 (asr (decide ((List.length l0) = (List.length l0)))
 (asr (decide ((((List.length l0) + 1) + 64) * (8 + 1) ≤ room))
 (lt (IntKind.i64.wrap (i11 - (1 : Int))) (fun yi53 =>
 (asr (decide ((0 : Int) ≤ yi53))
 (asr (decide (yi53 < (((List.length l4) : Nat) : Int)))
 (lt (List.getD l4 (yi53.toNat) .nils) (fun yr54 =>
 (asr (conf zI yr54)
 (asr (decide ((List.length l1) = (List.length l1)))
 (asr (decide ((0 + (List.length l1)) ≤ (List.length l1)))
 (asr (!(decide (((0 + (List.length l1)) + 1) ≤ (List.length l1))))
 (asr (decide ((List.length l1) = (List.length l1)))
 (asr (decide ((((List.length l1) + 1) + 64) * (8 + 1) ≤ room))
 (yj44 (l0 ++ ([(.int .i64 (intOfV yr52))] : Ls)) (l1 ++ ([(.int .i64 (intOfV yr54))] : Ls)))))))))))))))))))))))))
 (yj44 l0 l1)))))
 (fun yl42 yl43 => (lt (IntKind.i64.wrap (i11 + (1 : Int))) (fun yi45 =>
 (asr (decide ((List.length yl42) = List.length yl42) && decide ((List.length yl42) = List.length yl42) && decide ((List.length yl43) = List.length yl43) && decide ((List.length yl43) = List.length yl43))
 (L_r02_Normal_0_1 a0 x0 x1 n yl42 yl43 i2 l3 l4 i5 i6 yi45))))))
 (x1 l0 l1 i2 l3 l4 i5 i6 i11 false))
end
def wv_r02_Normal (a0 : T_cake_Check) (p0 : Int) (p1 p2 : Ls) (K : Int → Ls → Ls → Int → Prop) : Prop :=
 (a0 p0 p1 p2 (fun yi5 => 
 (cbr (yi5 != (0 : Int))
 (a0 p0 p1 p2 (fun yi7 => 
 (K (0 : Int) ([] : Ls) ([] : Ls) yi7)))
 (asr (decide (1 = List.length ([(.int .i64 (0 : Int))] : Ls)) && decide (1 = List.length ([(.int .i64 (0 : Int))] : Ls)))
 (∃ n : Nat, L_r02_Normal_0_0 a0
 (fun yl79 yi80 _ yl82 _ yi84 _ _ => (asr (decide ((List.length yl79) = (List.length yl79)))
 (asr (decide ((0 + (List.length yl79)) ≤ (List.length yl79)))
 (asr (!(decide (((0 + (List.length yl79)) + 1) ≤ (List.length yl79))))
 (asr (decide ((List.length yl79) = (List.length yl79)))
 (asr (decide ((((List.length yl79) + 1) + 64) * (8 + 1) ≤ room))
 (lt (IntKind.i64.wrap ((((List.length yl82) : Nat) : Int) - (1 : Int))) (fun yi89 =>
 (asr (decide ((0 : Int) ≤ yi89))
 (asr (decide (yi89 < (((List.length yl82) : Nat) : Int)))
 (lt (List.getD yl82 (yi89.toNat) .nils) (fun yr90 =>
 (asr (conf zI yr90)
 (asr (decide ((List.length (yl79 ++ ([(.int .i64 yi80)] : Ls))) = (List.length (yl79 ++ ([(.int .i64 yi80)] : Ls)))))
 (asr (decide ((0 + (List.length (yl79 ++ ([(.int .i64 yi80)] : Ls)))) ≤ (List.length (yl79 ++ ([(.int .i64 yi80)] : Ls)))))
 (K yi84 (List.take (List.length (yl79 ++ ([(.int .i64 yi80)] : Ls))) (yl79 ++ ([(.int .i64 yi80)] : Ls))) ([(.int .i64 (intOfV yr90))] : Ls) (0 : Int)))))))))))))))))
 (fun yl91 yl92 yi93 _ yl95 _ yi97 _ _ => (asr (decide ((List.length yl91) = (List.length yl91)))
 (asr (decide ((0 + (List.length yl91)) ≤ (List.length yl91)))
 (asr (!(decide (((0 + (List.length yl91)) + 1) ≤ (List.length yl91))))
 (asr (decide ((List.length yl91) = (List.length yl91)))
 (asr (decide ((((List.length yl91) + 1) + 64) * (8 + 1) ≤ room))
 (lt (IntKind.i64.wrap ((((List.length yl95) : Nat) : Int) - (1 : Int))) (fun yi102 =>
 (asr (decide ((0 : Int) ≤ yi102))
 (asr (decide (yi102 < (((List.length yl95) : Nat) : Int)))
 (lt (List.getD yl95 (yi102.toNat) .nils) (fun yr103 =>
 (asr (conf zI yr103)
 (asr (decide ((List.length yl92) = (List.length yl92)))
 (asr (decide ((0 + (List.length yl92)) ≤ (List.length yl92)))
 (asr (!(decide (((0 + (List.length yl92)) + 1) ≤ (List.length yl92))))
 (asr (decide ((List.length yl92) = (List.length yl92)))
 (asr (decide ((((List.length yl92) + 1) + 64) * (8 + 1) ≤ room))
 (asr (decide ((List.length (yl91 ++ ([(.int .i64 yi93)] : Ls))) = (List.length (yl91 ++ ([(.int .i64 yi93)] : Ls)))))
 (asr (decide ((0 + (List.length (yl91 ++ ([(.int .i64 yi93)] : Ls)))) ≤ (List.length (yl91 ++ ([(.int .i64 yi93)] : Ls)))))
 (asr (decide ((List.length (yl92 ++ ([(.int .i64 (intOfV yr103))] : Ls))) = (List.length (yl92 ++ ([(.int .i64 (intOfV yr103))] : Ls)))))
 (asr (decide ((0 + (List.length (yl92 ++ ([(.int .i64 (intOfV yr103))] : Ls)))) ≤ (List.length (yl92 ++ ([(.int .i64 (intOfV yr103))] : Ls)))))
 (K yi97 (List.take (List.length (yl91 ++ ([(.int .i64 yi93)] : Ls))) (yl91 ++ ([(.int .i64 yi93)] : Ls))) (List.take (List.length (yl92 ++ ([(.int .i64 (intOfV yr103))] : Ls))) (yl92 ++ ([(.int .i64 (intOfV yr103))] : Ls))) (0 : Int))))))))))))))))))))))))
 n ([(.int .i64 (0 : Int))] : Ls) p0 p1 p2 (0 : Int) p0 (0 : Int))))))
def w_r02_Normal : T_r02_Normal := wv_r02_Normal w_r02_Check
def sg_r02_Normal : Sg := ⟨pt14, Int → Ls → Ls → Int → Prop, fun K => (fun r0 r1 r2 r3 => K (.tup [(.agg [(.int .i64 r0), (.data r1), (.data r2)]), (.int .i64 r3)]))⟩
def X_r02_Normal_0_0 (Q : Qx) : Ls → Int → Ls → Ls → Int → Int → Int → Bool → Prop := (fun l0 i1 l2 l3 i4 i5 i8 b9 => Q (.exit 0) [(1, .box (.agg [(.int .i64 i1), (.data l2), (.data l3)])), (2, .box (.agg [(.int .i64 i4), .nils, .nils])), (4, .box (.agg [(.int .i64 i5), (.own 0 0 (List.length l0) (List.length l0) none), .nils])), (5, .v (.int .i64 i8)), (20, .v (.bool b9))] [⟨false, true, 1, l0⟩])
def X_r02_Normal_0_1 (Q : Qx) : Ls → Ls → Int → Ls → Ls → Int → Int → Int → Bool → Prop := (fun l0 l1 i2 l3 l4 i5 i6 i11 b12 => Q (.exit 0) [(1, .box (.agg [(.int .i64 i2), (.data l3), (.data l4)])), (2, .box (.agg [(.int .i64 i5), .nils, .nils])), (4, .box (.agg [(.int .i64 i6), (.own 0 0 (List.length l0) (List.length l0) none), (.own 1 0 (List.length l1) (List.length l1) none)])), (5, .v (.int .i64 i11)), (20, .v (.bool b12))] [⟨false, true, 1, l0⟩, ⟨false, true, 1, l1⟩])
def pt20 : HPt := hB false true 1 rA hN
def pt21 : VPt := vA (lC pt0 (lC vNs (lC vNs lN)))
def pt22 : Pat Frm := fV 5 pt0 fN
def pt23 : VPt := vW 1 (nK 0) (nT 1) (nT 1)
def St_r02_Normal_0 (a0 : T_cake_Check) (Q : Qx) : List St := [⟨(pS pt20 (fX 1 pt13 (fX 2 pt21 (fX 4 (vA (lC pt0 (lC pt18 (lC vNs lN)))) pt22))) fN), L_r02_Normal_0_0 a0 (X_r02_Normal_0_0 Q) (X_r02_Normal_0_1 Q)⟩, ⟨(pS (hB false true 1 rA pt20) (fX 1 pt13 (fX 2 pt21 (fX 4 (vA (lC pt0 (lC pt18 (lC pt23 lN)))) pt22))) fN), L_r02_Normal_0_1 a0 (X_r02_Normal_0_0 Q) (X_r02_Normal_0_1 Q)⟩]
def lp_r02_Normal (a0 : T_cake_Check) : LP := lpS [(36343900, St_r02_Normal_0 a0)]
def S0_r02_Normal (e : Es) (a0 : T_cake_Check) : SE := sE (E e) [(n_r02_Check, sg_cake_Check.pw a0)] (lp_r02_Normal a0)
theorem se0_r02_Normal (e : Es) (he : EG e) : SEOk (Uni (E e)) (S0_r02_Normal e w_r02_Check) := seOk_of (Sub.uni _) ⟨(ok_r02_Check e he), trivial⟩ trivial he.ok
theorem body_r02_Normal_0 (e : Es) (a0) : BodOk (S0_r02_Normal e a0) 5 yk0 b_36343900 false (St_r02_Normal_0 a0) := fun _ => ⟨fun _ => by kernel_rfl, fun _ _ => by kernel_rfl, fun _ => by kernel_rfl, fun _ _ => by kernel_rfl, trivial⟩
theorem loop_r02_Normal_0 (e : Es) (he : EG e) : LpT (Uni (E e)) (lp_r02_Normal w_r02_Check) [] 36343900 (.loop 36343900 b_36343900) := fun _ _ _ => LoopT.st (Sub.uni _) (callW_ok (se0_r02_Normal e he) 5) (YOk.no _ _) (LpOk_no (by kernel_rfl)) (body_r02_Normal_0 e _ _)
theorem eq_r02_Normal (e : Es) (a0) : EqW (S0_r02_Normal e a0) 6 t_r02_Normal sg_r02_Normal (wv_r02_Normal a0) := fun _ _ => by kernel_rfl
theorem ok_r02_Normal (e : Es) (he : EG e) : OkF (E e) (sg_r02_Normal.pw w_r02_Normal) n_r02_Normal := okU he (eq_r02_Normal e _) (se0_r02_Normal e he) RngOk.flat (LpOk_by (l := [(36343900, .loop 36343900 b_36343900)]) ⟨loop_r02_Normal_0 e he, trivial⟩ (by kernel_rfl))
end Go.Pf.Vc
namespace Go.Pf.Vc
open Go Go.Pf
set_option linter.unusedVariables false
theorem det_r02_Check (p0 : Int) (p1 : Ls) (p2 : Ls) (r0 : Int) (h : ∀ K : Int → Prop, K r0 → w_r02_Check p0 p1 p2 K) (K : Int → Prop) : w_r02_Check p0 p1 p2 K = K r0 :=
 propext ⟨fun k => detC (ok_r02_Check [] effG_nil) (az := [(.agg [(.int .i64 p0), (.data p1), (.data p2)])]) (x := (.int .i64 r0)) (fun K' k' => h (fun r0 => K' (.int .i64 r0)) k') (K := fun x => match x with | (.int .i64 r0) => K r0 | _ => False) k, h K⟩
end Go.Pf.Vc
namespace Go.Pf.Vc
open Go Go.Pf
set_option maxRecDepth 100000
abbrev T_r04_GreatCakes : Type := Ls → (Bool → Prop) → Prop
def L_r04_GreatCakes_0_0 (a0 : T_r02_Great) (x0 : Bool → Prop) (x1 : Ls → Int → Bool → Prop) : Nat → Ls → Int → Prop
 | 0, _, _ => False
 | n + 1, l0, i1 =>
 (cbr (decide (i1 < (((List.length l0) : Nat) : Int)))
 (asr (decide ((0 : Int) ≤ i1))
 (asr (decide (i1 < (((List.length l0) : Nat) : Int)))
 (asr (conf zK (List.getD l0 (i1.toNat) .nils))
 (a0 (intOfV (cellAt (List.getD l0 (i1.toNat) .nils) 0)) (datOfV (cellAt (List.getD l0 (i1.toNat) .nils) 1)) (datOfV (cellAt (List.getD l0 (i1.toNat) .nils) 2)) (fun yb0 => 
 (cbr yb0
 (x0 true)
 (L_r04_GreatCakes_0_0 a0 x0 x1 n l0 (IntKind.i64.wrap (i1 + (1 : Int))))))))))
 (x1 l0 i1 false))
def wv_r04_GreatCakes (a0 : T_r02_Great) (p0 : Ls) (K : Bool → Prop) : Prop :=
 (∃ n : Nat, L_r04_GreatCakes_0_0 a0
 (fun yb1 => (K yb1))
 (fun yl2 _ _ => (K (decide ((((List.length yl2) : Nat) : Int) > (10 : Int)))))
 n p0 (0 : Int))
def w_r04_GreatCakes : T_r04_GreatCakes := wv_r04_GreatCakes w_r02_Great
def sg_r04_GreatCakes : Sg := ⟨pt7, Bool → Prop, fun K => (fun r0 => K (.bool r0))⟩
def X_r04_GreatCakes_0_0 (Q : Qx) : Bool → Prop := (fun b0 => Q .ret [(2, .v (.bool b0))] [])
def X_r04_GreatCakes_0_1 (Q : Qx) : Ls → Int → Bool → Prop := (fun l0 i1 b2 => Q (.exit 0) [(0, .v (.data l0)), (3, .v (.int .i64 i1)), (7, .v (.bool b2))] [])
def St_r04_GreatCakes_0 (a0 : T_r02_Great) (Q : Qx) : List St := [⟨(pS hN (fV 0 vD (fV 3 pt0 fN)) fN), L_r04_GreatCakes_0_0 a0 (X_r04_GreatCakes_0_0 Q) (X_r04_GreatCakes_0_1 Q)⟩]
def lp_r04_GreatCakes (a0 : T_r02_Great) : LP := lpS [(4277600, St_r04_GreatCakes_0 a0)]
def S0_r04_GreatCakes (e : Es) (a0 : T_r02_Great) : SE := sE (E e) [(n_r02_Great, sg_r02_Great.pw a0)] (lp_r04_GreatCakes a0)
theorem se0_r04_GreatCakes (e : Es) (he : EG e) : SEOk (Uni (E e)) (S0_r04_GreatCakes e w_r02_Great) := seOk_of (Sub.uni _) ⟨(ok_r02_Great e he), trivial⟩ trivial he.ok
theorem body_r04_GreatCakes_0 (e : Es) (a0) : BodOk (S0_r04_GreatCakes e a0) 5 yk0 b_4277600 false (St_r04_GreatCakes_0 a0) := fun _ => ⟨fun _ => by kernel_rfl, fun _ _ => by kernel_rfl, trivial⟩
theorem loop_r04_GreatCakes_0 (e : Es) (he : EG e) : LpT (Uni (E e)) (lp_r04_GreatCakes w_r02_Great) [] 4277600 (.loop 4277600 b_4277600) := fun _ _ _ => LoopT.st (Sub.uni _) (callW_ok (se0_r04_GreatCakes e he) 5) (YOk.no _ _) (LpOk_no (by kernel_rfl)) (body_r04_GreatCakes_0 e _ _)
theorem eq_r04_GreatCakes (e : Es) (a0) : EqW (S0_r04_GreatCakes e a0) 6 t_r04_GreatCakes sg_r04_GreatCakes (wv_r04_GreatCakes a0) := fun _ _ => by kernel_rfl
theorem ok_r04_GreatCakes (e : Es) (he : EG e) : OkF (E e) (sg_r04_GreatCakes.pw w_r04_GreatCakes) n_r04_GreatCakes := okU he (eq_r04_GreatCakes e _) (se0_r04_GreatCakes e he) RngOk.flat (LpOk_by (l := [(4277600, .loop 4277600 b_4277600)]) ⟨loop_r04_GreatCakes_0 e he, trivial⟩ (by kernel_rfl))
def L_r04_Check_0_0 (a0 : T_cake_Check) (x6981300_0 : Int → Prop) (x6981300_1 : Ls → Ls → Int → Bool → Prop) : Nat → Ls → Ls → Int → Prop
 | 0, _, _, _ => False
 | n6981300 + 1, l0, l1, i2 =>
 (cbr (decide (i2 < (((List.length l0) : Nat) : Int)))
 (asr (decide ((0 : Int) ≤ i2))
 (asr (decide (i2 < (((List.length l0) : Nat) : Int)))
 (asr (conf zK (List.getD l0 (i2.toNat) .nils))
 (a0 (intOfV (cellAt (List.getD l0 (i2.toNat) .nils) 0)) (datOfV (cellAt (List.getD l0 (i2.toNat) .nils) 1)) (datOfV (cellAt (List.getD l0 (i2.toNat) .nils) 2)) (fun yi0 => 
 (cbr (yi0 != (0 : Int))
 (asr (decide ((0 : Int) ≤ i2))
 (asr (decide (i2 < (((List.length l0) : Nat) : Int)))
 (asr (conf zK (List.getD l0 (i2.toNat) .nils))
 (a0 (intOfV (cellAt (List.getD l0 (i2.toNat) .nils) 0)) (datOfV (cellAt (List.getD l0 (i2.toNat) .nils) 1)) (datOfV (cellAt (List.getD l0 (i2.toNat) .nils) 2)) (fun yi1 => 
 (x6981300_0 yi1))))))
 (L_r04_Check_0_0 a0 x6981300_0 x6981300_1 n6981300 l0 l1 (IntKind.i64.wrap (i2 + (1 : Int))))))))))
 (x6981300_1 l0 l1 i2 false))
def L_r04_Check_1_0 (a0 : T_cake_Check) (x6981301_0 : Int → Prop) (x6981301_1 : Ls → Ls → Int → Bool → Prop) : Nat → Ls → Ls → Int → Prop
 | 0, _, _, _ => False
 | n6981301 + 1, l0, l1, i2 =>
 (cbr (decide (i2 < (((List.length l0) : Nat) : Int)))
 (asr (decide ((0 : Int) ≤ i2))
 (asr (decide (i2 < (((List.length l0) : Nat) : Int)))
 (asr (conf zK (List.getD l0 (i2.toNat) .nils))
 (asr (decide ((0 : Int) < (((List.length l0) : Nat) : Int)))
 (asr (conf zK (List.getD l0 0 .nils))
 (cbr ((intOfV (cellAt (List.getD l0 (i2.toNat) .nils) 0)) != (intOfV (cellAt (List.getD l0 0 .nils) 0)))
 (x6981301_0 (8 : Int))
 (L_r04_Check_1_0 a0 x6981301_0 x6981301_1 n6981301 l0 l1 (IntKind.i64.wrap (i2 + (1 : Int))))))))))
 (x6981301_1 l0 l1 i2 false))
def wv_r04_Check (a0 : T_cake_Check) (p0 p1 : Ls) (K : Int → Prop) : Prop :=
 (cbr (decide ((((List.length p0) : Nat) : Int) > (6 : Int)))
 (K (4 : Int))
 (cbr (decide ((((List.length p1) : Nat) : Int) > (2000 : Int)))
 (K (4 : Int))
 (cbr ((((List.length p0) : Nat) : Int) == (0 : Int))
 (K (8 : Int))
 (∃ n6981300 : Nat, L_r04_Check_0_0 a0
 (fun yi2 => (K yi2))
 (fun yl3 yl4 _ _ => (∃ n6981301 : Nat, L_r04_Check_1_0 a0
 (fun yi7 => (K yi7))
 (fun _ _ _ _ => (K (0 : Int)))
 n6981301 yl3 yl4 (0 : Int)))
 n6981300 p0 p1 (0 : Int)))))
def w_r04_Check : T_ask_Check := wv_r04_Check w_r02_Check
def X_r04_Check_0_0 (Q : Qx) : Int → Prop := (fun i0 => Q .ret [(2, .v (.int .i64 i0))] [])
def X_r04_Check_0_1 (Q : Qx) : Ls → Ls → Int → Bool → Prop := (fun l0 l1 i2 b3 => Q (.exit 0) [(1, .box (.agg [(.data l0), (.data l1)])), (3, .v (.int .i64 i2)), (23, .v (.bool b3))] [])
def X_r04_Check_1_0 (Q : Qx) : Int → Prop := (fun i0 => Q .ret [(2, .v (.int .i64 i0))] [])
def X_r04_Check_1_1 (Q : Qx) : Ls → Ls → Int → Bool → Prop := (fun l0 l1 i2 b3 => Q (.exit 2) [(1, .box (.agg [(.data l0), (.data l1)])), (4, .v (.int .i64 i2)), (43, .v (.bool b3))] [])
def St_r04_Check_0 (a0 : T_cake_Check) (Q : Qx) : List St := [⟨(pS hN (fX 1 pt16 (fV 3 pt0 fN)) fN), L_r04_Check_0_0 a0 (X_r04_Check_0_0 Q) (X_r04_Check_0_1 Q)⟩]
def St_r04_Check_1 (a0 : T_cake_Check) (Q : Qx) : List St := [⟨(pS hN (fX 1 pt16 pt10) fN), L_r04_Check_1_0 a0 (X_r04_Check_1_0 Q) (X_r04_Check_1_1 Q)⟩]
def lp_r04_Check (a0 : T_cake_Check) : LP := lpS [(6981300, St_r04_Check_0 a0), (6981301, St_r04_Check_1 a0)]
def S0_r04_Check (e : Es) (a0 : T_cake_Check) : SE := sE (E e) [(n_r02_Check, sg_cake_Check.pw a0)] (lp_r04_Check a0)
theorem se0_r04_Check (e : Es) (he : EG e) : SEOk (Uni (E e)) (S0_r04_Check e w_r02_Check) := seOk_of (Sub.uni _) ⟨(ok_r02_Check e he), trivial⟩ trivial he.ok
theorem body_r04_Check_0 (e : Es) (a0) : BodOk (S0_r04_Check e a0) 5 yk0 b_6981300 false (St_r04_Check_0 a0) := fun _ => ⟨fun _ => by kernel_rfl, fun _ _ => by kernel_rfl, trivial⟩
theorem loop_r04_Check_0 (e : Es) (he : EG e) : LpT (Uni (E e)) (lp_r04_Check w_r02_Check) [] 6981300 (.loop 6981300 b_6981300) := fun _ _ _ => LoopT.st (Sub.uni _) (callW_ok (se0_r04_Check e he) 5) (YOk.no _ _) (LpOk_no (by kernel_rfl)) (body_r04_Check_0 e _ _)
theorem body_r04_Check_1 (e : Es) (a0) : BodOk (S0_r04_Check e a0) 5 yk0 b_6981301 false (St_r04_Check_1 a0) := fun _ => ⟨fun _ => by kernel_rfl, fun _ _ => by kernel_rfl, trivial⟩
theorem loop_r04_Check_1 (e : Es) (he : EG e) : LpT (Uni (E e)) (lp_r04_Check w_r02_Check) [] 6981301 (.loop 6981301 b_6981301) := fun _ _ _ => LoopT.st (Sub.uni _) (callW_ok (se0_r04_Check e he) 5) (YOk.no _ _) (LpOk_no (by kernel_rfl)) (body_r04_Check_1 e _ _)
theorem eq_r04_Check (e : Es) (a0) : EqW (S0_r04_Check e a0) 6 t_r04_Check sg_ask_Check (wv_r04_Check a0) := fun _ _ => by kernel_rfl
theorem ok_r04_Check (e : Es) (he : EG e) : OkF (E e) (sg_ask_Check.pw w_r04_Check) n_r04_Check := okU he (eq_r04_Check e _) (se0_r04_Check e he) RngOk.flat (LpOk_by (l := [(6981300, .loop 6981300 b_6981300), (6981301, .loop 6981301 b_6981301)]) ⟨loop_r04_Check_0 e he, loop_r04_Check_1 e he, trivial⟩ (by kernel_rfl))
abbrev T_r04_SameLogs : Type := Ls → Ls → (Bool → Prop) → Prop
def L_r04_SameLogs_0_0 (x0 : Bool → Prop) (x1 : Ls → Ls → Int → Bool → Prop) : Nat → Ls → Ls → Int → Prop
 | 0, _, _, _ => False
 | n + 1, l0, l1, i2 =>
 (cbr (decide (i2 < (((List.length l0) : Nat) : Int)))
 (asr (decide ((0 : Int) ≤ i2))
 (asr (decide (i2 < (((List.length l0) : Nat) : Int)))
 (asr (conf (.agg [.i .i64, .i .u8, .i .i64, .i .i64, .i .i64, .i .i64, .i .i64, .i .i64]) (List.getD l0 (i2.toNat) .nils))
 (asr (decide ((0 : Int) ≤ i2))
 (asr (decide (i2 < (((List.length l1) : Nat) : Int)))
 (asr (conf (.agg [.i .i64, .i .u8, .i .i64, .i .i64, .i .i64, .i .i64, .i .i64, .i .i64]) (List.getD l1 (i2.toNat) .nils))
 (cbr (!(((intOfV (cellAt (List.getD l0 (i2.toNat) .nils) 0)) == (intOfV (cellAt (List.getD l1 (i2.toNat) .nils) 0))) && (((intOfV (cellAt (List.getD l0 (i2.toNat) .nils) 1)) == (intOfV (cellAt (List.getD l1 (i2.toNat) .nils) 1))) && (((intOfV (cellAt (List.getD l0 (i2.toNat) .nils) 2)) == (intOfV (cellAt (List.getD l1 (i2.toNat) .nils) 2))) && (((intOfV (cellAt (List.getD l0 (i2.toNat) .nils) 3)) == (intOfV (cellAt (List.getD l1 (i2.toNat) .nils) 3))) && (((intOfV (cellAt (List.getD l0 (i2.toNat) .nils) 4)) == (intOfV (cellAt (List.getD l1 (i2.toNat) .nils) 4))) && (((intOfV (cellAt (List.getD l0 (i2.toNat) .nils) 5)) == (intOfV (cellAt (List.getD l1 (i2.toNat) .nils) 5))) && (((intOfV (cellAt (List.getD l0 (i2.toNat) .nils) 6)) == (intOfV (cellAt (List.getD l1 (i2.toNat) .nils) 6))) && (((intOfV (cellAt (List.getD l0 (i2.toNat) .nils) 7)) == (intOfV (cellAt (List.getD l1 (i2.toNat) .nils) 7))) && true)))))))))
 (x0 false)
 (L_r04_SameLogs_0_0 x0 x1 n l0 l1 (IntKind.i64.wrap (i2 + (1 : Int)))))))))))
 (x1 l0 l1 i2 false))
def wv_r04_SameLogs (p0 p1 : Ls) (K : Bool → Prop) : Prop :=
 (cbr ((((List.length p0) : Nat) : Int) != (((List.length p1) : Nat) : Int))
 (K false)
 (∃ n : Nat, L_r04_SameLogs_0_0
 (fun yb0 => (K yb0))
 (fun _ _ _ _ => (K true))
 n p0 p1 (0 : Int)))
def w_r04_SameLogs : T_r04_SameLogs := wv_r04_SameLogs
def sg_r04_SameLogs : Sg := ⟨pt12, Bool → Prop, fun K => (fun r0 => K (.bool r0))⟩
def X_r04_SameLogs_0_0 (Q : Qx) : Bool → Prop := (fun b0 => Q .ret [(4, .v (.bool b0))] [])
def X_r04_SameLogs_0_1 (Q : Qx) : Ls → Ls → Int → Bool → Prop := (fun l0 l1 i2 b3 => Q (.exit 0) [(0, .v (.data l0)), (1, .v (.data l1)), (5, .v (.int .i64 i2)), (14, .v (.bool b3))] [])
def pt24 : Pat Sta := pS hN (fV 0 vD (fV 1 vD pt22)) fN
def St_r04_SameLogs_0 (Q : Qx) : List St := [⟨pt24, L_r04_SameLogs_0_0 (X_r04_SameLogs_0_0 Q) (X_r04_SameLogs_0_1 Q)⟩]
def lp_r04_SameLogs : LP := lpS [(11728400, St_r04_SameLogs_0)]
def S0_r04_SameLogs (e : Es) : SE := sE (E e) [] (lp_r04_SameLogs)
theorem se0_r04_SameLogs (e : Es) (he : EG e) : SEOk (Uni (E e)) (S0_r04_SameLogs e) := seOk_of (Sub.uni _) trivial trivial he.ok
theorem body_r04_SameLogs_0 (e : Es) : BodOk (S0_r04_SameLogs e) 5 yk0 b_11728400 false (St_r04_SameLogs_0) := fun _ => ⟨fun _ => by kernel_rfl, fun _ _ => by kernel_rfl, trivial⟩
theorem loop_r04_SameLogs_0 (e : Es) (he : EG e) : LpT (Uni (E e)) (lp_r04_SameLogs) [] 11728400 (.loop 11728400 b_11728400) := fun _ _ _ => LoopT.st (Sub.uni _) (callW_ok (se0_r04_SameLogs e he) 5) (YOk.no _ _) (LpOk_no (by kernel_rfl)) (body_r04_SameLogs_0 e _)
theorem eq_r04_SameLogs (e : Es) : EqW (S0_r04_SameLogs e) 6 t_r04_SameLogs sg_r04_SameLogs wv_r04_SameLogs := fun _ _ => by kernel_rfl
theorem ok_r04_SameLogs (e : Es) (he : EG e) : OkF (E e) (sg_r04_SameLogs.pw w_r04_SameLogs) n_r04_SameLogs := okU he (eq_r04_SameLogs e) (se0_r04_SameLogs e he) RngOk.flat (LpOk_by (l := [(11728400, .loop 11728400 b_11728400)]) ⟨loop_r04_SameLogs_0 e he, trivial⟩ (by kernel_rfl))
end Go.Pf.Vc
namespace Go.Pf.Vc
open Go Go.Pf
set_option linter.unusedVariables false
theorem det_r04_GreatCakes (p0 : Ls) (r0 : Bool) (h : ∀ K : Bool → Prop, K r0 → w_r04_GreatCakes p0 K) (K : Bool → Prop) : w_r04_GreatCakes p0 K = K r0 :=
 propext ⟨fun k => detC (ok_r04_GreatCakes [] effG_nil) (az := [(.data p0)]) (x := (.bool r0)) (fun K' k' => h (fun r0 => K' (.bool r0)) k') (K := fun x => match x with | (.bool r0) => K r0 | _ => False) k, h K⟩
theorem det_r04_Check (p0 : Ls) (p1 : Ls) (r0 : Int) (h : ∀ K : Int → Prop, K r0 → w_r04_Check p0 p1 K) (K : Int → Prop) : w_r04_Check p0 p1 K = K r0 :=
 propext ⟨fun k => detC (ok_r04_Check [] effG_nil) (az := [(.agg [(.data p0), (.data p1)])]) (x := (.int .i64 r0)) (fun K' k' => h (fun r0 => K' (.int .i64 r0)) k') (K := fun x => match x with | (.int .i64 r0) => K r0 | _ => False) k, h K⟩
theorem det_r04_SameLogs (p0 : Ls) (p1 : Ls) (r0 : Bool) (h : ∀ K : Bool → Prop, K r0 → w_r04_SameLogs p0 p1 K) (K : Bool → Prop) : w_r04_SameLogs p0 p1 K = K r0 :=
 propext ⟨fun k => detC (ok_r04_SameLogs [] effG_nil) (az := [(.data p0), (.data p1)]) (x := (.bool r0)) (fun K' k' => h (fun r0 => K' (.bool r0)) k') (K := fun x => match x with | (.bool r0) => K r0 | _ => False) k, h K⟩
end Go.Pf.Vc
namespace Go.Pf.Vc
open Go Go.Pf
set_option maxRecDepth 100000
def L_r03_Same_0_0 (x0 : Bool → Prop) (x1 : Ls → Ls → Int → Bool → Prop) : Nat → Ls → Ls → Int → Prop
 | 0, _, _, _ => False
 | n + 1, l0, l1, i2 =>
 (cbr (decide (i2 < (((List.length l0) : Nat) : Int)))
 (asr (decide ((0 : Int) ≤ i2))
 (asr (decide (i2 < (((List.length l0) : Nat) : Int)))
 (asr (conf z4 (List.getD l0 (i2.toNat) .nils))
 (asr (decide ((0 : Int) ≤ i2))
 (asr (decide (i2 < (((List.length l1) : Nat) : Int)))
 (asr (conf z4 (List.getD l1 (i2.toNat) .nils))
 (cbr (!(((intOfV (cellAt (List.getD l0 (i2.toNat) .nils) 0)) == (intOfV (cellAt (List.getD l1 (i2.toNat) .nils) 0))) && (((intOfV (cellAt (List.getD l0 (i2.toNat) .nils) 1)) == (intOfV (cellAt (List.getD l1 (i2.toNat) .nils) 1))) && (((intOfV (cellAt (List.getD l0 (i2.toNat) .nils) 2)) == (intOfV (cellAt (List.getD l1 (i2.toNat) .nils) 2))) && (((intOfV (cellAt (List.getD l0 (i2.toNat) .nils) 3)) == (intOfV (cellAt (List.getD l1 (i2.toNat) .nils) 3))) && true)))))
 (x0 false)
 (L_r03_Same_0_0 x0 x1 n l0 l1 (IntKind.i64.wrap (i2 + (1 : Int)))))))))))
 (x1 l0 l1 i2 false))
def wv_r03_Same (p0 p1 : Ls) (K : Bool → Prop) : Prop :=
 (cbr ((((List.length p0) : Nat) : Int) != (((List.length p1) : Nat) : Int))
 (K false)
 (∃ n : Nat, L_r03_Same_0_0
 (fun yb0 => (K yb0))
 (fun _ _ _ _ => (K true))
 n p0 p1 (0 : Int)))
def w_r03_Same : T_r04_SameLogs := wv_r03_Same
def X_r03_Same_0_0 (Q : Qx) : Bool → Prop := (fun b0 => Q .ret [(4, .v (.bool b0))] [])
def X_r03_Same_0_1 (Q : Qx) : Ls → Ls → Int → Bool → Prop := (fun l0 l1 i2 b3 => Q (.exit 0) [(0, .v (.data l0)), (1, .v (.data l1)), (5, .v (.int .i64 i2)), (14, .v (.bool b3))] [])
def St_r03_Same_0 (Q : Qx) : List St := [⟨pt24, L_r03_Same_0_0 (X_r03_Same_0_0 Q) (X_r03_Same_0_1 Q)⟩]
def lp_r03_Same : LP := lpS [(27088800, St_r03_Same_0)]
def S0_r03_Same (e : Es) : SE := sE (E e) [] (lp_r03_Same)
theorem se0_r03_Same (e : Es) (he : EG e) : SEOk (Uni (E e)) (S0_r03_Same e) := seOk_of (Sub.uni _) trivial trivial he.ok
theorem body_r03_Same_0 (e : Es) : BodOk (S0_r03_Same e) 5 yk0 b_27088800 false (St_r03_Same_0) := fun _ => ⟨fun _ => by kernel_rfl, fun _ _ => by kernel_rfl, trivial⟩
theorem loop_r03_Same_0 (e : Es) (he : EG e) : LpT (Uni (E e)) (lp_r03_Same) [] 27088800 (.loop 27088800 b_27088800) := fun _ _ _ => LoopT.st (Sub.uni _) (callW_ok (se0_r03_Same e he) 5) (YOk.no _ _) (LpOk_no (by kernel_rfl)) (body_r03_Same_0 e _)
theorem eq_r03_Same (e : Es) : EqW (S0_r03_Same e) 6 t_r03_Same sg_r04_SameLogs wv_r03_Same := fun _ _ => by kernel_rfl
theorem ok_r03_Same (e : Es) (he : EG e) : OkF (E e) (sg_r04_SameLogs.pw w_r03_Same) n_r03_Same := okU he (eq_r03_Same e) (se0_r03_Same e he) RngOk.flat (LpOk_by (l := [(27088800, .loop 27088800 b_27088800)]) ⟨loop_r03_Same_0 e he, trivial⟩ (by kernel_rfl))
def L_r06_Same_0_0 (a0 : T_r04_SameLogs) (x0 : Bool → Prop) (x1 : Ls → Ls → Int → Bool → Prop) : Nat → Ls → Ls → Int → Prop
 | 0, _, _, _ => False
 | n + 1, l0, l1, i2 =>
 (cbr (decide (i2 < (((List.length l0) : Nat) : Int)))
 (asr (decide ((0 : Int) ≤ i2))
 (asr (decide (i2 < (((List.length l0) : Nat) : Int)))
 (asr (conf zD (List.getD l0 (i2.toNat) .nils))
 (asr (decide ((0 : Int) ≤ i2))
 (asr (decide (i2 < (((List.length l1) : Nat) : Int)))
 (asr (conf zD (List.getD l1 (i2.toNat) .nils))
 (a0 (datOfV (List.getD l0 (i2.toNat) .nils)) (datOfV (List.getD l1 (i2.toNat) .nils)) (fun yb0 => 
 (cbr (!yb0)
 (x0 false)
 (L_r06_Same_0_0 a0 x0 x1 n l0 l1 (IntKind.i64.wrap (i2 + (1 : Int)))))))))))))
 (x1 l0 l1 i2 false))
def wv_r06_Same (a0 : T_r04_SameLogs) (p0 p1 : Ls) (K : Bool → Prop) : Prop :=
 (cbr ((((List.length p0) : Nat) : Int) != (((List.length p1) : Nat) : Int))
 (K false)
 (∃ n : Nat, L_r06_Same_0_0 a0
 (fun yb1 => (K yb1))
 (fun _ _ _ _ => (K true))
 n p0 p1 (0 : Int)))
def w_r06_Same : T_r04_SameLogs := wv_r06_Same w_r03_Same
def sg_r06_Same : Sg := ⟨(lC (vA pt7) (lC (vA pt7) lN)), Bool → Prop, fun K => (fun r0 => K (.bool r0))⟩
def X_r06_Same_0_0 (Q : Qx) : Bool → Prop := (fun b0 => Q .ret [(4, .v (.bool b0))] [])
def X_r06_Same_0_1 (Q : Qx) : Ls → Ls → Int → Bool → Prop := (fun l0 l1 i2 b3 => Q (.exit 0) [(2, .box (.agg [(.data l0)])), (3, .box (.agg [(.data l1)])), (5, .v (.int .i64 i2)), (17, .v (.bool b3))] [])
def St_r06_Same_0 (a0 : T_r04_SameLogs) (Q : Qx) : List St := [⟨(pS hN (fX 2 (vA pt7) (fX 3 (vA pt7) pt22)) fN), L_r06_Same_0_0 a0 (X_r06_Same_0_0 Q) (X_r06_Same_0_1 Q)⟩]
def lp_r06_Same (a0 : T_r04_SameLogs) : LP := lpS [(70742100, St_r06_Same_0 a0)]
def S0_r06_Same (e : Es) (a0 : T_r04_SameLogs) : SE := sE (E e) [(n_r03_Same, sg_r04_SameLogs.pw a0)] (lp_r06_Same a0)
theorem se0_r06_Same (e : Es) (he : EG e) : SEOk (Uni (E e)) (S0_r06_Same e w_r03_Same) := seOk_of (Sub.uni _) ⟨(ok_r03_Same e he), trivial⟩ trivial he.ok
theorem body_r06_Same_0 (e : Es) (a0) : BodOk (S0_r06_Same e a0) 5 yk0 b_70742100 false (St_r06_Same_0 a0) := fun _ => ⟨fun _ => by kernel_rfl, fun _ _ => by kernel_rfl, trivial⟩
theorem loop_r06_Same_0 (e : Es) (he : EG e) : LpT (Uni (E e)) (lp_r06_Same w_r03_Same) [] 70742100 (.loop 70742100 b_70742100) := fun _ _ _ => LoopT.st (Sub.uni _) (callW_ok (se0_r06_Same e he) 5) (YOk.no _ _) (LpOk_no (by kernel_rfl)) (body_r06_Same_0 e _ _)
theorem eq_r06_Same (e : Es) (a0) : EqW (S0_r06_Same e a0) 6 t_r06_Same sg_r06_Same (wv_r06_Same a0) := fun _ _ => by kernel_rfl
theorem ok_r06_Same (e : Es) (he : EG e) : OkF (E e) (sg_r06_Same.pw w_r06_Same) n_r06_Same := okU he (eq_r06_Same e _) (se0_r06_Same e he) RngOk.flat (LpOk_by (l := [(70742100, .loop 70742100 b_70742100)]) ⟨loop_r06_Same_0 e he, trivial⟩ (by kernel_rfl))
def L_r09_Same_0_0 (x0 : Bool → Prop) (x1 : Ls → Ls → Int → Bool → Prop) : Nat → Ls → Ls → Int → Prop
 | 0, _, _, _ => False
 | n + 1, l0, l1, i2 =>
 (cbr (decide (i2 < (((List.length l0) : Nat) : Int)))
 (asr (decide ((0 : Int) ≤ i2))
 (asr (decide (i2 < (((List.length l0) : Nat) : Int)))
 (asr (conf zI (List.getD l0 (i2.toNat) .nils))
 (asr (decide ((0 : Int) ≤ i2))
 (asr (decide (i2 < (((List.length l1) : Nat) : Int)))
 (asr (conf zI (List.getD l1 (i2.toNat) .nils))
 (cbr ((intOfV (List.getD l0 (i2.toNat) .nils)) != (intOfV (List.getD l1 (i2.toNat) .nils)))
 (x0 false)
 (L_r09_Same_0_0 x0 x1 n l0 l1 (IntKind.i64.wrap (i2 + (1 : Int)))))))))))
 (x1 l0 l1 i2 false))
def wv_r09_Same (p0 p1 : Ls) (K : Bool → Prop) : Prop :=
 (cbr ((((List.length p0) : Nat) : Int) != (((List.length p1) : Nat) : Int))
 (K false)
 (∃ n : Nat, L_r09_Same_0_0
 (fun yb0 => (K yb0))
 (fun _ _ _ _ => (K true))
 n p0 p1 (0 : Int)))
def w_r09_Same : T_r04_SameLogs := wv_r09_Same
def X_r09_Same_0_0 (Q : Qx) : Bool → Prop := (fun b0 => Q .ret [(4, .v (.bool b0))] [])
def X_r09_Same_0_1 (Q : Qx) : Ls → Ls → Int → Bool → Prop := (fun l0 l1 i2 b3 => Q (.exit 0) [(0, .v (.data l0)), (1, .v (.data l1)), (5, .v (.int .i64 i2)), (14, .v (.bool b3))] [])
def St_r09_Same_0 (Q : Qx) : List St := [⟨pt24, L_r09_Same_0_0 (X_r09_Same_0_0 Q) (X_r09_Same_0_1 Q)⟩]
def lp_r09_Same : LP := lpS [(14397100, St_r09_Same_0)]
def S0_r09_Same (e : Es) : SE := sE (E e) [] (lp_r09_Same)
theorem se0_r09_Same (e : Es) (he : EG e) : SEOk (Uni (E e)) (S0_r09_Same e) := seOk_of (Sub.uni _) trivial trivial he.ok
theorem body_r09_Same_0 (e : Es) : BodOk (S0_r09_Same e) 5 yk0 b_14397100 false (St_r09_Same_0) := fun _ => ⟨fun _ => by kernel_rfl, fun _ _ => by kernel_rfl, trivial⟩
theorem loop_r09_Same_0 (e : Es) (he : EG e) : LpT (Uni (E e)) (lp_r09_Same) [] 14397100 (.loop 14397100 b_14397100) := fun _ _ _ => LoopT.st (Sub.uni _) (callW_ok (se0_r09_Same e he) 5) (YOk.no _ _) (LpOk_no (by kernel_rfl)) (body_r09_Same_0 e _)
theorem eq_r09_Same (e : Es) : EqW (S0_r09_Same e) 6 t_r09_Same sg_r04_SameLogs wv_r09_Same := fun _ _ => by kernel_rfl
theorem ok_r09_Same (e : Es) (he : EG e) : OkF (E e) (sg_r04_SameLogs.pw w_r09_Same) n_r09_Same := okU he (eq_r09_Same e) (se0_r09_Same e he) RngOk.flat (LpOk_by (l := [(14397100, .loop 14397100 b_14397100)]) ⟨loop_r09_Same_0 e he, trivial⟩ (by kernel_rfl))
end Go.Pf.Vc
namespace Go.Pf.Vc
open Go Go.Pf
set_option linter.unusedVariables false
theorem det_r03_Same (p0 : Ls) (p1 : Ls) (r0 : Bool) (h : ∀ K : Bool → Prop, K r0 → w_r03_Same p0 p1 K) (K : Bool → Prop) : w_r03_Same p0 p1 K = K r0 :=
 propext ⟨fun k => detC (ok_r03_Same [] effG_nil) (az := [(.data p0), (.data p1)]) (x := (.bool r0)) (fun K' k' => h (fun r0 => K' (.bool r0)) k') (K := fun x => match x with | (.bool r0) => K r0 | _ => False) k, h K⟩
theorem det_r06_Same (p0 : Ls) (p1 : Ls) (r0 : Bool) (h : ∀ K : Bool → Prop, K r0 → w_r06_Same p0 p1 K) (K : Bool → Prop) : w_r06_Same p0 p1 K = K r0 :=
 propext ⟨fun k => detC (ok_r06_Same [] effG_nil) (az := [(.agg [(.data p0)]), (.agg [(.data p1)])]) (x := (.bool r0)) (fun K' k' => h (fun r0 => K' (.bool r0)) k') (K := fun x => match x with | (.bool r0) => K r0 | _ => False) k, h K⟩
theorem det_r09_Same (p0 : Ls) (p1 : Ls) (r0 : Bool) (h : ∀ K : Bool → Prop, K r0 → w_r09_Same p0 p1 K) (K : Bool → Prop) : w_r09_Same p0 p1 K = K r0 :=
 propext ⟨fun k => detC (ok_r09_Same [] effG_nil) (az := [(.data p0), (.data p1)]) (x := (.bool r0)) (fun K' k' => h (fun r0 => K' (.bool r0)) k') (K := fun x => match x with | (.bool r0) => K r0 | _ => False) k, h K⟩
end Go.Pf.Vc
namespace Go.Pf.Vc
open Go Go.Pf
set_option maxRecDepth 100000
def wv_halve_whole (p0 : Int) (K : Int → Int → Prop) : Prop :=
 (K p0 (1 : Int))
def w_halve_whole : T_cake_whole := wv_halve_whole
def S0_halve_whole (e : Es) : SE := sE (E e) [] lp0
theorem eq_halve_whole (e : Es) : EqW (S0_halve_whole e) 6 t_halve_whole sg_cake_whole wv_halve_whole := fun _ _ => by kernel_rfl
theorem ok_halve_whole (e : Es) (he : EG e) : OkF (E e) (sg_cake_whole.pw w_halve_whole) n_halve_whole := okU he (eq_halve_whole e) (seOk_of (Sub.uni _) trivial trivial he.ok) RngOk.flat (LpOk_no (by kernel_rfl))
def wv_halve_order (a0 : T_ratio_Cmp) (p0 p1 p2 p3 : Int) (K : Int → Prop) : Prop :=
 (a0 p0 p1 p2 p3 (fun yi2 _ => 
 (K yi2)))
def w_halve_order : T_ratio_check := wv_halve_order w_ratio_Cmp
def S0_halve_order (e : Es) (a0 : T_ratio_Cmp) : SE := sE (E e) [(n_ratio_Cmp, sg_ratio_Cmp.pw a0)] lp0
theorem eq_halve_order (e : Es) (a0) : EqW (S0_halve_order e a0) 6 t_halve_order sg_ratio_check (wv_halve_order a0) := fun _ _ => by kernel_rfl
theorem ok_halve_order (e : Es) (he : EG e) : OkF (E e) (sg_ratio_check.pw w_halve_order) n_halve_order := okU he (eq_halve_order e _) (seOk_of (Sub.uni _) ⟨(ok_ratio_Cmp e he), trivial⟩ trivial he.ok) RngOk.flat (LpOk_no (by kernel_rfl))
abbrev T_halve_mark : Type := Ls → Ls → Int → Int → Int → Int → Int → Int → Int → (Ls → Ls → Int → Int → Int → Prop) → Prop
def wv_halve_mark (a0 : T_ask_Total) (a1 : T_cake_whole) (a2 : T_ask_Value) (a3 : T_ratio_Add) (a4 : T_ask_Value) (p0 p1 : Ls) (p2 p3 p4 p5 p6 p7 p8 : Int) (K : Ls → Ls → Int → Int → Int → Prop) : Prop :=
 (a0 p0 p1 p2 (fun yi2 yi3 => 
 (a1 yi2 (fun yi6 yi7 => 
 (jn (fun (yj26 : Ls → Ls → Int → Int → Int → Prop) =>
 (jn (fun (yj51 : Bool → Prop) =>
 (cbr (yi3 == (0 : Int))
 (cbr (decide (p3 > (0 : Int)))
 (yj51 true)
 (asr (decide ((0 : Int) < (((List.length p0) : Nat) : Int)))
 (lt (List.getD p0 0 .nils) (fun yr57 =>
 (asr (conf zK yr57)
 (a1 (intOfV (cellAt yr57 0)) (fun yi58 yi59 => 
 (yj51 (!((p5 == yi58) && ((p6 == yi59) && true)))))))))))
 (yj51 false)))
 (fun yb50 => (cbr yb50
 (a2 p0 p1 p2 p3 p4 p5 p6 (fun yl52 yl53 yi54 yi55 yi56 => 
 (yj26 yl52 yl53 yi56 yi54 yi55)))
 (yj26 p0 p1 yi3 yi6 yi7)))))
 (fun yl21 yl22 yi23 yi24 yi25 => (jn (fun (yj33 : Int → Int → Int → Prop) =>
 (cbr (yi23 == (0 : Int))
 (a3 yi24 yi25 p7 p8 (fun yi44 yi45 yi46 => 
 (yj33 yi46 yi44 yi45)))
 (yj33 yi23 yi24 yi25)))
 (fun yi30 yi31 yi32 => (cbr (yi30 != (0 : Int))
 (K yl21 yl22 (0 : Int) (0 : Int) yi30)
 (a4 yl21 yl22 p2 p3 p4 yi31 yi32 (fun yl39 yl40 yi41 yi42 yi43 => 
 (K yl39 yl40 yi41 yi42 yi43))))))))))))
def w_halve_mark : T_halve_mark := wv_halve_mark w_ask_Total w_halve_whole w_ask_Value w_ratio_Mul w_ask_Mark
def sg_halve_mark : Sg := ⟨(lC pt16 (lC pt0 (lC pt6 pt9))), Ls → Ls → Int → Int → Int → Prop, fun K => (fun r0 r1 r2 r3 r4 => K (.tup [(.agg [(.data r0), (.data r1)]), (.agg [(.int .i64 r2), (.int .i64 r3)]), (.int .i64 r4)]))⟩
def S0_halve_mark (e : Es) (a0 : T_ask_Total) (a1 : T_cake_whole) (a2 : T_ask_Value) (a3 : T_ratio_Add) (a4 : T_ask_Value) : SE := sE (E e) [(n_ask_Total, sg_ask_Total.pw a0), (n_halve_whole, sg_cake_whole.pw a1), (n_ask_Value, sg_ask_Value.pw a2), (n_ratio_Mul, sg_ratio_Add.pw a3), (n_ask_Mark, sg_ask_Value.pw a4)] lp0
theorem eq_halve_mark (e : Es) (a0 a1 a2 a3 a4) : EqW (S0_halve_mark e a0 a1 a2 a3 a4) 6 t_halve_mark sg_halve_mark (wv_halve_mark a0 a1 a2 a3 a4) := fun _ _ => by kernel_rfl
theorem ok_halve_mark (e : Es) (he : EG e) : OkF (E e) (sg_halve_mark.pw w_halve_mark) n_halve_mark := okU he (eq_halve_mark e _ _ _ _ _) (seOk_of (Sub.uni _) ⟨(ok_ask_Total e he), (ok_halve_whole e he), (ok_ask_Value e he), (ok_ratio_Mul e he), (ok_ask_Mark e he), trivial⟩ trivial he.ok) RngOk.flat (LpOk_no (by kernel_rfl))
abbrev T_halve_Split_1 : Type := Int → Int → Int → Int → Int → Int → (Int → Prop) → Prop
def wv_halve_Split_1 (a0 : T_ratio_check) (_ p1 p2 _ p4 p5 : Int) (K : Int → Prop) : Prop :=
 (a0 p1 p2 p4 p5 (fun yi1 => 
 (K yi1)))
def w_halve_Split_1 : T_halve_Split_1 := wv_halve_Split_1 w_halve_order
def sg_halve_Split_1 : Sg := ⟨(lC (vA (lC pt0 pt5)) (lC (vA (lC pt0 pt5)) lN)), Int → Prop, fun K => (fun r0 => K (.int .i64 r0))⟩
def S0_halve_Split_1 (e : Es) (a0 : T_ratio_check) : SE := sE (E e) [(n_halve_order, sg_ratio_check.pw a0)] lp0
theorem eq_halve_Split_1 (e : Es) (a0) : EqW (S0_halve_Split_1 e a0) 6 t_halve_Split_1 sg_halve_Split_1 (wv_halve_Split_1 a0) := fun _ _ => by kernel_rfl
theorem ok_halve_Split_1 (e : Es) (he : EG e) : OkF (E e) (sg_halve_Split_1.pw w_halve_Split_1) n_halve_Split_1 := okU he (eq_halve_Split_1 e _) (seOk_of (Sub.uni _) ⟨(ok_halve_order e he), trivial⟩ trivial he.ok) RngOk.flat (LpOk_no (by kernel_rfl))
abbrev T_halve_Split : Type := Ls → Ls → Ls → Int → Int → Int → Int → (Ls → Ls → Int → Int → Ls → Ls → Int → Prop) → Prop
def L_halve_Split_0_0 (a0 : T_ask_Check) (a1 : T_ratio_Cmp) (a2 : T_cake_whole) (a3 : T_ratio_check) (a4 : T_ratio_Make) (a5 : T_halve_mark) (a6 : T_ratio_size) (a7 : T_halve_Split_1) (a8 : T_cmp_Less_int) (x42112300_0 : Ls → Ls → Ls → Int → Int → Int → Int → Int → Int → Bool → Int → Bool → Prop) : Nat → Ls → Ls → Ls → Int → Int → Int → Int → Int → Int → Bool → Int → Prop
 | 0, _, _, _, _, _, _, _, _, _, _, _ => False
 | n42112300 + 1, l0, l1, l2, i3, i4, i5, i6, i7, i8, b9, i10 =>
 (cbr (decide (i10 < (((List.length l0) : Nat) : Int)))
 (jn (fun (yj13 : Bool → Prop) =>
 (cbr b9
 (lt (IntKind.i64.wrap (i10 - (1 : Int))) (fun yi15 =>
 (asr (decide ((0 : Int) ≤ yi15))
 (asr (decide (yi15 < (((List.length l0) : Nat) : Int)))
 (lt (List.getD l0 (yi15.toNat) .nils) (fun yr16 =>
 (asr (conf zI yr16)
 (asr (decide ((0 : Int) ≤ i10))
 (asr (decide (i10 < (((List.length l0) : Nat) : Int)))
 (lt (List.getD l0 (i10.toNat) .nils) (fun yr17 =>
 (asr (conf zI yr17)
 (yj13 (decide ((intOfV yr16) < (intOfV yr17))))))))))))))))
 (yj13 false)))
 (fun yb12 => (lt (IntKind.i64.wrap (i10 + (1 : Int))) (fun yi14 =>
 (L_halve_Split_0_0 a0 a1 a2 a3 a4 a5 a6 a7 a8 x42112300_0 n42112300 l0 l1 l2 i3 i4 i5 i6 i7 i8 yb12 yi14)))))
 (x42112300_0 l0 l1 l2 i3 i4 i5 i6 i7 i8 b9 i10 false))
def L_halve_Split_1_1 (a0 : T_ask_Check) (a1 : T_ratio_Cmp) (a2 : T_cake_whole) (a3 : T_ratio_check) (a4 : T_ratio_Make) (a5 : T_halve_mark) (a6 : T_ratio_size) (a7 : T_halve_Split_1) (a8 : T_cmp_Less_int) (x42112301_2 : Ls → Ls → Ls → Int → Int → Int → Int → Int → Int → Int → Int → Int → Ls → Int → Int → Bool → Prop) (x42112301_3 : Ls → Int → Int → Int → Prop) : Nat → Ls → Ls → Ls → Int → Int → Int → Int → Int → Int → Int → Int → Int → Ls → Int → Int → Prop
 | 0, _, _, _, _, _, _, _, _, _, _, _, _, _, _, _ => False
 | n42112301 + 1, l0, l1, l2, i3, i4, i5, i6, i7, i8, i9, i10, i11, l14, i15, i16 =>
 (cbr (decide (i16 < i15))
 (asr (decide ((0 : Int) ≤ i16))
 (asr (decide (i16 < (((List.length l14) : Nat) : Int)))
 (lt (List.getD l14 (i16.toNat) .nils) (fun yr138 =>
 (asr (conf zI yr138)
 (a5 l1 l2 (intOfV yr138) i3 i4 i5 i6 i10 i11 (fun yl154 yl155 yi156 yi157 yi158 => 
 (cbr (yi158 != (0 : Int))
 (x42112301_3 l0 (0 : Int) (0 : Int) yi158)
 (asr (decide ((List.length l0) = (List.length l0)))
 (asr (decide ((0 + (List.length l0)) ≤ (List.length l0)))
 (asr (!(decide (((0 + (List.length l0)) + 1) ≤ (List.length l0))))
 (asr (decide ((List.length l0) = (List.length l0)))
 (asr (decide ((((List.length l0) + 1) + 64) * (24 + 1) ≤ room))
 (lt (IntKind.i64.wrap (i16 + (1 : Int))) (fun yi159 =>
 (asr (decide ((List.length (l0 ++ ([(.agg [(.int .i64 (intOfV yr138)), (.int .i64 yi156), (.int .i64 yi157)])] : Ls))) = List.length (l0 ++ ([(.agg [(.int .i64 (intOfV yr138)), (.int .i64 yi156), (.int .i64 yi157)])] : Ls))) && decide ((List.length (l0 ++ ([(.agg [(.int .i64 (intOfV yr138)), (.int .i64 yi156), (.int .i64 yi157)])] : Ls))) = List.length (l0 ++ ([(.agg [(.int .i64 (intOfV yr138)), (.int .i64 yi156), (.int .i64 yi157)])] : Ls))))
 (L_halve_Split_1_1 a0 a1 a2 a3 a4 a5 a6 a7 a8 x42112301_2 x42112301_3 n42112301 (l0 ++ ([(.agg [(.int .i64 (intOfV yr138)), (.int .i64 yi156), (.int .i64 yi157)])] : Ls)) yl154 yl155 i3 i4 i5 i6 i7 i8 i9 i10 i11 l14 i15 yi159)))))))))))))))))
 (x42112301_2 l0 l1 l2 i3 i4 i5 i6 i7 i8 i9 i10 i11 l14 i15 i16 false))
def L_halve_Split_1_0 (a0 : T_ask_Check) (a1 : T_ratio_Cmp) (a2 : T_cake_whole) (a3 : T_ratio_check) (a4 : T_ratio_Make) (a5 : T_halve_mark) (a6 : T_ratio_size) (a7 : T_halve_Split_1) (a8 : T_cmp_Less_int) (x42112301_0 : Ls → Ls → Int → Int → Int → Int → Int → Int → Int → Int → Int → Ls → Int → Int → Bool → Prop) (x42112301_1 : Int → Int → Int → Prop) (x42112301_2 : Ls → Ls → Ls → Int → Int → Int → Int → Int → Int → Int → Int → Int → Ls → Int → Int → Bool → Prop) (x42112301_3 : Ls → Int → Int → Int → Prop) : Nat → Ls → Ls → Int → Int → Int → Int → Int → Int → Int → Int → Int → Ls → Int → Int → Prop
 | 0, _, _, _, _, _, _, _, _, _, _, _, _, _, _ => False
 | n42112301 + 1, l0, l1, i2, i3, i4, i5, i6, i7, i8, i9, i10, l11, i12, i13 =>
 (cbr (decide (i13 < i12))
 (asr (decide ((0 : Int) ≤ i13))
 (asr (decide (i13 < (((List.length l11) : Nat) : Int)))
 (lt (List.getD l11 (i13.toNat) .nils) (fun yr93 =>
 (asr (conf zI yr93)
 (a5 l0 l1 (intOfV yr93) i2 i3 i4 i5 i9 i10 (fun yl109 yl110 yi111 yi112 yi113 => 
 (cbr (yi113 != (0 : Int))
 (x42112301_1 (0 : Int) (0 : Int) yi113)
 (lt (IntKind.i64.wrap (i13 + (1 : Int))) (fun yi114 =>
 (asr (decide (1 = List.length ([(.agg [(.int .i64 (intOfV yr93)), (.int .i64 yi111), (.int .i64 yi112)])] : Ls)) && decide (1 = List.length ([(.agg [(.int .i64 (intOfV yr93)), (.int .i64 yi111), (.int .i64 yi112)])] : Ls)))
 (L_halve_Split_1_1 a0 a1 a2 a3 a4 a5 a6 a7 a8 x42112301_2 x42112301_3 n42112301 ([(.agg [(.int .i64 (intOfV yr93)), (.int .i64 yi111), (.int .i64 yi112)])] : Ls) yl109 yl110 i2 i3 i4 i5 i6 i7 i8 i9 i10 l11 i12 yi114))))))))))))
 (x42112301_0 l0 l1 i2 i3 i4 i5 i6 i7 i8 i9 i10 l11 i12 i13 false))
def L_halve_Split_2_0 (_ : T_ask_Check) (_ : T_ratio_Cmp) (_ : T_cake_whole) (_ : T_ratio_check) (_ : T_ratio_Make) (_ : T_halve_mark) (_ : T_ratio_size) (_ : T_halve_Split_1) (_ : T_cmp_Less_int) (x34804800_0 : Int → Int → Int → Int → Bool → Prop) : Nat → Int → Int → Int → Int → Prop
 | 0, _, _, _, _ => False
 | _ + 1, i0, i1, i2, i3 =>
 (cbr (decide (i3 ≤ i0))
 False
 (x34804800_0 i0 i1 i2 i3 false))
def L_halve_Split_2_1 (_ : T_ask_Check) (_ : T_ratio_Cmp) (_ : T_cake_whole) (_ : T_ratio_check) (_ : T_ratio_Make) (_ : T_halve_mark) (_ : T_ratio_size) (_ : T_halve_Split_1) (_ : T_cmp_Less_int) (x34804800_1 : Ls → Int → Int → Int → Int → Bool → Prop) : Nat → Ls → Int → Int → Int → Int → Prop
 | 0, _, _, _, _, _ => False
 | _ + 1, l0, i3, i4, i5, i6 =>
 (cbr (decide (i6 ≤ i3))
 False
 (x34804800_1 l0 i3 i4 i5 i6 false))
def L_halve_Split_4_0 (_ : T_ask_Check) (_ : T_ratio_Cmp) (_ : T_cake_whole) (_ : T_ratio_check) (_ : T_ratio_Make) (_ : T_halve_mark) (_ : T_ratio_size) (_ : T_halve_Split_1) (_ : T_cmp_Less_int) (x44419400_0 : Int → Int → Int → Int → Bool → Prop) : Nat → Int → Int → Int → Int → Prop
 | 0, _, _, _, _ => False
 | _ + 1, i0, i1, i2, i3 =>
 (cbr (decide (i3 > i0))
 False
 (x44419400_0 i0 i1 i2 i3 false))
def L_halve_Split_4_1 (a0 : T_ask_Check) (a1 : T_ratio_Cmp) (a2 : T_cake_whole) (a3 : T_ratio_check) (a4 : T_ratio_Make) (a5 : T_halve_mark) (a6 : T_ratio_size) (a7 : T_halve_Split_1) (a8 : T_cmp_Less_int) (x44419400_1 : Ls → Int → Int → Int → Int → Bool → Prop) : Nat → Ls → Int → Int → Int → Int → Prop
 | 0, _, _, _, _, _ => False
 | n44419400 + 1, l0, i3, i4, i5, i6 =>
 (jn (fun (yj655 : Bool → Prop) =>
 (cbr (decide (i6 > i3))
 (asr (decide ((0 : Int) ≤ i6))
 (asr (decide (i6 < (((List.length l0) : Nat) : Int)))
 (asr (decide ((List.length l0) = (List.length l0)))
 (asr (decide ((0 + (i6.toNat)) < (List.length l0)))
 (lt (List.getD l0 (0 + (i6.toNat)) .nils) (fun yr669 =>
 (asr (conf (.agg [.i .i64, .i .i64, .i .i64]) yr669)
 (lt (IntKind.i64.wrap (i6 - (1 : Int))) (fun yi670 =>
 (asr (decide ((0 : Int) ≤ yi670))
 (asr (decide (yi670 < (((List.length l0) : Nat) : Int)))
 (asr (decide ((List.length l0) = (List.length l0)))
 (asr (decide ((0 + (yi670.toNat)) < (List.length l0)))
 (lt (List.getD l0 (0 + (yi670.toNat)) .nils) (fun yr671 =>
 (asr (conf (.agg [.i .i64, .i .i64, .i .i64]) yr671)
 (a7 (intOfV (cellAt yr669 0)) (intOfV (cellAt yr669 1)) (intOfV (cellAt yr669 2)) (intOfV (cellAt yr671 0)) (intOfV (cellAt yr671 1)) (intOfV (cellAt yr671 2)) (fun yi672 => 
 (yj655 (decide (yi672 < (0 : Int))))))))))))))))))))))
 (yj655 false)))
 (fun yb654 => (cbr yb654
 (lt (IntKind.i64.wrap (i6 - (1 : Int))) (fun yi662 =>
 (lt (IntKind.i64.wrap (i6 - (1 : Int))) (fun yi663 =>
 (asr (decide ((0 : Int) ≤ yi663))
 (asr (decide (yi663 < (((List.length l0) : Nat) : Int)))
 (asr (decide ((List.length l0) = (List.length l0)))
 (asr (decide ((0 + (yi663.toNat)) < (List.length l0)))
 (lt (List.getD l0 (0 + (yi663.toNat)) .nils) (fun yr664 =>
 (asr (conf (.agg [.i .i64, .i .i64, .i .i64]) yr664)
 (asr (decide ((0 : Int) ≤ i6))
 (asr (decide (i6 < (((List.length l0) : Nat) : Int)))
 (asr (decide ((List.length l0) = (List.length l0)))
 (asr (decide ((0 + (i6.toNat)) < (List.length l0)))
 (lt (List.getD l0 (0 + (i6.toNat)) .nils) (fun yr665 =>
 (asr (conf (.agg [.i .i64, .i .i64, .i .i64]) yr665)
 (asr (decide ((0 : Int) ≤ i6))
 (asr (decide (i6 < (((List.length l0) : Nat) : Int)))
 (asr (decide ((List.length l0) = (List.length l0)))
 (asr (decide ((0 + (i6.toNat)) < (List.length l0)))
 (lt (List.getD l0 (0 + (i6.toNat)) .nils) (fun yr666 =>
 (asr (conf (.agg [.i .i64, .i .i64, .i .i64]) yr666)
 (asr (decide ((0 : Int) ≤ yi662))
 (asr (decide (yi662 < (((List.length l0) : Nat) : Int)))
 (asr (decide ((List.length (List.set l0 (0 + (i6.toNat)) (.agg [(.int .i64 (intOfV (cellAt yr664 0))), (.int .i64 (intOfV (cellAt yr664 1))), (.int .i64 (intOfV (cellAt yr664 2)))]))) = (List.length l0)))
 (asr (decide ((0 + (yi662.toNat)) < (List.length (List.set l0 (0 + (i6.toNat)) (.agg [(.int .i64 (intOfV (cellAt yr664 0))), (.int .i64 (intOfV (cellAt yr664 1))), (.int .i64 (intOfV (cellAt yr664 2)))])))))
 (lt (List.getD (List.set l0 (0 + (i6.toNat)) (.agg [(.int .i64 (intOfV (cellAt yr664 0))), (.int .i64 (intOfV (cellAt yr664 1))), (.int .i64 (intOfV (cellAt yr664 2)))])) (0 + (yi662.toNat)) .nils) (fun yr667 =>
 (asr (conf (.agg [.i .i64, .i .i64, .i .i64]) yr667)
 (lt (IntKind.i64.wrap (i6 - (1 : Int))) (fun yi668 =>
 (asr (decide ((List.length l0) = List.length (List.set (List.set l0 (0 + (i6.toNat)) (.agg [(.int .i64 (intOfV (cellAt yr664 0))), (.int .i64 (intOfV (cellAt yr664 1))), (.int .i64 (intOfV (cellAt yr664 2)))])) (0 + (yi662.toNat)) (.agg [(.int .i64 (intOfV (cellAt yr665 0))), (.int .i64 (intOfV (cellAt yr665 1))), (.int .i64 (intOfV (cellAt yr665 2)))]))) && decide ((List.length l0) = List.length (List.set (List.set l0 (0 + (i6.toNat)) (.agg [(.int .i64 (intOfV (cellAt yr664 0))), (.int .i64 (intOfV (cellAt yr664 1))), (.int .i64 (intOfV (cellAt yr664 2)))])) (0 + (yi662.toNat)) (.agg [(.int .i64 (intOfV (cellAt yr665 0))), (.int .i64 (intOfV (cellAt yr665 1))), (.int .i64 (intOfV (cellAt yr665 2)))]))))
 (L_halve_Split_4_1 a0 a1 a2 a3 a4 a5 a6 a7 a8 x44419400_1 n44419400 (List.set (List.set l0 (0 + (i6.toNat)) (.agg [(.int .i64 (intOfV (cellAt yr664 0))), (.int .i64 (intOfV (cellAt yr664 1))), (.int .i64 (intOfV (cellAt yr664 2)))])) (0 + (yi662.toNat)) (.agg [(.int .i64 (intOfV (cellAt yr665 0))), (.int .i64 (intOfV (cellAt yr665 1))), (.int .i64 (intOfV (cellAt yr665 2)))])) i3 i4 i5 yi668))))))))))))))))))))))))))))))))))))
 (x44419400_1 l0 i3 i4 i5 i6 false))))
def L_halve_Split_5_0 (_ : T_ask_Check) (_ : T_ratio_Cmp) (_ : T_cake_whole) (_ : T_ratio_check) (_ : T_ratio_Make) (_ : T_halve_mark) (_ : T_ratio_size) (_ : T_halve_Split_1) (_ : T_cmp_Less_int) (x34804802_0 : Int → Int → Bool → Prop) : Nat → Int → Int → Prop
 | 0, _, _ => False
 | _ + 1, i0, i1 =>
 (cbr (decide (i1 < i0))
 False
 (x34804802_0 i0 i1 false))
def L_halve_Split_5_1 (_ : T_ask_Check) (_ : T_ratio_Cmp) (_ : T_cake_whole) (_ : T_ratio_check) (_ : T_ratio_Make) (_ : T_halve_mark) (_ : T_ratio_size) (_ : T_halve_Split_1) (_ : T_cmp_Less_int) (x34804802_1 : Ls → Nat → Nat → Int → Int → Bool → Prop) : Nat → Ls → Nat → Nat → Int → Int → Prop
 | 0, _, _, _, _, _ => False
 | _ + 1, l0, n1, n2, i3, i4 =>
 (cbr (decide (i4 < i3))
 False
 (x34804802_1 l0 n1 n2 i3 i4 false))
def L_halve_Split_6_0 (_ : T_ask_Check) (_ : T_ratio_Cmp) (_ : T_cake_whole) (_ : T_ratio_check) (_ : T_ratio_Make) (_ : T_halve_mark) (_ : T_ratio_size) (_ : T_halve_Split_1) (_ : T_cmp_Less_int) (x42112302_0 : Ls → Ls → Int → Int → Int → Int → Int → Bool → Prop) : Nat → Ls → Ls → Int → Int → Int → Int → Int → Prop
 | 0, _, _, _, _, _, _, _ => False
 | _ + 1, l0, l1, i2, i3, i4, i5, i6 =>
 (cbr (decide (i6 < i5))
 False
 (x42112302_0 l0 l1 i2 i3 i4 i5 i6 false))
def L_halve_Split_6_3 (a0 : T_ask_Check) (a1 : T_ratio_Cmp) (a2 : T_cake_whole) (a3 : T_ratio_check) (a4 : T_ratio_Make) (a5 : T_halve_mark) (a6 : T_ratio_size) (a7 : T_halve_Split_1) (a8 : T_cmp_Less_int) (x42112302_3 : Ls → Ls → Ls → Ls → Ls → Int → Int → Int → Nat → Nat → Nat → Nat → Int → Int → Bool → Prop) : Nat → Ls → Ls → Ls → Ls → Ls → Int → Int → Int → Nat → Nat → Nat → Nat → Int → Int → Prop
 | 0, _, _, _, _, _, _, _, _, _, _, _, _, _, _ => False
 | n42112302 + 1, l0, l1, l2, l3, l4, i5, i6, i11, n12, n13, n14, n15, i16, i17 =>
 (cbr (decide (i17 < i16))
 (jn (fun (yj1055 : Ls → Ls → Prop) =>
 (asr (decide ((0 : Int) ≤ i17))
 (asr (decide (i17 < ((n14 : Nat) : Int)))
 (asr (decide ((List.length l0) = n15))
 (asr (decide ((0 + (i17.toNat)) < (List.length l0)))
 (lt (List.getD l0 (0 + (i17.toNat)) .nils) (fun yr1058 =>
 (asr (conf (.agg [.i .i64, .i .i64, .i .i64]) yr1058)
 (cbr (decide (i17 < i11))
 (asr (decide ((List.length l1) = (List.length l1)))
 (asr (decide ((0 + (List.length l1)) ≤ (List.length l1)))
 (asr (!(decide (((0 + (List.length l1)) + 1) ≤ (List.length l1))))
 (asr (decide ((List.length l1) = (List.length l1)))
 (asr (decide ((((List.length l1) + 1) + 64) * (8 + 1) ≤ room))
 (yj1055 (l1 ++ ([(.int .i64 (intOfV (cellAt yr1058 0)))] : Ls)) l2))))))
 (asr (decide ((List.length l2) = (List.length l2)))
 (asr (decide ((0 + (List.length l2)) ≤ (List.length l2)))
 (asr (!(decide (((0 + (List.length l2)) + 1) ≤ (List.length l2))))
 (asr (decide ((List.length l2) = (List.length l2)))
 (asr (decide ((((List.length l2) + 1) + 64) * (8 + 1) ≤ room))
 (yj1055 l1 (l2 ++ ([(.int .i64 (intOfV (cellAt yr1058 0)))] : Ls)))))))))))))))))
 (fun yl1053 yl1054 => (lt (IntKind.i64.wrap (i17 + (1 : Int))) (fun yi1056 =>
 (asr (decide ((List.length yl1053) = List.length yl1053) && decide ((List.length yl1053) = List.length yl1053) && decide ((List.length yl1054) = List.length yl1054) && decide ((List.length yl1054) = List.length yl1054))
 (L_halve_Split_6_3 a0 a1 a2 a3 a4 a5 a6 a7 a8 x42112302_3 n42112302 l0 yl1053 yl1054 l3 l4 i5 i6 i11 n12 n13 n14 n15 i16 yi1056))))))
 (x42112302_3 l0 l1 l2 l3 l4 i5 i6 i11 n12 n13 n14 n15 i16 i17 false))
def L_halve_Split_6_2 (a0 : T_ask_Check) (a1 : T_ratio_Cmp) (a2 : T_cake_whole) (a3 : T_ratio_check) (a4 : T_ratio_Make) (a5 : T_halve_mark) (a6 : T_ratio_size) (a7 : T_halve_Split_1) (a8 : T_cmp_Less_int) (x42112302_2 : Ls → Ls → Ls → Ls → Int → Int → Int → Nat → Nat → Nat → Nat → Int → Int → Bool → Prop) (x42112302_3 : Ls → Ls → Ls → Ls → Ls → Int → Int → Int → Nat → Nat → Nat → Nat → Int → Int → Bool → Prop) : Nat → Ls → Ls → Ls → Ls → Int → Int → Int → Nat → Nat → Nat → Nat → Int → Int → Prop
 | 0, _, _, _, _, _, _, _, _, _, _, _, _, _ => False
 | n42112302 + 1, l0, l1, l2, l3, i4, i5, i8, n9, n10, n11, n12, i13, i14 =>
 (cbr (decide (i14 < i13))
 (asr (decide ((0 : Int) ≤ i14))
 (asr (decide (i14 < ((n11 : Nat) : Int)))
 (asr (decide ((List.length l0) = n12))
 (asr (decide ((0 + (i14.toNat)) < (List.length l0)))
 (lt (List.getD l0 (0 + (i14.toNat)) .nils) (fun yr1048 =>
 (asr (conf (.agg [.i .i64, .i .i64, .i .i64]) yr1048)
 (cbr (decide (i14 < i8))
 (asr (decide ((List.length l1) = (List.length l1)))
 (asr (decide ((0 + (List.length l1)) ≤ (List.length l1)))
 (asr (!(decide (((0 + (List.length l1)) + 1) ≤ (List.length l1))))
 (asr (decide ((List.length l1) = (List.length l1)))
 (asr (decide ((((List.length l1) + 1) + 64) * (8 + 1) ≤ room))
 (lt (IntKind.i64.wrap (i14 + (1 : Int))) (fun yi1049 =>
 (asr (decide ((List.length (l1 ++ ([(.int .i64 (intOfV (cellAt yr1048 0)))] : Ls))) = List.length (l1 ++ ([(.int .i64 (intOfV (cellAt yr1048 0)))] : Ls))) && decide ((List.length (l1 ++ ([(.int .i64 (intOfV (cellAt yr1048 0)))] : Ls))) = List.length (l1 ++ ([(.int .i64 (intOfV (cellAt yr1048 0)))] : Ls))))
 (L_halve_Split_6_2 a0 a1 a2 a3 a4 a5 a6 a7 a8 x42112302_2 x42112302_3 n42112302 l0 (l1 ++ ([(.int .i64 (intOfV (cellAt yr1048 0)))] : Ls)) l2 l3 i4 i5 i8 n9 n10 n11 n12 i13 yi1049)))))))))
 (lt (IntKind.i64.wrap (i14 + (1 : Int))) (fun yi1050 =>
 (asr (decide ((List.length l1) = List.length l1) && decide ((List.length l1) = List.length l1) && decide (1 = List.length ([(.int .i64 (intOfV (cellAt yr1048 0)))] : Ls)) && decide (1 = List.length ([(.int .i64 (intOfV (cellAt yr1048 0)))] : Ls)))
 (L_halve_Split_6_3 a0 a1 a2 a3 a4 a5 a6 a7 a8 x42112302_3 n42112302 l0 l1 ([(.int .i64 (intOfV (cellAt yr1048 0)))] : Ls) l2 l3 i4 i5 i8 n9 n10 n11 n12 i13 yi1050))))))))))))
 (x42112302_2 l0 l1 l2 l3 i4 i5 i8 n9 n10 n11 n12 i13 i14 false))
def L_halve_Split_6_5 (a0 : T_ask_Check) (a1 : T_ratio_Cmp) (a2 : T_cake_whole) (a3 : T_ratio_check) (a4 : T_ratio_Make) (a5 : T_halve_mark) (a6 : T_ratio_size) (a7 : T_halve_Split_1) (a8 : T_cmp_Less_int) (x42112302_5 : Ls → Ls → Ls → Ls → Ls → Int → Int → Int → Nat → Nat → Nat → Nat → Int → Int → Bool → Prop) : Nat → Ls → Ls → Ls → Ls → Ls → Int → Int → Int → Nat → Nat → Nat → Nat → Int → Int → Prop
 | 0, _, _, _, _, _, _, _, _, _, _, _, _, _, _ => False
 | n42112302 + 1, l0, l1, l2, l3, l4, i5, i6, i11, n12, n13, n14, n15, i16, i17 =>
 (cbr (decide (i17 < i16))
 (jn (fun (yj1069 : Ls → Ls → Prop) =>
 (asr (decide ((0 : Int) ≤ i17))
 (asr (decide (i17 < ((n14 : Nat) : Int)))
 (asr (decide ((List.length l0) = n15))
 (asr (decide ((0 + (i17.toNat)) < (List.length l0)))
 (lt (List.getD l0 (0 + (i17.toNat)) .nils) (fun yr1072 =>
 (asr (conf (.agg [.i .i64, .i .i64, .i .i64]) yr1072)
 (cbr (decide (i17 < i11))
 (asr (decide ((List.length l2) = (List.length l2)))
 (asr (decide ((0 + (List.length l2)) ≤ (List.length l2)))
 (asr (!(decide (((0 + (List.length l2)) + 1) ≤ (List.length l2))))
 (asr (decide ((List.length l2) = (List.length l2)))
 (asr (decide ((((List.length l2) + 1) + 64) * (8 + 1) ≤ room))
 (yj1069 l1 (l2 ++ ([(.int .i64 (intOfV (cellAt yr1072 0)))] : Ls))))))))
 (asr (decide ((List.length l1) = (List.length l1)))
 (asr (decide ((0 + (List.length l1)) ≤ (List.length l1)))
 (asr (!(decide (((0 + (List.length l1)) + 1) ≤ (List.length l1))))
 (asr (decide ((List.length l1) = (List.length l1)))
 (asr (decide ((((List.length l1) + 1) + 64) * (8 + 1) ≤ room))
 (yj1069 (l1 ++ ([(.int .i64 (intOfV (cellAt yr1072 0)))] : Ls)) l2)))))))))))))))
 (fun yl1067 yl1068 => (lt (IntKind.i64.wrap (i17 + (1 : Int))) (fun yi1070 =>
 (asr (decide ((List.length yl1068) = List.length yl1068) && decide ((List.length yl1068) = List.length yl1068) && decide ((List.length yl1067) = List.length yl1067) && decide ((List.length yl1067) = List.length yl1067))
 (L_halve_Split_6_5 a0 a1 a2 a3 a4 a5 a6 a7 a8 x42112302_5 n42112302 l0 yl1067 yl1068 l3 l4 i5 i6 i11 n12 n13 n14 n15 i16 yi1070))))))
 (x42112302_5 l0 l1 l2 l3 l4 i5 i6 i11 n12 n13 n14 n15 i16 i17 false))
def L_halve_Split_6_4 (a0 : T_ask_Check) (a1 : T_ratio_Cmp) (a2 : T_cake_whole) (a3 : T_ratio_check) (a4 : T_ratio_Make) (a5 : T_halve_mark) (a6 : T_ratio_size) (a7 : T_halve_Split_1) (a8 : T_cmp_Less_int) (x42112302_4 : Ls → Ls → Ls → Ls → Int → Int → Int → Nat → Nat → Nat → Nat → Int → Int → Bool → Prop) (x42112302_5 : Ls → Ls → Ls → Ls → Ls → Int → Int → Int → Nat → Nat → Nat → Nat → Int → Int → Bool → Prop) : Nat → Ls → Ls → Ls → Ls → Int → Int → Int → Nat → Nat → Nat → Nat → Int → Int → Prop
 | 0, _, _, _, _, _, _, _, _, _, _, _, _, _ => False
 | n42112302 + 1, l0, l1, l2, l3, i4, i5, i8, n9, n10, n11, n12, i13, i14 =>
 (cbr (decide (i14 < i13))
 (asr (decide ((0 : Int) ≤ i14))
 (asr (decide (i14 < ((n11 : Nat) : Int)))
 (asr (decide ((List.length l0) = n12))
 (asr (decide ((0 + (i14.toNat)) < (List.length l0)))
 (lt (List.getD l0 (0 + (i14.toNat)) .nils) (fun yr1063 =>
 (asr (conf (.agg [.i .i64, .i .i64, .i .i64]) yr1063)
 (cbr (decide (i14 < i8))
 (lt (IntKind.i64.wrap (i14 + (1 : Int))) (fun yi1064 =>
 (asr (decide (1 = List.length ([(.int .i64 (intOfV (cellAt yr1063 0)))] : Ls)) && decide (1 = List.length ([(.int .i64 (intOfV (cellAt yr1063 0)))] : Ls)) && decide ((List.length l1) = List.length l1) && decide ((List.length l1) = List.length l1))
 (L_halve_Split_6_5 a0 a1 a2 a3 a4 a5 a6 a7 a8 x42112302_5 n42112302 l0 l1 ([(.int .i64 (intOfV (cellAt yr1063 0)))] : Ls) l2 l3 i4 i5 i8 n9 n10 n11 n12 i13 yi1064))))
 (asr (decide ((List.length l1) = (List.length l1)))
 (asr (decide ((0 + (List.length l1)) ≤ (List.length l1)))
 (asr (!(decide (((0 + (List.length l1)) + 1) ≤ (List.length l1))))
 (asr (decide ((List.length l1) = (List.length l1)))
 (asr (decide ((((List.length l1) + 1) + 64) * (8 + 1) ≤ room))
 (lt (IntKind.i64.wrap (i14 + (1 : Int))) (fun yi1073 =>
 (asr (decide ((List.length (l1 ++ ([(.int .i64 (intOfV (cellAt yr1063 0)))] : Ls))) = List.length (l1 ++ ([(.int .i64 (intOfV (cellAt yr1063 0)))] : Ls))) && decide ((List.length (l1 ++ ([(.int .i64 (intOfV (cellAt yr1063 0)))] : Ls))) = List.length (l1 ++ ([(.int .i64 (intOfV (cellAt yr1063 0)))] : Ls))))
 (L_halve_Split_6_4 a0 a1 a2 a3 a4 a5 a6 a7 a8 x42112302_4 x42112302_5 n42112302 l0 (l1 ++ ([(.int .i64 (intOfV (cellAt yr1063 0)))] : Ls)) l2 l3 i4 i5 i8 n9 n10 n11 n12 i13 yi1073)))))))))))))))))
 (x42112302_4 l0 l1 l2 l3 i4 i5 i8 n9 n10 n11 n12 i13 i14 false))
def L_halve_Split_6_1 (a0 : T_ask_Check) (a1 : T_ratio_Cmp) (a2 : T_cake_whole) (a3 : T_ratio_check) (a4 : T_ratio_Make) (a5 : T_halve_mark) (a6 : T_ratio_size) (a7 : T_halve_Split_1) (a8 : T_cmp_Less_int) (x42112302_1 : Ls → Ls → Ls → Int → Int → Int → Nat → Nat → Nat → Nat → Int → Int → Bool → Prop) (x42112302_2 : Ls → Ls → Ls → Ls → Int → Int → Int → Nat → Nat → Nat → Nat → Int → Int → Bool → Prop) (x42112302_3 : Ls → Ls → Ls → Ls → Ls → Int → Int → Int → Nat → Nat → Nat → Nat → Int → Int → Bool → Prop) (x42112302_4 : Ls → Ls → Ls → Ls → Int → Int → Int → Nat → Nat → Nat → Nat → Int → Int → Bool → Prop) (x42112302_5 : Ls → Ls → Ls → Ls → Ls → Int → Int → Int → Nat → Nat → Nat → Nat → Int → Int → Bool → Prop) : Nat → Ls → Ls → Ls → Int → Int → Int → Nat → Nat → Nat → Nat → Int → Int → Prop
 | 0, _, _, _, _, _, _, _, _, _, _, _, _ => False
 | n42112302 + 1, l0, l1, l2, i3, i4, i5, n6, n7, n8, n9, i10, i11 =>
 (cbr (decide (i11 < i10))
 (asr (decide ((0 : Int) ≤ i11))
 (asr (decide (i11 < ((n8 : Nat) : Int)))
 (asr (decide ((List.length l0) = n9))
 (asr (decide ((0 + (i11.toNat)) < (List.length l0)))
 (lt (List.getD l0 (0 + (i11.toNat)) .nils) (fun yr1043 =>
 (asr (conf (.agg [.i .i64, .i .i64, .i .i64]) yr1043)
 (cbr (decide (i11 < i5))
 (lt (IntKind.i64.wrap (i11 + (1 : Int))) (fun yi1044 =>
 (asr (decide (1 = List.length ([(.int .i64 (intOfV (cellAt yr1043 0)))] : Ls)) && decide (1 = List.length ([(.int .i64 (intOfV (cellAt yr1043 0)))] : Ls)))
 (L_halve_Split_6_2 a0 a1 a2 a3 a4 a5 a6 a7 a8 x42112302_2 x42112302_3 n42112302 l0 ([(.int .i64 (intOfV (cellAt yr1043 0)))] : Ls) l1 l2 i3 i4 i5 n6 n7 n8 n9 i10 yi1044))))
 (lt (IntKind.i64.wrap (i11 + (1 : Int))) (fun yi1059 =>
 (asr (decide (1 = List.length ([(.int .i64 (intOfV (cellAt yr1043 0)))] : Ls)) && decide (1 = List.length ([(.int .i64 (intOfV (cellAt yr1043 0)))] : Ls)))
 (L_halve_Split_6_4 a0 a1 a2 a3 a4 a5 a6 a7 a8 x42112302_4 x42112302_5 n42112302 l0 ([(.int .i64 (intOfV (cellAt yr1043 0)))] : Ls) l1 l2 i3 i4 i5 n6 n7 n8 n9 i10 yi1059))))))))))))
 (x42112302_1 l0 l1 l2 i3 i4 i5 n6 n7 n8 n9 i10 i11 false))
def L_halve_Split_9_0 (_ : T_ask_Check) (_ : T_ratio_Cmp) (_ : T_cake_whole) (_ : T_ratio_check) (_ : T_ratio_Make) (_ : T_halve_mark) (_ : T_ratio_size) (_ : T_halve_Split_1) (_ : T_cmp_Less_int) (x58428500_0 : Int → Int → Int → Int → Bool → Prop) : Nat → Int → Int → Int → Int → Prop
 | 0, _, _, _, _ => False
 | _ + 1, i0, i1, i2, i3 =>
 (cbr (decide (i3 > i0))
 False
 (x58428500_0 i0 i1 i2 i3 false))
def L_halve_Split_9_1 (_ : T_ask_Check) (_ : T_ratio_Cmp) (_ : T_cake_whole) (_ : T_ratio_check) (_ : T_ratio_Make) (_ : T_halve_mark) (_ : T_ratio_size) (_ : T_halve_Split_1) (_ : T_cmp_Less_int) (x58428500_1 : Ls → Int → Int → Int → Int → Bool → Prop) : Nat → Ls → Int → Int → Int → Int → Prop
 | 0, _, _, _, _, _ => False
 | _ + 1, l0, i1, i2, i3, i4 =>
 (cbr (decide (i4 > i1))
 False
 (x58428500_1 l0 i1 i2 i3 i4 false))
def L_halve_Split_9_2 (a0 : T_ask_Check) (a1 : T_ratio_Cmp) (a2 : T_cake_whole) (a3 : T_ratio_check) (a4 : T_ratio_Make) (a5 : T_halve_mark) (a6 : T_ratio_size) (a7 : T_halve_Split_1) (a8 : T_cmp_Less_int) (x58428500_2 : Ls → Ls → Nat → Nat → Int → Int → Int → Int → Bool → Prop) : Nat → Ls → Ls → Nat → Nat → Int → Int → Int → Int → Prop
 | 0, _, _, _, _, _, _, _, _ => False
 | n58428500 + 1, l0, l1, n2, n3, i4, i5, i6, i7 =>
 (jn (fun (yj1291 : Bool → Prop) =>
 (cbr (decide (i7 > i4))
 (asr (decide ((0 : Int) ≤ i7))
 (asr (decide (i7 < ((n2 : Nat) : Int)))
 (asr (decide ((List.length l1) = n3))
 (asr (decide ((0 + (i7.toNat)) < (List.length l1)))
 (lt (List.getD l1 (0 + (i7.toNat)) .nils) (fun yr1305 =>
 (asr (conf zI yr1305)
 (lt (IntKind.i64.wrap (i7 - (1 : Int))) (fun yi1306 =>
 (asr (decide ((0 : Int) ≤ yi1306))
 (asr (decide (yi1306 < ((n2 : Nat) : Int)))
 (asr (decide ((List.length l1) = n3))
 (asr (decide ((0 + (yi1306.toNat)) < (List.length l1)))
 (lt (List.getD l1 (0 + (yi1306.toNat)) .nils) (fun yr1307 =>
 (asr (conf zI yr1307)
 (a8 (intOfV yr1305) (intOfV yr1307) (fun yb1308 => 
 (yj1291 yb1308)))))))))))))))))))
 (yj1291 false)))
 (fun yb1290 => (cbr yb1290
 (lt (IntKind.i64.wrap (i7 - (1 : Int))) (fun yi1298 =>
 (lt (IntKind.i64.wrap (i7 - (1 : Int))) (fun yi1299 =>
 (asr (decide ((0 : Int) ≤ yi1299))
 (asr (decide (yi1299 < ((n2 : Nat) : Int)))
 (asr (decide ((List.length l1) = n3))
 (asr (decide ((0 + (yi1299.toNat)) < (List.length l1)))
 (lt (List.getD l1 (0 + (yi1299.toNat)) .nils) (fun yr1300 =>
 (asr (conf zI yr1300)
 (asr (decide ((0 : Int) ≤ i7))
 (asr (decide (i7 < ((n2 : Nat) : Int)))
 (asr (decide ((List.length l1) = n3))
 (asr (decide ((0 + (i7.toNat)) < (List.length l1)))
 (lt (List.getD l1 (0 + (i7.toNat)) .nils) (fun yr1301 =>
 (asr (conf zI yr1301)
 (asr (decide ((0 : Int) ≤ i7))
 (asr (decide (i7 < ((n2 : Nat) : Int)))
 (asr (decide ((List.length l1) = n3))
 (asr (decide ((0 + (i7.toNat)) < (List.length l1)))
 (lt (List.getD l1 (0 + (i7.toNat)) .nils) (fun yr1302 =>
 (asr (conf zI yr1302)
 (asr (decide ((0 : Int) ≤ yi1298))
 (asr (decide (yi1298 < ((n2 : Nat) : Int)))
 (asr (decide ((List.length (List.set l1 (0 + (i7.toNat)) (.int .i64 (intOfV yr1300)))) = n3))
 (asr (decide ((0 + (yi1298.toNat)) < (List.length (List.set l1 (0 + (i7.toNat)) (.int .i64 (intOfV yr1300))))))
 (lt (List.getD (List.set l1 (0 + (i7.toNat)) (.int .i64 (intOfV yr1300))) (0 + (yi1298.toNat)) .nils) (fun yr1303 =>
 (asr (conf zI yr1303)
 (lt (IntKind.i64.wrap (i7 - (1 : Int))) (fun yi1304 =>
 (L_halve_Split_9_2 a0 a1 a2 a3 a4 a5 a6 a7 a8 x58428500_2 n58428500 l0 (List.set (List.set l1 (0 + (i7.toNat)) (.int .i64 (intOfV yr1300))) (0 + (yi1298.toNat)) (.int .i64 (intOfV yr1301))) n2 n3 i4 i5 i6 yi1304)))))))))))))))))))))))))))))))))))
 (x58428500_2 l0 l1 n2 n3 i4 i5 i6 i7 false))))
def L_halve_Split_9_3 (_ : T_ask_Check) (_ : T_ratio_Cmp) (_ : T_cake_whole) (_ : T_ratio_check) (_ : T_ratio_Make) (_ : T_halve_mark) (_ : T_ratio_size) (_ : T_halve_Split_1) (_ : T_cmp_Less_int) (x58428500_3 : Ls → Ls → Int → Int → Int → Int → Bool → Prop) : Nat → Ls → Ls → Int → Int → Int → Int → Prop
 | 0, _, _, _, _, _, _ => False
 | _ + 1, l0, l1, i2, i3, i4, i5 =>
 (cbr (decide (i5 > i2))
 False
 (x58428500_3 l0 l1 i2 i3 i4 i5 false))
def L_halve_Split_9_4 (a0 : T_ask_Check) (a1 : T_ratio_Cmp) (a2 : T_cake_whole) (a3 : T_ratio_check) (a4 : T_ratio_Make) (a5 : T_halve_mark) (a6 : T_ratio_size) (a7 : T_halve_Split_1) (a8 : T_cmp_Less_int) (x58428500_4 : Ls → Ls → Ls → Nat → Nat → Int → Int → Int → Int → Bool → Prop) : Nat → Ls → Ls → Ls → Nat → Nat → Int → Int → Int → Int → Prop
 | 0, _, _, _, _, _, _, _, _, _ => False
 | n58428500 + 1, l0, l1, l2, n3, n4, i5, i6, i7, i8 =>
 (jn (fun (yj1565 : Bool → Prop) =>
 (cbr (decide (i8 > i5))
 (asr (decide ((0 : Int) ≤ i8))
 (asr (decide (i8 < ((n3 : Nat) : Int)))
 (asr (decide ((List.length l1) = n4))
 (asr (decide ((0 + (i8.toNat)) < (List.length l1)))
 (lt (List.getD l1 (0 + (i8.toNat)) .nils) (fun yr1579 =>
 (asr (conf zI yr1579)
 (lt (IntKind.i64.wrap (i8 - (1 : Int))) (fun yi1580 =>
 (asr (decide ((0 : Int) ≤ yi1580))
 (asr (decide (yi1580 < ((n3 : Nat) : Int)))
 (asr (decide ((List.length l1) = n4))
 (asr (decide ((0 + (yi1580.toNat)) < (List.length l1)))
 (lt (List.getD l1 (0 + (yi1580.toNat)) .nils) (fun yr1581 =>
 (asr (conf zI yr1581)
 (a8 (intOfV yr1579) (intOfV yr1581) (fun yb1582 => 
 (yj1565 yb1582)))))))))))))))))))
 (yj1565 false)))
 (fun yb1564 => (cbr yb1564
 (lt (IntKind.i64.wrap (i8 - (1 : Int))) (fun yi1572 =>
 (lt (IntKind.i64.wrap (i8 - (1 : Int))) (fun yi1573 =>
 (asr (decide ((0 : Int) ≤ yi1573))
 (asr (decide (yi1573 < ((n3 : Nat) : Int)))
 (asr (decide ((List.length l1) = n4))
 (asr (decide ((0 + (yi1573.toNat)) < (List.length l1)))
 (lt (List.getD l1 (0 + (yi1573.toNat)) .nils) (fun yr1574 =>
 (asr (conf zI yr1574)
 (asr (decide ((0 : Int) ≤ i8))
 (asr (decide (i8 < ((n3 : Nat) : Int)))
 (asr (decide ((List.length l1) = n4))
 (asr (decide ((0 + (i8.toNat)) < (List.length l1)))
 (lt (List.getD l1 (0 + (i8.toNat)) .nils) (fun yr1575 =>
 (asr (conf zI yr1575)
 (asr (decide ((0 : Int) ≤ i8))
 (asr (decide (i8 < ((n3 : Nat) : Int)))
 (asr (decide ((List.length l1) = n4))
 (asr (decide ((0 + (i8.toNat)) < (List.length l1)))
 (lt (List.getD l1 (0 + (i8.toNat)) .nils) (fun yr1576 =>
 (asr (conf zI yr1576)
 (asr (decide ((0 : Int) ≤ yi1572))
 (asr (decide (yi1572 < ((n3 : Nat) : Int)))
 (asr (decide ((List.length (List.set l1 (0 + (i8.toNat)) (.int .i64 (intOfV yr1574)))) = n4))
 (asr (decide ((0 + (yi1572.toNat)) < (List.length (List.set l1 (0 + (i8.toNat)) (.int .i64 (intOfV yr1574))))))
 (lt (List.getD (List.set l1 (0 + (i8.toNat)) (.int .i64 (intOfV yr1574))) (0 + (yi1572.toNat)) .nils) (fun yr1577 =>
 (asr (conf zI yr1577)
 (lt (IntKind.i64.wrap (i8 - (1 : Int))) (fun yi1578 =>
 (L_halve_Split_9_4 a0 a1 a2 a3 a4 a5 a6 a7 a8 x58428500_4 n58428500 l0 (List.set (List.set l1 (0 + (i8.toNat)) (.int .i64 (intOfV yr1574))) (0 + (yi1572.toNat)) (.int .i64 (intOfV yr1575))) l2 n3 n4 i5 i6 i7 yi1578)))))))))))))))))))))))))))))))))))
 (x58428500_4 l0 l1 l2 n3 n4 i5 i6 i7 i8 false))))
def L_halve_Split_9_5 (a0 : T_ask_Check) (a1 : T_ratio_Cmp) (a2 : T_cake_whole) (a3 : T_ratio_check) (a4 : T_ratio_Make) (a5 : T_halve_mark) (a6 : T_ratio_size) (a7 : T_halve_Split_1) (a8 : T_cmp_Less_int) (x58428500_5 : Ls → Ls → Ls → Nat → Nat → Int → Int → Int → Int → Bool → Prop) : Nat → Ls → Ls → Ls → Nat → Nat → Int → Int → Int → Int → Prop
 | 0, _, _, _, _, _, _, _, _, _ => False
 | n58428500 + 1, l0, l1, l2, n3, n4, i5, i6, i7, i8 =>
 (jn (fun (yj1737 : Bool → Prop) =>
 (cbr (decide (i8 > i5))
 (asr (decide ((0 : Int) ≤ i8))
 (asr (decide (i8 < ((n3 : Nat) : Int)))
 (asr (decide ((List.length l2) = n4))
 (asr (decide ((0 + (i8.toNat)) < (List.length l2)))
 (lt (List.getD l2 (0 + (i8.toNat)) .nils) (fun yr1751 =>
 (asr (conf zI yr1751)
 (lt (IntKind.i64.wrap (i8 - (1 : Int))) (fun yi1752 =>
 (asr (decide ((0 : Int) ≤ yi1752))
 (asr (decide (yi1752 < ((n3 : Nat) : Int)))
 (asr (decide ((List.length l2) = n4))
 (asr (decide ((0 + (yi1752.toNat)) < (List.length l2)))
 (lt (List.getD l2 (0 + (yi1752.toNat)) .nils) (fun yr1753 =>
 (asr (conf zI yr1753)
 (a8 (intOfV yr1751) (intOfV yr1753) (fun yb1754 => 
 (yj1737 yb1754)))))))))))))))))))
 (yj1737 false)))
 (fun yb1736 => (cbr yb1736
 (lt (IntKind.i64.wrap (i8 - (1 : Int))) (fun yi1744 =>
 (lt (IntKind.i64.wrap (i8 - (1 : Int))) (fun yi1745 =>
 (asr (decide ((0 : Int) ≤ yi1745))
 (asr (decide (yi1745 < ((n3 : Nat) : Int)))
 (asr (decide ((List.length l2) = n4))
 (asr (decide ((0 + (yi1745.toNat)) < (List.length l2)))
 (lt (List.getD l2 (0 + (yi1745.toNat)) .nils) (fun yr1746 =>
 (asr (conf zI yr1746)
 (asr (decide ((0 : Int) ≤ i8))
 (asr (decide (i8 < ((n3 : Nat) : Int)))
 (asr (decide ((List.length l2) = n4))
 (asr (decide ((0 + (i8.toNat)) < (List.length l2)))
 (lt (List.getD l2 (0 + (i8.toNat)) .nils) (fun yr1747 =>
 (asr (conf zI yr1747)
 (asr (decide ((0 : Int) ≤ i8))
 (asr (decide (i8 < ((n3 : Nat) : Int)))
 (asr (decide ((List.length l2) = n4))
 (asr (decide ((0 + (i8.toNat)) < (List.length l2)))
 (lt (List.getD l2 (0 + (i8.toNat)) .nils) (fun yr1748 =>
 (asr (conf zI yr1748)
 (asr (decide ((0 : Int) ≤ yi1744))
 (asr (decide (yi1744 < ((n3 : Nat) : Int)))
 (asr (decide ((List.length (List.set l2 (0 + (i8.toNat)) (.int .i64 (intOfV yr1746)))) = n4))
 (asr (decide ((0 + (yi1744.toNat)) < (List.length (List.set l2 (0 + (i8.toNat)) (.int .i64 (intOfV yr1746))))))
 (lt (List.getD (List.set l2 (0 + (i8.toNat)) (.int .i64 (intOfV yr1746))) (0 + (yi1744.toNat)) .nils) (fun yr1749 =>
 (asr (conf zI yr1749)
 (lt (IntKind.i64.wrap (i8 - (1 : Int))) (fun yi1750 =>
 (L_halve_Split_9_5 a0 a1 a2 a3 a4 a5 a6 a7 a8 x58428500_5 n58428500 l0 l1 (List.set (List.set l2 (0 + (i8.toNat)) (.int .i64 (intOfV yr1746))) (0 + (yi1744.toNat)) (.int .i64 (intOfV yr1747))) n3 n4 i5 i6 i7 yi1750)))))))))))))))))))))))))))))))))))
 (x58428500_5 l0 l1 l2 n3 n4 i5 i6 i7 i8 false))))
def L_halve_Split_3_0 (a0 : T_ask_Check) (a1 : T_ratio_Cmp) (a2 : T_cake_whole) (a3 : T_ratio_check) (a4 : T_ratio_Make) (a5 : T_halve_mark) (a6 : T_ratio_size) (a7 : T_halve_Split_1) (a8 : T_cmp_Less_int) (x44419401_0 : Int → Int → Int → Bool → Prop) : Nat → Int → Int → Int → Prop
 | 0, _, _, _ => False
 | n44419401 + 1, i0, i1, i2 =>
 (cbr (decide (i2 < i1))
 (∃ n44419400 : Nat, L_halve_Split_4_0 a0 a1 a2 a3 a4 a5 a6 a7 a8
 (fun yi230 yi231 yi232 _ _ => (lt (IntKind.i64.wrap (yi232 + (1 : Int))) (fun yi235 =>
 (L_halve_Split_3_0 a0 a1 a2 a3 a4 a5 a6 a7 a8 x44419401_0 n44419401 yi230 yi231 yi235))))
 n44419400 i0 i1 i2 i2)
 (x44419401_0 i0 i1 i2 false))
def L_halve_Split_3_1 (a0 : T_ask_Check) (a1 : T_ratio_Cmp) (a2 : T_cake_whole) (a3 : T_ratio_check) (a4 : T_ratio_Make) (a5 : T_halve_mark) (a6 : T_ratio_size) (a7 : T_halve_Split_1) (a8 : T_cmp_Less_int) (x44419401_1 : Ls → Int → Int → Int → Bool → Prop) : Nat → Ls → Int → Int → Int → Prop
 | 0, _, _, _, _ => False
 | n44419401 + 1, l0, i3, i4, i5 =>
 (cbr (decide (i5 < i4))
 (asr (decide ((List.length l0) = List.length l0) && decide ((List.length l0) = List.length l0))
 (∃ n44419400 : Nat, L_halve_Split_4_1 a0 a1 a2 a3 a4 a5 a6 a7 a8
 (fun yl679 yi680 yi681 yi682 _ _ => (lt (IntKind.i64.wrap (yi682 + (1 : Int))) (fun yi685 =>
 (asr (decide ((List.length yl679) = List.length yl679) && decide ((List.length yl679) = List.length yl679))
 (L_halve_Split_3_1 a0 a1 a2 a3 a4 a5 a6 a7 a8 x44419401_1 n44419401 yl679 yi680 yi681 yi685)))))
 n44419400 l0 i3 i4 i5 i5))
 (x44419401_1 l0 i3 i4 i5 false))
def L_halve_Split_8_0 (a0 : T_ask_Check) (a1 : T_ratio_Cmp) (a2 : T_cake_whole) (a3 : T_ratio_check) (a4 : T_ratio_Make) (a5 : T_halve_mark) (a6 : T_ratio_size) (a7 : T_halve_Split_1) (a8 : T_cmp_Less_int) (x58428501_0 : Int → Int → Int → Bool → Prop) : Nat → Int → Int → Int → Prop
 | 0, _, _, _ => False
 | n58428501 + 1, i0, i1, i2 =>
 (cbr (decide (i2 < i1))
 (∃ n58428500 : Nat, L_halve_Split_9_0 a0 a1 a2 a3 a4 a5 a6 a7 a8
 (fun yi546 yi547 yi548 _ _ => (lt (IntKind.i64.wrap (yi548 + (1 : Int))) (fun yi551 =>
 (L_halve_Split_8_0 a0 a1 a2 a3 a4 a5 a6 a7 a8 x58428501_0 n58428501 yi546 yi547 yi551))))
 n58428500 i0 i1 i2 i2)
 (x58428501_0 i0 i1 i2 false))
def L_halve_Split_8_1 (a0 : T_ask_Check) (a1 : T_ratio_Cmp) (a2 : T_cake_whole) (a3 : T_ratio_check) (a4 : T_ratio_Make) (a5 : T_halve_mark) (a6 : T_ratio_size) (a7 : T_halve_Split_1) (a8 : T_cmp_Less_int) (x58428501_1 : Ls → Int → Int → Int → Bool → Prop) : Nat → Ls → Int → Int → Int → Prop
 | 0, _, _, _, _ => False
 | n58428501 + 1, l0, i1, i2, i3 =>
 (cbr (decide (i3 < i2))
 (∃ n58428500 : Nat, L_halve_Split_9_1 a0 a1 a2 a3 a4 a5 a6 a7 a8
 (fun yl1169 yi1170 yi1171 yi1172 _ _ => (lt (IntKind.i64.wrap (yi1172 + (1 : Int))) (fun yi1175 =>
 (L_halve_Split_8_1 a0 a1 a2 a3 a4 a5 a6 a7 a8 x58428501_1 n58428501 yl1169 yi1170 yi1171 yi1175))))
 n58428500 l0 i1 i2 i3 i3)
 (x58428501_1 l0 i1 i2 i3 false))
def L_halve_Split_8_2 (a0 : T_ask_Check) (a1 : T_ratio_Cmp) (a2 : T_cake_whole) (a3 : T_ratio_check) (a4 : T_ratio_Make) (a5 : T_halve_mark) (a6 : T_ratio_size) (a7 : T_halve_Split_1) (a8 : T_cmp_Less_int) (x58428501_2 : Ls → Ls → Nat → Nat → Int → Int → Int → Bool → Prop) : Nat → Ls → Ls → Nat → Nat → Int → Int → Int → Prop
 | 0, _, _, _, _, _, _, _ => False
 | n58428501 + 1, l0, l1, n2, n3, i4, i5, i6 =>
 (cbr (decide (i6 < i5))
 (∃ n58428500 : Nat, L_halve_Split_9_2 a0 a1 a2 a3 a4 a5 a6 a7 a8
 (fun yl1318 yl1319 yn1320 yn1321 yi1322 yi1323 yi1324 _ _ => (lt (IntKind.i64.wrap (yi1324 + (1 : Int))) (fun yi1327 =>
 (L_halve_Split_8_2 a0 a1 a2 a3 a4 a5 a6 a7 a8 x58428501_2 n58428501 yl1318 yl1319 yn1320 yn1321 yi1322 yi1323 yi1327))))
 n58428500 l0 l1 n2 n3 i4 i5 i6 i6)
 (x58428501_2 l0 l1 n2 n3 i4 i5 i6 false))
def L_halve_Split_8_3 (a0 : T_ask_Check) (a1 : T_ratio_Cmp) (a2 : T_cake_whole) (a3 : T_ratio_check) (a4 : T_ratio_Make) (a5 : T_halve_mark) (a6 : T_ratio_size) (a7 : T_halve_Split_1) (a8 : T_cmp_Less_int) (x58428501_3 : Ls → Ls → Int → Int → Int → Bool → Prop) : Nat → Ls → Ls → Int → Int → Int → Prop
 | 0, _, _, _, _, _ => False
 | n58428501 + 1, l0, l1, i2, i3, i4 =>
 (cbr (decide (i4 < i3))
 (∃ n58428500 : Nat, L_halve_Split_9_3 a0 a1 a2 a3 a4 a5 a6 a7 a8
 (fun yl1437 yl1438 yi1439 yi1440 yi1441 _ _ => (lt (IntKind.i64.wrap (yi1441 + (1 : Int))) (fun yi1444 =>
 (L_halve_Split_8_3 a0 a1 a2 a3 a4 a5 a6 a7 a8 x58428501_3 n58428501 yl1437 yl1438 yi1439 yi1440 yi1444))))
 n58428500 l0 l1 i2 i3 i4 i4)
 (x58428501_3 l0 l1 i2 i3 i4 false))
def L_halve_Split_8_4 (a0 : T_ask_Check) (a1 : T_ratio_Cmp) (a2 : T_cake_whole) (a3 : T_ratio_check) (a4 : T_ratio_Make) (a5 : T_halve_mark) (a6 : T_ratio_size) (a7 : T_halve_Split_1) (a8 : T_cmp_Less_int) (x58428501_4 : Ls → Ls → Ls → Nat → Nat → Int → Int → Int → Bool → Prop) : Nat → Ls → Ls → Ls → Nat → Nat → Int → Int → Int → Prop
 | 0, _, _, _, _, _, _, _, _ => False
 | n58428501 + 1, l0, l1, l2, n3, n4, i5, i6, i7 =>
 (cbr (decide (i7 < i6))
 (∃ n58428500 : Nat, L_halve_Split_9_4 a0 a1 a2 a3 a4 a5 a6 a7 a8
 (fun yl1593 yl1594 yl1595 yn1596 yn1597 yi1598 yi1599 yi1600 _ _ => (lt (IntKind.i64.wrap (yi1600 + (1 : Int))) (fun yi1603 =>
 (L_halve_Split_8_4 a0 a1 a2 a3 a4 a5 a6 a7 a8 x58428501_4 n58428501 yl1593 yl1594 yl1595 yn1596 yn1597 yi1598 yi1599 yi1603))))
 n58428500 l0 l1 l2 n3 n4 i5 i6 i7 i7)
 (x58428501_4 l0 l1 l2 n3 n4 i5 i6 i7 false))
def L_halve_Split_8_5 (a0 : T_ask_Check) (a1 : T_ratio_Cmp) (a2 : T_cake_whole) (a3 : T_ratio_check) (a4 : T_ratio_Make) (a5 : T_halve_mark) (a6 : T_ratio_size) (a7 : T_halve_Split_1) (a8 : T_cmp_Less_int) (x58428501_5 : Ls → Ls → Ls → Nat → Nat → Int → Int → Int → Bool → Prop) : Nat → Ls → Ls → Ls → Nat → Nat → Int → Int → Int → Prop
 | 0, _, _, _, _, _, _, _, _ => False
 | n58428501 + 1, l0, l1, l2, n3, n4, i5, i6, i7 =>
 (cbr (decide (i7 < i6))
 (∃ n58428500 : Nat, L_halve_Split_9_5 a0 a1 a2 a3 a4 a5 a6 a7 a8
 (fun yl1765 yl1766 yl1767 yn1768 yn1769 yi1770 yi1771 yi1772 _ _ => (lt (IntKind.i64.wrap (yi1772 + (1 : Int))) (fun yi1775 =>
 (L_halve_Split_8_5 a0 a1 a2 a3 a4 a5 a6 a7 a8 x58428501_5 n58428501 yl1765 yl1766 yl1767 yn1768 yn1769 yi1770 yi1771 yi1775))))
 n58428500 l0 l1 l2 n3 n4 i5 i6 i7 i7)
 (x58428501_5 l0 l1 l2 n3 n4 i5 i6 i7 false))
def L_halve_Split_7_0 (a0 : T_ask_Check) (a1 : T_ratio_Cmp) (a2 : T_cake_whole) (a3 : T_ratio_check) (a4 : T_ratio_Make) (a5 : T_halve_mark) (a6 : T_ratio_size) (a7 : T_halve_Split_1) (a8 : T_cmp_Less_int) (x82372100_0 : Prop) : Nat → Int → Int → Int → Bool → Bool → Prop
 | 0, _, _, _, _, _ => False
 | _ + 1, i0, i1, _, _, _ =>
 (lt (IntKind.i64.wrap (i1 - i0)) (fun yi538 =>
 (cbr (decide (yi538 ≤ (12 : Int)))
 (lt (IntKind.i64.wrap (i0 + (1 : Int))) (fun yi593 =>
 (∃ n58428501 : Nat, L_halve_Split_8_0 a0 a1 a2 a3 a4 a5 a6 a7 a8
 (fun _ _ _ _ => x82372100_0)
 n58428501 i0 i1 yi593)))
 False)))
def L_halve_Split_7_1 (a0 : T_ask_Check) (a1 : T_ratio_Cmp) (a2 : T_cake_whole) (a3 : T_ratio_check) (a4 : T_ratio_Make) (a5 : T_halve_mark) (a6 : T_ratio_size) (a7 : T_halve_Split_1) (a8 : T_cmp_Less_int) (x82372100_1 : Ls → Prop) : Nat → Ls → Int → Int → Int → Bool → Bool → Prop
 | 0, _, _, _, _, _, _ => False
 | _ + 1, l0, i1, i2, _, _, _ =>
 (lt (IntKind.i64.wrap (i2 - i1)) (fun yi1160 =>
 (cbr (decide (yi1160 ≤ (12 : Int)))
 (lt (IntKind.i64.wrap (i1 + (1 : Int))) (fun yi1224 =>
 (∃ n58428501 : Nat, L_halve_Split_8_1 a0 a1 a2 a3 a4 a5 a6 a7 a8
 (fun yl1225 _ _ _ _ => (x82372100_1 yl1225))
 n58428501 l0 i1 i2 yi1224)))
 False)))
def L_halve_Split_7_2 (a0 : T_ask_Check) (a1 : T_ratio_Cmp) (a2 : T_cake_whole) (a3 : T_ratio_check) (a4 : T_ratio_Make) (a5 : T_halve_mark) (a6 : T_ratio_size) (a7 : T_halve_Split_1) (a8 : T_cmp_Less_int) (x82372100_2 : Ls → Ls → Prop) : Nat → Ls → Ls → Nat → Nat → Int → Int → Int → Bool → Bool → Prop
 | 0, _, _, _, _, _, _, _, _, _ => False
 | _ + 1, l0, l1, n2, n3, i4, i5, _, _, _ =>
 (lt (IntKind.i64.wrap (i5 - i4)) (fun yi1273 =>
 (cbr (decide (yi1273 ≤ (12 : Int)))
 (lt (IntKind.i64.wrap (i4 + (1 : Int))) (fun yi1397 =>
 (∃ n58428501 : Nat, L_halve_Split_8_2 a0 a1 a2 a3 a4 a5 a6 a7 a8
 (fun yl1398 yl1399 _ _ _ _ _ _ => (x82372100_2 yl1398 yl1399))
 n58428501 l0 l1 n2 n3 i4 i5 yi1397)))
 False)))
def L_halve_Split_7_3 (a0 : T_ask_Check) (a1 : T_ratio_Cmp) (a2 : T_cake_whole) (a3 : T_ratio_check) (a4 : T_ratio_Make) (a5 : T_halve_mark) (a6 : T_ratio_size) (a7 : T_halve_Split_1) (a8 : T_cmp_Less_int) (x82372100_2 : Ls → Ls → Prop) : Nat → Ls → Ls → Int → Int → Int → Bool → Bool → Prop
 | 0, _, _, _, _, _, _, _ => False
 | _ + 1, l0, l1, i2, i3, _, _, _ =>
 (lt (IntKind.i64.wrap (i3 - i2)) (fun yi1427 =>
 (cbr (decide (yi1427 ≤ (12 : Int)))
 (lt (IntKind.i64.wrap (i2 + (1 : Int))) (fun yi1500 =>
 (∃ n58428501 : Nat, L_halve_Split_8_3 a0 a1 a2 a3 a4 a5 a6 a7 a8
 (fun yl1501 yl1502 _ _ _ _ => (x82372100_2 yl1501 yl1502))
 n58428501 l0 l1 i2 i3 yi1500)))
 False)))
def L_halve_Split_7_4 (a0 : T_ask_Check) (a1 : T_ratio_Cmp) (a2 : T_cake_whole) (a3 : T_ratio_check) (a4 : T_ratio_Make) (a5 : T_halve_mark) (a6 : T_ratio_size) (a7 : T_halve_Split_1) (a8 : T_cmp_Less_int) (x82372100_3 : Ls → Ls → Ls → Prop) : Nat → Ls → Ls → Ls → Nat → Nat → Int → Int → Int → Bool → Bool → Prop
 | 0, _, _, _, _, _, _, _, _, _, _ => False
 | _ + 1, l0, l1, l2, n3, n4, i5, i6, _, _, _ =>
 (lt (IntKind.i64.wrap (i6 - i5)) (fun yi1547 =>
 (cbr (decide (yi1547 ≤ (12 : Int)))
 (lt (IntKind.i64.wrap (i5 + (1 : Int))) (fun yi1680 =>
 (∃ n58428501 : Nat, L_halve_Split_8_4 a0 a1 a2 a3 a4 a5 a6 a7 a8
 (fun yl1681 yl1682 yl1683 _ _ _ _ _ _ => (x82372100_3 yl1681 yl1682 yl1683))
 n58428501 l0 l1 l2 n3 n4 i5 i6 yi1680)))
 False)))
def L_halve_Split_7_5 (a0 : T_ask_Check) (a1 : T_ratio_Cmp) (a2 : T_cake_whole) (a3 : T_ratio_check) (a4 : T_ratio_Make) (a5 : T_halve_mark) (a6 : T_ratio_size) (a7 : T_halve_Split_1) (a8 : T_cmp_Less_int) (x82372100_3 : Ls → Ls → Ls → Prop) : Nat → Ls → Ls → Ls → Nat → Nat → Int → Int → Int → Bool → Bool → Prop
 | 0, _, _, _, _, _, _, _, _, _, _ => False
 | _ + 1, l0, l1, l2, n3, n4, i5, i6, _, _, _ =>
 (lt (IntKind.i64.wrap (i6 - i5)) (fun yi1719 =>
 (cbr (decide (yi1719 ≤ (12 : Int)))
 (lt (IntKind.i64.wrap (i5 + (1 : Int))) (fun yi1852 =>
 (∃ n58428501 : Nat, L_halve_Split_8_5 a0 a1 a2 a3 a4 a5 a6 a7 a8
 (fun yl1853 yl1854 yl1855 _ _ _ _ _ _ => (x82372100_3 yl1853 yl1854 yl1855))
 n58428501 l0 l1 l2 n3 n4 i5 i6 yi1852)))
 False)))
def wv_halve_Split (a0 : T_ask_Check) (a1 : T_ratio_Cmp) (a2 : T_cake_whole) (a3 : T_ratio_check) (a4 : T_ratio_Make) (a5 : T_halve_mark) (a6 : T_ratio_size) (a7 : T_halve_Split_1) (a8 : T_cmp_Less_int) (p0 p1 p2 : Ls) (p3 p4 p5 p6 : Int) (K : Ls → Ls → Int → Int → Ls → Ls → Int → Prop) : Prop :=
 (a0 p0 p1 (fun yi3 => 
 (cbr (yi3 != (0 : Int))
 (K ([] : Ls) ([] : Ls) (0 : Int) (0 : Int) ([] : Ls) ([] : Ls) yi3)
 (jn (fun (yj8 : Bool → Prop) =>
 (cbr (decide ((((List.length p2) : Nat) : Int) > (1 : Int)))
 (asr (decide ((0 : Int) < (((List.length p2) : Nat) : Int)))
 (lt (List.getD p2 0 .nils) (fun yr2034 =>
 (asr (conf zI yr2034)
 (cbr (decide ((intOfV yr2034) ≥ (0 : Int)))
 (lt (IntKind.i64.wrap ((((List.length p2) : Nat) : Int) - (1 : Int))) (fun yi2035 =>
 (asr (decide ((0 : Int) ≤ yi2035))
 (asr (decide (yi2035 < (((List.length p2) : Nat) : Int)))
 (lt (List.getD p2 (yi2035.toNat) .nils) (fun yr2036 =>
 (asr (conf zI yr2036)
 (yj8 (decide ((intOfV yr2036) < (((List.length p0) : Nat) : Int)))))))))))
 (yj8 false))))))
 (yj8 false)))
 (fun yb7 => (∃ n42112300 : Nat, L_halve_Split_0_0 a0 a1 a2 a3 a4 a5 a6 a7 a8
 (fun yl30 yl31 yl32 yi33 yi34 yi35 yi36 yi37 yi38 yb39 _ _ => (a1 yi33 yi34 yi35 yi36 (fun yi44 yi45 => 
 (jn (fun (yj61 : Bool → Prop) =>
 (cbr (!yb39)
 (yj61 true)
 (cbr (yi45 != (0 : Int))
 (yj61 true)
 (cbr (decide (yi44 ≥ (0 : Int)))
 (yj61 true)
 (cbr (decide (yi33 < (0 : Int)))
 (yj61 true)
 (asr (decide ((0 : Int) < (((List.length yl31) : Nat) : Int)))
 (lt (List.getD yl31 0 .nils) (fun yr2030 =>
 (asr (conf zK yr2030)
 (a2 (intOfV (cellAt yr2030 0)) (fun yi2031 yi2032 => 
 (a3 yi35 yi36 yi2031 yi2032 (fun yi2033 => 
 (yj61 (decide (yi2033 > (0 : Int)))))))))))))))))
 (fun yb60 => (cbr yb60
 (K ([] : Ls) ([] : Ls) (0 : Int) (0 : Int) ([] : Ls) ([] : Ls) (2 : Int))
 (lt (IntKind.i64.wrap (Int.tdiv (((List.length yl30) : Nat) : Int) (2 : Int))) (fun yi63 =>
 (a4 yi63 (((List.length yl30) : Nat) : Int) (fun yi67 yi68 _ => 
 (∃ n42112301 : Nat, L_halve_Split_1_0 a0 a1 a2 a3 a4 a5 a6 a7 a8
 (fun yl198 yl199 _ _ _ _ yi204 yi205 yi206 _ _ _ _ _ _ => (∃ n34804800 : Nat, L_halve_Split_2_0 a0 a1 a2 a3 a4 a5 a6 a7 a8
 (fun yi488 yi489 yi490 _ _ => (lt (IntKind.i64.wrap (yi490 + (1 : Int))) (fun yi512 =>
 (∃ n44419401 : Nat, L_halve_Split_3_0 a0 a1 a2 a3 a4 a5 a6 a7 a8
 (fun _ _ _ _ => (∃ n34804802 : Nat, L_halve_Split_5_0 a0 a1 a2 a3 a4 a5 a6 a7 a8
 (fun _ _ _ => (∃ n42112302 : Nat, L_halve_Split_6_0 a0 a1 a2 a3 a4 a5 a6 a7 a8
 (fun _ _ _ _ yi532 _ _ _ => (a6 (0 : Int) (fun yi600 => 
 (∃ n82372100 : Nat, L_halve_Split_7_0 a0 a1 a2 a3 a4 a5 a6 a7 a8
 (a6 (0 : Int) (fun yi604 => 
 (∃ n82372100 : Nat, L_halve_Split_7_0 a0 a1 a2 a3 a4 a5 a6 a7 a8
 (lt (IntKind.i64.wrap (yi532 - (1 : Int))) (fun _ =>
 False))
 n82372100 (0 : Int) (0 : Int) yi604 true true)))
 n82372100 (0 : Int) (0 : Int) yi600 true true))))
 n42112302 yl198 yl199 yi204 yi205 yi206 (0 : Int) (0 : Int)))
 n34804802 yi488 yi489))
 n44419401 yi490 yi488 yi512))))
 n34804800 (0 : Int) (20 : Int) (0 : Int) (20 : Int)))
 (fun yi607 yi608 yi609 => (K ([] : Ls) ([] : Ls) yi607 yi608 ([] : Ls) ([] : Ls) yi609))
 (fun yl610 yl611 yl612 _ _ _ _ yi617 yi618 yi619 _ _ _ _ _ _ => (asr (decide ((List.length yl610) = List.length yl610) && decide ((List.length yl610) = List.length yl610))
 (∃ n34804800 : Nat, L_halve_Split_2_1 a0 a1 a2 a3 a4 a5 a6 a7 a8
 (fun yl1000 yi1001 yi1002 yi1003 _ _ => (lt (IntKind.i64.wrap (yi1003 + (1 : Int))) (fun yi1028 =>
 (asr (decide ((List.length yl1000) = List.length yl1000) && decide ((List.length yl1000) = List.length yl1000))
 (∃ n44419401 : Nat, L_halve_Split_3_1 a0 a1 a2 a3 a4 a5 a6 a7 a8
 (fun yl1029 _ _ _ _ => (∃ n34804802 : Nat, L_halve_Split_5_1 a0 a1 a2 a3 a4 a5 a6 a7 a8
 (fun yl1034 _ _ _ _ _ => (∃ n42112302 : Nat, L_halve_Split_6_1 a0 a1 a2 a3 a4 a5 a6 a7 a8
 (fun yl1145 yl1146 yl1147 _ _ yi1150 yn1151 yn1152 _ _ _ _ _ => (a6 (0 : Int) (fun yi1238 => 
 (∃ n82372100 : Nat, L_halve_Split_7_1 a0 a1 a2 a3 a4 a5 a6 a7 a8
 (fun yl1240 => (a6 (0 : Int) (fun yi1250 => 
 (∃ n82372100 : Nat, L_halve_Split_7_1 a0 a1 a2 a3 a4 a5 a6 a7 a8
 (fun yl1252 => (lt (IntKind.i64.wrap (yi1150 - (1 : Int))) (fun yi1255 =>
 (asr (decide ((0 : Int) ≤ yi1255))
 (asr (decide (yi1255 < ((yn1151 : Nat) : Int)))
 (asr (decide ((List.length yl1252) = yn1152))
 (asr (decide ((0 + (yi1255.toNat)) < (List.length yl1252)))
 (lt (List.getD yl1252 (0 + (yi1255.toNat)) .nils) (fun yr1256 =>
 (asr (conf (.agg [.i .i64, .i .i64, .i .i64]) yr1256)
 (K yl1146 yl1147 (intOfV (cellAt yr1256 1)) (intOfV (cellAt yr1256 2)) ([] : Ls) ([] : Ls) (0 : Int))))))))))))
 n82372100 yl1240 (0 : Int) (0 : Int) yi1250 true true))))
 n82372100 yl1145 (0 : Int) (0 : Int) yi1238 true true))))
 (fun yl1257 yl1258 yl1259 yl1260 _ _ yi1263 yn1264 yn1265 _ _ _ _ _ => (a6 (IntKind.u64.wrap (((List.length yl1258) : Nat) : Int)) (fun yi1420 => 
 (∃ n82372100 : Nat, L_halve_Split_7_2 a0 a1 a2 a3 a4 a5 a6 a7 a8
 (fun yl1423 yl1424 => (a6 (0 : Int) (fun yi1521 => 
 (∃ n82372100 : Nat, L_halve_Split_7_3 a0 a1 a2 a3 a4 a5 a6 a7 a8
 (fun yl1524 yl1525 => (lt (IntKind.i64.wrap (yi1263 - (1 : Int))) (fun yi1528 =>
 (asr (decide ((0 : Int) ≤ yi1528))
 (asr (decide (yi1528 < ((yn1264 : Nat) : Int)))
 (asr (decide ((List.length yl1524) = yn1265))
 (asr (decide ((0 + (yi1528.toNat)) < (List.length yl1524)))
 (lt (List.getD yl1524 (0 + (yi1528.toNat)) .nils) (fun yr1529 =>
 (asr (conf (.agg [.i .i64, .i .i64, .i .i64]) yr1529)
 (asr (decide ((List.length yl1525) = (List.length yl1258)))
 (asr (decide ((0 + (List.length yl1258)) ≤ (List.length yl1258)))
 (K yl1259 yl1260 (intOfV (cellAt yr1529 1)) (intOfV (cellAt yr1529 2)) (List.take (List.length yl1258) yl1525) ([] : Ls) (0 : Int))))))))))))))
 n82372100 yl1423 yl1424 (0 : Int) (0 : Int) yi1521 true true))))
 n82372100 yl1257 yl1258 (List.length yl1258) (List.length yl1258) (0 : Int) (((List.length yl1258) : Nat) : Int) yi1420 true true))))
 (fun yl1530 yl1531 yl1532 yl1533 yl1534 _ _ yi1537 yn1538 yn1539 _ _ _ _ _ => (a6 (IntKind.u64.wrap (((List.length yl1531) : Nat) : Int)) (fun yi1710 => 
 (∃ n82372100 : Nat, L_halve_Split_7_4 a0 a1 a2 a3 a4 a5 a6 a7 a8
 (fun yl1714 yl1715 yl1716 => (a6 (IntKind.u64.wrap (((List.length yl1532) : Nat) : Int)) (fun yi1882 => 
 (∃ n82372100 : Nat, L_halve_Split_7_5 a0 a1 a2 a3 a4 a5 a6 a7 a8
 (fun yl1886 yl1887 yl1888 => (lt (IntKind.i64.wrap (yi1537 - (1 : Int))) (fun yi1891 =>
 (asr (decide ((0 : Int) ≤ yi1891))
 (asr (decide (yi1891 < ((yn1538 : Nat) : Int)))
 (asr (decide ((List.length yl1886) = yn1539))
 (asr (decide ((0 + (yi1891.toNat)) < (List.length yl1886)))
 (lt (List.getD yl1886 (0 + (yi1891.toNat)) .nils) (fun yr1892 =>
 (asr (conf (.agg [.i .i64, .i .i64, .i .i64]) yr1892)
 (asr (decide ((List.length yl1887) = (List.length yl1531)))
 (asr (decide ((0 + (List.length yl1531)) ≤ (List.length yl1531)))
 (asr (decide ((List.length yl1888) = (List.length yl1532)))
 (asr (decide ((0 + (List.length yl1532)) ≤ (List.length yl1532)))
 (K yl1533 yl1534 (intOfV (cellAt yr1892 1)) (intOfV (cellAt yr1892 2)) (List.take (List.length yl1531) yl1887) (List.take (List.length yl1532) yl1888) (0 : Int))))))))))))))))
 n82372100 yl1714 yl1715 yl1716 (List.length yl1532) (List.length yl1532) (0 : Int) (((List.length yl1532) : Nat) : Int) yi1882 true true))))
 n82372100 yl1530 yl1531 yl1532 (List.length yl1531) (List.length yl1531) (0 : Int) (((List.length yl1531) : Nat) : Int) yi1710 true true))))
 (fun yl1893 yl1894 yl1895 yl1896 _ _ yi1899 yn1900 yn1901 _ _ _ _ _ => (a6 (0 : Int) (fun yi1922 => 
 (∃ n82372100 : Nat, L_halve_Split_7_3 a0 a1 a2 a3 a4 a5 a6 a7 a8
 (fun yl1925 yl1926 => (a6 (IntKind.u64.wrap (((List.length yl1894) : Nat) : Int)) (fun yi1942 => 
 (∃ n82372100 : Nat, L_halve_Split_7_2 a0 a1 a2 a3 a4 a5 a6 a7 a8
 (fun yl1945 yl1946 => (lt (IntKind.i64.wrap (yi1899 - (1 : Int))) (fun yi1949 =>
 (asr (decide ((0 : Int) ≤ yi1949))
 (asr (decide (yi1949 < ((yn1900 : Nat) : Int)))
 (asr (decide ((List.length yl1945) = yn1901))
 (asr (decide ((0 + (yi1949.toNat)) < (List.length yl1945)))
 (lt (List.getD yl1945 (0 + (yi1949.toNat)) .nils) (fun yr1950 =>
 (asr (conf (.agg [.i .i64, .i .i64, .i .i64]) yr1950)
 (asr (decide ((List.length yl1946) = (List.length yl1894)))
 (asr (decide ((0 + (List.length yl1894)) ≤ (List.length yl1894)))
 (K yl1895 yl1896 (intOfV (cellAt yr1950 1)) (intOfV (cellAt yr1950 2)) ([] : Ls) (List.take (List.length yl1894) yl1946) (0 : Int))))))))))))))
 n82372100 yl1925 yl1926 (List.length yl1894) (List.length yl1894) (0 : Int) (((List.length yl1894) : Nat) : Int) yi1942 true true))))
 n82372100 yl1893 yl1894 (0 : Int) (0 : Int) yi1922 true true))))
 (fun yl1951 yl1952 yl1953 yl1954 yl1955 _ _ yi1958 yn1959 yn1960 _ _ _ _ _ => (a6 (IntKind.u64.wrap (((List.length yl1953) : Nat) : Int)) (fun yi1987 => 
 (∃ n82372100 : Nat, L_halve_Split_7_5 a0 a1 a2 a3 a4 a5 a6 a7 a8
 (fun yl1991 yl1992 yl1993 => (a6 (IntKind.u64.wrap (((List.length yl1952) : Nat) : Int)) (fun yi2015 => 
 (∃ n82372100 : Nat, L_halve_Split_7_4 a0 a1 a2 a3 a4 a5 a6 a7 a8
 (fun yl2019 yl2020 yl2021 => (lt (IntKind.i64.wrap (yi1958 - (1 : Int))) (fun yi2024 =>
 (asr (decide ((0 : Int) ≤ yi2024))
 (asr (decide (yi2024 < ((yn1959 : Nat) : Int)))
 (asr (decide ((List.length yl2019) = yn1960))
 (asr (decide ((0 + (yi2024.toNat)) < (List.length yl2019)))
 (lt (List.getD yl2019 (0 + (yi2024.toNat)) .nils) (fun yr2025 =>
 (asr (conf (.agg [.i .i64, .i .i64, .i .i64]) yr2025)
 (asr (decide ((List.length yl2021) = (List.length yl1953)))
 (asr (decide ((0 + (List.length yl1953)) ≤ (List.length yl1953)))
 (asr (decide ((List.length yl2020) = (List.length yl1952)))
 (asr (decide ((0 + (List.length yl1952)) ≤ (List.length yl1952)))
 (K yl1954 yl1955 (intOfV (cellAt yr2025 1)) (intOfV (cellAt yr2025 2)) (List.take (List.length yl1953) yl2021) (List.take (List.length yl1952) yl2020) (0 : Int))))))))))))))))
 n82372100 yl1991 yl1992 yl1993 (List.length yl1952) (List.length yl1952) (0 : Int) (((List.length yl1952) : Nat) : Int) yi2015 true true))))
 n82372100 yl1951 yl1952 yl1953 (List.length yl1953) (List.length yl1953) (0 : Int) (((List.length yl1953) : Nat) : Int) yi1987 true true))))
 n42112302 yl1034 yl611 yl612 yi617 yi618 yi619 (List.length yl610) (List.length yl610) (List.length yl610) (List.length yl610) (((List.length yl610) : Nat) : Int) (0 : Int)))
 n34804802 yl1029 (List.length yl1000) (List.length yl1000) yi1001 yi1002))
 n44419401 yl1000 yi1003 yi1001 yi1028)))))
 n34804800 yl610 (((List.length yl610) : Nat) : Int) (20 : Int) (0 : Int) (20 : Int))))
 (fun _ yi2027 yi2028 yi2029 => (K ([] : Ls) ([] : Ls) yi2027 yi2028 ([] : Ls) ([] : Ls) yi2029))
 n42112301 yl31 yl32 yi33 yi34 yi35 yi36 yi37 yi38 yi63 yi67 yi68 yl30 (((List.length yl30) : Nat) : Int) (0 : Int))))))))))))
 n42112300 p2 p0 p1 p3 p4 p5 p6 (0 : Int) (0 : Int) yb7 (1 : Int)))))))
def w_halve_Split : T_halve_Split := wv_halve_Split w_ask_Check w_ratio_Cmp w_halve_whole w_halve_order w_ratio_Make w_halve_mark w_m_Len w_halve_Split_1 w_cmp_Less_int
def sg_halve_Split : Sg := ⟨(lC pt16 (lC vD pt9)), Ls → Ls → Int → Int → Ls → Ls → Int → Prop, fun K => (fun r0 r1 r2 r3 r4 r5 r6 => K (.tup [(.agg [(.data r0), (.data r1)]), (.agg [(.int .i64 r2), (.int .i64 r3)]), (.data r4), (.data r5), (.int .i64 r6)]))⟩
def X_halve_Split_0_0 (Q : Qx) : Ls → Ls → Ls → Int → Int → Int → Int → Int → Int → Bool → Int → Bool → Prop := (fun l0 l1 l2 i3 i4 i5 i6 i7 i8 b9 i10 b11 => Q (.exit 0) [(1, .v (.data l0)), (4, .box (.agg [(.data l1), (.data l2)])), (6, .box (.agg [(.int .i64 i3), (.int .i64 i4)])), (7, .box (.agg [(.int .i64 i5), (.int .i64 i6)])), (8, .box (.agg [.nils, .nils])), (9, .box (.agg [(.int .i64 i7), (.int .i64 i8)])), (10, .v .nils), (11, .v .nils), (14, .v (.bool b9)), (15, .v (.int .i64 i10)), (58, .v (.bool b11))] [])
def X_halve_Split_1_0 (Q : Qx) : Ls → Ls → Int → Int → Int → Int → Int → Int → Int → Int → Int → Ls → Int → Int → Bool → Prop := (fun l0 l1 i2 i3 i4 i5 i6 i7 i8 i9 i10 l11 i12 i13 b14 => Q (.exit 2) [(4, .box (.agg [(.data l0), (.data l1)])), (6, .box (.agg [(.int .i64 i2), (.int .i64 i3)])), (7, .box (.agg [(.int .i64 i4), (.int .i64 i5)])), (8, .box (.agg [.nils, .nils])), (9, .box (.agg [(.int .i64 i6), (.int .i64 i7)])), (10, .v .nils), (11, .v .nils), (18, .v (.int .i64 i8)), (19, .box (.agg [(.int .i64 i9), (.int .i64 i10)])), (21, .v .nils), (118, .v (.data l11)), (119, .v (.int .i64 i12)), (120, .v (.int .i64 i13)), (121, .v (.bool b14))] [])
def X_halve_Split_1_1 (Q : Qx) : Int → Int → Int → Prop := (fun i0 i1 i2 => Q .ret [(8, .box (.agg [.nils, .nils])), (9, .box (.agg [(.int .i64 i0), (.int .i64 i1)])), (10, .v .nils), (11, .v .nils), (12, .v (.int .i64 i2))] [])
def X_halve_Split_1_2 (Q : Qx) : Ls → Ls → Ls → Int → Int → Int → Int → Int → Int → Int → Int → Int → Ls → Int → Int → Bool → Prop := (fun l0 l1 l2 i3 i4 i5 i6 i7 i8 i9 i10 i11 l14 i15 i16 b17 => Q (.exit 2) [(4, .box (.agg [(.data l1), (.data l2)])), (6, .box (.agg [(.int .i64 i3), (.int .i64 i4)])), (7, .box (.agg [(.int .i64 i5), (.int .i64 i6)])), (8, .box (.agg [.nils, .nils])), (9, .box (.agg [(.int .i64 i7), (.int .i64 i8)])), (10, .v .nils), (11, .v .nils), (18, .v (.int .i64 i9)), (19, .box (.agg [(.int .i64 i10), (.int .i64 i11)])), (21, .v (.own 0 0 (List.length l0) (List.length l0) none)), (118, .v (.data l14)), (119, .v (.int .i64 i15)), (120, .v (.int .i64 i16)), (121, .v (.bool b17))] [⟨false, true, 3, l0⟩])
def X_halve_Split_1_3 (Q : Qx) : Ls → Int → Int → Int → Prop := (fun l0 i1 i2 i3 => Q .ret [(8, .box (.agg [.nils, .nils])), (9, .box (.agg [(.int .i64 i1), (.int .i64 i2)])), (10, .v .nils), (11, .v .nils), (12, .v (.int .i64 i3))] [⟨false, true, 3, l0⟩])
def X_halve_Split_2_0 (Q : Qx) : Int → Int → Int → Int → Bool → Prop := (fun i0 i1 i2 i3 b4 => Q (.exit 0) [(0, .v .nils), (1, .v (.int .i64 i0)), (2, .v (.fn (.func n_halve_Split_1) [] [])), (6, .v (.int .i64 i1)), (7, .v (.int .i64 i2)), (8, .v (.int .i64 i3)), (13, .v (.bool b4))] [])
def X_halve_Split_2_1 (Q : Qx) : Ls → Int → Int → Int → Int → Bool → Prop := (fun l0 i3 i4 i5 i6 b7 => Q (.exit 0) [(0, .v (.own 0 0 (List.length l0) (List.length l0) none)), (1, .v (.int .i64 i3)), (2, .v (.fn (.func n_halve_Split_1) [] [])), (6, .v (.int .i64 i4)), (7, .v (.int .i64 i5)), (8, .v (.int .i64 i6)), (13, .v (.bool b7))] [⟨false, true, 3, l0⟩])
def X_halve_Split_4_0 (Q : Qx) : Int → Int → Int → Int → Bool → Prop := (fun i0 i1 i2 i3 b4 => Q (.exit 2) [(0, .v .nils), (1, .v (.int .i64 i0)), (2, .v (.int .i64 i1)), (3, .v (.fn (.func n_halve_Split_1) [] [])), (8, .v (.int .i64 i2)), (9, .v (.int .i64 i3)), (34, .v (.bool b4))] [])
def X_halve_Split_4_1 (Q : Qx) : Ls → Int → Int → Int → Int → Bool → Prop := (fun l0 i3 i4 i5 i6 b7 => Q (.exit 2) [(0, .v (.own 0 0 (List.length l0) (List.length l0) none)), (1, .v (.int .i64 i3)), (2, .v (.int .i64 i4)), (3, .v (.fn (.func n_halve_Split_1) [] [])), (8, .v (.int .i64 i5)), (9, .v (.int .i64 i6)), (34, .v (.bool b7))] [⟨false, true, 3, l0⟩])
def X_halve_Split_5_0 (Q : Qx) : Int → Int → Bool → Prop := (fun i0 i1 b2 => Q (.exit 2) [(0, .v .nils), (1, .v (.int .i64 i0)), (2, .v (.fn (.func n_halve_Split_1) [] [])), (6, .v (.int .i64 i1)), (30, .v (.bool b2))] [])
def X_halve_Split_5_1 (Q : Qx) : Ls → Nat → Nat → Int → Int → Bool → Prop := (fun l0 n1 n2 i3 i4 b5 => Q (.exit 2) [(0, .v (.own 0 0 n1 n2 none)), (1, .v (.int .i64 i3)), (2, .v (.fn (.func n_halve_Split_1) [] [])), (6, .v (.int .i64 i4)), (30, .v (.bool b5))] [⟨false, true, 3, l0⟩])
def X_halve_Split_6_0 (Q : Qx) : Ls → Ls → Int → Int → Int → Int → Int → Bool → Prop := (fun l0 l1 i2 i3 i4 i5 i6 b7 => Q (.exit 4) [(4, .box (.agg [(.data l0), (.data l1)])), (8, .box (.agg [.nils, .nils])), (9, .box (.agg [(.int .i64 i2), (.int .i64 i3)])), (10, .v .nils), (11, .v .nils), (18, .v (.int .i64 i4)), (21, .v .nils), (148, .v .nils), (149, .v (.int .i64 i5)), (150, .v (.int .i64 i6)), (151, .v (.bool b7))] [])
def X_halve_Split_6_1 (Q : Qx) : Ls → Ls → Ls → Int → Int → Int → Nat → Nat → Nat → Nat → Int → Int → Bool → Prop := (fun l0 l1 l2 i3 i4 i5 n6 n7 n8 n9 i10 i11 b12 => Q (.exit 4) [(4, .box (.agg [(.data l1), (.data l2)])), (8, .box (.agg [.nils, .nils])), (9, .box (.agg [(.int .i64 i3), (.int .i64 i4)])), (10, .v .nils), (11, .v .nils), (18, .v (.int .i64 i5)), (21, .v (.own 0 0 n6 n7 none)), (148, .v (.own 0 0 n8 n9 none)), (149, .v (.int .i64 i10)), (150, .v (.int .i64 i11)), (151, .v (.bool b12))] [⟨false, true, 3, l0⟩])
def X_halve_Split_6_2 (Q : Qx) : Ls → Ls → Ls → Ls → Int → Int → Int → Nat → Nat → Nat → Nat → Int → Int → Bool → Prop := (fun l0 l1 l2 l3 i4 i5 i8 n9 n10 n11 n12 i13 i14 b15 => Q (.exit 4) [(4, .box (.agg [(.data l2), (.data l3)])), (8, .box (.agg [.nils, .nils])), (9, .box (.agg [(.int .i64 i4), (.int .i64 i5)])), (10, .v (.own 1 0 (List.length l1) (List.length l1) none)), (11, .v .nils), (18, .v (.int .i64 i8)), (21, .v (.own 0 0 n9 n10 none)), (148, .v (.own 0 0 n11 n12 none)), (149, .v (.int .i64 i13)), (150, .v (.int .i64 i14)), (151, .v (.bool b15))] [⟨false, true, 3, l0⟩, ⟨false, true, 1, l1⟩])
def X_halve_Split_6_3 (Q : Qx) : Ls → Ls → Ls → Ls → Ls → Int → Int → Int → Nat → Nat → Nat → Nat → Int → Int → Bool → Prop := (fun l0 l1 l2 l3 l4 i5 i6 i11 n12 n13 n14 n15 i16 i17 b18 => Q (.exit 4) [(4, .box (.agg [(.data l3), (.data l4)])), (8, .box (.agg [.nils, .nils])), (9, .box (.agg [(.int .i64 i5), (.int .i64 i6)])), (10, .v (.own 1 0 (List.length l1) (List.length l1) none)), (11, .v (.own 2 0 (List.length l2) (List.length l2) none)), (18, .v (.int .i64 i11)), (21, .v (.own 0 0 n12 n13 none)), (148, .v (.own 0 0 n14 n15 none)), (149, .v (.int .i64 i16)), (150, .v (.int .i64 i17)), (151, .v (.bool b18))] [⟨false, true, 3, l0⟩, ⟨false, true, 1, l1⟩, ⟨false, true, 1, l2⟩])
def X_halve_Split_6_4 (Q : Qx) : Ls → Ls → Ls → Ls → Int → Int → Int → Nat → Nat → Nat → Nat → Int → Int → Bool → Prop := (fun l0 l1 l2 l3 i4 i5 i8 n9 n10 n11 n12 i13 i14 b15 => Q (.exit 4) [(4, .box (.agg [(.data l2), (.data l3)])), (8, .box (.agg [.nils, .nils])), (9, .box (.agg [(.int .i64 i4), (.int .i64 i5)])), (10, .v .nils), (11, .v (.own 1 0 (List.length l1) (List.length l1) none)), (18, .v (.int .i64 i8)), (21, .v (.own 0 0 n9 n10 none)), (148, .v (.own 0 0 n11 n12 none)), (149, .v (.int .i64 i13)), (150, .v (.int .i64 i14)), (151, .v (.bool b15))] [⟨false, true, 3, l0⟩, ⟨false, true, 1, l1⟩])
def X_halve_Split_6_5 (Q : Qx) : Ls → Ls → Ls → Ls → Ls → Int → Int → Int → Nat → Nat → Nat → Nat → Int → Int → Bool → Prop := (fun l0 l1 l2 l3 l4 i5 i6 i11 n12 n13 n14 n15 i16 i17 b18 => Q (.exit 4) [(4, .box (.agg [(.data l3), (.data l4)])), (8, .box (.agg [.nils, .nils])), (9, .box (.agg [(.int .i64 i5), (.int .i64 i6)])), (10, .v (.own 2 0 (List.length l2) (List.length l2) none)), (11, .v (.own 1 0 (List.length l1) (List.length l1) none)), (18, .v (.int .i64 i11)), (21, .v (.own 0 0 n12 n13 none)), (148, .v (.own 0 0 n14 n15 none)), (149, .v (.int .i64 i16)), (150, .v (.int .i64 i17)), (151, .v (.bool b18))] [⟨false, true, 3, l0⟩, ⟨false, true, 1, l1⟩, ⟨false, true, 1, l2⟩])
def X_halve_Split_9_0 (Q : Qx) : Int → Int → Int → Int → Bool → Prop := (fun i0 i1 i2 i3 b4 => Q (.exit 2) [(0, .v .nils), (1, .v (.int .i64 i0)), (2, .v (.int .i64 i1)), (6, .v (.int .i64 i2)), (7, .v (.int .i64 i3)), (30, .v (.bool b4))] [])
def X_halve_Split_9_1 (Q : Qx) : Ls → Int → Int → Int → Int → Bool → Prop := (fun l0 i1 i2 i3 i4 b5 => Q (.exit 2) [(0, .v .nils), (1, .v (.int .i64 i1)), (2, .v (.int .i64 i2)), (6, .v (.int .i64 i3)), (7, .v (.int .i64 i4)), (30, .v (.bool b5))] [⟨false, true, 3, l0⟩])
def X_halve_Split_9_2 (Q : Qx) : Ls → Ls → Nat → Nat → Int → Int → Int → Int → Bool → Prop := (fun l0 l1 n2 n3 i4 i5 i6 i7 b8 => Q (.exit 2) [(0, .v (.own 1 0 n2 n3 none)), (1, .v (.int .i64 i4)), (2, .v (.int .i64 i5)), (6, .v (.int .i64 i6)), (7, .v (.int .i64 i7)), (30, .v (.bool b8))] [⟨false, true, 3, l0⟩, ⟨false, true, 1, l1⟩])
def X_halve_Split_9_3 (Q : Qx) : Ls → Ls → Int → Int → Int → Int → Bool → Prop := (fun l0 l1 i2 i3 i4 i5 b6 => Q (.exit 2) [(0, .v .nils), (1, .v (.int .i64 i2)), (2, .v (.int .i64 i3)), (6, .v (.int .i64 i4)), (7, .v (.int .i64 i5)), (30, .v (.bool b6))] [⟨false, true, 3, l0⟩, ⟨false, true, 1, l1⟩])
def X_halve_Split_9_4 (Q : Qx) : Ls → Ls → Ls → Nat → Nat → Int → Int → Int → Int → Bool → Prop := (fun l0 l1 l2 n3 n4 i5 i6 i7 i8 b9 => Q (.exit 2) [(0, .v (.own 1 0 n3 n4 none)), (1, .v (.int .i64 i5)), (2, .v (.int .i64 i6)), (6, .v (.int .i64 i7)), (7, .v (.int .i64 i8)), (30, .v (.bool b9))] [⟨false, true, 3, l0⟩, ⟨false, true, 1, l1⟩, ⟨false, true, 1, l2⟩])
def X_halve_Split_9_5 (Q : Qx) : Ls → Ls → Ls → Nat → Nat → Int → Int → Int → Int → Bool → Prop := (fun l0 l1 l2 n3 n4 i5 i6 i7 i8 b9 => Q (.exit 2) [(0, .v (.own 2 0 n3 n4 none)), (1, .v (.int .i64 i5)), (2, .v (.int .i64 i6)), (6, .v (.int .i64 i7)), (7, .v (.int .i64 i8)), (30, .v (.bool b9))] [⟨false, true, 3, l0⟩, ⟨false, true, 1, l1⟩, ⟨false, true, 1, l2⟩])
def X_halve_Split_3_0 (Q : Qx) : Int → Int → Int → Bool → Prop := (fun i0 i1 i2 b3 => Q (.exit 0) [(0, .v .nils), (1, .v (.int .i64 i0)), (2, .v (.int .i64 i1)), (3, .v (.fn (.func n_halve_Split_1) [] [])), (8, .v (.int .i64 i2)), (14, .v (.bool b3))] [])
def X_halve_Split_3_1 (Q : Qx) : Ls → Int → Int → Int → Bool → Prop := (fun l0 i3 i4 i5 b6 => Q (.exit 0) [(0, .v (.own 0 0 (List.length l0) (List.length l0) none)), (1, .v (.int .i64 i3)), (2, .v (.int .i64 i4)), (3, .v (.fn (.func n_halve_Split_1) [] [])), (8, .v (.int .i64 i5)), (14, .v (.bool b6))] [⟨false, true, 3, l0⟩])
def X_halve_Split_8_0 (Q : Qx) : Int → Int → Int → Bool → Prop := (fun i0 i1 i2 b3 => Q (.exit 0) [(0, .v .nils), (1, .v (.int .i64 i0)), (2, .v (.int .i64 i1)), (6, .v (.int .i64 i2)), (12, .v (.bool b3))] [])
def X_halve_Split_8_1 (Q : Qx) : Ls → Int → Int → Int → Bool → Prop := (fun l0 i1 i2 i3 b4 => Q (.exit 0) [(0, .v .nils), (1, .v (.int .i64 i1)), (2, .v (.int .i64 i2)), (6, .v (.int .i64 i3)), (12, .v (.bool b4))] [⟨false, true, 3, l0⟩])
def X_halve_Split_8_2 (Q : Qx) : Ls → Ls → Nat → Nat → Int → Int → Int → Bool → Prop := (fun l0 l1 n2 n3 i4 i5 i6 b7 => Q (.exit 0) [(0, .v (.own 1 0 n2 n3 none)), (1, .v (.int .i64 i4)), (2, .v (.int .i64 i5)), (6, .v (.int .i64 i6)), (12, .v (.bool b7))] [⟨false, true, 3, l0⟩, ⟨false, true, 1, l1⟩])
def X_halve_Split_8_3 (Q : Qx) : Ls → Ls → Int → Int → Int → Bool → Prop := (fun l0 l1 i2 i3 i4 b5 => Q (.exit 0) [(0, .v .nils), (1, .v (.int .i64 i2)), (2, .v (.int .i64 i3)), (6, .v (.int .i64 i4)), (12, .v (.bool b5))] [⟨false, true, 3, l0⟩, ⟨false, true, 1, l1⟩])
def X_halve_Split_8_4 (Q : Qx) : Ls → Ls → Ls → Nat → Nat → Int → Int → Int → Bool → Prop := (fun l0 l1 l2 n3 n4 i5 i6 i7 b8 => Q (.exit 0) [(0, .v (.own 1 0 n3 n4 none)), (1, .v (.int .i64 i5)), (2, .v (.int .i64 i6)), (6, .v (.int .i64 i7)), (12, .v (.bool b8))] [⟨false, true, 3, l0⟩, ⟨false, true, 1, l1⟩, ⟨false, true, 1, l2⟩])
def X_halve_Split_8_5 (Q : Qx) : Ls → Ls → Ls → Nat → Nat → Int → Int → Int → Bool → Prop := (fun l0 l1 l2 n3 n4 i5 i6 i7 b8 => Q (.exit 0) [(0, .v (.own 2 0 n3 n4 none)), (1, .v (.int .i64 i5)), (2, .v (.int .i64 i6)), (6, .v (.int .i64 i7)), (12, .v (.bool b8))] [⟨false, true, 3, l0⟩, ⟨false, true, 1, l1⟩, ⟨false, true, 1, l2⟩])
def X_halve_Split_7_0 (Q : Qx) : Prop := Q .ret [] []
def X_halve_Split_7_1 (Q : Qx) : Ls → Prop := (fun l0 => Q .ret [] [⟨false, true, 3, l0⟩])
def X_halve_Split_7_2 (Q : Qx) : Ls → Ls → Prop := (fun l0 l1 => Q .ret [] [⟨false, true, 3, l0⟩, ⟨false, true, 1, l1⟩])
def X_halve_Split_7_3 (Q : Qx) : Ls → Ls → Ls → Prop := (fun l0 l1 l2 => Q .ret [] [⟨false, true, 3, l0⟩, ⟨false, true, 1, l1⟩, ⟨false, true, 1, l2⟩])
def pt25 : VPt := vA (lC vNs (lC vNs lN))
def St_halve_Split_0 (a0 : T_ask_Check) (a1 : T_ratio_Cmp) (a2 : T_cake_whole) (a3 : T_ratio_check) (a4 : T_ratio_Make) (a5 : T_halve_mark) (a6 : T_ratio_size) (a7 : T_halve_Split_1) (a8 : T_cmp_Less_int) (Q : Qx) : List St := [⟨(pS hN (fV 1 vD (fX 4 pt16 (fX 6 pt6 (fX 7 pt6 (fX 8 pt25 (fX 9 pt6 (fV 10 vNs (fV 11 vNs (fV 14 vB (fV 15 pt0 fN)))))))))) fN), L_halve_Split_0_0 a0 a1 a2 a3 a4 a5 a6 a7 a8 (X_halve_Split_0_0 Q)⟩]
def pt26 : Pat Frm := fV 118 vD (fV 119 pt0 (fV 120 pt0 fN))
def St_halve_Split_1 (a0 : T_ask_Check) (a1 : T_ratio_Cmp) (a2 : T_cake_whole) (a3 : T_ratio_check) (a4 : T_ratio_Make) (a5 : T_halve_mark) (a6 : T_ratio_size) (a7 : T_halve_Split_1) (a8 : T_cmp_Less_int) (Q : Qx) : List St := [⟨(pS hN (fX 4 pt16 (fX 6 pt6 (fX 7 pt6 (fX 8 pt25 (fX 9 pt6 (fV 10 vNs (fV 11 vNs (fV 18 pt0 (fX 19 pt6 (fV 21 vNs pt26)))))))))) fN), L_halve_Split_1_0 a0 a1 a2 a3 a4 a5 a6 a7 a8 (X_halve_Split_1_0 Q) (X_halve_Split_1_1 Q) (X_halve_Split_1_2 Q) (X_halve_Split_1_3 Q)⟩, ⟨(pS pt17 (fX 4 pt16 (fX 6 pt6 (fX 7 pt6 (fX 8 pt25 (fX 9 pt6 (fV 10 vNs (fV 11 vNs (fV 18 pt0 (fX 19 pt6 (fV 21 pt18 pt26)))))))))) fN), L_halve_Split_1_1 a0 a1 a2 a3 a4 a5 a6 a7 a8 (X_halve_Split_1_2 Q) (X_halve_Split_1_3 Q)⟩]
def pt27 : VPt := vF n_halve_Split_1 lN lN
def pt28 : Pat Frm := fV 1 pt0 (fV 2 pt27 (fV 6 pt0 (fV 7 pt0 (fV 8 pt0 fN))))
def St_halve_Split_2 (a0 : T_ask_Check) (a1 : T_ratio_Cmp) (a2 : T_cake_whole) (a3 : T_ratio_check) (a4 : T_ratio_Make) (a5 : T_halve_mark) (a6 : T_ratio_size) (a7 : T_halve_Split_1) (a8 : T_cmp_Less_int) (Q : Qx) : List St := [⟨(pS hN (fV 0 vNs pt28) fN), L_halve_Split_2_0 a0 a1 a2 a3 a4 a5 a6 a7 a8 (X_halve_Split_2_0 Q)⟩, ⟨(pS pt17 (fV 0 pt18 pt28) fN), L_halve_Split_2_1 a0 a1 a2 a3 a4 a5 a6 a7 a8 (X_halve_Split_2_1 Q)⟩]
def pt29 : Pat Frm := fV 1 pt0 (fV 2 pt0 (fV 3 pt27 (fV 8 pt0 (fV 9 pt0 fN))))
def St_halve_Split_4 (a0 : T_ask_Check) (a1 : T_ratio_Cmp) (a2 : T_cake_whole) (a3 : T_ratio_check) (a4 : T_ratio_Make) (a5 : T_halve_mark) (a6 : T_ratio_size) (a7 : T_halve_Split_1) (a8 : T_cmp_Less_int) (Q : Qx) : List St := [⟨(pS hN (fV 0 vNs pt29) fN), L_halve_Split_4_0 a0 a1 a2 a3 a4 a5 a6 a7 a8 (X_halve_Split_4_0 Q)⟩, ⟨(pS pt17 (fV 0 pt18 pt29) fN), L_halve_Split_4_1 a0 a1 a2 a3 a4 a5 a6 a7 a8 (X_halve_Split_4_1 Q)⟩]
def pt30 : Pat Frm := fV 1 pt0 (fV 2 pt27 (fV 6 pt0 fN))
def pt31 : VPt := vW 0 (nK 0) nV nV
def St_halve_Split_5 (a0 : T_ask_Check) (a1 : T_ratio_Cmp) (a2 : T_cake_whole) (a3 : T_ratio_check) (a4 : T_ratio_Make) (a5 : T_halve_mark) (a6 : T_ratio_size) (a7 : T_halve_Split_1) (a8 : T_cmp_Less_int) (Q : Qx) : List St := [⟨(pS hN (fV 0 vNs pt30) fN), L_halve_Split_5_0 a0 a1 a2 a3 a4 a5 a6 a7 a8 (X_halve_Split_5_0 Q)⟩, ⟨(pS pt17 (fV 0 pt31 pt30) fN), L_halve_Split_5_1 a0 a1 a2 a3 a4 a5 a6 a7 a8 (X_halve_Split_5_1 Q)⟩]
def pt32 : Pat Frm := fV 149 pt0 (fV 150 pt0 fN)
def pt33 : Pat Frm := fV 18 pt0 (fV 21 pt31 (fV 148 pt31 pt32))
def pt34 : HPt := hB false true 3 rA pt20
def pt35 : HPt := hB false true 3 rA (hB false true 1 rA pt20)
def pt36 : VPt := vW 2 (nK 0) (nT 2) (nT 2)
def St_halve_Split_6 (a0 : T_ask_Check) (a1 : T_ratio_Cmp) (a2 : T_cake_whole) (a3 : T_ratio_check) (a4 : T_ratio_Make) (a5 : T_halve_mark) (a6 : T_ratio_size) (a7 : T_halve_Split_1) (a8 : T_cmp_Less_int) (Q : Qx) : List St := [⟨(pS hN (fX 4 pt16 (fX 8 pt25 (fX 9 pt6 (fV 10 vNs (fV 11 vNs (fV 18 pt0 (fV 21 vNs (fV 148 vNs pt32)))))))) fN), L_halve_Split_6_0 a0 a1 a2 a3 a4 a5 a6 a7 a8 (X_halve_Split_6_0 Q)⟩, ⟨(pS pt17 (fX 4 pt16 (fX 8 pt25 (fX 9 pt6 (fV 10 vNs (fV 11 vNs pt33))))) fN), L_halve_Split_6_1 a0 a1 a2 a3 a4 a5 a6 a7 a8 (X_halve_Split_6_1 Q) (X_halve_Split_6_2 Q) (X_halve_Split_6_3 Q) (X_halve_Split_6_4 Q) (X_halve_Split_6_5 Q)⟩, ⟨(pS pt34 (fX 4 pt16 (fX 8 pt25 (fX 9 pt6 (fV 10 pt23 (fV 11 vNs pt33))))) fN), L_halve_Split_6_2 a0 a1 a2 a3 a4 a5 a6 a7 a8 (X_halve_Split_6_2 Q) (X_halve_Split_6_3 Q)⟩, ⟨(pS pt35 (fX 4 pt16 (fX 8 pt25 (fX 9 pt6 (fV 10 pt23 (fV 11 pt36 pt33))))) fN), L_halve_Split_6_3 a0 a1 a2 a3 a4 a5 a6 a7 a8 (X_halve_Split_6_3 Q)⟩, ⟨(pS pt34 (fX 4 pt16 (fX 8 pt25 (fX 9 pt6 (fV 10 vNs (fV 11 pt23 pt33))))) fN), L_halve_Split_6_4 a0 a1 a2 a3 a4 a5 a6 a7 a8 (X_halve_Split_6_4 Q) (X_halve_Split_6_5 Q)⟩, ⟨(pS pt35 (fX 4 pt16 (fX 8 pt25 (fX 9 pt6 (fV 10 pt36 (fV 11 pt23 pt33))))) fN), L_halve_Split_6_5 a0 a1 a2 a3 a4 a5 a6 a7 a8 (X_halve_Split_6_5 Q)⟩]
def pt37 : Pat Frm := fV 1 pt0 (fV 2 pt0 (fV 6 pt0 (fV 7 pt0 fN)))
def pt38 : VPt := vW 1 (nK 0) nV nV
def pt39 : VPt := vW 2 (nK 0) nV nV
def St_halve_Split_9 (a0 : T_ask_Check) (a1 : T_ratio_Cmp) (a2 : T_cake_whole) (a3 : T_ratio_check) (a4 : T_ratio_Make) (a5 : T_halve_mark) (a6 : T_ratio_size) (a7 : T_halve_Split_1) (a8 : T_cmp_Less_int) (Q : Qx) : List St := [⟨(pS hN (fV 0 vNs pt37) fN), L_halve_Split_9_0 a0 a1 a2 a3 a4 a5 a6 a7 a8 (X_halve_Split_9_0 Q)⟩, ⟨(pS pt17 (fV 0 vNs pt37) fN), L_halve_Split_9_1 a0 a1 a2 a3 a4 a5 a6 a7 a8 (X_halve_Split_9_1 Q)⟩, ⟨(pS pt34 (fV 0 pt38 pt37) fN), L_halve_Split_9_2 a0 a1 a2 a3 a4 a5 a6 a7 a8 (X_halve_Split_9_2 Q)⟩, ⟨(pS pt34 (fV 0 vNs pt37) fN), L_halve_Split_9_3 a0 a1 a2 a3 a4 a5 a6 a7 a8 (X_halve_Split_9_3 Q)⟩, ⟨(pS pt35 (fV 0 pt38 pt37) fN), L_halve_Split_9_4 a0 a1 a2 a3 a4 a5 a6 a7 a8 (X_halve_Split_9_4 Q)⟩, ⟨(pS pt35 (fV 0 pt39 pt37) fN), L_halve_Split_9_5 a0 a1 a2 a3 a4 a5 a6 a7 a8 (X_halve_Split_9_5 Q)⟩]
def pt40 : Pat Frm := fV 1 pt0 (fV 2 pt0 (fV 3 pt27 (fV 8 pt0 fN)))
def St_halve_Split_3 (a0 : T_ask_Check) (a1 : T_ratio_Cmp) (a2 : T_cake_whole) (a3 : T_ratio_check) (a4 : T_ratio_Make) (a5 : T_halve_mark) (a6 : T_ratio_size) (a7 : T_halve_Split_1) (a8 : T_cmp_Less_int) (Q : Qx) : List St := [⟨(pS hN (fV 0 vNs pt40) fN), L_halve_Split_3_0 a0 a1 a2 a3 a4 a5 a6 a7 a8 (X_halve_Split_3_0 Q)⟩, ⟨(pS pt17 (fV 0 pt18 pt40) fN), L_halve_Split_3_1 a0 a1 a2 a3 a4 a5 a6 a7 a8 (X_halve_Split_3_1 Q)⟩]
def pt41 : Pat Frm := fV 1 pt0 (fV 2 pt0 (fV 6 pt0 fN))
def St_halve_Split_8 (a0 : T_ask_Check) (a1 : T_ratio_Cmp) (a2 : T_cake_whole) (a3 : T_ratio_check) (a4 : T_ratio_Make) (a5 : T_halve_mark) (a6 : T_ratio_size) (a7 : T_halve_Split_1) (a8 : T_cmp_Less_int) (Q : Qx) : List St := [⟨(pS hN (fV 0 vNs pt41) fN), L_halve_Split_8_0 a0 a1 a2 a3 a4 a5 a6 a7 a8 (X_halve_Split_8_0 Q)⟩, ⟨(pS pt17 (fV 0 vNs pt41) fN), L_halve_Split_8_1 a0 a1 a2 a3 a4 a5 a6 a7 a8 (X_halve_Split_8_1 Q)⟩, ⟨(pS pt34 (fV 0 pt38 pt41) fN), L_halve_Split_8_2 a0 a1 a2 a3 a4 a5 a6 a7 a8 (X_halve_Split_8_2 Q)⟩, ⟨(pS pt34 (fV 0 vNs pt41) fN), L_halve_Split_8_3 a0 a1 a2 a3 a4 a5 a6 a7 a8 (X_halve_Split_8_3 Q)⟩, ⟨(pS pt35 (fV 0 pt38 pt41) fN), L_halve_Split_8_4 a0 a1 a2 a3 a4 a5 a6 a7 a8 (X_halve_Split_8_4 Q)⟩, ⟨(pS pt35 (fV 0 pt39 pt41) fN), L_halve_Split_8_5 a0 a1 a2 a3 a4 a5 a6 a7 a8 (X_halve_Split_8_5 Q)⟩]
def pt42 : Pat Frm := fV 1 pt0 (fV 2 pt0 (fV 3 pt0 (fV 8 vB (fV 9 vB fN))))
def St_halve_Split_7 (a0 : T_ask_Check) (a1 : T_ratio_Cmp) (a2 : T_cake_whole) (a3 : T_ratio_check) (a4 : T_ratio_Make) (a5 : T_halve_mark) (a6 : T_ratio_size) (a7 : T_halve_Split_1) (a8 : T_cmp_Less_int) (Q : Qx) : List St := [⟨(pS hN (fV 0 vNs pt42) fN), L_halve_Split_7_0 a0 a1 a2 a3 a4 a5 a6 a7 a8 (X_halve_Split_7_0 Q)⟩, ⟨(pS pt17 (fV 0 vNs pt42) fN), L_halve_Split_7_1 a0 a1 a2 a3 a4 a5 a6 a7 a8 (X_halve_Split_7_1 Q)⟩, ⟨(pS pt34 (fV 0 pt38 pt42) fN), L_halve_Split_7_2 a0 a1 a2 a3 a4 a5 a6 a7 a8 (X_halve_Split_7_2 Q)⟩, ⟨(pS pt34 (fV 0 vNs pt42) fN), L_halve_Split_7_3 a0 a1 a2 a3 a4 a5 a6 a7 a8 (X_halve_Split_7_2 Q)⟩, ⟨(pS pt35 (fV 0 pt38 pt42) fN), L_halve_Split_7_4 a0 a1 a2 a3 a4 a5 a6 a7 a8 (X_halve_Split_7_3 Q)⟩, ⟨(pS pt35 (fV 0 pt39 pt42) fN), L_halve_Split_7_5 a0 a1 a2 a3 a4 a5 a6 a7 a8 (X_halve_Split_7_3 Q)⟩]
def lp_halve_Split (a0 : T_ask_Check) (a1 : T_ratio_Cmp) (a2 : T_cake_whole) (a3 : T_ratio_check) (a4 : T_ratio_Make) (a5 : T_halve_mark) (a6 : T_ratio_size) (a7 : T_halve_Split_1) (a8 : T_cmp_Less_int) : LP := lpS [(42112300, St_halve_Split_0 a0 a1 a2 a3 a4 a5 a6 a7 a8), (42112301, St_halve_Split_1 a0 a1 a2 a3 a4 a5 a6 a7 a8), (34804800, St_halve_Split_2 a0 a1 a2 a3 a4 a5 a6 a7 a8), (44419400, St_halve_Split_4 a0 a1 a2 a3 a4 a5 a6 a7 a8), (34804802, St_halve_Split_5 a0 a1 a2 a3 a4 a5 a6 a7 a8), (42112302, St_halve_Split_6 a0 a1 a2 a3 a4 a5 a6 a7 a8), (58428500, St_halve_Split_9 a0 a1 a2 a3 a4 a5 a6 a7 a8), (44419401, St_halve_Split_3 a0 a1 a2 a3 a4 a5 a6 a7 a8), (58428501, St_halve_Split_8 a0 a1 a2 a3 a4 a5 a6 a7 a8), (82372100, St_halve_Split_7 a0 a1 a2 a3 a4 a5 a6 a7 a8)]
def S0_halve_Split (e : Es) (a0 : T_ask_Check) (a1 : T_ratio_Cmp) (a2 : T_cake_whole) (a3 : T_ratio_check) (a4 : T_ratio_Make) (a5 : T_halve_mark) (a6 : T_ratio_size) (a7 : T_halve_Split_1) (a8 : T_cmp_Less_int) : SE := ⟨(E e), lookS [(n_ask_Check, sg_ask_Check.pw a0), (n_ratio_Cmp, sg_ratio_Cmp.pw a1), (n_halve_whole, sg_cake_whole.pw a2), (n_halve_order, sg_ratio_check.pw a3), (n_ratio_Make, sg_ratio_Make.pw a4), (n_halve_mark, sg_halve_mark.pw a5), (n_m_Len, sg_m_Len64.pw a6), (n_halve_Split_1, sg_halve_Split_1.pw a7), (n_cmp_Less_int, sg_cmp_Less_int.pw a8)], lookI [(n_s_SortStableFunc_halve_half_halve_half, t_s_SortStableFunc_halve_half_halve_half), (n_s_Sort_int_int, t_s_Sort_int_int)], lp_halve_Split a0 a1 a2 a3 a4 a5 a6 a7 a8, fun _ => none⟩
def S1_halve_Split (e : Es) (a0 : T_ask_Check) (a1 : T_ratio_Cmp) (a2 : T_cake_whole) (a3 : T_ratio_check) (a4 : T_ratio_Make) (a5 : T_halve_mark) (a6 : T_ratio_size) (a7 : T_halve_Split_1) (a8 : T_cmp_Less_int) : SE := ⟨(E e), lookS [(n_ask_Check, sg_ask_Check.pw a0), (n_ratio_Cmp, sg_ratio_Cmp.pw a1), (n_halve_whole, sg_cake_whole.pw a2), (n_halve_order, sg_ratio_check.pw a3), (n_ratio_Make, sg_ratio_Make.pw a4), (n_halve_mark, sg_halve_mark.pw a5), (n_m_Len, sg_m_Len64.pw a6), (n_halve_Split_1, sg_halve_Split_1.pw a7), (n_cmp_Less_int, sg_cmp_Less_int.pw a8)], lookI [(n_s_SortStableFunc_halve_half_halve_half, t_s_SortStableFunc_halve_half_halve_half), (n_slices_stableCmpFunc_halve_half, t_slices_stableCmpFunc_halve_half), (n_slices_insertionSortCmpFunc_halve_half, t_slices_insertionSortCmpFunc_halve_half), (n_s_Sort_int_int, t_s_Sort_int_int), (n_slices_insertionSortOrdered_int, t_slices_insertionSortOrdered_int)], lp_halve_Split a0 a1 a2 a3 a4 a5 a6 a7 a8, fun _ => none⟩
def S2_halve_Split (e : Es) (a0 : T_ask_Check) (a1 : T_ratio_Cmp) (a2 : T_cake_whole) (a3 : T_ratio_check) (a4 : T_ratio_Make) (a5 : T_halve_mark) (a6 : T_ratio_size) (a7 : T_halve_Split_1) (a8 : T_cmp_Less_int) : SE := ⟨(E e), lookS [(n_ask_Check, sg_ask_Check.pw a0), (n_ratio_Cmp, sg_ratio_Cmp.pw a1), (n_halve_whole, sg_cake_whole.pw a2), (n_halve_order, sg_ratio_check.pw a3), (n_ratio_Make, sg_ratio_Make.pw a4), (n_halve_mark, sg_halve_mark.pw a5), (n_m_Len, sg_m_Len64.pw a6), (n_halve_Split_1, sg_halve_Split_1.pw a7), (n_cmp_Less_int, sg_cmp_Less_int.pw a8)], lookI [(n_s_SortStableFunc_halve_half_halve_half, t_s_SortStableFunc_halve_half_halve_half), (n_slices_stableCmpFunc_halve_half, t_slices_stableCmpFunc_halve_half), (n_slices_insertionSortCmpFunc_halve_half, t_slices_insertionSortCmpFunc_halve_half), (n_s_Sort_int_int, t_s_Sort_int_int), (n_slices_pdqsortOrdered_int, t_slices_pdqsortOrdered_int), (n_slices_insertionSortOrdered_int, t_slices_insertionSortOrdered_int)], lp_halve_Split a0 a1 a2 a3 a4 a5 a6 a7 a8, fun _ => none⟩
theorem se0_halve_Split (e : Es) (he : EG e) : SEOk (Uni (E e)) (S0_halve_Split e w_ask_Check w_ratio_Cmp w_halve_whole w_halve_order w_ratio_Make w_halve_mark w_m_Len w_halve_Split_1 w_cmp_Less_int) := seOk_of (Sub.uni _) ⟨(ok_ask_Check e he), (ok_ratio_Cmp e he), (ok_halve_whole e he), (ok_halve_order e he), (ok_ratio_Make e he), (ok_halve_mark e he), (ok_m_Len e he), (ok_halve_Split_1 e he), (ok_cmp_Less_int e he), trivial⟩ ⟨⟨by kernel_rfl, by kernel_rfl, rfl, fun az => baseS_none (by kernel_rfl) az, he.num _ (by kernel_rfl), by kernel_rfl, (LpOk_no (by kernel_rfl))⟩, ⟨by kernel_rfl, by kernel_rfl, rfl, fun az => baseS_none (by kernel_rfl) az, he.num _ (by kernel_rfl), by kernel_rfl, (LpOk_no (by kernel_rfl))⟩, trivial⟩ he.ok
theorem body_halve_Split_0 (e : Es) (a0 a1 a2 a3 a4 a5 a6 a7 a8) : BodOk (S0_halve_Split e a0 a1 a2 a3 a4 a5 a6 a7 a8) 5 yk0 b_42112300 false (St_halve_Split_0 a0 a1 a2 a3 a4 a5 a6 a7 a8) := fun _ => ⟨fun _ => by kernel_rfl, fun _ _ => by kernel_rfl, trivial⟩
theorem loop_halve_Split_0 (e : Es) (he : EG e) : LpT (Uni (E e)) (lp_halve_Split w_ask_Check w_ratio_Cmp w_halve_whole w_halve_order w_ratio_Make w_halve_mark w_m_Len w_halve_Split_1 w_cmp_Less_int) [] 42112300 (.loop 42112300 b_42112300) := fun _ _ _ => LoopT.st (Sub.uni _) (callW_ok (se0_halve_Split e he) 5) (YOk.no _ _) (LpOk_no (by kernel_rfl)) (body_halve_Split_0 e _ _ _ _ _ _ _ _ _ _)
theorem body_halve_Split_1 (e : Es) (a0 a1 a2 a3 a4 a5 a6 a7 a8) : BodOk (S0_halve_Split e a0 a1 a2 a3 a4 a5 a6 a7 a8) 5 yk0 b_42112301 false (St_halve_Split_1 a0 a1 a2 a3 a4 a5 a6 a7 a8) := fun _ => ⟨fun _ => by kernel_rfl, fun _ _ => by kernel_rfl, fun _ => by kernel_rfl, fun _ _ => by kernel_rfl, trivial⟩
theorem loop_halve_Split_1 (e : Es) (he : EG e) : LpT (Uni (E e)) (lp_halve_Split w_ask_Check w_ratio_Cmp w_halve_whole w_halve_order w_ratio_Make w_halve_mark w_m_Len w_halve_Split_1 w_cmp_Less_int) [] 42112301 (.loop 42112301 b_42112301) := fun _ _ _ => LoopT.st (Sub.uni _) (callW_ok (se0_halve_Split e he) 5) (YOk.no _ _) (LpOk_no (by kernel_rfl)) (body_halve_Split_1 e _ _ _ _ _ _ _ _ _ _)
theorem body_halve_Split_2 (e : Es) (a0 a1 a2 a3 a4 a5 a6 a7 a8) : BodOk (S0_halve_Split e a0 a1 a2 a3 a4 a5 a6 a7 a8) 5 yk0 b_34804800 false (St_halve_Split_2 a0 a1 a2 a3 a4 a5 a6 a7 a8) := fun _ => ⟨fun _ => by kernel_rfl, fun _ _ => by kernel_rfl, fun _ => by kernel_rfl, fun _ _ => by kernel_rfl, trivial⟩
theorem loop_halve_Split_2 (e : Es) (he : EG e) : LpT (Uni (E e)) (lp_halve_Split w_ask_Check w_ratio_Cmp w_halve_whole w_halve_order w_ratio_Make w_halve_mark w_m_Len w_halve_Split_1 w_cmp_Less_int) [] 34804800 (.loop 34804800 b_34804800) := fun _ _ _ => LoopT.st (Sub.uni _) (callW_ok (se0_halve_Split e he) 5) (YOk.no _ _) (LpOk_no (by kernel_rfl)) (body_halve_Split_2 e _ _ _ _ _ _ _ _ _ _)
theorem body_halve_Split_4 (e : Es) (a0 a1 a2 a3 a4 a5 a6 a7 a8) : BodOk (S0_halve_Split e a0 a1 a2 a3 a4 a5 a6 a7 a8) 5 yk0 b_44419400 false (St_halve_Split_4 a0 a1 a2 a3 a4 a5 a6 a7 a8) := fun _ => ⟨fun _ => by kernel_rfl, fun _ _ => by kernel_rfl, fun _ => by kernel_rfl, fun _ _ => by kernel_rfl, trivial⟩
theorem loop_halve_Split_4 (e : Es) (he : EG e) : LpT (Uni (E e)) (lp_halve_Split w_ask_Check w_ratio_Cmp w_halve_whole w_halve_order w_ratio_Make w_halve_mark w_m_Len w_halve_Split_1 w_cmp_Less_int) [] 44419400 (.loop 44419400 b_44419400) := fun _ _ _ => LoopT.st (Sub.uni _) (callW_ok (se0_halve_Split e he) 5) (YOk.no _ _) (LpOk_no (by kernel_rfl)) (body_halve_Split_4 e _ _ _ _ _ _ _ _ _ _)
theorem body_halve_Split_5 (e : Es) (a0 a1 a2 a3 a4 a5 a6 a7 a8) : BodOk (S0_halve_Split e a0 a1 a2 a3 a4 a5 a6 a7 a8) 5 yk0 b_34804802 false (St_halve_Split_5 a0 a1 a2 a3 a4 a5 a6 a7 a8) := fun _ => ⟨fun _ => by kernel_rfl, fun _ _ => by kernel_rfl, fun _ => by kernel_rfl, fun _ _ => by kernel_rfl, trivial⟩
theorem loop_halve_Split_5 (e : Es) (he : EG e) : LpT (Uni (E e)) (lp_halve_Split w_ask_Check w_ratio_Cmp w_halve_whole w_halve_order w_ratio_Make w_halve_mark w_m_Len w_halve_Split_1 w_cmp_Less_int) [] 34804802 (.loop 34804802 b_34804802) := fun _ _ _ => LoopT.st (Sub.uni _) (callW_ok (se0_halve_Split e he) 5) (YOk.no _ _) (LpOk_no (by kernel_rfl)) (body_halve_Split_5 e _ _ _ _ _ _ _ _ _ _)
theorem body_halve_Split_6 (e : Es) (a0 a1 a2 a3 a4 a5 a6 a7 a8) : BodOk (S0_halve_Split e a0 a1 a2 a3 a4 a5 a6 a7 a8) 5 yk0 b_42112302 false (St_halve_Split_6 a0 a1 a2 a3 a4 a5 a6 a7 a8) := fun _ => ⟨fun _ => by kernel_rfl, fun _ _ => by kernel_rfl, fun _ => by kernel_rfl, fun _ _ => by kernel_rfl, fun _ => by kernel_rfl, fun _ _ => by kernel_rfl, fun _ => by kernel_rfl, fun _ _ => by kernel_rfl, fun _ => by kernel_rfl, fun _ _ => by kernel_rfl, fun _ => by kernel_rfl, fun _ _ => by kernel_rfl, trivial⟩
theorem loop_halve_Split_6 (e : Es) (he : EG e) : LpT (Uni (E e)) (lp_halve_Split w_ask_Check w_ratio_Cmp w_halve_whole w_halve_order w_ratio_Make w_halve_mark w_m_Len w_halve_Split_1 w_cmp_Less_int) [] 42112302 (.loop 42112302 b_42112302) := fun _ _ _ => LoopT.st (Sub.uni _) (callW_ok (se0_halve_Split e he) 5) (YOk.no _ _) (LpOk_no (by kernel_rfl)) (body_halve_Split_6 e _ _ _ _ _ _ _ _ _ _)
theorem body_halve_Split_9 (e : Es) (a0 a1 a2 a3 a4 a5 a6 a7 a8) : BodOk (S0_halve_Split e a0 a1 a2 a3 a4 a5 a6 a7 a8) 5 yk0 b_58428500 false (St_halve_Split_9 a0 a1 a2 a3 a4 a5 a6 a7 a8) := fun _ => ⟨fun _ => by kernel_rfl, fun _ _ => by kernel_rfl, fun _ => by kernel_rfl, fun _ _ => by kernel_rfl, fun _ => by kernel_rfl, fun _ _ => by kernel_rfl, fun _ => by kernel_rfl, fun _ _ => by kernel_rfl, fun _ => by kernel_rfl, fun _ _ => by kernel_rfl, fun _ => by kernel_rfl, fun _ _ => by kernel_rfl, trivial⟩
theorem loop_halve_Split_9 (e : Es) (he : EG e) : LpT (Uni (E e)) (lp_halve_Split w_ask_Check w_ratio_Cmp w_halve_whole w_halve_order w_ratio_Make w_halve_mark w_m_Len w_halve_Split_1 w_cmp_Less_int) [] 58428500 (.loop 58428500 b_58428500) := fun _ _ _ => LoopT.st (Sub.uni _) (callW_ok (se0_halve_Split e he) 5) (YOk.no _ _) (LpOk_no (by kernel_rfl)) (body_halve_Split_9 e _ _ _ _ _ _ _ _ _ _)
theorem body_halve_Split_3 (e : Es) (a0 a1 a2 a3 a4 a5 a6 a7 a8) : BodOk (S0_halve_Split e a0 a1 a2 a3 a4 a5 a6 a7 a8) 5 yk0 b_44419401 false (St_halve_Split_3 a0 a1 a2 a3 a4 a5 a6 a7 a8) := fun _ => ⟨fun _ => by kernel_rfl, fun _ _ => by kernel_rfl, fun _ => by kernel_rfl, fun _ _ => by kernel_rfl, trivial⟩
theorem loop_halve_Split_3 (e : Es) (he : EG e) : LpT (Uni (E e)) (lp_halve_Split w_ask_Check w_ratio_Cmp w_halve_whole w_halve_order w_ratio_Make w_halve_mark w_m_Len w_halve_Split_1 w_cmp_Less_int) [] 44419401 (.loop 44419401 b_44419401) := fun _ _ _ => LoopT.st (Sub.uni _) (callW_ok (se0_halve_Split e he) 5) (YOk.no _ _) (LpOk_by (l := [(44419400, .loop 44419400 b_44419400)]) ⟨loop_halve_Split_4 e he, trivial⟩ (by kernel_rfl)) (body_halve_Split_3 e _ _ _ _ _ _ _ _ _ _)
theorem body_halve_Split_8 (e : Es) (a0 a1 a2 a3 a4 a5 a6 a7 a8) : BodOk (S0_halve_Split e a0 a1 a2 a3 a4 a5 a6 a7 a8) 5 yk0 b_58428501 false (St_halve_Split_8 a0 a1 a2 a3 a4 a5 a6 a7 a8) := fun _ => ⟨fun _ => by kernel_rfl, fun _ _ => by kernel_rfl, fun _ => by kernel_rfl, fun _ _ => by kernel_rfl, fun _ => by kernel_rfl, fun _ _ => by kernel_rfl, fun _ => by kernel_rfl, fun _ _ => by kernel_rfl, fun _ => by kernel_rfl, fun _ _ => by kernel_rfl, fun _ => by kernel_rfl, fun _ _ => by kernel_rfl, trivial⟩
theorem loop_halve_Split_8 (e : Es) (he : EG e) : LpT (Uni (E e)) (lp_halve_Split w_ask_Check w_ratio_Cmp w_halve_whole w_halve_order w_ratio_Make w_halve_mark w_m_Len w_halve_Split_1 w_cmp_Less_int) [] 58428501 (.loop 58428501 b_58428501) := fun _ _ _ => LoopT.st (Sub.uni _) (callW_ok (se0_halve_Split e he) 5) (YOk.no _ _) (LpOk_by (l := [(58428500, .loop 58428500 b_58428500)]) ⟨loop_halve_Split_9 e he, trivial⟩ (by kernel_rfl)) (body_halve_Split_8 e _ _ _ _ _ _ _ _ _ _)
theorem se1_halve_Split (e : Es) (he : EG e) : SEOk (Uni (E e)) (S1_halve_Split e w_ask_Check w_ratio_Cmp w_halve_whole w_halve_order w_ratio_Make w_halve_mark w_m_Len w_halve_Split_1 w_cmp_Less_int) := seOk_of (Sub.uni _) ⟨(ok_ask_Check e he), (ok_ratio_Cmp e he), (ok_halve_whole e he), (ok_halve_order e he), (ok_ratio_Make e he), (ok_halve_mark e he), (ok_m_Len e he), (ok_halve_Split_1 e he), (ok_cmp_Less_int e he), trivial⟩ ⟨⟨by kernel_rfl, by kernel_rfl, rfl, fun az => baseS_none (by kernel_rfl) az, he.num _ (by kernel_rfl), by kernel_rfl, (LpOk_no (by kernel_rfl))⟩, ⟨by kernel_rfl, by kernel_rfl, rfl, fun az => baseS_none (by kernel_rfl) az, he.num _ (by kernel_rfl), by kernel_rfl, (LpOk_by (l := [(34804800, .loop 34804800 b_34804800), (34804802, .loop 34804802 b_34804802)]) ⟨loop_halve_Split_2 e he, loop_halve_Split_5 e he, trivial⟩ (by kernel_rfl))⟩, ⟨by kernel_rfl, by kernel_rfl, rfl, fun az => baseS_none (by kernel_rfl) az, he.num _ (by kernel_rfl), by kernel_rfl, (LpOk_by (l := [(44419400, .loop 44419400 b_44419400), (44419401, .loop 44419401 b_44419401)]) ⟨loop_halve_Split_4 e he, loop_halve_Split_3 e he, trivial⟩ (by kernel_rfl))⟩, ⟨by kernel_rfl, by kernel_rfl, rfl, fun az => baseS_none (by kernel_rfl) az, he.num _ (by kernel_rfl), by kernel_rfl, (LpOk_no (by kernel_rfl))⟩, ⟨by kernel_rfl, by kernel_rfl, rfl, fun az => baseS_none (by kernel_rfl) az, he.num _ (by kernel_rfl), by kernel_rfl, (LpOk_by (l := [(58428500, .loop 58428500 b_58428500), (58428501, .loop 58428501 b_58428501)]) ⟨loop_halve_Split_9 e he, loop_halve_Split_8 e he, trivial⟩ (by kernel_rfl))⟩, trivial⟩ he.ok
theorem body_halve_Split_7 (e : Es) (a0 a1 a2 a3 a4 a5 a6 a7 a8) : BodOk (S1_halve_Split e a0 a1 a2 a3 a4 a5 a6 a7 a8) 5 yk0 b_82372100 false (St_halve_Split_7 a0 a1 a2 a3 a4 a5 a6 a7 a8) := fun _ => ⟨fun _ => by kernel_rfl, fun _ _ => by kernel_rfl, fun _ => by kernel_rfl, fun _ _ => by kernel_rfl, fun _ => by kernel_rfl, fun _ _ => by kernel_rfl, fun _ => by kernel_rfl, fun _ _ => by kernel_rfl, fun _ => by kernel_rfl, fun _ _ => by kernel_rfl, fun _ => by kernel_rfl, fun _ _ => by kernel_rfl, trivial⟩
theorem loop_halve_Split_7 (e : Es) (he : EG e) : LpT (Uni (E e)) (lp_halve_Split w_ask_Check w_ratio_Cmp w_halve_whole w_halve_order w_ratio_Make w_halve_mark w_m_Len w_halve_Split_1 w_cmp_Less_int) [] 82372100 (.loop 82372100 b_82372100) := fun _ _ _ => LoopT.st (Sub.uni _) (callW_ok (se1_halve_Split e he) 5) (YOk.no _ _) (LpOk_no (by kernel_rfl)) (body_halve_Split_7 e _ _ _ _ _ _ _ _ _ _)
theorem se2_halve_Split (e : Es) (he : EG e) : SEOk (Uni (E e)) (S2_halve_Split e w_ask_Check w_ratio_Cmp w_halve_whole w_halve_order w_ratio_Make w_halve_mark w_m_Len w_halve_Split_1 w_cmp_Less_int) := seOk_of (Sub.uni _) ⟨(ok_ask_Check e he), (ok_ratio_Cmp e he), (ok_halve_whole e he), (ok_halve_order e he), (ok_ratio_Make e he), (ok_halve_mark e he), (ok_m_Len e he), (ok_halve_Split_1 e he), (ok_cmp_Less_int e he), trivial⟩ ⟨⟨by kernel_rfl, by kernel_rfl, rfl, fun az => baseS_none (by kernel_rfl) az, he.num _ (by kernel_rfl), by kernel_rfl, (LpOk_no (by kernel_rfl))⟩, ⟨by kernel_rfl, by kernel_rfl, rfl, fun az => baseS_none (by kernel_rfl) az, he.num _ (by kernel_rfl), by kernel_rfl, (LpOk_by (l := [(34804800, .loop 34804800 b_34804800), (34804802, .loop 34804802 b_34804802)]) ⟨loop_halve_Split_2 e he, loop_halve_Split_5 e he, trivial⟩ (by kernel_rfl))⟩, ⟨by kernel_rfl, by kernel_rfl, rfl, fun az => baseS_none (by kernel_rfl) az, he.num _ (by kernel_rfl), by kernel_rfl, (LpOk_by (l := [(44419400, .loop 44419400 b_44419400), (44419401, .loop 44419401 b_44419401)]) ⟨loop_halve_Split_4 e he, loop_halve_Split_3 e he, trivial⟩ (by kernel_rfl))⟩, ⟨by kernel_rfl, by kernel_rfl, rfl, fun az => baseS_none (by kernel_rfl) az, he.num _ (by kernel_rfl), by kernel_rfl, (LpOk_no (by kernel_rfl))⟩, ⟨by kernel_rfl, by kernel_rfl, rfl, fun az => baseS_none (by kernel_rfl) az, he.num _ (by kernel_rfl), by kernel_rfl, (LpOk_by (l := [(82372100, .loop 82372100 b_82372100)]) ⟨loop_halve_Split_7 e he, trivial⟩ (by kernel_rfl))⟩, ⟨by kernel_rfl, by kernel_rfl, rfl, fun az => baseS_none (by kernel_rfl) az, he.num _ (by kernel_rfl), by kernel_rfl, (LpOk_by (l := [(58428500, .loop 58428500 b_58428500), (58428501, .loop 58428501 b_58428501)]) ⟨loop_halve_Split_9 e he, loop_halve_Split_8 e he, trivial⟩ (by kernel_rfl))⟩, trivial⟩ he.ok
theorem eq_halve_Split (e : Es) (a0 a1 a2 a3 a4 a5 a6 a7 a8) : EqW (S2_halve_Split e a0 a1 a2 a3 a4 a5 a6 a7 a8) 6 t_halve_Split sg_halve_Split (wv_halve_Split a0 a1 a2 a3 a4 a5 a6 a7 a8) := fun _ _ => by kernel_rfl
theorem ok_halve_Split (e : Es) (he : EG e) : OkF (E e) (sg_halve_Split.pw w_halve_Split) n_halve_Split := okU he (eq_halve_Split e _ _ _ _ _ _ _ _ _) (se2_halve_Split e he) RngOk.flat (LpOk_by (l := [(42112300, .loop 42112300 b_42112300), (42112301, .loop 42112301 b_42112301), (42112302, .loop 42112302 b_42112302)]) ⟨loop_halve_Split_0 e he, loop_halve_Split_1 e he, loop_halve_Split_6 e he, trivial⟩ (by kernel_rfl))
def L_halve_Run_0_1 (a0 : T_ask_Open) (a1 : T_cake_whole) (a2 : T_halve_Split) (x682800_1 : Ls → Ls → Ls → Ls → Int → Int → Int → Int → Int → Int → Bool → Prop) : Nat → Ls → Ls → Ls → Ls → Int → Int → Int → Int → Int → Int → Prop
 | 0, _, _, _, _, _, _, _, _, _, _ => False
 | n682800 + 1, l0, l1, l2, l3, i6, i7, i8, i9, i10, i11 =>
 (cbr (decide (i11 < i10))
 (asr (decide ((List.length l0) = (List.length l0)))
 (asr (decide ((0 + (List.length l0)) ≤ (List.length l0)))
 (asr (!(decide (((0 + (List.length l0)) + 1) ≤ (List.length l0))))
 (asr (decide ((List.length l0) = (List.length l0)))
 (asr (decide ((((List.length l0) + 1) + 64) * (8 + 1) ≤ room))
 (lt (IntKind.i64.wrap (i11 + (1 : Int))) (fun yi17 =>
 (asr (decide ((List.length (l0 ++ ([(.int .i64 i11)] : Ls))) = List.length (l0 ++ ([(.int .i64 i11)] : Ls))) && decide ((List.length (l0 ++ ([(.int .i64 i11)] : Ls))) = List.length (l0 ++ ([(.int .i64 i11)] : Ls))))
 (L_halve_Run_0_1 a0 a1 a2 x682800_1 n682800 (l0 ++ ([(.int .i64 i11)] : Ls)) l1 l2 l3 i6 i7 i8 i9 i10 yi17)))))))))
 (x682800_1 l0 l1 l2 l3 i6 i7 i8 i9 i10 i11 false))
def L_halve_Run_0_0 (a0 : T_ask_Open) (a1 : T_cake_whole) (a2 : T_halve_Split) (x682800_0 : Ls → Ls → Ls → Int → Int → Int → Int → Int → Int → Bool → Prop) (x682800_1 : Ls → Ls → Ls → Ls → Int → Int → Int → Int → Int → Int → Bool → Prop) : Nat → Ls → Ls → Ls → Int → Int → Int → Int → Int → Int → Prop
 | 0, _, _, _, _, _, _, _, _, _ => False
 | n682800 + 1, l0, l1, l2, i3, i4, i5, i6, i7, i8 =>
 (cbr (decide (i8 < i7))
 (lt (IntKind.i64.wrap (i8 + (1 : Int))) (fun yi16 =>
 (asr (decide (1 = List.length ([(.int .i64 i8)] : Ls)) && decide (1 = List.length ([(.int .i64 i8)] : Ls)))
 (L_halve_Run_0_1 a0 a1 a2 x682800_1 n682800 ([(.int .i64 i8)] : Ls) l0 l1 l2 i3 i4 i5 i6 i7 yi16))))
 (x682800_0 l0 l1 l2 i3 i4 i5 i6 i7 i8 false))
def L_halve_Run_1_1 (a0 : T_ask_Open) (a1 : T_cake_whole) (a2 : T_halve_Split) (x682801_2 : Ls → Ls → Ls → Nat → Nat → Nat → Ls → Ls → Nat → Nat → Bool → Prop) (x682801_3 : Ls → Ls → Ls → Int → Prop) : Nat → Ls → Ls → Ls → Nat → Nat → Nat → Ls → Ls → Nat → Nat → Prop
 | 0, _, _, _, _, _, _, _, _, _, _ => False
 | n682801 + 1, l0, l1, l2, n3, n4, n5, l6, l7, n8, n9 =>
 (cbr (decide (((n8 : Nat) : Int) > (0 : Int)))
 (lt (IntKind.i64.wrap (((n8 : Nat) : Int) - (1 : Int))) (fun yi79 =>
 (asr (decide ((0 : Int) ≤ yi79))
 (asr (decide (yi79 < ((n8 : Nat) : Int)))
 (asr (decide ((List.length l2) = n9))
 (asr (decide ((0 + (yi79.toNat)) < (List.length l2)))
 (lt (List.getD l2 (0 + (yi79.toNat)) .nils) (fun yr80 =>
 (asr (conf (.agg [.d, .i .i64, .i .i64, .i .i64, .i .i64]) yr80)
 (lt (IntKind.i64.wrap (((n8 : Nat) : Int) - (1 : Int))) (fun yi82 =>
 (asr (decide ((0 : Int) ≤ yi82))
 (asr ((decide (yi82 ≤ ((n8 : Nat) : Int))) || (decide (yi82 ≤ ((n8 : Nat) : Int))))
 (cbr ((((List.length (datOfV (cellAt yr80 0))) : Nat) : Int) == (1 : Int))
 (asr (decide ((0 : Int) < (((List.length (datOfV (cellAt yr80 0))) : Nat) : Int)))
 (lt (List.getD (datOfV (cellAt yr80 0)) 0 .nils) (fun yr89 =>
 (asr (conf zI yr89)
 (asr (decide ((0 : Int) ≤ (intOfV yr89)))
 (asr (decide ((intOfV yr89) < ((n3 : Nat) : Int)))
 (asr (decide ((List.length l0) = n4))
 (asr (decide ((0 + ((intOfV yr89).toNat)) < (List.length l0)))
 (lt (List.getD l0 (0 + ((intOfV yr89).toNat)) .nils) (fun yr90 =>
 (asr (conf zD yr90)
 (L_halve_Run_1_1 a0 a1 a2 x682801_2 x682801_3 n682801 (List.set l0 (0 + ((intOfV yr89).toNat)) (.data ([(.agg [(.int .i64 (intOfV (cellAt yr80 1))), (.int .i64 (intOfV (cellAt yr80 2))), (.int .i64 (intOfV (cellAt yr80 3))), (.int .i64 (intOfV (cellAt yr80 4)))])] : Ls))) l1 l2 n3 n4 n5 l6 l7 ((yi82 - (0 : Int)).toNat) n9))))))))))))
 (a2 l6 l7 (datOfV (cellAt yr80 0)) (intOfV (cellAt yr80 1)) (intOfV (cellAt yr80 2)) (intOfV (cellAt yr80 3)) (intOfV (cellAt yr80 4)) (fun yl98 yl99 yi100 yi101 yl102 yl103 yi104 => 
 (cbr (yi104 != (0 : Int))
 (x682801_3 l0 l1 l2 yi104)
 (jn (fun (yj107 : Ls → Nat → Prop) =>
 (asr (decide ((List.length l2) = n9))
 (asr (decide ((0 + ((yi82 - (0 : Int)).toNat)) ≤ n9))
 (cbr (decide (((0 + ((yi82 - (0 : Int)).toNat)) + 2) ≤ n9))
 (yj107 ((List.take (0 + ((yi82 - (0 : Int)).toNat)) l2) ++ (([(.agg [(.data yl103), (.int .i64 yi100), (.int .i64 yi101), (.int .i64 (intOfV (cellAt yr80 3))), (.int .i64 (intOfV (cellAt yr80 4)))]), (.agg [(.data yl102), (.int .i64 (intOfV (cellAt yr80 1))), (.int .i64 (intOfV (cellAt yr80 2))), (.int .i64 yi100), (.int .i64 yi101)])] : Ls) ++ (List.drop ((0 + ((yi82 - (0 : Int)).toNat)) + 2) l2))) n9)
 (asr (decide (((yi82 - (0 : Int)).toNat) ≤ n9))
 (asr (decide (((((yi82 - (0 : Int)).toNat) + 2) + 64) * (56 + 1) ≤ room))
 (yj107 ((List.take ((yi82 - (0 : Int)).toNat) l2) ++ ([(.agg [(.data yl103), (.int .i64 yi100), (.int .i64 yi101), (.int .i64 (intOfV (cellAt yr80 3))), (.int .i64 (intOfV (cellAt yr80 4)))]), (.agg [(.data yl102), (.int .i64 (intOfV (cellAt yr80 1))), (.int .i64 (intOfV (cellAt yr80 2))), (.int .i64 yi100), (.int .i64 yi101)])] : Ls)) (((yi82 - (0 : Int)).toNat) + 2))))))))
 (fun yl105 yn106 => (L_halve_Run_1_1 a0 a1 a2 x682801_2 x682801_3 n682801 l0 l1 yl105 n3 n4 n5 yl98 yl99 (((yi82 - (0 : Int)).toNat) + 2) yn106))))))))))))))))))))
 (x682801_2 l0 l1 l2 n3 n4 n5 l6 l7 n8 n9 false))
def L_halve_Run_1_0 (a0 : T_ask_Open) (a1 : T_cake_whole) (a2 : T_halve_Split) (x682801_0 : Ls → Ls → Nat → Nat → Nat → Ls → Ls → Nat → Nat → Bool → Prop) (x682801_1 : Ls → Ls → Int → Prop) (x682801_2 : Ls → Ls → Ls → Nat → Nat → Nat → Ls → Ls → Nat → Nat → Bool → Prop) (x682801_3 : Ls → Ls → Ls → Int → Prop) : Nat → Ls → Ls → Nat → Nat → Nat → Ls → Ls → Nat → Nat → Prop
 | 0, _, _, _, _, _, _, _, _, _ => False
 | n682801 + 1, l0, l1, n2, n3, n4, l5, l6, n7, n9 =>
 (cbr (decide (((n7 : Nat) : Int) > (0 : Int)))
 (lt (IntKind.i64.wrap (((n7 : Nat) : Int) - (1 : Int))) (fun yi51 =>
 (asr (decide ((0 : Int) ≤ yi51))
 (asr (decide (yi51 < ((n7 : Nat) : Int)))
 (asr (decide ((List.length l1) = (List.length l1)))
 (asr (decide ((0 + (yi51.toNat)) < (List.length l1)))
 (lt (List.getD l1 (0 + (yi51.toNat)) .nils) (fun yr52 =>
 (asr (conf (.agg [.d, .i .i64, .i .i64, .i .i64, .i .i64]) yr52)
 (lt (IntKind.i64.wrap (((n7 : Nat) : Int) - (1 : Int))) (fun yi54 =>
 (asr (decide ((0 : Int) ≤ yi54))
 (asr ((decide (yi54 ≤ ((n7 : Nat) : Int))) || (decide (yi54 ≤ ((n9 : Nat) : Int))))
 (cbr ((((List.length (datOfV (cellAt yr52 0))) : Nat) : Int) == (1 : Int))
 (asr (decide ((0 : Int) < (((List.length (datOfV (cellAt yr52 0))) : Nat) : Int)))
 (lt (List.getD (datOfV (cellAt yr52 0)) 0 .nils) (fun yr61 =>
 (asr (conf zI yr61)
 (asr (decide ((0 : Int) ≤ (intOfV yr61)))
 (asr (decide ((intOfV yr61) < ((n2 : Nat) : Int)))
 (asr (decide ((List.length l0) = n3))
 (asr (decide ((0 + ((intOfV yr61).toNat)) < (List.length l0)))
 (lt (List.getD l0 (0 + ((intOfV yr61).toNat)) .nils) (fun yr62 =>
 (asr (conf zD yr62)
 (asr (decide ((List.length l1) = List.length l1))
 (L_halve_Run_1_0 a0 a1 a2 x682801_0 x682801_1 x682801_2 x682801_3 n682801 (List.set l0 (0 + ((intOfV yr61).toNat)) (.data ([(.agg [(.int .i64 (intOfV (cellAt yr52 1))), (.int .i64 (intOfV (cellAt yr52 2))), (.int .i64 (intOfV (cellAt yr52 3))), (.int .i64 (intOfV (cellAt yr52 4)))])] : Ls))) l1 n2 n3 n4 l5 l6 ((yi54 - (0 : Int)).toNat) (n9 - 0))))))))))))))
 (a2 l5 l6 (datOfV (cellAt yr52 0)) (intOfV (cellAt yr52 1)) (intOfV (cellAt yr52 2)) (intOfV (cellAt yr52 3)) (intOfV (cellAt yr52 4)) (fun yl70 yl71 yi72 yi73 yl74 yl75 yi76 => 
 (cbr (yi76 != (0 : Int))
 (x682801_1 l0 l1 yi76)
 (asr (decide ((List.length l1) = (List.length l1)))
 (asr (decide ((0 + ((yi54 - (0 : Int)).toNat)) ≤ (List.length l1)))
 (cbr (decide ((((yi54 - (0 : Int)).toNat) + 2) ≤ (n9 - 0)))
 (asr (decide ((List.length l1) = List.length ((List.take (0 + ((yi54 - (0 : Int)).toNat)) l1) ++ (([(.agg [(.data yl75), (.int .i64 yi72), (.int .i64 yi73), (.int .i64 (intOfV (cellAt yr52 3))), (.int .i64 (intOfV (cellAt yr52 4)))]), (.agg [(.data yl74), (.int .i64 (intOfV (cellAt yr52 1))), (.int .i64 (intOfV (cellAt yr52 2))), (.int .i64 yi72), (.int .i64 yi73)])] : Ls) ++ (List.drop ((0 + ((yi54 - (0 : Int)).toNat)) + 2) l1)))))
 (L_halve_Run_1_0 a0 a1 a2 x682801_0 x682801_1 x682801_2 x682801_3 n682801 l0 ((List.take (0 + ((yi54 - (0 : Int)).toNat)) l1) ++ (([(.agg [(.data yl75), (.int .i64 yi72), (.int .i64 yi73), (.int .i64 (intOfV (cellAt yr52 3))), (.int .i64 (intOfV (cellAt yr52 4)))]), (.agg [(.data yl74), (.int .i64 (intOfV (cellAt yr52 1))), (.int .i64 (intOfV (cellAt yr52 2))), (.int .i64 yi72), (.int .i64 yi73)])] : Ls) ++ (List.drop ((0 + ((yi54 - (0 : Int)).toNat)) + 2) l1))) n2 n3 n4 yl70 yl71 (((yi54 - (0 : Int)).toNat) + 2) (n9 - 0)))
 (asr (decide (((List.length ((List.take ((yi54 - (0 : Int)).toNat) l1) ++ ([(.agg [(.data yl75), (.int .i64 yi72), (.int .i64 yi73), (.int .i64 (intOfV (cellAt yr52 3))), (.int .i64 (intOfV (cellAt yr52 4)))]), (.agg [(.data yl74), (.int .i64 (intOfV (cellAt yr52 1))), (.int .i64 (intOfV (cellAt yr52 2))), (.int .i64 yi72), (.int .i64 yi73)])] : Ls))) + 64) * (56 + 1) ≤ room))
 (L_halve_Run_1_1 a0 a1 a2 x682801_2 x682801_3 n682801 l0 l1 ((List.take ((yi54 - (0 : Int)).toNat) l1) ++ ([(.agg [(.data yl75), (.int .i64 yi72), (.int .i64 yi73), (.int .i64 (intOfV (cellAt yr52 3))), (.int .i64 (intOfV (cellAt yr52 4)))]), (.agg [(.data yl74), (.int .i64 (intOfV (cellAt yr52 1))), (.int .i64 (intOfV (cellAt yr52 2))), (.int .i64 yi72), (.int .i64 yi73)])] : Ls)) n2 n3 n4 yl70 yl71 (List.length ((List.take ((yi54 - (0 : Int)).toNat) l1) ++ ([(.agg [(.data yl75), (.int .i64 yi72), (.int .i64 yi73), (.int .i64 (intOfV (cellAt yr52 3))), (.int .i64 (intOfV (cellAt yr52 4)))]), (.agg [(.data yl74), (.int .i64 (intOfV (cellAt yr52 1))), (.int .i64 (intOfV (cellAt yr52 2))), (.int .i64 yi72), (.int .i64 yi73)])] : Ls))) (List.length ((List.take ((yi54 - (0 : Int)).toNat) l1) ++ ([(.agg [(.data yl75), (.int .i64 yi72), (.int .i64 yi73), (.int .i64 (intOfV (cellAt yr52 3))), (.int .i64 (intOfV (cellAt yr52 4)))]), (.agg [(.data yl74), (.int .i64 (intOfV (cellAt yr52 1))), (.int .i64 (intOfV (cellAt yr52 2))), (.int .i64 yi72), (.int .i64 yi73)])] : Ls)))))))))))))))))))))))))
 (x682801_0 l0 l1 n2 n3 n4 l5 l6 n7 n9 false))
def L_halve_Run_1_3 (a0 : T_ask_Open) (a1 : T_cake_whole) (a2 : T_halve_Split) (x682801_6 : Ls → Ls → Ls → Ls → Nat → Nat → Nat → Ls → Ls → Nat → Nat → Bool → Prop) (x682801_7 : Ls → Ls → Ls → Ls → Int → Prop) : Nat → Ls → Ls → Ls → Ls → Nat → Nat → Nat → Ls → Ls → Nat → Nat → Prop
 | 0, _, _, _, _, _, _, _, _, _, _, _ => False
 | n682801 + 1, l0, l1, l2, l3, n4, n5, n6, l7, l8, n9, n10 =>
 (cbr (decide (((n9 : Nat) : Int) > (0 : Int)))
 (lt (IntKind.i64.wrap (((n9 : Nat) : Int) - (1 : Int))) (fun yi205 =>
 (asr (decide ((0 : Int) ≤ yi205))
 (asr (decide (yi205 < ((n9 : Nat) : Int)))
 (asr (decide ((List.length l3) = n10))
 (asr (decide ((0 + (yi205.toNat)) < (List.length l3)))
 (lt (List.getD l3 (0 + (yi205.toNat)) .nils) (fun yr206 =>
 (asr (conf (.agg [.d, .i .i64, .i .i64, .i .i64, .i .i64]) yr206)
 (lt (IntKind.i64.wrap (((n9 : Nat) : Int) - (1 : Int))) (fun yi208 =>
 (asr (decide ((0 : Int) ≤ yi208))
 (asr ((decide (yi208 ≤ ((n9 : Nat) : Int))) || (decide (yi208 ≤ ((n9 : Nat) : Int))))
 (cbr ((((List.length (datOfV (cellAt yr206 0))) : Nat) : Int) == (1 : Int))
 (asr (decide ((0 : Int) < (((List.length (datOfV (cellAt yr206 0))) : Nat) : Int)))
 (lt (List.getD (datOfV (cellAt yr206 0)) 0 .nils) (fun yr215 =>
 (asr (conf zI yr215)
 (asr (decide ((0 : Int) ≤ (intOfV yr215)))
 (asr (decide ((intOfV yr215) < ((n4 : Nat) : Int)))
 (asr (decide ((List.length l1) = n5))
 (asr (decide ((0 + ((intOfV yr215).toNat)) < (List.length l1)))
 (lt (List.getD l1 (0 + ((intOfV yr215).toNat)) .nils) (fun yr216 =>
 (asr (conf zD yr216)
 (L_halve_Run_1_3 a0 a1 a2 x682801_6 x682801_7 n682801 l0 (List.set l1 (0 + ((intOfV yr215).toNat)) (.data ([(.agg [(.int .i64 (intOfV (cellAt yr206 1))), (.int .i64 (intOfV (cellAt yr206 2))), (.int .i64 (intOfV (cellAt yr206 3))), (.int .i64 (intOfV (cellAt yr206 4)))])] : Ls))) l2 l3 n4 n5 n6 l7 l8 ((yi208 - (0 : Int)).toNat) n10))))))))))))
 (a2 l7 l8 (datOfV (cellAt yr206 0)) (intOfV (cellAt yr206 1)) (intOfV (cellAt yr206 2)) (intOfV (cellAt yr206 3)) (intOfV (cellAt yr206 4)) (fun yl224 yl225 yi226 yi227 yl228 yl229 yi230 => 
 (cbr (yi230 != (0 : Int))
 (x682801_7 l0 l1 l2 l3 yi230)
 (jn (fun (yj233 : Ls → Nat → Prop) =>
 (asr (decide ((List.length l3) = n10))
 (asr (decide ((0 + ((yi208 - (0 : Int)).toNat)) ≤ n10))
 (cbr (decide (((0 + ((yi208 - (0 : Int)).toNat)) + 2) ≤ n10))
 (yj233 ((List.take (0 + ((yi208 - (0 : Int)).toNat)) l3) ++ (([(.agg [(.data yl229), (.int .i64 yi226), (.int .i64 yi227), (.int .i64 (intOfV (cellAt yr206 3))), (.int .i64 (intOfV (cellAt yr206 4)))]), (.agg [(.data yl228), (.int .i64 (intOfV (cellAt yr206 1))), (.int .i64 (intOfV (cellAt yr206 2))), (.int .i64 yi226), (.int .i64 yi227)])] : Ls) ++ (List.drop ((0 + ((yi208 - (0 : Int)).toNat)) + 2) l3))) n10)
 (asr (decide (((yi208 - (0 : Int)).toNat) ≤ n10))
 (asr (decide (((((yi208 - (0 : Int)).toNat) + 2) + 64) * (56 + 1) ≤ room))
 (yj233 ((List.take ((yi208 - (0 : Int)).toNat) l3) ++ ([(.agg [(.data yl229), (.int .i64 yi226), (.int .i64 yi227), (.int .i64 (intOfV (cellAt yr206 3))), (.int .i64 (intOfV (cellAt yr206 4)))]), (.agg [(.data yl228), (.int .i64 (intOfV (cellAt yr206 1))), (.int .i64 (intOfV (cellAt yr206 2))), (.int .i64 yi226), (.int .i64 yi227)])] : Ls)) (((yi208 - (0 : Int)).toNat) + 2))))))))
 (fun yl231 yn232 => (L_halve_Run_1_3 a0 a1 a2 x682801_6 x682801_7 n682801 l0 l1 l2 yl231 n4 n5 n6 yl224 yl225 (((yi208 - (0 : Int)).toNat) + 2) yn232))))))))))))))))))))
 (x682801_6 l0 l1 l2 l3 n4 n5 n6 l7 l8 n9 n10 false))
def L_halve_Run_1_2 (a0 : T_ask_Open) (a1 : T_cake_whole) (a2 : T_halve_Split) (x682801_4 : Ls → Ls → Ls → Nat → Nat → Nat → Ls → Ls → Nat → Nat → Bool → Prop) (x682801_5 : Ls → Ls → Ls → Int → Prop) (x682801_6 : Ls → Ls → Ls → Ls → Nat → Nat → Nat → Ls → Ls → Nat → Nat → Bool → Prop) (x682801_7 : Ls → Ls → Ls → Ls → Int → Prop) : Nat → Ls → Ls → Ls → Nat → Nat → Nat → Ls → Ls → Nat → Nat → Prop
 | 0, _, _, _, _, _, _, _, _, _, _ => False
 | n682801 + 1, l0, l1, l2, n3, n4, n5, l6, l7, n8, n10 =>
 (cbr (decide (((n8 : Nat) : Int) > (0 : Int)))
 (lt (IntKind.i64.wrap (((n8 : Nat) : Int) - (1 : Int))) (fun yi177 =>
 (asr (decide ((0 : Int) ≤ yi177))
 (asr (decide (yi177 < ((n8 : Nat) : Int)))
 (asr (decide ((List.length l2) = (List.length l2)))
 (asr (decide ((0 + (yi177.toNat)) < (List.length l2)))
 (lt (List.getD l2 (0 + (yi177.toNat)) .nils) (fun yr178 =>
 (asr (conf (.agg [.d, .i .i64, .i .i64, .i .i64, .i .i64]) yr178)
 (lt (IntKind.i64.wrap (((n8 : Nat) : Int) - (1 : Int))) (fun yi180 =>
 (asr (decide ((0 : Int) ≤ yi180))
 (asr ((decide (yi180 ≤ ((n8 : Nat) : Int))) || (decide (yi180 ≤ ((n10 : Nat) : Int))))
 (cbr ((((List.length (datOfV (cellAt yr178 0))) : Nat) : Int) == (1 : Int))
 (asr (decide ((0 : Int) < (((List.length (datOfV (cellAt yr178 0))) : Nat) : Int)))
 (lt (List.getD (datOfV (cellAt yr178 0)) 0 .nils) (fun yr187 =>
 (asr (conf zI yr187)
 (asr (decide ((0 : Int) ≤ (intOfV yr187)))
 (asr (decide ((intOfV yr187) < ((n3 : Nat) : Int)))
 (asr (decide ((List.length l1) = n4))
 (asr (decide ((0 + ((intOfV yr187).toNat)) < (List.length l1)))
 (lt (List.getD l1 (0 + ((intOfV yr187).toNat)) .nils) (fun yr188 =>
 (asr (conf zD yr188)
 (asr (decide ((List.length l2) = List.length l2))
 (L_halve_Run_1_2 a0 a1 a2 x682801_4 x682801_5 x682801_6 x682801_7 n682801 l0 (List.set l1 (0 + ((intOfV yr187).toNat)) (.data ([(.agg [(.int .i64 (intOfV (cellAt yr178 1))), (.int .i64 (intOfV (cellAt yr178 2))), (.int .i64 (intOfV (cellAt yr178 3))), (.int .i64 (intOfV (cellAt yr178 4)))])] : Ls))) l2 n3 n4 n5 l6 l7 ((yi180 - (0 : Int)).toNat) (n10 - 0))))))))))))))
 (a2 l6 l7 (datOfV (cellAt yr178 0)) (intOfV (cellAt yr178 1)) (intOfV (cellAt yr178 2)) (intOfV (cellAt yr178 3)) (intOfV (cellAt yr178 4)) (fun yl196 yl197 yi198 yi199 yl200 yl201 yi202 => 
 (cbr (yi202 != (0 : Int))
 (x682801_5 l0 l1 l2 yi202)
 (asr (decide ((List.length l2) = (List.length l2)))
 (asr (decide ((0 + ((yi180 - (0 : Int)).toNat)) ≤ (List.length l2)))
 (cbr (decide ((((yi180 - (0 : Int)).toNat) + 2) ≤ (n10 - 0)))
 (asr (decide ((List.length l2) = List.length ((List.take (0 + ((yi180 - (0 : Int)).toNat)) l2) ++ (([(.agg [(.data yl201), (.int .i64 yi198), (.int .i64 yi199), (.int .i64 (intOfV (cellAt yr178 3))), (.int .i64 (intOfV (cellAt yr178 4)))]), (.agg [(.data yl200), (.int .i64 (intOfV (cellAt yr178 1))), (.int .i64 (intOfV (cellAt yr178 2))), (.int .i64 yi198), (.int .i64 yi199)])] : Ls) ++ (List.drop ((0 + ((yi180 - (0 : Int)).toNat)) + 2) l2)))))
 (L_halve_Run_1_2 a0 a1 a2 x682801_4 x682801_5 x682801_6 x682801_7 n682801 l0 l1 ((List.take (0 + ((yi180 - (0 : Int)).toNat)) l2) ++ (([(.agg [(.data yl201), (.int .i64 yi198), (.int .i64 yi199), (.int .i64 (intOfV (cellAt yr178 3))), (.int .i64 (intOfV (cellAt yr178 4)))]), (.agg [(.data yl200), (.int .i64 (intOfV (cellAt yr178 1))), (.int .i64 (intOfV (cellAt yr178 2))), (.int .i64 yi198), (.int .i64 yi199)])] : Ls) ++ (List.drop ((0 + ((yi180 - (0 : Int)).toNat)) + 2) l2))) n3 n4 n5 yl196 yl197 (((yi180 - (0 : Int)).toNat) + 2) (n10 - 0)))
 (asr (decide (((List.length ((List.take ((yi180 - (0 : Int)).toNat) l2) ++ ([(.agg [(.data yl201), (.int .i64 yi198), (.int .i64 yi199), (.int .i64 (intOfV (cellAt yr178 3))), (.int .i64 (intOfV (cellAt yr178 4)))]), (.agg [(.data yl200), (.int .i64 (intOfV (cellAt yr178 1))), (.int .i64 (intOfV (cellAt yr178 2))), (.int .i64 yi198), (.int .i64 yi199)])] : Ls))) + 64) * (56 + 1) ≤ room))
 (L_halve_Run_1_3 a0 a1 a2 x682801_6 x682801_7 n682801 l0 l1 l2 ((List.take ((yi180 - (0 : Int)).toNat) l2) ++ ([(.agg [(.data yl201), (.int .i64 yi198), (.int .i64 yi199), (.int .i64 (intOfV (cellAt yr178 3))), (.int .i64 (intOfV (cellAt yr178 4)))]), (.agg [(.data yl200), (.int .i64 (intOfV (cellAt yr178 1))), (.int .i64 (intOfV (cellAt yr178 2))), (.int .i64 yi198), (.int .i64 yi199)])] : Ls)) n3 n4 n5 yl196 yl197 (List.length ((List.take ((yi180 - (0 : Int)).toNat) l2) ++ ([(.agg [(.data yl201), (.int .i64 yi198), (.int .i64 yi199), (.int .i64 (intOfV (cellAt yr178 3))), (.int .i64 (intOfV (cellAt yr178 4)))]), (.agg [(.data yl200), (.int .i64 (intOfV (cellAt yr178 1))), (.int .i64 (intOfV (cellAt yr178 2))), (.int .i64 yi198), (.int .i64 yi199)])] : Ls))) (List.length ((List.take ((yi180 - (0 : Int)).toNat) l2) ++ ([(.agg [(.data yl201), (.int .i64 yi198), (.int .i64 yi199), (.int .i64 (intOfV (cellAt yr178 3))), (.int .i64 (intOfV (cellAt yr178 4)))]), (.agg [(.data yl200), (.int .i64 (intOfV (cellAt yr178 1))), (.int .i64 (intOfV (cellAt yr178 2))), (.int .i64 yi198), (.int .i64 yi199)])] : Ls)))))))))))))))))))))))))
 (x682801_4 l0 l1 l2 n3 n4 n5 l6 l7 n8 n10 false))
def wv_halve_Run (a0 : T_ask_Open) (a1 : T_cake_whole) (a2 : T_halve_Split) (p0 : Ls) (K : Ls → Ls → Int → Prop) : Prop :=
 (a0 p0 (fun yl3 yl4 yi5 => 
 (cbr (yi5 != (0 : Int))
 (K ([] : Ls) ([] : Ls) yi5)
 (asr (decide ((0 : Int) < (((List.length p0) : Nat) : Int)))
 (lt (List.getD p0 0 .nils) (fun yr11 =>
 (asr (conf zK yr11)
 (a1 (intOfV (cellAt yr11 0)) (fun yi12 yi13 => 
 (a1 (0 : Int) (fun yi14 yi15 => 
 (∃ n682800 : Nat, L_halve_Run_0_0 a0 a1 a2
 (fun yl39 yl40 yl41 yi42 yi43 yi44 yi45 _ _ _ => (asr (decide ((0 : Int) ≤ (((List.length yl39) : Nat) : Int)))
 (asr (decide ((((List.length yl39) : Nat) : Int) ≤ (((List.length yl39) : Nat) : Int)))
 (asr (decide (((List.length yl39) + 64) * (24 + 1) ≤ room))
 (asr (decide (1 = List.length ([(.agg [(.data ([] : Ls)), (.int .i64 yi42), (.int .i64 yi43), (.int .i64 yi44), (.int .i64 yi45)])] : Ls)))
 (∃ n682801 : Nat, L_halve_Run_1_0 a0 a1 a2
 (fun yl136 _ yn138 yn139 _ _ yl142 _ _ _ => (asr (decide ((List.length yl136) = yn139))
 (asr (decide ((0 + yn138) ≤ yn139))
 (K (List.take yn138 yl136) yl142 (0 : Int)))))
 (fun _ _ yi148 => (K ([] : Ls) ([] : Ls) yi148))
 (fun yl149 _ _ yn152 yn153 _ _ yl156 _ _ _ => (asr (decide ((List.length yl149) = yn153))
 (asr (decide ((0 + yn152) ≤ yn153))
 (K (List.take yn152 yl149) yl156 (0 : Int)))))
 (fun _ _ _ yi163 => (K ([] : Ls) ([] : Ls) yi163))
 n682801 (List.replicate (List.length yl39) ((.data []) : PV)) ([(.agg [(.data ([] : Ls)), (.int .i64 yi42), (.int .i64 yi43), (.int .i64 yi44), (.int .i64 yi45)])] : Ls) (List.length yl39) (List.length yl39) (List.length yl39) yl40 yl41 1 1))))))
 (fun yl164 yl165 yl166 yl167 yi168 yi169 yi170 yi171 _ _ _ => (asr (decide ((0 : Int) ≤ (((List.length yl165) : Nat) : Int)))
 (asr (decide ((((List.length yl165) : Nat) : Int) ≤ (((List.length yl165) : Nat) : Int)))
 (asr (decide (((List.length yl165) + 64) * (24 + 1) ≤ room))
 (asr (decide ((List.length yl164) = (List.length yl164)))
 (asr (decide ((0 + (List.length yl164)) ≤ (List.length yl164)))
 (asr (decide (1 = List.length ([(.agg [(.data (List.take (List.length yl164) yl164)), (.int .i64 yi168), (.int .i64 yi169), (.int .i64 yi170), (.int .i64 yi171)])] : Ls)))
 (∃ n682801 : Nat, L_halve_Run_1_2 a0 a1 a2
 (fun _ yl267 _ yn269 yn270 _ _ yl273 _ _ _ => (asr (decide ((List.length yl267) = yn270))
 (asr (decide ((0 + yn269) ≤ yn270))
 (K (List.take yn269 yl267) yl273 (0 : Int)))))
 (fun _ _ _ yi280 => (K ([] : Ls) ([] : Ls) yi280))
 (fun _ yl282 _ _ yn285 yn286 _ _ yl289 _ _ _ => (asr (decide ((List.length yl282) = yn286))
 (asr (decide ((0 + yn285) ≤ yn286))
 (K (List.take yn285 yl282) yl289 (0 : Int)))))
 (fun _ _ _ _ yi297 => (K ([] : Ls) ([] : Ls) yi297))
 n682801 yl164 (List.replicate (List.length yl165) ((.data []) : PV)) ([(.agg [(.data (List.take (List.length yl164) yl164)), (.int .i64 yi168), (.int .i64 yi169), (.int .i64 yi170), (.int .i64 yi171)])] : Ls) (List.length yl165) (List.length yl165) (List.length yl165) yl166 yl167 1 1))))))))
 n682800 p0 yl3 yl4 yi14 yi15 yi12 yi13 (((List.length p0) : Nat) : Int) (0 : Int)))))))))))))
def w_halve_Run : T_ask_Open := wv_halve_Run w_ask_Open w_halve_whole w_halve_Split
def sg_halve_Run : Sg := ⟨pt7, Ls → Ls → Int → Prop, fun K => (fun r0 r1 r2 => K (.tup [(.agg [(.data r0)]), (.data r1), (.int .i64 r2)]))⟩
def X_halve_Run_0_0 (Q : Qx) : Ls → Ls → Ls → Int → Int → Int → Int → Int → Int → Bool → Prop := (fun l0 l1 l2 i3 i4 i5 i6 i7 i8 b9 => Q (.exit 0) [(0, .v (.data l0)), (2, .box (.agg [.nils])), (5, .box (.agg [(.data l1), (.data l2)])), (6, .box (.agg [.nils, (.int .i64 i3), (.int .i64 i4), (.int .i64 i5), (.int .i64 i6)])), (32, .v (.int .i64 i7)), (33, .v (.int .i64 i8)), (34, .v (.bool b9))] [])
def X_halve_Run_0_1 (Q : Qx) : Ls → Ls → Ls → Ls → Int → Int → Int → Int → Int → Int → Bool → Prop := (fun l0 l1 l2 l3 i6 i7 i8 i9 i10 i11 b12 => Q (.exit 0) [(0, .v (.data l1)), (2, .box (.agg [.nils])), (5, .box (.agg [(.data l2), (.data l3)])), (6, .box (.agg [(.own 0 0 (List.length l0) (List.length l0) none), (.int .i64 i6), (.int .i64 i7), (.int .i64 i8), (.int .i64 i9)])), (32, .v (.int .i64 i10)), (33, .v (.int .i64 i11)), (34, .v (.bool b12))] [⟨false, true, 1, l0⟩])
def X_halve_Run_1_0 (Q : Qx) : Ls → Ls → Nat → Nat → Nat → Ls → Ls → Nat → Nat → Bool → Prop := (fun l0 l1 n2 n3 n4 l5 l6 n7 n9 b10 => Q (.exit 2) [(2, .box (.agg [(.own 0 0 n2 n3 (some n4))])), (5, .box (.agg [(.data l5), (.data l6)])), (8, .v (.own 1 0 n7 (List.length l1) (some n9))), (51, .v (.bool b10))] [⟨false, true, 1, l0⟩, ⟨false, true, 5, l1⟩])
def X_halve_Run_1_1 (Q : Qx) : Ls → Ls → Int → Prop := (fun l0 l1 i2 => Q .ret [(2, .box (.agg [.nils])), (3, .v .nils), (4, .v (.int .i64 i2))] [⟨false, true, 1, l0⟩, ⟨false, true, 5, l1⟩])
def X_halve_Run_1_2 (Q : Qx) : Ls → Ls → Ls → Nat → Nat → Nat → Ls → Ls → Nat → Nat → Bool → Prop := (fun l0 l1 l2 n3 n4 n5 l6 l7 n8 n9 b10 => Q (.exit 2) [(2, .box (.agg [(.own 0 0 n3 n4 (some n5))])), (5, .box (.agg [(.data l6), (.data l7)])), (8, .v (.own 2 0 n8 n9 none)), (51, .v (.bool b10))] [⟨false, true, 1, l0⟩, ⟨false, true, 5, l1⟩, ⟨false, true, 5, l2⟩])
def X_halve_Run_1_3 (Q : Qx) : Ls → Ls → Ls → Int → Prop := (fun l0 l1 l2 i3 => Q .ret [(2, .box (.agg [.nils])), (3, .v .nils), (4, .v (.int .i64 i3))] [⟨false, true, 1, l0⟩, ⟨false, true, 5, l1⟩, ⟨false, true, 5, l2⟩])
def X_halve_Run_1_4 (Q : Qx) : Ls → Ls → Ls → Nat → Nat → Nat → Ls → Ls → Nat → Nat → Bool → Prop := (fun l0 l1 l2 n3 n4 n5 l6 l7 n8 n10 b11 => Q (.exit 2) [(2, .box (.agg [(.own 1 0 n3 n4 (some n5))])), (5, .box (.agg [(.data l6), (.data l7)])), (8, .v (.own 2 0 n8 (List.length l2) (some n10))), (51, .v (.bool b11))] [⟨true, true, 1, l0⟩, ⟨false, true, 1, l1⟩, ⟨false, true, 5, l2⟩])
def X_halve_Run_1_5 (Q : Qx) : Ls → Ls → Ls → Int → Prop := (fun l0 l1 l2 i3 => Q .ret [(2, .box (.agg [.nils])), (3, .v .nils), (4, .v (.int .i64 i3))] [⟨true, true, 1, l0⟩, ⟨false, true, 1, l1⟩, ⟨false, true, 5, l2⟩])
def X_halve_Run_1_6 (Q : Qx) : Ls → Ls → Ls → Ls → Nat → Nat → Nat → Ls → Ls → Nat → Nat → Bool → Prop := (fun l0 l1 l2 l3 n4 n5 n6 l7 l8 n9 n10 b11 => Q (.exit 2) [(2, .box (.agg [(.own 1 0 n4 n5 (some n6))])), (5, .box (.agg [(.data l7), (.data l8)])), (8, .v (.own 3 0 n9 n10 none)), (51, .v (.bool b11))] [⟨true, true, 1, l0⟩, ⟨false, true, 1, l1⟩, ⟨false, true, 5, l2⟩, ⟨false, true, 5, l3⟩])
def X_halve_Run_1_7 (Q : Qx) : Ls → Ls → Ls → Ls → Int → Prop := (fun l0 l1 l2 l3 i4 => Q .ret [(2, .box (.agg [.nils])), (3, .v .nils), (4, .v (.int .i64 i4))] [⟨true, true, 1, l0⟩, ⟨false, true, 1, l1⟩, ⟨false, true, 5, l2⟩, ⟨false, true, 5, l3⟩])
def St_halve_Run_0 (a0 : T_ask_Open) (a1 : T_cake_whole) (a2 : T_halve_Split) (Q : Qx) : List St := [⟨(pS hN (fV 0 vD (fX 2 (vA (lC vNs lN)) (fX 5 pt16 (fX 6 (vA (lC vNs (lC pt0 (lC pt0 pt5)))) (fV 32 pt0 (fV 33 pt0 fN)))))) fN), L_halve_Run_0_0 a0 a1 a2 (X_halve_Run_0_0 Q) (X_halve_Run_0_1 Q)⟩, ⟨(pS pt20 (fV 0 vD (fX 2 (vA (lC vNs lN)) (fX 5 pt16 (fX 6 (vA (lC pt18 (lC pt0 (lC pt0 pt5)))) (fV 32 pt0 (fV 33 pt0 fN)))))) fN), L_halve_Run_0_1 a0 a1 a2 (X_halve_Run_0_1 Q)⟩]
def pt43 : HPt := hB false true 1 rA (hB false true 5 rA hN)
def pt44 : VPt := vA (lC (vO 0 (nK 0) nV nV nV) lN)
def pt45 : HPt := hB false true 1 rA (hB false true 5 rA (hB false true 5 rA hN))
def pt46 : VPt := vA (lC (vO 1 (nK 0) nV nV nV) lN)
def St_halve_Run_1 (a0 : T_ask_Open) (a1 : T_cake_whole) (a2 : T_halve_Split) (Q : Qx) : List St := [⟨(pS pt43 (fX 2 pt44 (fX 5 pt16 (fV 8 (vO 1 (nK 0) nV (nT 1) nV) fN))) fN), L_halve_Run_1_0 a0 a1 a2 (X_halve_Run_1_0 Q) (X_halve_Run_1_1 Q) (X_halve_Run_1_2 Q) (X_halve_Run_1_3 Q)⟩, ⟨(pS pt45 (fX 2 pt44 (fX 5 pt16 (fV 8 pt39 fN))) fN), L_halve_Run_1_1 a0 a1 a2 (X_halve_Run_1_2 Q) (X_halve_Run_1_3 Q)⟩, ⟨(pS (hB true true 1 rA pt43) (fX 2 pt46 (fX 5 pt16 (fV 8 (vO 2 (nK 0) nV (nT 2) nV) fN))) fN), L_halve_Run_1_2 a0 a1 a2 (X_halve_Run_1_4 Q) (X_halve_Run_1_5 Q) (X_halve_Run_1_6 Q) (X_halve_Run_1_7 Q)⟩, ⟨(pS (hB true true 1 rA pt45) (fX 2 pt46 (fX 5 pt16 (fV 8 (vW 3 (nK 0) nV nV) fN))) fN), L_halve_Run_1_3 a0 a1 a2 (X_halve_Run_1_6 Q) (X_halve_Run_1_7 Q)⟩]
def lp_halve_Run (a0 : T_ask_Open) (a1 : T_cake_whole) (a2 : T_halve_Split) : LP := lpS [(682800, St_halve_Run_0 a0 a1 a2), (682801, St_halve_Run_1 a0 a1 a2)]
def S0_halve_Run (e : Es) (a0 : T_ask_Open) (a1 : T_cake_whole) (a2 : T_halve_Split) : SE := sE (E e) [(n_ask_Open, sg_ask_Open.pw a0), (n_halve_whole, sg_cake_whole.pw a1), (n_halve_Split, sg_halve_Split.pw a2)] (lp_halve_Run a0 a1 a2)
theorem se0_halve_Run (e : Es) (he : EG e) : SEOk (Uni (E e)) (S0_halve_Run e w_ask_Open w_halve_whole w_halve_Split) := seOk_of (Sub.uni _) ⟨(ok_ask_Open e he), (ok_halve_whole e he), (ok_halve_Split e he), trivial⟩ trivial he.ok
theorem body_halve_Run_0 (e : Es) (a0 a1 a2) : BodOk (S0_halve_Run e a0 a1 a2) 5 yk0 b_682800 false (St_halve_Run_0 a0 a1 a2) := fun _ => ⟨fun _ => by kernel_rfl, fun _ _ => by kernel_rfl, fun _ => by kernel_rfl, fun _ _ => by kernel_rfl, trivial⟩
theorem loop_halve_Run_0 (e : Es) (he : EG e) : LpT (Uni (E e)) (lp_halve_Run w_ask_Open w_halve_whole w_halve_Split) [] 682800 (.loop 682800 b_682800) := fun _ _ _ => LoopT.st (Sub.uni _) (callW_ok (se0_halve_Run e he) 5) (YOk.no _ _) (LpOk_no (by kernel_rfl)) (body_halve_Run_0 e _ _ _ _)
theorem body_halve_Run_1 (e : Es) (a0 a1 a2) : BodOk (S0_halve_Run e a0 a1 a2) 5 yk0 b_682801 false (St_halve_Run_1 a0 a1 a2) := fun _ => ⟨fun _ => by kernel_rfl, fun _ _ => by kernel_rfl, fun _ => by kernel_rfl, fun _ _ => by kernel_rfl, fun _ => by kernel_rfl, fun _ _ => by kernel_rfl, fun _ => by kernel_rfl, fun _ _ => by kernel_rfl, trivial⟩
theorem loop_halve_Run_1 (e : Es) (he : EG e) : LpT (Uni (E e)) (lp_halve_Run w_ask_Open w_halve_whole w_halve_Split) [] 682801 (.loop 682801 b_682801) := fun _ _ _ => LoopT.st (Sub.uni _) (callW_ok (se0_halve_Run e he) 5) (YOk.no _ _) (LpOk_no (by kernel_rfl)) (body_halve_Run_1 e _ _ _ _)
theorem eq_halve_Run (e : Es) (a0 a1 a2) : EqW (S0_halve_Run e a0 a1 a2) 6 t_halve_Run sg_halve_Run (wv_halve_Run a0 a1 a2) := fun _ _ => by kernel_rfl
theorem ok_halve_Run (e : Es) (he : EG e) : OkF (E e) (sg_halve_Run.pw w_halve_Run) n_halve_Run := okU he (eq_halve_Run e _ _ _) (se0_halve_Run e he) RngOk.flat (LpOk_by (l := [(682800, .loop 682800 b_682800), (682801, .loop 682801 b_682801)]) ⟨loop_halve_Run_0 e he, loop_halve_Run_1 e he, trivial⟩ (by kernel_rfl))
def wv_halve_Bound (a0 : T_ratio_size) (p0 : Int) (K : Int → Int → Prop) : Prop :=
 (jn (fun (yj3 : Bool → Prop) =>
 (cbr (decide (p0 < (1 : Int)))
 (yj3 true)
 (yj3 (decide (p0 > (6 : Int))))))
 (fun yb2 => (cbr yb2
 (K (0 : Int) (2 : Int))
 (cbr (p0 == (1 : Int))
 (K (0 : Int) (0 : Int))
 (lt (IntKind.i64.wrap (p0 - (1 : Int))) (fun yi9 =>
 (a0 (IntKind.u64.wrap yi9) (fun yi10 => 
 (lt (IntKind.i64.wrap ((2 : Int) * yi10)) (fun yi11 =>
 (lt (IntKind.i64.wrap (yi11 - (1 : Int))) (fun yi12 =>
 (lt (IntKind.i64.wrap (p0 * yi12)) (fun yi13 =>
 (K yi13 (0 : Int))))))))))))))))
def w_halve_Bound : T_cake_whole := wv_halve_Bound w_m_Len
def sg_halve_Bound : Sg := ⟨pt1, Int → Int → Prop, fun K => (fun r0 r1 => K (.tup [(.int .i64 r0), (.int .i64 r1)]))⟩
def S0_halve_Bound (e : Es) (a0 : T_ratio_size) : SE := sE (E e) [(n_m_Len, sg_m_Len64.pw a0)] lp0
theorem eq_halve_Bound (e : Es) (a0) : EqW (S0_halve_Bound e a0) 6 t_halve_Bound sg_halve_Bound (wv_halve_Bound a0) := fun _ _ => by kernel_rfl
theorem ok_halve_Bound (e : Es) (he : EG e) : OkF (E e) (sg_halve_Bound.pw w_halve_Bound) n_halve_Bound := okU he (eq_halve_Bound e _) (seOk_of (Sub.uni _) ⟨(ok_m_Len e he), trivial⟩ trivial he.ok) RngOk.flat (LpOk_no (by kernel_rfl))
end Go.Pf.Vc
namespace Go.Pf.Vc
open Go Go.Pf
set_option maxRecDepth 100000
def wv_l09_fit (a0 : T_r04_GreatCakes) (a1 : T_ask_Check) (p0 : Ls) (K : Bool → Prop) : Prop :=
 (jn (fun (yj3 : Bool → Prop) =>
 (a0 p0 (fun yb4 => 
 (cbr (!yb4)
 (a1 p0 ([] : Ls) (fun yi5 => 
 (yj3 (yi5 == (0 : Int)))))
 (yj3 false)))))
 (fun yb2 => (K yb2)))
def w_l09_fit : T_r04_GreatCakes := wv_l09_fit w_r04_GreatCakes w_r04_Check
def S0_l09_fit (e : Es) (a0 : T_r04_GreatCakes) (a1 : T_ask_Check) : SE := sE (E e) [(n_r04_GreatCakes, sg_r04_GreatCakes.pw a0), (n_r04_Check, sg_ask_Check.pw a1)] lp0
theorem eq_l09_fit (e : Es) (a0 a1) : EqW (S0_l09_fit e a0 a1) 6 t_l09_fit sg_r04_GreatCakes (wv_l09_fit a0 a1) := fun _ _ => by kernel_rfl
theorem ok_l09_fit (e : Es) (he : EG e) : OkF (E e) (sg_r04_GreatCakes.pw w_l09_fit) n_l09_fit := okU he (eq_l09_fit e _ _) (seOk_of (Sub.uni _) ⟨(ok_r04_GreatCakes e he), (ok_r04_Check e he), trivial⟩ trivial he.ok) RngOk.flat (LpOk_no (by kernel_rfl))
abbrev T_l09_three : Type := (Ls → Prop) → Prop
def wv_l09_three (K : Ls → Prop) : Prop :=
 (K ([(.agg [(.int .i64 (6 : Int)), (.data ([(.int .i64 (0 : Int)), (.int .i64 (6 : Int))] : Ls)), (.data ([(.int .i64 (1 : Int))] : Ls))]), (.agg [(.int .i64 (6 : Int)), (.data ([(.int .i64 (0 : Int)), (.int .i64 (4 : Int)), (.int .i64 (6 : Int))] : Ls)), (.data ([(.int .i64 (1 : Int)), (.int .i64 (4 : Int))] : Ls))]), (.agg [(.int .i64 (6 : Int)), (.data ([(.int .i64 (0 : Int)), (.int .i64 (2 : Int)), (.int .i64 (6 : Int))] : Ls)), (.data ([(.int .i64 (2 : Int)), (.int .i64 (0 : Int))] : Ls))])] : Ls))
def w_l09_three : T_l09_three := wv_l09_three
def sg_l09_three : Sg := ⟨lN, Ls → Prop, fun K => (fun r0 => K (.data r0))⟩
def S0_l09_three (e : Es) : SE := sE (E e) [] lp0
theorem eq_l09_three (e : Es) : EqW (S0_l09_three e) 6 t_l09_three sg_l09_three wv_l09_three := fun _ _ => by kernel_rfl
theorem ok_l09_three (e : Es) (he : EG e) : OkF (E e) (sg_l09_three.pw w_l09_three) n_l09_three := okU he (eq_l09_three e) (seOk_of (Sub.uni _) trivial trivial he.ok) RngOk.flat (LpOk_no (by kernel_rfl))
abbrev T_l09_between : Type := Int → Int → Int → Int → (Ls → Prop) → Prop
def wv_l09_between (p0 p1 p2 p3 : Int) (K : Ls → Prop) : Prop :=
 (K ([(.agg [(.int .i64 p0), (.int .i64 p1), (.int .i64 p2), (.int .i64 p3)])] : Ls))
def w_l09_between : T_l09_between := wv_l09_between
def sg_l09_between : Sg := ⟨pt9, Ls → Prop, fun K => (fun r0 => K (.data r0))⟩
def S0_l09_between (e : Es) : SE := sE (E e) [] lp0
theorem eq_l09_between (e : Es) : EqW (S0_l09_between e) 6 t_l09_between sg_l09_between wv_l09_between := fun _ _ => by kernel_rfl
theorem ok_l09_between (e : Es) (he : EG e) : OkF (E e) (sg_l09_between.pw w_l09_between) n_l09_between := okU he (eq_l09_between e) (seOk_of (Sub.uni _) trivial trivial he.ok) RngOk.flat (LpOk_no (by kernel_rfl))
abbrev T_l09_alive : Type := (Bool → Prop) → Prop
def wv_l09_alive (a0 : T_cake_whole) (a1 : T_l09_three) (a2 : T_ask_Open) (a3 : T_halve_Split) (a4 : T_cake_whole) (a5 : T_l09_between) (a6 : T_r04_SameLogs) (a7 : T_r04_SameLogs) (K : Bool → Prop) : Prop :=
 (a0 (0 : Int) (fun yi4 yi5 => 
 (a0 (6 : Int) (fun yi6 yi7 => 
 (a1  (fun yl12 => 
 (a2 yl12 (fun yl13 yl14 yi15 => 
 (a1  (fun yl24 => 
 (a3 yl24 ([] : Ls) ([(.int .i64 (0 : Int)), (.int .i64 (1 : Int)), (.int .i64 (2 : Int))] : Ls) yi4 yi5 yi6 yi7 (fun _ _ yi27 yi28 yl29 yl30 yi31 => 
 (a4 (3 : Int) (fun yi34 yi35 => 
 (jn (fun (yj43 : Bool → Prop) =>
 (cbr (yi15 == (0 : Int))
 (a5 (2 : Int) (3 : Int) (10 : Int) (3 : Int) (fun yl44 => 
 (a5 (10 : Int) (3 : Int) yi6 yi7 (fun yl45 => 
 (a5 yi4 yi5 (2 : Int) (3 : Int) (fun yl46 => 
 (a6 yl13 ([(.data yl44), (.data yl45), (.data yl46)] : Ls) (fun yb47 => 
 (cbr yb47
 (cbr ((((List.length yl14) : Nat) : Int) == (7 : Int))
 (cbr (yi31 == (0 : Int))
 (cbr ((yi27 == (2 : Int)) && ((yi28 == (3 : Int)) && true))
 (a7 yl29 ([(.int .i64 (2 : Int))] : Ls) (fun yb48 => 
 (cbr yb48
 (a7 yl30 ([(.int .i64 (0 : Int)), (.int .i64 (1 : Int))] : Ls) (fun yb49 => 
 (cbr yb49
 (cbr (yi35 == (0 : Int))
 (yj43 (yi34 == (9 : Int)))
 (yj43 false))
 (yj43 false))))
 (yj43 false))))
 (yj43 false))
 (yj43 false))
 (yj43 false))
 (yj43 false))))))))))
 (yj43 false)))
 (fun yb42 => (K yb42)))))))))))))))))
def w_l09_alive : T_l09_alive := wv_l09_alive w_r01_Of w_l09_three w_halve_Run w_halve_Split w_halve_Bound w_l09_between w_r06_Same w_r09_Same
def sg_l09_alive : Sg := ⟨lN, Bool → Prop, fun K => (fun r0 => K (.bool r0))⟩
def S0_l09_alive (e : Es) (a0 : T_cake_whole) (a1 : T_l09_three) (a2 : T_ask_Open) (a3 : T_halve_Split) (a4 : T_cake_whole) (a5 : T_l09_between) (a6 : T_r04_SameLogs) (a7 : T_r04_SameLogs) : SE := sE (E e) [(n_r01_Of, sg_cake_whole.pw a0), (n_l09_three, sg_l09_three.pw a1), (n_halve_Run, sg_halve_Run.pw a2), (n_halve_Split, sg_halve_Split.pw a3), (n_halve_Bound, sg_halve_Bound.pw a4), (n_l09_between, sg_l09_between.pw a5), (n_r06_Same, sg_r06_Same.pw a6), (n_r09_Same, sg_r04_SameLogs.pw a7)] lp0
theorem eq_l09_alive (e : Es) (a0 a1 a2 a3 a4 a5 a6 a7) : EqW (S0_l09_alive e a0 a1 a2 a3 a4 a5 a6 a7) 6 t_l09_alive sg_l09_alive (wv_l09_alive a0 a1 a2 a3 a4 a5 a6 a7) := fun _ _ => by kernel_rfl
theorem ok_l09_alive (e : Es) (he : EG e) : OkF (E e) (sg_l09_alive.pw w_l09_alive) n_l09_alive := okU he (eq_l09_alive e _ _ _ _ _ _ _ _) (seOk_of (Sub.uni _) ⟨(ok_r01_Of e he), (ok_l09_three e he), (ok_halve_Run e he), (ok_halve_Split e he), (ok_halve_Bound e he), (ok_l09_between e he), (ok_r06_Same e he), (ok_r09_Same e he), trivial⟩ trivial he.ok) RngOk.flat (LpOk_no (by kernel_rfl))
def L_l09_HalveSame_0_1 (a0 : T_r04_GreatCakes) (a1 : T_l09_alive) (a2 : T_r02_Normal) (a3 : T_ask_Open) (a4 : T_r04_SameLogs) (a5 : T_r04_SameLogs) (x20755500_2 : Ls → Ls → Int → Bool → Prop) (x20755500_3 : Ls → Bool → Prop) : Nat → Ls → Ls → Int → Prop
 | 0, _, _, _ => False
 | n20755500 + 1, l0, l1, i4 =>
 (cbr (decide (i4 < (((List.length l1) : Nat) : Int)))
 (asr (decide ((0 : Int) ≤ i4))
 (asr (decide (i4 < (((List.length l1) : Nat) : Int)))
 (lt (List.getD l1 (i4.toNat) .nils) (fun yr44 =>
 (asr (conf zK yr44)
 (a2 (intOfV (cellAt yr44 0)) (datOfV (cellAt yr44 1)) (datOfV (cellAt yr44 2)) (fun yi45 yl46 yl47 yi48 => 
 (cbr (yi48 != (0 : Int))
 (x20755500_3 l0 false)
 (asr (decide ((List.length l0) = (List.length l0)))
 (asr (decide ((0 + (List.length l0)) ≤ (List.length l0)))
 (asr (!(decide (((0 + (List.length l0)) + 1) ≤ (List.length l0))))
 (asr (decide ((List.length l0) = (List.length l0)))
 (asr (decide ((((List.length l0) + 1) + 64) * (56 + 1) ≤ room))
 (lt (IntKind.i64.wrap (i4 + (1 : Int))) (fun yi49 =>
 (asr (decide ((List.length (l0 ++ ([(.agg [(.int .i64 yi45), (.data yl46), (.data yl47)])] : Ls))) = List.length (l0 ++ ([(.agg [(.int .i64 yi45), (.data yl46), (.data yl47)])] : Ls))) && decide ((List.length (l0 ++ ([(.agg [(.int .i64 yi45), (.data yl46), (.data yl47)])] : Ls))) = List.length (l0 ++ ([(.agg [(.int .i64 yi45), (.data yl46), (.data yl47)])] : Ls))))
 (L_l09_HalveSame_0_1 a0 a1 a2 a3 a4 a5 x20755500_2 x20755500_3 n20755500 (l0 ++ ([(.agg [(.int .i64 yi45), (.data yl46), (.data yl47)])] : Ls)) l1 yi49)))))))))))))))))
 (x20755500_2 l0 l1 i4 false))
def L_l09_HalveSame_0_0 (a0 : T_r04_GreatCakes) (a1 : T_l09_alive) (a2 : T_r02_Normal) (a3 : T_ask_Open) (a4 : T_r04_SameLogs) (a5 : T_r04_SameLogs) (x20755500_0 : Ls → Int → Bool → Prop) (x20755500_1 : Bool → Prop) (x20755500_2 : Ls → Ls → Int → Bool → Prop) (x20755500_3 : Ls → Bool → Prop) : Nat → Ls → Int → Prop
 | 0, _, _ => False
 | n20755500 + 1, l0, i1 =>
 (cbr (decide (i1 < (((List.length l0) : Nat) : Int)))
 (asr (decide ((0 : Int) ≤ i1))
 (asr (decide (i1 < (((List.length l0) : Nat) : Int)))
 (lt (List.getD l0 (i1.toNat) .nils) (fun yr23 =>
 (asr (conf zK yr23)
 (a2 (intOfV (cellAt yr23 0)) (datOfV (cellAt yr23 1)) (datOfV (cellAt yr23 2)) (fun yi24 yl25 yl26 yi27 => 
 (cbr (yi27 != (0 : Int))
 (x20755500_1 false)
 (lt (IntKind.i64.wrap (i1 + (1 : Int))) (fun yi28 =>
 (asr (decide (1 = List.length ([(.agg [(.int .i64 yi24), (.data yl25), (.data yl26)])] : Ls)) && decide (1 = List.length ([(.agg [(.int .i64 yi24), (.data yl25), (.data yl26)])] : Ls)))
 (L_l09_HalveSame_0_1 a0 a1 a2 a3 a4 a5 x20755500_2 x20755500_3 n20755500 ([(.agg [(.int .i64 yi24), (.data yl25), (.data yl26)])] : Ls) l0 yi28))))))))))))
 (x20755500_0 l0 i1 false))
def L_l09_HalveSame_2_0 (a0 : T_r04_GreatCakes) (a1 : T_l09_alive) (a2 : T_r02_Normal) (a3 : T_ask_Open) (a4 : T_r04_SameLogs) (a5 : T_r04_SameLogs) (x20755501_0 : Ls → Ls → Int → Bool → Int → Bool → Prop) : Nat → Ls → Ls → Int → Bool → Int → Prop
 | 0, _, _, _, _, _ => False
 | n20755501 + 1, l0, l1, i2, b3, i4 =>
 (cbr (decide (i4 < (((List.length l0) : Nat) : Int)))
 (jn (fun (yj99 : Bool → Prop) =>
 (cbr b3
 (yj99 true)
 (asr (decide ((0 : Int) ≤ i4))
 (asr (decide (i4 < (((List.length l1) : Nat) : Int)))
 (lt (List.getD l1 (i4.toNat) .nils) (fun yr101 =>
 (asr (conf zD yr101)
 (cbr ((((List.length (datOfV yr101)) : Nat) : Int) == (1 : Int))
 (asr (decide ((0 : Int) ≤ i4))
 (asr (decide (i4 < (((List.length l1) : Nat) : Int)))
 (lt (List.getD l1 (i4.toNat) .nils) (fun yr102 =>
 (asr (conf zD yr102)
 (asr (decide ((0 : Int) < (((List.length (datOfV yr102)) : Nat) : Int)))
 (lt (List.getD (datOfV yr102) 0 .nils) (fun yr103 =>
 (asr (conf z4 yr103)
 (asr (decide ((0 : Int) ≤ i2))
 (asr (decide (i2 < (((List.length l1) : Nat) : Int)))
 (lt (List.getD l1 (i2.toNat) .nils) (fun yr104 =>
 (asr (conf zD yr104)
 (asr (decide ((0 : Int) < (((List.length (datOfV yr104)) : Nat) : Int)))
 (lt (List.getD (datOfV yr104) 0 .nils) (fun yr105 =>
 (asr (conf z4 yr105)
 (yj99 (((intOfV (cellAt yr103 2)) == (intOfV (cellAt yr105 0))) && (((intOfV (cellAt yr103 3)) == (intOfV (cellAt yr105 1))) && true)))))))))))))))))))))
 (yj99 false)))))))))
 (fun yb98 => (lt (IntKind.i64.wrap (i4 + (1 : Int))) (fun yi100 =>
 (L_l09_HalveSame_2_0 a0 a1 a2 a3 a4 a5 x20755501_0 n20755501 l0 l1 i2 yb98 yi100)))))
 (x20755501_0 l0 l1 i2 b3 i4 false))
def L_l09_HalveSame_2_1 (a0 : T_r04_GreatCakes) (a1 : T_l09_alive) (a2 : T_r02_Normal) (a3 : T_ask_Open) (a4 : T_r04_SameLogs) (a5 : T_r04_SameLogs) (x20755501_1 : Ls → Ls → Ls → Int → Bool → Int → Bool → Prop) : Nat → Ls → Ls → Ls → Int → Bool → Int → Prop
 | 0, _, _, _, _, _, _ => False
 | n20755501 + 1, l0, l1, l2, i3, b4, i5 =>
 (cbr (decide (i5 < (((List.length l1) : Nat) : Int)))
 (jn (fun (yj194 : Bool → Prop) =>
 (cbr b4
 (yj194 true)
 (asr (decide ((0 : Int) ≤ i5))
 (asr (decide (i5 < (((List.length l2) : Nat) : Int)))
 (lt (List.getD l2 (i5.toNat) .nils) (fun yr196 =>
 (asr (conf zD yr196)
 (cbr ((((List.length (datOfV yr196)) : Nat) : Int) == (1 : Int))
 (asr (decide ((0 : Int) ≤ i5))
 (asr (decide (i5 < (((List.length l2) : Nat) : Int)))
 (lt (List.getD l2 (i5.toNat) .nils) (fun yr197 =>
 (asr (conf zD yr197)
 (asr (decide ((0 : Int) < (((List.length (datOfV yr197)) : Nat) : Int)))
 (lt (List.getD (datOfV yr197) 0 .nils) (fun yr198 =>
 (asr (conf z4 yr198)
 (asr (decide ((0 : Int) ≤ i3))
 (asr (decide (i3 < (((List.length l2) : Nat) : Int)))
 (lt (List.getD l2 (i3.toNat) .nils) (fun yr199 =>
 (asr (conf zD yr199)
 (asr (decide ((0 : Int) < (((List.length (datOfV yr199)) : Nat) : Int)))
 (lt (List.getD (datOfV yr199) 0 .nils) (fun yr200 =>
 (asr (conf z4 yr200)
 (yj194 (((intOfV (cellAt yr198 2)) == (intOfV (cellAt yr200 0))) && (((intOfV (cellAt yr198 3)) == (intOfV (cellAt yr200 1))) && true)))))))))))))))))))))
 (yj194 false)))))))))
 (fun yb193 => (lt (IntKind.i64.wrap (i5 + (1 : Int))) (fun yi195 =>
 (L_l09_HalveSame_2_1 a0 a1 a2 a3 a4 a5 x20755501_1 n20755501 l0 l1 l2 i3 yb193 yi195)))))
 (x20755501_1 l0 l1 l2 i3 b4 i5 false))
def L_l09_HalveSame_1_0 (a0 : T_r04_GreatCakes) (a1 : T_l09_alive) (a2 : T_r02_Normal) (a3 : T_ask_Open) (a4 : T_r04_SameLogs) (a5 : T_r04_SameLogs) (x20755502_0 : Ls → Ls → Int → Bool → Prop) (x20755502_1 : Bool → Prop) : Nat → Ls → Ls → Int → Prop
 | 0, _, _, _ => False
 | n20755502 + 1, l0, l1, i2 =>
 (cbr (decide (i2 < (((List.length l0) : Nat) : Int)))
 (asr (decide ((0 : Int) ≤ i2))
 (asr (decide (i2 < (((List.length l1) : Nat) : Int)))
 (lt (List.getD l1 (i2.toNat) .nils) (fun yr121 =>
 (asr (conf zD yr121)
 (cbr ((((List.length (datOfV yr121)) : Nat) : Int) != (1 : Int))
 (x20755502_1 false)
 (asr (decide ((0 : Int) ≤ i2))
 (asr (decide (i2 < (((List.length l1) : Nat) : Int)))
 (lt (List.getD l1 (i2.toNat) .nils) (fun yr124 =>
 (asr (conf zD yr124)
 (asr (decide ((0 : Int) < (((List.length (datOfV yr124)) : Nat) : Int)))
 (lt (List.getD (datOfV yr124) 0 .nils) (fun yr125 =>
 (asr (conf z4 yr125)
 (∃ n20755501 : Nat, L_l09_HalveSame_2_0 a0 a1 a2 a3 a4 a5
 (fun yl132 yl133 yi134 yb135 _ _ => (cbr (!yb135)
 (x20755502_1 false)
 (lt (IntKind.i64.wrap (yi134 + (1 : Int))) (fun yi138 =>
 (L_l09_HalveSame_1_0 a0 a1 a2 a3 a4 a5 x20755502_0 x20755502_1 n20755502 yl132 yl133 yi138)))))
 n20755501 l0 l1 i2 ((intOfV (cellAt yr125 0)) == (0 : Int)) (0 : Int)))))))))))))))))
 (x20755502_0 l0 l1 i2 false))
def L_l09_HalveSame_1_1 (a0 : T_r04_GreatCakes) (a1 : T_l09_alive) (a2 : T_r02_Normal) (a3 : T_ask_Open) (a4 : T_r04_SameLogs) (a5 : T_r04_SameLogs) (x20755502_2 : Ls → Ls → Ls → Int → Bool → Prop) (x20755502_3 : Ls → Bool → Prop) : Nat → Ls → Ls → Ls → Int → Prop
 | 0, _, _, _, _ => False
 | n20755502 + 1, l0, l1, l2, i3 =>
 (cbr (decide (i3 < (((List.length l1) : Nat) : Int)))
 (asr (decide ((0 : Int) ≤ i3))
 (asr (decide (i3 < (((List.length l2) : Nat) : Int)))
 (lt (List.getD l2 (i3.toNat) .nils) (fun yr218 =>
 (asr (conf zD yr218)
 (cbr ((((List.length (datOfV yr218)) : Nat) : Int) != (1 : Int))
 (x20755502_3 l0 false)
 (asr (decide ((0 : Int) ≤ i3))
 (asr (decide (i3 < (((List.length l2) : Nat) : Int)))
 (lt (List.getD l2 (i3.toNat) .nils) (fun yr221 =>
 (asr (conf zD yr221)
 (asr (decide ((0 : Int) < (((List.length (datOfV yr221)) : Nat) : Int)))
 (lt (List.getD (datOfV yr221) 0 .nils) (fun yr222 =>
 (asr (conf z4 yr222)
 (∃ n20755501 : Nat, L_l09_HalveSame_2_1 a0 a1 a2 a3 a4 a5
 (fun yl230 yl231 yl232 yi233 yb234 _ _ => (cbr (!yb234)
 (x20755502_3 yl230 false)
 (lt (IntKind.i64.wrap (yi233 + (1 : Int))) (fun yi237 =>
 (L_l09_HalveSame_1_1 a0 a1 a2 a3 a4 a5 x20755502_2 x20755502_3 n20755502 yl230 yl231 yl232 yi237)))))
 n20755501 l0 l1 l2 i3 ((intOfV (cellAt yr222 0)) == (0 : Int)) (0 : Int)))))))))))))))))
 (x20755502_2 l0 l1 l2 i3 false))
def wv_l09_HalveSame (a0 : T_r04_GreatCakes) (a1 : T_l09_alive) (a2 : T_r02_Normal) (a3 : T_ask_Open) (a4 : T_r04_SameLogs) (a5 : T_r04_SameLogs) (p0 : Ls) (K : Bool → Prop) : Prop :=
 (a0 p0 (fun yb5 => 
 (cbr (!yb5)
 (a1  (fun yb7 => 
 (K yb7)))
 (∃ n20755500 : Nat, L_l09_HalveSame_0_0 a0 a1 a2 a3 a4 a5
 (fun yl60 _ _ => (a3 yl60 (fun yl66 yl67 yi68 => 
 (a3 ([] : Ls) (fun yl72 yl73 yi74 => 
 (jn (fun (yj84 : Bool → Prop) =>
 (cbr (yi68 != (0 : Int))
 (yj84 true)
 (cbr (yi74 != (0 : Int))
 (yj84 true)
 (a4 yl66 yl72 (fun yb151 => 
 (cbr (!yb151)
 (yj84 true)
 (a5 yl67 yl73 (fun yb152 => 
 (cbr (!yb152)
 (yj84 true)
 (yj84 ((((List.length yl66) : Nat) : Int) != (((List.length yl60) : Nat) : Int))))))))))))
 (fun yb83 => (cbr yb83
 (K false)
 (∃ n20755502 : Nat, L_l09_HalveSame_1_0 a0 a1 a2 a3 a4 a5
 (fun _ _ _ _ => (a1  (fun yb149 => 
 (K yb149))))
 (fun yb150 => (K yb150))
 n20755502 yl60 yl66 (0 : Int))))))))))
 (fun yb153 => (K yb153))
 (fun yl154 yl155 _ _ => (a3 yl155 (fun yl161 yl162 yi163 => 
 (asr (decide ((List.length yl154) = (List.length yl154)))
 (asr (decide ((0 + (List.length yl154)) ≤ (List.length yl154)))
 (a3 (List.take (List.length yl154) yl154) (fun yl167 yl168 yi169 => 
 (jn (fun (yj179 : Bool → Prop) =>
 (cbr (yi163 != (0 : Int))
 (yj179 true)
 (cbr (yi169 != (0 : Int))
 (yj179 true)
 (a4 yl161 yl167 (fun yb254 => 
 (cbr (!yb254)
 (yj179 true)
 (a5 yl162 yl168 (fun yb255 => 
 (cbr (!yb255)
 (yj179 true)
 (yj179 ((((List.length yl161) : Nat) : Int) != (((List.length yl155) : Nat) : Int))))))))))))
 (fun yb178 => (cbr yb178
 (K false)
 (∃ n20755502 : Nat, L_l09_HalveSame_1_1 a0 a1 a2 a3 a4 a5
 (fun _ _ _ _ _ => (a1  (fun yb251 => 
 (K yb251))))
 (fun _ yb253 => (K yb253))
 n20755502 yl154 yl155 yl161 (0 : Int))))))))))))
 (fun _ yb257 => (K yb257))
 n20755500 p0 (0 : Int)))))
def w_l09_HalveSame : T_r04_GreatCakes := wv_l09_HalveSame w_l09_fit w_l09_alive w_r02_Normal w_halve_Run w_r06_Same w_r04_SameLogs
def X_l09_HalveSame_0_0 (Q : Qx) : Ls → Int → Bool → Prop := (fun l0 i1 b2 => Q (.exit 0) [(0, .v (.data l0)), (3, .v .nils), (4, .v (.int .i64 i1)), (23, .v (.bool b2))] [])
def X_l09_HalveSame_0_1 (Q : Qx) : Bool → Prop := (fun b0 => Q .ret [(2, .v (.bool b0))] [])
def X_l09_HalveSame_0_2 (Q : Qx) : Ls → Ls → Int → Bool → Prop := (fun l0 l1 i4 b5 => Q (.exit 0) [(0, .v (.data l1)), (3, .v (.own 0 0 (List.length l0) (List.length l0) none)), (4, .v (.int .i64 i4)), (23, .v (.bool b5))] [⟨false, true, 3, l0⟩])
def X_l09_HalveSame_0_3 (Q : Qx) : Ls → Bool → Prop := (fun l0 b1 => Q .ret [(2, .v (.bool b1))] [⟨false, true, 3, l0⟩])
def X_l09_HalveSame_2_0 (Q : Qx) : Ls → Ls → Int → Bool → Int → Bool → Prop := (fun l0 l1 i2 b3 i4 b5 => Q (.exit 4) [(0, .v (.data l0)), (7, .box (.agg [(.data l1)])), (13, .v (.int .i64 i2)), (14, .v (.bool b3)), (15, .v (.int .i64 i4)), (104, .v (.bool b5))] [])
def X_l09_HalveSame_2_1 (Q : Qx) : Ls → Ls → Ls → Int → Bool → Int → Bool → Prop := (fun l0 l1 l2 i3 b4 i5 b6 => Q (.exit 4) [(0, .v (.data l1)), (7, .box (.agg [(.data l2)])), (13, .v (.int .i64 i3)), (14, .v (.bool b4)), (15, .v (.int .i64 i5)), (104, .v (.bool b6))] [⟨true, true, 3, l0⟩])
def X_l09_HalveSame_1_0 (Q : Qx) : Ls → Ls → Int → Bool → Prop := (fun l0 l1 i2 b3 => Q (.exit 2) [(0, .v (.data l0)), (7, .box (.agg [(.data l1)])), (13, .v (.int .i64 i2)), (81, .v (.bool b3))] [])
def X_l09_HalveSame_1_1 (Q : Qx) : Bool → Prop := (fun b0 => Q .ret [(2, .v (.bool b0))] [])
def X_l09_HalveSame_1_2 (Q : Qx) : Ls → Ls → Ls → Int → Bool → Prop := (fun l0 l1 l2 i3 b4 => Q (.exit 2) [(0, .v (.data l1)), (7, .box (.agg [(.data l2)])), (13, .v (.int .i64 i3)), (81, .v (.bool b4))] [⟨true, true, 3, l0⟩])
def X_l09_HalveSame_1_3 (Q : Qx) : Ls → Bool → Prop := (fun l0 b1 => Q .ret [(2, .v (.bool b1))] [⟨true, true, 3, l0⟩])
def St_l09_HalveSame_0 (a0 : T_r04_GreatCakes) (a1 : T_l09_alive) (a2 : T_r02_Normal) (a3 : T_ask_Open) (a4 : T_r04_SameLogs) (a5 : T_r04_SameLogs) (Q : Qx) : List St := [⟨(pS hN (fV 0 vD (fV 3 vNs pt10)) fN), L_l09_HalveSame_0_0 a0 a1 a2 a3 a4 a5 (X_l09_HalveSame_0_0 Q) (X_l09_HalveSame_0_1 Q) (X_l09_HalveSame_0_2 Q) (X_l09_HalveSame_0_3 Q)⟩, ⟨(pS pt17 (fV 0 vD (fV 3 pt18 pt10)) fN), L_l09_HalveSame_0_1 a0 a1 a2 a3 a4 a5 (X_l09_HalveSame_0_2 Q) (X_l09_HalveSame_0_3 Q)⟩]
def pt47 : Pat Frm := fV 0 vD (fX 7 (vA pt7) (fV 13 pt0 (fV 14 vB (fV 15 pt0 fN))))
def St_l09_HalveSame_2 (a0 : T_r04_GreatCakes) (a1 : T_l09_alive) (a2 : T_r02_Normal) (a3 : T_ask_Open) (a4 : T_r04_SameLogs) (a5 : T_r04_SameLogs) (Q : Qx) : List St := [⟨(pS hN pt47 fN), L_l09_HalveSame_2_0 a0 a1 a2 a3 a4 a5 (X_l09_HalveSame_2_0 Q)⟩, ⟨(pS (hB true true 3 rA hN) pt47 fN), L_l09_HalveSame_2_1 a0 a1 a2 a3 a4 a5 (X_l09_HalveSame_2_1 Q)⟩]
def pt48 : Pat Frm := fV 0 vD (fX 7 (vA pt7) (fV 13 pt0 fN))
def St_l09_HalveSame_1 (a0 : T_r04_GreatCakes) (a1 : T_l09_alive) (a2 : T_r02_Normal) (a3 : T_ask_Open) (a4 : T_r04_SameLogs) (a5 : T_r04_SameLogs) (Q : Qx) : List St := [⟨(pS hN pt48 fN), L_l09_HalveSame_1_0 a0 a1 a2 a3 a4 a5 (X_l09_HalveSame_1_0 Q) (X_l09_HalveSame_1_1 Q)⟩, ⟨(pS (hB true true 3 rA hN) pt48 fN), L_l09_HalveSame_1_1 a0 a1 a2 a3 a4 a5 (X_l09_HalveSame_1_2 Q) (X_l09_HalveSame_1_3 Q)⟩]
def lp_l09_HalveSame (a0 : T_r04_GreatCakes) (a1 : T_l09_alive) (a2 : T_r02_Normal) (a3 : T_ask_Open) (a4 : T_r04_SameLogs) (a5 : T_r04_SameLogs) : LP := lpS [(20755500, St_l09_HalveSame_0 a0 a1 a2 a3 a4 a5), (20755501, St_l09_HalveSame_2 a0 a1 a2 a3 a4 a5), (20755502, St_l09_HalveSame_1 a0 a1 a2 a3 a4 a5)]
def S0_l09_HalveSame (e : Es) (a0 : T_r04_GreatCakes) (a1 : T_l09_alive) (a2 : T_r02_Normal) (a3 : T_ask_Open) (a4 : T_r04_SameLogs) (a5 : T_r04_SameLogs) : SE := sE (E e) [(n_l09_fit, sg_r04_GreatCakes.pw a0), (n_l09_alive, sg_l09_alive.pw a1), (n_r02_Normal, sg_r02_Normal.pw a2), (n_halve_Run, sg_halve_Run.pw a3), (n_r06_Same, sg_r06_Same.pw a4), (n_r04_SameLogs, sg_r04_SameLogs.pw a5)] (lp_l09_HalveSame a0 a1 a2 a3 a4 a5)
theorem se0_l09_HalveSame (e : Es) (he : EG e) : SEOk (Uni (E e)) (S0_l09_HalveSame e w_l09_fit w_l09_alive w_r02_Normal w_halve_Run w_r06_Same w_r04_SameLogs) := seOk_of (Sub.uni _) ⟨(ok_l09_fit e he), (ok_l09_alive e he), (ok_r02_Normal e he), (ok_halve_Run e he), (ok_r06_Same e he), (ok_r04_SameLogs e he), trivial⟩ trivial he.ok
theorem body_l09_HalveSame_0 (e : Es) (a0 a1 a2 a3 a4 a5) : BodOk (S0_l09_HalveSame e a0 a1 a2 a3 a4 a5) 5 yk0 b_20755500 false (St_l09_HalveSame_0 a0 a1 a2 a3 a4 a5) := fun _ => ⟨fun _ => by kernel_rfl, fun _ _ => by kernel_rfl, fun _ => by kernel_rfl, fun _ _ => by kernel_rfl, trivial⟩
theorem loop_l09_HalveSame_0 (e : Es) (he : EG e) : LpT (Uni (E e)) (lp_l09_HalveSame w_l09_fit w_l09_alive w_r02_Normal w_halve_Run w_r06_Same w_r04_SameLogs) [] 20755500 (.loop 20755500 b_20755500) := fun _ _ _ => LoopT.st (Sub.uni _) (callW_ok (se0_l09_HalveSame e he) 5) (YOk.no _ _) (LpOk_no (by kernel_rfl)) (body_l09_HalveSame_0 e _ _ _ _ _ _ _)
theorem body_l09_HalveSame_2 (e : Es) (a0 a1 a2 a3 a4 a5) : BodOk (S0_l09_HalveSame e a0 a1 a2 a3 a4 a5) 5 yk0 b_20755501 false (St_l09_HalveSame_2 a0 a1 a2 a3 a4 a5) := fun _ => ⟨fun _ => by kernel_rfl, fun _ _ => by kernel_rfl, fun _ => by kernel_rfl, fun _ _ => by kernel_rfl, trivial⟩
theorem loop_l09_HalveSame_2 (e : Es) (he : EG e) : LpT (Uni (E e)) (lp_l09_HalveSame w_l09_fit w_l09_alive w_r02_Normal w_halve_Run w_r06_Same w_r04_SameLogs) [] 20755501 (.loop 20755501 b_20755501) := fun _ _ _ => LoopT.st (Sub.uni _) (callW_ok (se0_l09_HalveSame e he) 5) (YOk.no _ _) (LpOk_no (by kernel_rfl)) (body_l09_HalveSame_2 e _ _ _ _ _ _ _)
theorem body_l09_HalveSame_1 (e : Es) (a0 a1 a2 a3 a4 a5) : BodOk (S0_l09_HalveSame e a0 a1 a2 a3 a4 a5) 5 yk0 b_20755502 false (St_l09_HalveSame_1 a0 a1 a2 a3 a4 a5) := fun _ => ⟨fun _ => by kernel_rfl, fun _ _ => by kernel_rfl, fun _ => by kernel_rfl, fun _ _ => by kernel_rfl, trivial⟩
theorem loop_l09_HalveSame_1 (e : Es) (he : EG e) : LpT (Uni (E e)) (lp_l09_HalveSame w_l09_fit w_l09_alive w_r02_Normal w_halve_Run w_r06_Same w_r04_SameLogs) [] 20755502 (.loop 20755502 b_20755502) := fun _ _ _ => LoopT.st (Sub.uni _) (callW_ok (se0_l09_HalveSame e he) 5) (YOk.no _ _) (LpOk_by (l := [(20755501, .loop 20755501 b_20755501)]) ⟨loop_l09_HalveSame_2 e he, trivial⟩ (by kernel_rfl)) (body_l09_HalveSame_1 e _ _ _ _ _ _ _)
theorem eq_l09_HalveSame (e : Es) (a0 a1 a2 a3 a4 a5) : EqW (S0_l09_HalveSame e a0 a1 a2 a3 a4 a5) 6 t_l09_HalveSame sg_r04_GreatCakes (wv_l09_HalveSame a0 a1 a2 a3 a4 a5) := fun _ _ => by kernel_rfl
theorem ok_l09_HalveSame (e : Es) (he : EG e) : OkF (E e) (sg_r04_GreatCakes.pw w_l09_HalveSame) n_l09_HalveSame := okU he (eq_l09_HalveSame e _ _ _ _ _ _) (se0_l09_HalveSame e he) RngOk.flat (LpOk_by (l := [(20755500, .loop 20755500 b_20755500), (20755501, .loop 20755501 b_20755501), (20755502, .loop 20755502 b_20755502)]) ⟨loop_l09_HalveSame_0 e he, loop_l09_HalveSame_2 e he, loop_l09_HalveSame_1 e he, trivial⟩ (by kernel_rfl))
end Go.Pf.Vc
namespace Go.Pf.Vc
open Go Go.Pf
def I64 (n : Int) : Prop := -9223372036854775808 ≤ n ∧ n ≤ 9223372036854775807
def U64 (n : Int) : Prop := 0 ≤ n ∧ n ≤ 18446744073709551615
theorem wu64' (n : Int) : IntKind.u64.wrap n = n % 18446744073709551616 := by
 simp only [IntKind.wrap, IntKind.signed, IntKind.bits, Bool.false_and, Bool.false_eq_true, if_false]
 rfl
theorem wi64' (n : Int) : IntKind.i64.wrap n = if n % 18446744073709551616 ≥ 9223372036854775808 then n % 18446744073709551616 - 18446744073709551616 else n % 18446744073709551616 := by
 have e1 : (2 : Int) ^ 64 = 18446744073709551616 := rfl
 have e2 : (2 : Int) ^ (64 - 1) = 9223372036854775808 := rfl
 simp only [IntKind.wrap, IntKind.signed, IntKind.bits, Bool.true_and, e1, e2]
 by_cases h : n % 18446744073709551616 ≥ 9223372036854775808 <;> simp [h]
theorem wu64 {n : Int} (h : U64 n) : IntKind.u64.wrap n = n := by
 unfold U64 at h
 rw [wu64']
 omega
theorem wi64 {n : Int} (h : I64 n) : IntKind.i64.wrap n = n := by
 unfold I64 at h
 rw [wi64']
 split <;> omega
theorem cbr_true {x y : Prop} : cbr true x y = x := rfl
theorem cbr_false {x y : Prop} : cbr false x y = y := rfl
theorem asr_true {x : Prop} : asr true x = x := rfl
theorem size_eq {p : Int} (h : I64 p) (K : Int → Prop) : w_ratio_size p K = K (p.natAbs : Int) := by
 unfold I64 at h
 unfold w_ratio_size wv_ratio_size
 by_cases hp : p < 0
 · have e : IntKind.u64.wrap ((0 : Int) - IntKind.u64.wrap p) = (p.natAbs : Int) := by
     rw [wu64', wu64']
     omega
   rw [decide_eq_true hp, cbr_true, e]
 · rw [decide_eq_false hp, cbr_false, wu64 ⟨by omega, by omega⟩]
   congr 1
   omega
theorem gcd_loop (x : Int → Int → Bool → Prop) : ∀ (n a b : Nat), b < n → L_ratio_gcd_0_0 x n (a : Int) (b : Int) = x ((Nat.gcd a b : Nat) : Int) 0 false
 | 0, a, b, h => by omega
 | n + 1, a, b, h => by
   unfold L_ratio_gcd_0_0
   by_cases hb : b = 0
   · subst hb
     simp [cbr]
   · have h1 : (b : Int) > 0 := by omega
     have h2 : ¬ ((b : Int) = 0) := by omega
     rw [decide_eq_true h1, cbr_true, decide_eq_false h2, Bool.not_false, asr_true]
     have e : Int.tmod (a : Int) (b : Int) = ((a % b : Nat) : Int) := by rw [Int.tmod_eq_emod_of_nonneg (by omega)]; omega
     rw [e, gcd_loop x n b (a % b) (by have := Nat.mod_lt a (show b > 0 by omega); omega)]
     rw [Nat.gcd_comm a b, Nat.gcd_rec b a, Nat.gcd_comm]
theorem gcd_of (a b : Nat) (K : Int → Prop) (h : K ((Nat.gcd a b : Nat) : Int)) : w_ratio_gcd (a : Int) (b : Int) K := by
 unfold w_ratio_gcd wv_ratio_gcd
 exact ⟨b + 1, by rw [gcd_loop _ (b + 1) a b (by omega)]; exact h⟩
def RV (n d : Int) : Prop := 1 ≤ d ∧ d ≤ 1000000000000000000 ∧ -1000000000000000000 ≤ n ∧ n ≤ 1000000000000000000 ∧ Nat.gcd n.natAbs d.natAbs = 1
instance (n d : Int) : Decidable (RV n d) := by unfold RV; infer_instance
def chk (n d : Int) : Int := if RV n d then 0 else 8
theorem Check_of {n d : Int} (hn : I64 n) (hd : I64 d) {K : Int → Prop} (h : K (chk n d)) : w_ratio_Check n d K := by
 unfold w_ratio_Check wv_ratio_Check
 by_cases h1 : d < 1
 · have e : chk n d = 8 := if_neg fun h => by have := h.1; omega
   rw [decide_eq_true h1, cbr_true, ← e]; exact h
 · have hd' := hd; have hn' := hn
   unfold I64 at hd' hn'
   have ed : IntKind.u64.wrap d = ((d.natAbs : Nat) : Int) := by rw [wu64 ⟨by omega, by omega⟩]; omega
   rw [decide_eq_false h1, cbr_false, size_eq hn, ed]
   by_cases h2 : ((if ((d.natAbs : Nat) : Int) > ((n.natAbs : Nat) : Int) then ((d.natAbs : Nat) : Int) else ((n.natAbs : Nat) : Int)) > 1000000000000000000)
   · have e : chk n d = 8 := if_neg fun h => by
       obtain ⟨a1, a2, a3, a4, _⟩ := h
       revert h2; split <;> omega
     rw [decide_eq_true h2, cbr_true, ← e]; exact h
   · rw [decide_eq_false h2, cbr_false, size_eq hn]
     refine gcd_of _ _ _ ?_
     have h3 : 0 < Nat.gcd n.natAbs d.natAbs := Nat.gcd_pos_of_pos_right _ (by omega)
     have h4 : d ≤ 1000000000000000000 ∧ -1000000000000000000 ≤ n ∧ n ≤ 1000000000000000000 := by
       revert h2; split <;> omega
     by_cases h5 : ((Nat.gcd n.natAbs d.natAbs : Nat) : Int) > 1
     · have e : chk n d = 8 := if_neg fun h => by have := h.2.2.2.2; omega
       rw [decide_eq_true h5, cbr_true, ← e]; exact h
     · have e : chk n d = 0 := if_pos ⟨by omega, h4.1, h4.2.1, h4.2.2, by omega⟩
       rw [decide_eq_false h5, cbr_false, ← e]; exact h
end Go.Pf.Vc
namespace Go.Pf.Vc
open Go Go.Pf
theorem mask32 {p : Int} (h : U64 p) : IntKind.u64.wrap (BitVec.ofInt IntKind.u64.bits p &&& BitVec.ofInt IntKind.u64.bits (4294967295 : Int)).toNat = p % 4294967296 := by
 unfold U64 at h
 have e1 : (BitVec.ofInt 64 p).toNat = p.toNat := by
   rw [BitVec.toNat_ofInt]; omega
 have e2 : (BitVec.ofInt 64 (4294967295 : Int)).toNat = 4294967295 := rfl
 have e3 : (BitVec.ofInt IntKind.u64.bits p &&& BitVec.ofInt IntKind.u64.bits (4294967295 : Int)).toNat = p.toNat % 4294967296 := by
   show (BitVec.ofInt 64 p &&& BitVec.ofInt 64 (4294967295 : Int)).toNat = _
   rw [BitVec.toNat_and, e1, e2]
   exact Nat.and_two_pow_sub_one_eq_mod p.toNat 32
 rw [e3, wu64']
 omega
theorem fdiv32 (p : Int) : Int.fdiv p 4294967296 = p / 4294967296 := by
 rw [Int.fdiv_eq_ediv_of_nonneg _ (by omega)]
theorem Mul64_eq {a b : Int} (ha : U64 a) (hb : U64 b) (K : Int → Int → Prop) : w_m_Mul64 a b K = K (a * b / 18446744073709551616) (a * b % 18446744073709551616) := by
 unfold w_m_Mul64 wv_m_Mul64
 simp only [fdiv32]
 rw [mask32 ha, mask32 hb]
 unfold U64 at ha hb
 have ha' := ha; have hb' := hb
 obtain ⟨x1, hx1⟩ : ∃ x, x = a / 4294967296 := ⟨_, rfl⟩
 obtain ⟨x0, hx0⟩ : ∃ x, x = a % 4294967296 := ⟨_, rfl⟩
 obtain ⟨y1, hy1⟩ : ∃ x, x = b / 4294967296 := ⟨_, rfl⟩
 obtain ⟨y0, hy0⟩ : ∃ x, x = b % 4294967296 := ⟨_, rfl⟩
 rw [← hx1, ← hx0, ← hy1, ← hy0]
 have b1 : 0 ≤ x1 ∧ x1 ≤ 4294967295 := by omega
 have b2 : 0 ≤ x0 ∧ x0 ≤ 4294967295 := by omega
 have b3 : 0 ≤ y1 ∧ y1 ≤ 4294967295 := by omega
 have b4 : 0 ≤ y0 ∧ y0 ≤ 4294967295 := by omega
 have pb : ∀ x y : Int, 0 ≤ x ∧ x ≤ 4294967295 → 0 ≤ y ∧ y ≤ 4294967295 → 0 ≤ x * y ∧ x * y ≤ 18446744065119617025 := by
   intro x y hx hy
   refine ⟨Int.mul_nonneg hx.1 hy.1, ?_⟩
   have := Int.mul_le_mul hx.2 hy.2 hy.1 (by omega : (0 : Int) ≤ 4294967295)
   omega
 have p1 := pb x1 y1 b1 b3
 have p2 := pb x1 y0 b1 b4
 have p3 := pb x0 y1 b2 b3
 have p4 := pb x0 y0 b2 b4
 have ea : a = x1 * 4294967296 + x0 := by omega
 have eb : b = y1 * 4294967296 + y0 := by omega
 have eab : a * b = x1 * y1 * 18446744073709551616 + x1 * y0 * 4294967296 + x0 * y1 * 4294967296 + x0 * y0 := by
   rw [ea, eb]; grind
 obtain ⟨P, hP⟩ : ∃ x, x = x1 * y1 := ⟨_, rfl⟩
 obtain ⟨Q, hQ⟩ : ∃ x, x = x1 * y0 := ⟨_, rfl⟩
 obtain ⟨R, hR⟩ : ∃ x, x = x0 * y1 := ⟨_, rfl⟩
 obtain ⟨S, hS⟩ : ∃ x, x = x0 * y0 := ⟨_, rfl⟩
 rw [← hP] at p1; rw [← hQ] at p2; rw [← hR] at p3; rw [← hS] at p4
 rw [← hP, ← hQ, ← hR, ← hS] at eab ⊢
 have w1 : IntKind.u64.wrap S = S := wu64 ⟨by omega, by omega⟩
 have w2 : IntKind.u64.wrap Q = Q := wu64 ⟨by omega, by omega⟩
 have w3 : IntKind.u64.wrap R = R := wu64 ⟨by omega, by omega⟩
 have w4 : IntKind.u64.wrap P = P := wu64 ⟨by omega, by omega⟩
 rw [w1, w2, w3, w4]
 have w5 : IntKind.u64.wrap (Q + S / 4294967296) = Q + S / 4294967296 := wu64 ⟨by omega, by omega⟩
 rw [w5, mask32 ⟨by omega, by omega⟩]
 have w6 : IntKind.u64.wrap ((Q + S / 4294967296) % 4294967296 + R) = (Q + S / 4294967296) % 4294967296 + R := wu64 ⟨by omega, by omega⟩
 rw [w6]
 have w7 : IntKind.u64.wrap (P + (Q + S / 4294967296) / 4294967296) = P + (Q + S / 4294967296) / 4294967296 := by
   have : a * b / 18446744073709551616 ≤ 18446744073709551615 := by
     have h1 : a * b ≤ 18446744073709551615 * 18446744073709551615 := by
       have := Int.mul_le_mul ha'.2 hb'.2 hb'.1 (by omega : (0 : Int) ≤ 18446744073709551615)
       exact this
     omega
   exact wu64 ⟨by omega, by omega⟩
 rw [w7]
 have hab : a * b ≤ 18446744073709551615 * 18446744073709551615 := Int.mul_le_mul ha'.2 hb'.2 hb'.1 (by omega : (0 : Int) ≤ 18446744073709551615)
 rw [eab] at hab ⊢
 rw [wu64', wu64']
 congr 1
 omega
theorem Or2_of {a b : Int} {K : Int → Prop} (h : K (if a = 0 then b else a)) : w_cmp_Or_api_Errno [.int .i64 a, .int .i64 b] K := by
 unfold w_cmp_Or_api_Errno wv_cmp_Or_api_Errno
 refine ⟨3, ?_⟩
 have e1 : IntKind.i64.wrap 1 = 1 := by decide
 have e2 : IntKind.i64.wrap 2 = 2 := by decide
 by_cases ha : a = 0
 · by_cases hb : b = 0
   · simp [L_cmp_Or_api_Errno_0_0, cbr_true, cbr_false, asr_true, conf, confC, intOfV, e1, e2, ha, hb] at h ⊢; exact h
   · have e3 : (b != 0) = true := by simpa using hb
     simp [L_cmp_Or_api_Errno_0_0, cbr_true, cbr_false, asr_true, conf, confC, intOfV, e1, e2, ha, e3] at h ⊢; exact h
 · have e3 : (a != 0) = true := by simpa using ha
   simp [L_cmp_Or_api_Errno_0_0, cbr_true, cbr_false, asr_true, conf, confC, intOfV, e1, e2, ha, e3] at h ⊢; exact h
def chk2 (a b c d : Int) : Int := if chk a b = 0 then chk c d else chk a b
theorem check_of {a b c d : Int} (ha : I64 a) (hb : I64 b) (hc : I64 c) (hd : I64 d) {K : Int → Prop} (h : K (chk2 a b c d)) : w_ratio_check a b c d K := by
 unfold w_ratio_check wv_ratio_check
 exact Check_of ha hb (Check_of hc hd (Or2_of h))
end Go.Pf.Vc
namespace Go.Pf.Vc
open Go Go.Pf
def cmp3 (a b : Int) : Int := if a < b then -1 else if a > b then 1 else 0
theorem Compare_i_eq (a b : Int) (K : Int → Prop) : w_cmp_Compare_int64 a b K = K (cmp3 a b) := by
 unfold w_cmp_Compare_int64 wv_cmp_Compare_int64
 simp only [w_cmp_isNaN_int64, wv_cmp_isNaN_int64, bne_self_eq_false, cbr_false, cmp3]
 by_cases h : a < b
 · simp [h, cbr_true]
 · by_cases h2 : a > b
   · simp [h, h2, cbr_true, cbr_false]
   · simp [h, h2, cbr_false]
theorem Compare_u_eq (a b : Int) (K : Int → Prop) : w_cmp_Compare_uint64 a b K = K (cmp3 a b) := by
 unfold w_cmp_Compare_uint64 wv_cmp_Compare_uint64
 simp only [w_cmp_isNaN_uint64, wv_cmp_isNaN_uint64, bne_self_eq_false, cbr_false, cmp3]
 by_cases h : a < b
 · simp [h, cbr_true]
 · by_cases h2 : a > b
   · simp [h, h2, cbr_true, cbr_false]
   · simp [h, h2, cbr_false]
theorem Or2i_of {a b : Int} {K : Int → Prop} (h : K (if a = 0 then b else a)) : w_cmp_Or_int [.int .i64 a, .int .i64 b] K := by
 unfold w_cmp_Or_int wv_cmp_Or_int
 refine ⟨3, ?_⟩
 have e1 : IntKind.i64.wrap 1 = 1 := by decide
 have e2 : IntKind.i64.wrap 2 = 2 := by decide
 by_cases ha : a = 0
 · by_cases hb : b = 0
   · simp [L_cmp_Or_int_0_0, cbr_true, cbr_false, asr_true, conf, confC, intOfV, e1, e2, ha, hb] at h ⊢; exact h
   · have e3 : (b != 0) = true := by simpa using hb
     simp [L_cmp_Or_int_0_0, cbr_true, cbr_false, asr_true, conf, confC, intOfV, e1, e2, ha, e3] at h ⊢; exact h
 · have e3 : (a != 0) = true := by simpa using ha
   simp [L_cmp_Or_int_0_0, cbr_true, cbr_false, asr_true, conf, confC, intOfV, e1, e2, ha, e3] at h ⊢; exact h
theorem chk2_zero {a b c d : Int} : chk2 a b c d = 0 ↔ RV a b ∧ RV c d := by
 unfold chk2 chk
 by_cases h1 : RV a b <;> by_cases h2 : RV c d <;> simp [h1, h2]
def cmpR (a b c d : Int) : Int := cmp3 (a * d) (c * b)
theorem cmp3_wide {x y : Int} (_ : 0 ≤ x) (_ : 0 ≤ y) : (if cmp3 (x / 18446744073709551616) (y / 18446744073709551616) = 0 then cmp3 (x % 18446744073709551616) (y % 18446744073709551616) else cmp3 (x / 18446744073709551616) (y / 18446744073709551616)) = cmp3 x y := by
 unfold cmp3
 split <;> rename_i h <;> revert h <;> repeat' split <;> intro h <;> omega
theorem U64.abs {n : Int} (h : I64 n) : U64 ((n.natAbs : Nat) : Int) := by unfold I64 at h; unfold U64; omega
theorem Cmp_of {a b c d : Int} (ha : I64 a) (hb : I64 b) (hc : I64 c) (hd : I64 d) {K : Int → Int → Prop} (h : K (if chk2 a b c d = 0 then cmpR a b c d else 0) (chk2 a b c d)) : w_ratio_Cmp a b c d K := by
 unfold w_ratio_Cmp wv_ratio_Cmp
 refine check_of ha hb hc hd ?_
 by_cases hk : chk2 a b c d = 0
 · rw [if_pos hk] at h
   rw [hk] at h ⊢
   obtain ⟨⟨b1, b2, a1, a2, _⟩, d1, d2, c1, c2, _⟩ := chk2_zero.1 hk
   simp only [bne_self_eq_false, cbr_false]
   by_cases hs : decide (a < 0) = decide (c < 0)
   · have e : (decide (a < 0) != decide (c < 0)) = false := by rw [hs]; simp
     rw [e, cbr_false, size_eq ha, wu64 ⟨by omega, by omega⟩, Mul64_eq (U64.abs ha) ⟨by omega, by omega⟩, size_eq hc, wu64 ⟨by omega, by omega⟩, Mul64_eq (U64.abs hc) ⟨by omega, by omega⟩, Compare_u_eq, Compare_u_eq]
     refine Or2i_of ?_
     have p1 : 0 ≤ ((a.natAbs : Nat) : Int) * d := Int.mul_nonneg (by omega) (by omega)
     have p2 : 0 ≤ ((c.natAbs : Nat) : Int) * b := Int.mul_nonneg (by omega) (by omega)
     rw [cmp3_wide p1 p2]
     by_cases hneg : a < 0
     · have hcn : c < 0 := by simpa [hneg] using hs.symm
       rw [decide_eq_true hneg, cbr_true]
       have e1 : ((a.natAbs : Nat) : Int) * d = -(a * d) := by
         rw [show ((a.natAbs : Nat) : Int) = -a by omega, Int.neg_mul]
       have e2 : ((c.natAbs : Nat) : Int) * b = -(c * b) := by
         rw [show ((c.natAbs : Nat) : Int) = -c by omega, Int.neg_mul]
       have e3 : IntKind.i64.wrap (0 - cmp3 (((a.natAbs : Nat) : Int) * d) (((c.natAbs : Nat) : Int) * b)) = cmpR a b c d := by
         rw [e1, e2]
         unfold cmpR cmp3
         rw [wi64 (by unfold I64; repeat' split <;> omega)]
         repeat' split <;> omega
       rw [e3]; exact h
     · have hcn : ¬ c < 0 := by simpa [hneg] using hs.symm
       rw [decide_eq_false hneg, cbr_false, show ((a.natAbs : Nat) : Int) = a by omega, show ((c.natAbs : Nat) : Int) = c by omega]
       exact h
   · have e : (decide (a < 0) != decide (c < 0)) = true := by simpa using hs
     rw [e, cbr_true, Compare_i_eq]
     have e2 : cmp3 a c = cmpR a b c d := by
       unfold cmpR cmp3
       by_cases hneg : a < 0
       · have hcn : ¬ c < 0 := by intro hcn; simp [hneg, hcn] at hs
         have q1 : a * d < 0 := Int.mul_neg_of_neg_of_pos hneg (by omega)
         have q2 : 0 ≤ c * b := Int.mul_nonneg (by omega) (by omega)
         rw [if_pos (by omega), if_pos (by omega)]
       · have hcn : c < 0 := by
           by_cases hcn : c < 0
           · exact hcn
           · simp [hneg, hcn] at hs
         have q1 : c * b < 0 := Int.mul_neg_of_neg_of_pos hcn (by omega)
         have q2 : 0 ≤ a * d := Int.mul_nonneg (by omega) (by omega)
         rw [if_neg (by omega), if_pos (by omega), if_neg (by omega), if_pos (by omega)]
     rw [e2]; exact h
 · rw [if_neg hk] at h
   have e : (chk2 a b c d != 0) = true := by simpa using hk
   rw [e, cbr_true]; exact h
end Go.Pf.Vc
namespace Go.Pf.Vc
open Go Go.Pf
def blen (x : Nat) : Nat := if x = 0 then 0 else x.log2 + 1
theorem blen_lt (x : Nat) : x < 2 ^ blen x := by
 unfold blen
 split
 · rename_i h; subst h; decide
 · exact Nat.lt_log2_self
theorem blen_le {x : Nat} (h : x ≠ 0) : 2 ^ (blen x - 1) ≤ x := by
 unfold blen
 rw [if_neg h]
 exact Nat.log2_self_le h
theorem blen_of {x m : Nat} (h1 : 2 ^ m ≤ x) (h2 : x < 2 ^ (m + 1)) : blen x = m + 1 := by
 have hx : x ≠ 0 := by have := Nat.two_pow_pos m; omega
 unfold blen
 rw [if_neg hx]
 congr 1
 have a := Nat.log2_self_le hx
 have b := Nat.lt_log2_self (n := x)
 have c1 : ¬ (x.log2 < m) := fun h => by
   have := Nat.pow_le_pow_right (show 0 < 2 by omega) (show x.log2 + 1 ≤ m by omega)
   omega
 have c2 : ¬ (m < x.log2) := fun h => by
   have := Nat.pow_le_pow_right (show 0 < 2 by omega) (show m + 1 ≤ x.log2 by omega)
   omega
 omega
theorem blen_div {x k : Nat} (h : 2 ^ k ≤ x) : blen x = k + blen (x / 2 ^ k) := by
 have hp := Nat.two_pow_pos k
 have hq : x / 2 ^ k ≠ 0 := by
   have := Nat.div_pos h hp
   omega
 have h1 := blen_le hq
 have h2 := blen_lt (x / 2 ^ k)
 obtain ⟨m, hm⟩ : ∃ m, blen (x / 2 ^ k) = m + 1 := ⟨blen (x / 2 ^ k) - 1, by
   have : blen (x / 2 ^ k) ≠ 0 := by unfold blen; rw [if_neg hq]; omega
   omega⟩
 rw [hm] at h1 h2 ⊢
 rw [Nat.add_sub_cancel] at h1
 have := blen_of (x := x) (m := k + m) (by
     rw [Nat.pow_add]
     calc 2 ^ k * 2 ^ m ≤ 2 ^ k * (x / 2 ^ k) := Nat.mul_le_mul_left _ h1
       _ ≤ x := Nat.mul_div_le _ _) (by
     rw [show k + m + 1 = k + (m + 1) by omega, Nat.pow_add]
     rw [Nat.mul_comm]
     exact (Nat.div_lt_iff_lt_mul hp).1 h2)
 omega
theorem tab_eq : ∀ x : Nat, x < 256 → intOfV (List.getD len8tab x .nils) = (blen x : Int) := by decide +kernel
theorem wu8 {n : Int} (h0 : 0 ≤ n) (h1 : n < 256) : IntKind.u8.wrap n = n := by
 have e1 : (2 : Int) ^ 8 = 256 := rfl
 simp only [IntKind.wrap, IntKind.signed, IntKind.bits, Bool.false_and, Bool.false_eq_true, if_false, e1]
 omega
theorem look_eq {n : Int} (h0 : 0 ≤ n) (h1 : n < 256) : intOfV (List.getD len8tab (IntKind.u8.wrap n).toNat .nils) = (blen n.toNat : Int) := by
 rw [wu8 h0 h1]
 exact tab_eq n.toNat (by omega)
theorem blen8 {n : Nat} (h : n < 256) : blen n ≤ 8 := by
 by_cases h0 : n = 0
 · subst h0; decide
 · have := blen_le h0
   have h2 : blen n - 1 < 8 := by
     refine Nat.lt_of_not_le fun hc => ?_
     have := Nat.pow_le_pow_right (show 0 < 2 by omega) hc
     omega
   omega
theorem leaf8 {n k : Int} (h0 : 0 ≤ n) (h1 : n < 256) (hk : 0 ≤ k ∧ k ≤ 56) {m : Int} (hm : m = k + blen n.toNat) {K : Int → Prop} (h : K m) :
   asr (decide ((0 : Int) ≤ (IntKind.u8.wrap n))) (asr (decide ((IntKind.u8.wrap n) < (256 : Int))) (K (IntKind.i64.wrap (k + (IntKind.i64.wrap (intOfV (List.getD len8tab ((IntKind.u8.wrap n).toNat) .nils))))))) := by
 have hb := blen8 (n := n.toNat) (by omega)
 have e1 : IntKind.i64.wrap (blen n.toNat : Int) = blen n.toNat := wi64 (by unfold I64; omega)
 have e2 : IntKind.i64.wrap (k + blen n.toNat : Int) = k + blen n.toNat := wi64 (by unfold I64; omega)
 rw [look_eq h0 h1, wu8 h0 h1, decide_eq_true h0, asr_true, decide_eq_true h1, asr_true, e1, e2, ← hm]
 exact h
theorem fdivn (p q : Int) (hq : 0 ≤ q) : Int.fdiv p q = p / q := Int.fdiv_eq_ediv_of_nonneg _ hq
theorem Len64_of {p : Int} (hp : U64 p) {K : Int → Prop} (h : K (blen p.toNat : Int)) : w_m_Len64 p K := by
 unfold U64 at hp
 unfold w_m_Len64 wv_m_Len64
 simp only [fdivn _ 4294967296 (by omega), fdivn _ 65536 (by omega), fdivn _ 256 (by omega)]
 have key : ∀ (k : Nat) (q : Int), 2 ^ k ≤ p.toNat → q = p / (2 ^ k : Nat) → (blen p.toNat : Int) = k + blen q.toNat := by
   intro k q hk hq
   have e : q.toNat = p.toNat / 2 ^ k := by
     rw [hq]
     obtain ⟨m, rfl⟩ : ∃ m : Nat, p = m := ⟨p.toNat, by omega⟩
     rw [← Int.natCast_ediv, Int.toNat_natCast, Int.toNat_natCast]
   rw [e]
   have := blen_div hk
   omega
 by_cases h1 : p ≥ 4294967296
 · rw [decide_eq_true h1, cbr_true]
   by_cases h2 : p / 4294967296 ≥ 65536
   · rw [decide_eq_true h2, cbr_true]
     by_cases h3 : p / 4294967296 / 65536 ≥ 256
     · rw [decide_eq_true h3, cbr_true]
       exact leaf8 (by omega) (by omega) (by omega) (key 56 _ (by omega) (by omega)) h
     · rw [decide_eq_false h3, cbr_false]
       exact leaf8 (by omega) (by omega) (by omega) (key 48 _ (by omega) (by omega)) h
   · rw [decide_eq_false h2, cbr_false]
     by_cases h3 : p / 4294967296 ≥ 256
     · rw [decide_eq_true h3, cbr_true]
       exact leaf8 (by omega) (by omega) (by omega) (key 40 _ (by omega) (by omega)) h
     · rw [decide_eq_false h3, cbr_false]
       exact leaf8 (by omega) (by omega) (by omega) (key 32 _ (by omega) (by omega)) h
 · rw [decide_eq_false h1, cbr_false]
   by_cases h2 : p ≥ 65536
   · rw [decide_eq_true h2, cbr_true]
     by_cases h3 : p / 65536 ≥ 256
     · rw [decide_eq_true h3, cbr_true]
       exact leaf8 (by omega) (by omega) (by omega) (key 24 _ (by omega) (by omega)) h
     · rw [decide_eq_false h3, cbr_false]
       exact leaf8 (by omega) (by omega) (by omega) (key 16 _ (by omega) (by omega)) h
   · rw [decide_eq_false h2, cbr_false]
     by_cases h3 : p ≥ 256
     · rw [decide_eq_true h3, cbr_true]
       exact leaf8 (by omega) (by omega) (by omega) (key 8 _ (by omega) (by omega)) h
     · rw [decide_eq_false h3, cbr_false]
       exact leaf8 (by omega) (by omega) (by omega) (by simp) h
theorem LeadingZeros64_of {p : Int} (hp : U64 p) {K : Int → Prop} (h : K (64 - blen p.toNat : Int)) : w_m_LeadingZeros64 p K := by
 unfold w_m_LeadingZeros64 wv_m_LeadingZeros64
 refine Len64_of hp ?_
 have hb : blen p.toNat ≤ 64 := by
   unfold U64 at hp
   by_cases h0 : p.toNat = 0
   · rw [h0]; decide
   · have := blen_le h0
     have h2 : blen p.toNat - 1 < 64 := by
       refine Nat.lt_of_not_le fun hc => ?_
       have := Nat.pow_le_pow_right (show 0 < 2 by omega) hc
       omega
     omega
 rw [wi64 (by unfold I64; omega)]
 exact h
end Go.Pf.Vc
namespace Go.Pf.Vc
open Go Go.Pf
structure DI (y yn1 yn0 u un q r : Int) : Prop where
 hy : y = yn1 * 4294967296 + yn0
 h1 : 2147483648 ≤ yn1 ∧ yn1 ≤ 4294967295
 h0 : 0 ≤ yn0 ∧ yn0 ≤ 4294967295
 hn : 0 ≤ un ∧ un ≤ 4294967295
 hu : q * yn1 + r = u
 hq : 0 ≤ q ∧ q ≤ 4294967297
 hr : 0 ≤ r ∧ r ≤ 4294967295
 hlt : u < y
 hU : u * 4294967296 + un < (q + 1) * y
def DG (y u un q : Int) : Prop := 0 ≤ q ∧ q ≤ 4294967295 ∧ q * y ≤ u * 4294967296 + un ∧ u * 4294967296 + un < (q + 1) * y
theorem DI.step {y yn1 yn0 u un q r : Int} (h : DI y yn1 yn0 u un q r) {A B C : Prop}
   (hA : DG y u un (q - 1) → 0 ≤ q - 1 → q - 1 ≤ 4294967296 → A)
   (hB : DI y yn1 yn0 u un (q - 1) (r + yn1) → B)
   (hC : DG y u un q → C) :
   cbr (decide (q ≥ (4294967296 : Int)))
     (cbr (decide ((IntKind.u64.wrap (r + yn1)) ≥ (4294967296 : Int))) A B)
     (cbr (decide ((IntKind.u64.wrap (q * yn0)) > (IntKind.u64.wrap ((IntKind.u64.wrap ((4294967296 : Int) * r)) + un))))
       (cbr (decide ((IntKind.u64.wrap (r + yn1)) ≥ (4294967296 : Int))) A B) C) := by
 have h' := h
 obtain ⟨hy, h1, h0, hn, hu, hq, hr, hlt, hU⟩ := h
 have e1 : IntKind.u64.wrap (r + yn1) = r + yn1 := wu64 ⟨by omega, by omega⟩
 have eq1 : q * y = q * yn1 * 4294967296 + q * yn0 := by rw [hy]; grind
 have eq2 : (q - 1) * y = q * y - y := by grind
 have eq3 : (q - 1) * yn1 = q * yn1 - yn1 := by grind
 have eq4 : (q - 1 + 1) * y = q * y := by grind
 have eq5 : (q - 1) * yn0 = q * yn0 - yn0 := by grind
 have big : u * 4294967296 + un < q * y → cbr (decide ((IntKind.u64.wrap (r + yn1)) ≥ (4294967296 : Int))) A B := by
   intro hb
   have q1 : 0 ≤ q - 1 := by
     refine Int.not_lt.1 fun hc => ?_
     have hq0 : q = 0 := by omega
     subst hq0
     simp at hb hu
     omega
   rw [e1]
   by_cases hc : r + yn1 ≥ 4294967296
   · rw [decide_eq_true hc, cbr_true]
     have hp : (q - 1) * yn0 ≤ 4294967296 * 4294967295 := Int.mul_le_mul (by omega) h0.2 h0.1 (by omega)
     have hle : (q - 1) * y ≤ u * 4294967296 + un := by
       have : (q - 1) * y = (q - 1) * yn1 * 4294967296 + (q - 1) * yn0 := by rw [hy]; grind
       omega
     have hlt32 : q - 1 ≤ 4294967295 := by
       refine Int.not_lt.1 fun hc => ?_
       have : 4294967296 * y ≤ (q - 1) * y := Int.mul_le_mul_of_nonneg_right (by omega) (by omega)
       omega
     exact hA ⟨q1, hlt32, hle, by rw [eq4]; exact hb⟩ q1 (by omega)
   · rw [decide_eq_false hc, cbr_false]
     exact hB ⟨hy, h1, h0, hn, by rw [eq3]; omega, ⟨q1, by omega⟩, ⟨by omega, by omega⟩, hlt, by rw [eq4]; exact hb⟩
 by_cases ha : q ≥ 4294967296
 · rw [decide_eq_true ha, cbr_true]
   refine big ?_
   have : 4294967296 * y ≤ q * y := Int.mul_le_mul_of_nonneg_right (by omega) (by omega)
   omega
 · rw [decide_eq_false ha, cbr_false]
   have hp : q * yn0 ≤ 4294967295 * 4294967295 := Int.mul_le_mul (by omega) h0.2 h0.1 (by omega)
   have hp0 : 0 ≤ q * yn0 := Int.mul_nonneg hq.1 h0.1
   have w1 : IntKind.u64.wrap (q * yn0) = q * yn0 := wu64 ⟨hp0, by omega⟩
   have w2 : IntKind.u64.wrap ((4294967296 : Int) * r) = 4294967296 * r := wu64 ⟨by omega, by omega⟩
   have w3 : IntKind.u64.wrap ((4294967296 : Int) * r + un) = 4294967296 * r + un := wu64 ⟨by omega, by omega⟩
   rw [w1, w2, w3]
   by_cases hb : q * yn0 > 4294967296 * r + un
   · rw [decide_eq_true hb, cbr_true]
     exact big (by omega)
   · rw [decide_eq_false hb, cbr_false]
     exact hC ⟨hq.1, by omega, by omega, hU⟩
theorem L0_of (W : Int → (Int → Prop) → Prop) {y yn1 yn0 u un : Int} (s v un0 : Int) {x0 x1 : Int → Int → Int → Int → Int → Int → Int → Int → Int → Bool → Prop}
   (hx : ∀ q r b, DG y u un q → x0 y s yn1 yn0 v un un0 q r b) (hx1 : ∀ q r b, DG y u un q → x1 y s yn1 yn0 v un un0 q r b) :
   ∀ (n : Nat) (q r : Int) (b : Bool), DI y yn1 yn0 u un q r → 4294967296 ≤ r + n * 2147483648 → L_m_Div64_0_1 W x0 x1 (n + 1) y s yn1 yn0 v un un0 q r b := by
 intro n
 induction n with
 | zero =>
   intro q r b h hn
   have := h.hr.2
   exact absurd hn (by omega)
 | succ n ih =>
   intro q r b h hn
   unfold L_m_Div64_0_1
   refine h.step (fun g a1 a2 => ?_) (fun g => ?_) (fun g => hx1 _ _ _ g)
   · rw [wu64 (n := q - 1) ⟨by omega, by omega⟩]
     exact hx _ _ _ g
   · have e1 : IntKind.u64.wrap (q - 1) = q - 1 := wu64 ⟨g.hq.1, by have := g.hq.2; omega⟩
     have e2 : IntKind.u64.wrap (r + yn1) = r + yn1 := wu64 ⟨g.hr.1, by have := g.hr.2; omega⟩
     rw [e1, e2]
     exact ih _ _ _ g (by have := h.h1.1; omega)
theorem L1_of (W : Int → (Int → Prop) → Prop) {y yn1 yn0 u un : Int} (s q1 v : Int) {x0 x1 : Int → Int → Int → Int → Int → Int → Int → Int → Int → Bool → Prop}
   (hx : ∀ q r b, DG y u un q → x0 y s yn1 yn0 un q1 r v q b) (hx1 : ∀ q r b, DG y u un q → x1 y s yn1 yn0 un q1 r v q b) :
   ∀ (n : Nat) (q r : Int) (b : Bool), DI y yn1 yn0 u un q r → 4294967296 ≤ r + n * 2147483648 → L_m_Div64_1_1 W x0 x1 (n + 1) y s yn1 yn0 un q1 r v q b := by
 intro n
 induction n with
 | zero =>
   intro q r b h hn
   have := h.hr.2
   exact absurd hn (by omega)
 | succ n ih =>
   intro q r b h hn
   unfold L_m_Div64_1_1
   refine h.step (fun g a1 a2 => ?_) (fun g => ?_) (fun g => hx1 _ _ _ g)
   · rw [wu64 (n := q - 1) ⟨by omega, by omega⟩]
     exact hx _ _ _ g
   · have e1 : IntKind.u64.wrap (q - 1) = q - 1 := wu64 ⟨g.hq.1, by have := g.hq.2; omega⟩
     have e2 : IntKind.u64.wrap (r + yn1) = r + yn1 := wu64 ⟨g.hr.1, by have := g.hr.2; omega⟩
     rw [e1, e2]
     exact ih _ _ _ g (by have := h.h1.1; omega)
theorem L0_of' (W : Int → (Int → Prop) → Prop) {y yn1 yn0 u un : Int} (s v un0 : Int) {x0 x1 : Int → Int → Int → Int → Int → Int → Int → Int → Int → Bool → Prop}
   (hx : ∀ q r b, DG y u un q → x0 y s yn1 yn0 v un un0 q r b) (hx1 : ∀ q r b, DG y u un q → x1 y s yn1 yn0 v un un0 q r b) (q r : Int) (h : DI y yn1 yn0 u un q r) : L_m_Div64_0_0 W x0 x1 3 y s yn1 yn0 v un un0 q r := by
 have := L0_of W s v un0 hx hx1 2 q r true h (by have := h.hr.1; omega)
 unfold L_m_Div64_0_1 at this
 unfold L_m_Div64_0_0
 exact this
theorem L1_of' (W : Int → (Int → Prop) → Prop) {y yn1 yn0 u un : Int} (s q1 v : Int) {x0 x1 : Int → Int → Int → Int → Int → Int → Int → Int → Int → Bool → Prop}
   (hx : ∀ q r b, DG y u un q → x0 y s yn1 yn0 un q1 r v q b) (hx1 : ∀ q r b, DG y u un q → x1 y s yn1 yn0 un q1 r v q b) (q r : Int) (h : DI y yn1 yn0 u un q r) : L_m_Div64_1_0 W x0 x1 3 y s yn1 yn0 un q1 r v q := by
 have := L1_of W s q1 v hx hx1 2 q r true h (by have := h.hr.1; omega)
 unfold L_m_Div64_1_1 at this
 unfold L_m_Div64_1_0
 exact this
end Go.Pf.Vc
namespace Go.Pf.Vc
open Go Go.Pf
theorem DI.init {y yn1 yn0 u un : Int} (hy : y = yn1 * 4294967296 + yn0) (h1 : 2147483648 ≤ yn1 ∧ yn1 ≤ 4294967295) (h0 : 0 ≤ yn0 ∧ yn0 ≤ 4294967295) (hn : 0 ≤ un ∧ un ≤ 4294967295)
   (hu : 0 ≤ u) (hlt : u < y) : DI y yn1 yn0 u un (u / yn1) (u - u / yn1 * yn1) := by
 have a1 := Int.mul_ediv_add_emod u yn1
 have a2 := Int.emod_nonneg u (show yn1 ≠ 0 by omega)
 have a3 := Int.emod_lt_of_pos u (show 0 < yn1 by omega)
 have a4 : u / yn1 * yn1 = yn1 * (u / yn1) := Int.mul_comm _ _
 have a5 : 0 ≤ u / yn1 := Int.ediv_nonneg hu (by omega)
 have a6 : u / yn1 ≤ 4294967297 := by
   refine Int.not_lt.1 fun hc => ?_
   have : yn1 * 4294967298 ≤ yn1 * (u / yn1) := Int.mul_le_mul_of_nonneg_left (by omega) (by omega)
   omega
 refine ⟨hy, h1, h0, hn, by omega, ⟨a5, a6⟩, ⟨by omega, by omega⟩, hlt, ?_⟩
 have e : (u / yn1 + 1) * y = yn1 * (u / yn1) * 4294967296 + yn1 * 4294967296 + (u / yn1 + 1) * yn0 := by
   obtain ⟨t, ht⟩ : ∃ t, t = u / yn1 := ⟨_, rfl⟩
   rw [← ht, hy]; grind
 have : 0 ≤ (u / yn1 + 1) * yn0 := Int.mul_nonneg (by omega) h0.1
 omega
theorem or_eq {a b : Int} {k : Nat} (ha : 0 ≤ a) (hb : 0 ≤ b ∧ b < 2 ^ k) (hab : a * 2 ^ k ≤ 18446744073709551615 ∧ b ≤ 18446744073709551615) (hs : a * 2 ^ k + b ≤ 18446744073709551615) :
   IntKind.u64.wrap (BitVec.ofInt IntKind.u64.bits (a * 2 ^ k) ||| BitVec.ofInt IntKind.u64.bits b).toNat = a * 2 ^ k + b := by
 obtain ⟨x, rfl⟩ : ∃ x : Nat, a = x := ⟨a.toNat, by omega⟩
 obtain ⟨z, rfl⟩ : ∃ z : Nat, b = z := ⟨b.toNat, by omega⟩
 have ec : ((x : Int) * 2 ^ k) = ((2 ^ k * x : Nat) : Int) := by push_cast; exact Int.mul_comm _ _
 rw [ec] at hab hs ⊢
 have hz : z < 2 ^ k := by have := hb.2; exact_mod_cast this
 have e : (BitVec.ofInt IntKind.u64.bits ((2 ^ k * x : Nat) : Int) ||| BitVec.ofInt IntKind.u64.bits (z : Int)).toNat = 2 ^ k * x + z := by
   show (BitVec.ofInt 64 ((2 ^ k * x : Nat) : Int) ||| BitVec.ofInt 64 (z : Int)).toNat = _
   rw [BitVec.toNat_or, BitVec.toNat_ofInt, BitVec.toNat_ofInt]
   have e1 : (((2 ^ k * x : Nat) : Int) % (2 ^ 64 : Nat)).toNat = 2 ^ k * x := by omega
   have e2 : ((z : Int) % (2 ^ 64 : Nat)).toNat = z := by omega
   rw [e1, e2, Nat.two_pow_add_eq_or_of_lt hz]
 rw [e, wu64 ⟨by omega, by omega⟩]
 push_cast; rfl
theorem rest_eq {u un q y : Int} (h0 : 0 ≤ u * 4294967296 + un - q * y) (h1 : u * 4294967296 + un - q * y ≤ 18446744073709551615) :
   IntKind.u64.wrap (IntKind.u64.wrap (IntKind.u64.wrap (u * 4294967296) + un) - IntKind.u64.wrap (q * y)) = u * 4294967296 + un - q * y := by
 simp only [wu64']
 omega
theorem tdivn {a b : Int} (h : 0 ≤ a) : Int.tdiv a b = a / b := Int.tdiv_eq_ediv_of_nonneg h
theorem tmodn {a b : Int} (h : 0 ≤ a) : Int.tmod a b = a % b := Int.tmod_eq_emod_of_nonneg h
end Go.Pf.Vc
