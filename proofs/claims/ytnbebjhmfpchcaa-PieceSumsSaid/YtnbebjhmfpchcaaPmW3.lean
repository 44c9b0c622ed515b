/- Part 3 of what the statement rests on: a verified evaluator over pure values, the conditions of the program's functions, and their plain laws. -/
import Derived.Test.YtnbebjhmfpchcaaPmW2
namespace Go.Pf.Vc
open Go Go.Pf
set_option maxRecDepth 100000
mutual
def L_piece_merged_0_0 (_ : T_piece_order) (x0 : Int → Int → Bool → Prop) (_ : List PV → Int → Int → Bool → Prop) (_ : List PV → List PV → Int → Int → Bool → Prop) : Nat → Int → Int → Prop
 | 0, _, _ => False
 | _ + 1, i0, i1 =>
 (cbr (decide (i1 < i0))
 False
 (x0 i0 i1 false))
def L_piece_merged_0_1 (a0 : T_piece_order) (x0 : Int → Int → Bool → Prop) (x1 : List PV → Int → Int → Bool → Prop) (x2 : List PV → List PV → Int → Int → Bool → Prop) : Nat → List PV → Int → Int → Prop
 | 0, _, _, _ => False
 | n + 1, l0, i3, i4 =>
 (cbr (decide (i4 < i3))
 (asr (decide ((0 : Int) ≤ i4))
 (asr (decide (i4 < (((List.length l0) : Nat) : Int)))
 (asr (decide ((List.length l0) = (List.length l0)))
 (asr (decide ((0 + (i4.toNat)) < (List.length l0)))
 (lt (List.getD l0 (0 + (i4.toNat)) .nils) (fun yr27 =>
 (asr (conf (.agg [.i .i64, .i .i64, .i .i64, .i .i64]) yr27)
 (lt (IntKind.i64.wrap (i4 + (1 : Int))) (fun yi28 =>
 (asr (decide (1 = List.length ([(.agg [(.int .i64 (intOfV (cellAt yr27 0))), (.int .i64 (intOfV (cellAt yr27 1))), (.int .i64 (intOfV (cellAt yr27 2))), (.int .i64 (intOfV (cellAt yr27 3)))])] : List PV)) && decide (1 = List.length ([(.agg [(.int .i64 (intOfV (cellAt yr27 0))), (.int .i64 (intOfV (cellAt yr27 1))), (.int .i64 (intOfV (cellAt yr27 2))), (.int .i64 (intOfV (cellAt yr27 3)))])] : List PV)) && decide ((List.length l0) = List.length l0) && decide ((List.length l0) = List.length l0))
 (L_piece_merged_0_2 a0 x0 x1 x2 n l0 ([(.agg [(.int .i64 (intOfV (cellAt yr27 0))), (.int .i64 (intOfV (cellAt yr27 1))), (.int .i64 (intOfV (cellAt yr27 2))), (.int .i64 (intOfV (cellAt yr27 3)))])] : List PV) i3 yi28)))))))))))
 (x1 l0 i3 i4 false))
def L_piece_merged_0_2 (a0 : T_piece_order) (x0 : Int → Int → Bool → Prop) (x1 : List PV → Int → Int → Bool → Prop) (x2 : List PV → List PV → Int → Int → Bool → Prop) : Nat → List PV → List PV → Int → Int → Prop
 | 0, _, _, _, _ => False
 | n + 1, l0, l1, i6, i7 =>
 (cbr (decide (i7 < i6))
 (jn (fun (yj81 : List PV → Prop) =>
 (asr (decide ((0 : Int) ≤ i7))
 (asr (decide (i7 < (((List.length l0) : Nat) : Int)))
 (asr (decide ((List.length l0) = (List.length l0)))
 (asr (decide ((0 + (i7.toNat)) < (List.length l0)))
 (lt (List.getD l0 (0 + (i7.toNat)) .nils) (fun yr84 =>
 (asr (conf (.agg [.i .i64, .i .i64, .i .i64, .i .i64]) yr84)
 (jn (fun (yj114 : Bool → Prop) =>
 (cbr (decide ((((List.length l1) : Nat) : Int) > (0 : Int)))
 (lt (IntKind.i64.wrap ((((List.length l1) : Nat) : Int) - (1 : Int))) (fun yi132 =>
 (asr (decide ((0 : Int) ≤ yi132))
 (asr (decide (yi132 < (((List.length l1) : Nat) : Int)))
 (asr (decide ((List.length l1) = (List.length l1)))
 (asr (decide ((0 + (yi132.toNat)) < (List.length l1)))
 (lt (List.getD l1 (0 + (yi132.toNat)) .nils) (fun yr133 =>
 (asr (conf (.agg [.i .i64, .i .i64, .i .i64, .i .i64]) yr133)
 (a0 (intOfV (cellAt yr84 0)) (intOfV (cellAt yr84 1)) (intOfV (cellAt yr133 2)) (intOfV (cellAt yr133 3)) (fun yi134 => 
 (yj114 (decide (yi134 ≤ (0 : Int)))))))))))))))
 (yj114 false)))
 (fun yb113 => (cbr yb113
 (lt (IntKind.i64.wrap ((((List.length l1) : Nat) : Int) - (1 : Int))) (fun yi126 =>
 (asr (decide ((0 : Int) ≤ yi126))
 (asr (decide (yi126 < (((List.length l1) : Nat) : Int)))
 (asr (decide ((List.length l1) = (List.length l1)))
 (asr (decide ((0 + (yi126.toNat)) < (List.length l1)))
 (lt (List.getD l1 (0 + (yi126.toNat)) .nils) (fun yr127 =>
 (asr (conf (.agg [.i .i64, .i .i64, .i .i64, .i .i64]) yr127)
 (a0 (intOfV (cellAt yr84 2)) (intOfV (cellAt yr84 3)) (intOfV (cellAt yr127 2)) (intOfV (cellAt yr127 3)) (fun yi128 => 
 (cbr (decide (yi128 > (0 : Int)))
 (lt (IntKind.i64.wrap ((((List.length l1) : Nat) : Int) - (1 : Int))) (fun yi129 =>
 (asr (decide ((0 : Int) ≤ yi129))
 (asr (decide (yi129 < (((List.length l1) : Nat) : Int)))
 (asr (decide ((List.length l1) = (List.length l1)))
 (asr (decide ((0 + (yi129.toNat)) < (List.length l1)))
 (lt (List.getD l1 (0 + (yi129.toNat)) .nils) (fun yr130 =>
 (asr (conf (.agg [.i .i64, .i .i64, .i .i64, .i .i64]) yr130)
 (lt (IntKind.i64.wrap (i7 + (1 : Int))) (fun yi131 =>
 (asr (decide ((List.length l1) = List.length (List.set l1 (0 + (yi129.toNat)) (.agg [(.int .i64 (intOfV (cellAt yr130 0))), (.int .i64 (intOfV (cellAt yr130 1))), (.int .i64 (intOfV (cellAt yr84 2))), (.int .i64 (intOfV (cellAt yr84 3)))]))) && decide ((List.length l1) = List.length (List.set l1 (0 + (yi129.toNat)) (.agg [(.int .i64 (intOfV (cellAt yr130 0))), (.int .i64 (intOfV (cellAt yr130 1))), (.int .i64 (intOfV (cellAt yr84 2))), (.int .i64 (intOfV (cellAt yr84 3)))]))) && decide ((List.length l0) = List.length l0) && decide ((List.length l0) = List.length l0))
 (L_piece_merged_0_2 a0 x0 x1 x2 n l0 (List.set l1 (0 + (yi129.toNat)) (.agg [(.int .i64 (intOfV (cellAt yr130 0))), (.int .i64 (intOfV (cellAt yr130 1))), (.int .i64 (intOfV (cellAt yr84 2))), (.int .i64 (intOfV (cellAt yr84 3)))])) i6 yi131)))))))))))))
 (yj81 l1)))))))))))))
 (asr (decide ((List.length l1) = (List.length l1)))
 (asr (decide ((0 + (List.length l1)) ≤ (List.length l1)))
 (asr (!(decide (((0 + (List.length l1)) + 1) ≤ (List.length l1))))
 (asr (decide ((List.length l1) = (List.length l1)))
 (asr (decide ((((List.length l1) + 1) + 64) * (32 + 1) ≤ room))
 (yj81 (l1 ++ ([(.agg [(.int .i64 (intOfV (cellAt yr84 0))), (.int .i64 (intOfV (cellAt yr84 1))), (.int .i64 (intOfV (cellAt yr84 2))), (.int .i64 (intOfV (cellAt yr84 3)))])] : List PV)))))))))))))))))))
 (fun yl80 => (lt (IntKind.i64.wrap (i7 + (1 : Int))) (fun yi82 =>
 (asr (decide ((List.length yl80) = List.length yl80) && decide ((List.length yl80) = List.length yl80) && decide ((List.length l0) = List.length l0) && decide ((List.length l0) = List.length l0))
 (L_piece_merged_0_2 a0 x0 x1 x2 n l0 yl80 i6 yi82))))))
 (x2 l0 l1 i6 i7 false))
end
def wv_piece_merged (a0 : T_piece_order) (p0 : List PV) (K : List PV → Prop) : Prop :=
 (asr (cloneOk 4 32 p0)
 (cbr (List.isEmpty p0)
 (∃ n : Nat, L_piece_merged_0_0 a0
 (fun _ _ _ => (K ([] : List PV)))
 (fun _ _ _ _ => (K ([] : List PV)))
 (fun _ yl20 _ _ _ => (asr (decide ((List.length yl20) = (List.length yl20)))
 (asr (decide ((0 + (List.length yl20)) ≤ (List.length yl20)))
 (K (List.take (List.length yl20) yl20)))))
 n (0 : Int) (0 : Int))
 (asr (Srt.cond srt_piece_merged_1.s p0 0 (List.length p0) (List.length p0) 4 false)
 (asr (decide ((List.length p0) = List.length (List.take 0 p0 ++ (Srt.sorted srt_piece_merged_1.s srt_piece_merged_1.srt (List.take (List.length p0) (List.drop 0 p0)) ++ List.drop (0 + (List.length p0)) p0))) && decide ((List.length p0) = List.length (List.take 0 p0 ++ (Srt.sorted srt_piece_merged_1.s srt_piece_merged_1.srt (List.take (List.length p0) (List.drop 0 p0)) ++ List.drop (0 + (List.length p0)) p0))))
 (∃ n : Nat, L_piece_merged_0_1 a0
 (fun _ _ _ => (K ([] : List PV)))
 (fun _ _ _ _ => (K ([] : List PV)))
 (fun _ yl155 _ _ _ => (asr (decide ((List.length yl155) = (List.length yl155)))
 (asr (decide ((0 + (List.length yl155)) ≤ (List.length yl155)))
 (K (List.take (List.length yl155) yl155)))))
 n (List.take 0 p0 ++ (Srt.sorted srt_piece_merged_1.s srt_piece_merged_1.srt (List.take (List.length p0) (List.drop 0 p0)) ++ List.drop (0 + (List.length p0)) p0)) (((List.length p0) : Nat) : Int) (0 : Int))))))
def w_piece_merged (p0 : List PV) (K : List PV → Prop) : Prop := wv_piece_merged w_piece_order p0 K
def pw_piece_merged (w : T_piece_merged) (as : List PV) (K : PV → Prop) : Prop :=
 match as with
 | [(.data p0)] => w p0 (fun r0 => K (.data r0))
 | _ => False
def wp_piece_merged (as : List PV) (K : PV → Prop) : Prop := pw_piece_merged w_piece_merged as K
def D_piece_merged_0 (F : Frm) (H : Hp) (A0 : Int → Int → Prop) (A1 : List PV → Int → Int → Prop) (A2 : List PV → List PV → Int → Int → Prop) : Prop :=
 match F, H with
 | [(3, .v .nils), (11, .v .emp), (12, .v (.int .i64 i0)), (13, .v (.int .i64 i1))], [] => (A0 i0 i1)
 | [(3, .v .nils), (11, .v (.own 0 0 t1 t2 none)), (12, .v (.int .i64 i3)), (13, .v (.int .i64 i4))], [⟨false, true, 4, l0⟩] => asr (decide (t1 = List.length l0) && decide (t2 = List.length l0)) (A1 l0 i3 i4)
 | [(3, .v (.own 1 0 t2 t3 none)), (11, .v (.own 0 0 t4 t5 none)), (12, .v (.int .i64 i6)), (13, .v (.int .i64 i7))], [⟨false, true, 4, l0⟩, ⟨false, true, 4, l1⟩] => asr (decide (t2 = List.length l1) && decide (t3 = List.length l1) && decide (t4 = List.length l0) && decide (t5 = List.length l0)) (A2 l0 l1 i6 i7)
 | _, _ => False
def X_piece_merged_0_0 (Q : Ex → Frm → Hp → Prop) : Int → Int → Bool → Prop := (fun i0 i1 b2 => Q (.exit 0) [(3, .v .nils), (11, .v .emp), (12, .v (.int .i64 i0)), (13, .v (.int .i64 i1)), (14, .v (.bool b2))] [])
def X_piece_merged_0_1 (Q : Ex → Frm → Hp → Prop) : List PV → Int → Int → Bool → Prop := (fun l0 i3 i4 b5 => Q (.exit 0) [(3, .v .nils), (11, .v (.own 0 0 (List.length l0) (List.length l0) none)), (12, .v (.int .i64 i3)), (13, .v (.int .i64 i4)), (14, .v (.bool b5))] [⟨false, true, 4, l0⟩])
def X_piece_merged_0_2 (Q : Ex → Frm → Hp → Prop) : List PV → List PV → Int → Int → Bool → Prop := (fun l0 l1 i6 i7 b8 => Q (.exit 0) [(3, .v (.own 1 0 (List.length l1) (List.length l1) none)), (11, .v (.own 0 0 (List.length l0) (List.length l0) none)), (12, .v (.int .i64 i6)), (13, .v (.int .i64 i7)), (14, .v (.bool b8))] [⟨false, true, 4, l0⟩, ⟨false, true, 4, l1⟩])
def R_piece_merged_0 (a0 : T_piece_order) (Q : Ex → Frm → Hp → Prop) (n : Nat) (F : Frm) (H : Hp) : Prop := D_piece_merged_0 F H (fun i0 i1 => L_piece_merged_0_0 a0 (X_piece_merged_0_0 Q) (X_piece_merged_0_1 Q) (X_piece_merged_0_2 Q) n i0 i1) (fun l0 i3 i4 => L_piece_merged_0_1 a0 (X_piece_merged_0_0 Q) (X_piece_merged_0_1 Q) (X_piece_merged_0_2 Q) n l0 i3 i4) (fun l0 l1 i6 i7 => L_piece_merged_0_2 a0 (X_piece_merged_0_0 Q) (X_piece_merged_0_1 Q) (X_piece_merged_0_2 Q) n l0 l1 i6 i7)
def lp_piece_merged (a0 : T_piece_order) : LP := fun id F H Q =>
 bif Nat.beq id 63960300 then D_piece_merged_0 F H (fun i0 i1 => ∃ n : Nat, L_piece_merged_0_0 a0 (X_piece_merged_0_0 Q) (X_piece_merged_0_1 Q) (X_piece_merged_0_2 Q) n i0 i1) (fun l0 i3 i4 => ∃ n : Nat, L_piece_merged_0_1 a0 (X_piece_merged_0_0 Q) (X_piece_merged_0_1 Q) (X_piece_merged_0_2 Q) n l0 i3 i4) (fun l0 l1 i6 i7 => ∃ n : Nat, L_piece_merged_0_2 a0 (X_piece_merged_0_0 Q) (X_piece_merged_0_1 Q) (X_piece_merged_0_2 Q) n l0 l1 i6 i7) else
 False
def S0_piece_merged (a0 : T_piece_order) : SE := ⟨(E ef0), lookS [(n_piece_order, pw_piece_order a0)], lookI [], lp_piece_merged a0⟩
theorem se0_piece_merged : SEOk (S0_piece_merged w_piece_order) := seOk_of ⟨(ok_piece_order ef0 effG0), trivial⟩ trivial effG0.ok
theorem body_piece_merged_0_0 (a0 Q n i0 i1) : WC (E ef0) (callW (S0_piece_merged a0) 5) (lp_piece_merged a0) b_63960300 [(3, .v .nils), (11, .v .emp), (12, .v (.int .i64 i0)), (13, .v (.int .i64 i1))] [] (fun x F' H' => match x with | .norm => R_piece_merged_0 a0 Q n F' H' | .exit i => Q (.exit i) F' H' | .ret => Q .ret F' H') = L_piece_merged_0_0 a0 (X_piece_merged_0_0 Q) (X_piece_merged_0_1 Q) (X_piece_merged_0_2 Q) (n + 1) i0 i1 := by kernel_rfl
theorem body_piece_merged_0_1 (a0 Q n l0 i3 i4) : WC (E ef0) (callW (S0_piece_merged a0) 5) (lp_piece_merged a0) b_63960300 [(3, .v .nils), (11, .v (.own 0 0 (List.length l0) (List.length l0) none)), (12, .v (.int .i64 i3)), (13, .v (.int .i64 i4))] [⟨false, true, 4, l0⟩] (fun x F' H' => match x with | .norm => R_piece_merged_0 a0 Q n F' H' | .exit i => Q (.exit i) F' H' | .ret => Q .ret F' H') = L_piece_merged_0_1 a0 (X_piece_merged_0_0 Q) (X_piece_merged_0_1 Q) (X_piece_merged_0_2 Q) (n + 1) l0 i3 i4 := by kernel_rfl
theorem body_piece_merged_0_2 (a0 Q n l0 l1 i6 i7) : WC (E ef0) (callW (S0_piece_merged a0) 5) (lp_piece_merged a0) b_63960300 [(3, .v (.own 1 0 (List.length l1) (List.length l1) none)), (11, .v (.own 0 0 (List.length l0) (List.length l0) none)), (12, .v (.int .i64 i6)), (13, .v (.int .i64 i7))] [⟨false, true, 4, l0⟩, ⟨false, true, 4, l1⟩] (fun x F' H' => match x with | .norm => R_piece_merged_0 a0 Q n F' H' | .exit i => Q (.exit i) F' H' | .ret => Q .ret F' H') = L_piece_merged_0_2 a0 (X_piece_merged_0_0 Q) (X_piece_merged_0_1 Q) (X_piece_merged_0_2 Q) (n + 1) l0 l1 i6 i7 := by kernel_rfl
theorem lpb_piece_merged_0 : LpOk (E ef0) (lp_piece_merged w_piece_order) b_63960300 := (LpOk_no (by kernel_rfl))
theorem loop_piece_merged_0 : ∀ F H Q, lp_piece_merged w_piece_order 63960300 F H Q → LoopT (E ef0) b_63960300 F H Q := by
 intro F H Q h
 have go := LoopT.intro (callW_ok (se0_piece_merged) 5) (lpb_piece_merged_0) (R_piece_merged_0 w_piece_order Q) (by
   intro F H h
   unfold R_piece_merged_0 D_piece_merged_0 at h
   split at h
   · exact h
   · obtain ⟨hg, k⟩ := asr_iff.1 h
     clear h
     have h := k
     clear k
     try simp only [Bool.and_eq_true, decide_eq_true_eq] at hg
     obtain ⟨g0, g1⟩ := hg; subst g0; subst g1; exact h
   · obtain ⟨hg, k⟩ := asr_iff.1 h
     clear h
     have h := k
     clear k
     try simp only [Bool.and_eq_true, decide_eq_true_eq] at hg
     obtain ⟨⟨⟨g0, g1⟩, g2⟩, g3⟩ := hg; subst g0; subst g1; subst g2; subst g3; exact h
   · exact h) (by
   intro n F H h
   unfold R_piece_merged_0 D_piece_merged_0 at h
   split at h
   · exact (body_piece_merged_0_0 ..).mpr h
   · obtain ⟨hg, k⟩ := asr_iff.1 h
     clear h
     have h := k
     clear k
     try simp only [Bool.and_eq_true, decide_eq_true_eq] at hg
     obtain ⟨g0, g1⟩ := hg; subst g0; subst g1; exact (body_piece_merged_0_1 ..).mpr h
   · obtain ⟨hg, k⟩ := asr_iff.1 h
     clear h
     have h := k
     clear k
     try simp only [Bool.and_eq_true, decide_eq_true_eq] at hg
     obtain ⟨⟨⟨g0, g1⟩, g2⟩, g3⟩ := hg; subst g0; subst g1; subst g2; subst g3; exact (body_piece_merged_0_2 ..).mpr h
   · exact h.elim)
 have h : D_piece_merged_0 F H _ _ _ := h
 unfold D_piece_merged_0 at h
 split at h
 · obtain ⟨n, h⟩ := h; exact go n _ _ h
 · obtain ⟨hg, n, h⟩ := asr_iff.1 h; exact go n _ _ (asr_iff.2 ⟨hg, h⟩)
 · obtain ⟨hg, n, h⟩ := asr_iff.1 h; exact go n _ _ (asr_iff.2 ⟨hg, h⟩)
 · exact h.elim
theorem eq_piece_merged (a0 p0 K) : WP (S0_piece_merged a0) 6 t_piece_merged [(.data p0)] K = wv_piece_merged a0 p0 (fun r0 => K (.data r0)) := by kernel_rfl
theorem ok_piece_merged : OkF (E ef0) wp_piece_merged n_piece_merged := by
 intro as K h
 unfold wp_piece_merged pw_piece_merged at h
 split at h
 · exact WP_ok (se0_piece_merged) (LpOk_by (l := [(63960300, b_63960300)]) ⟨loop_piece_merged_0, trivial⟩ (by kernel_rfl)) (by kernel_rfl) (by kernel_rfl) (fun _ => baseS_none (by kernel_rfl) _) (effG0.num _ (by kernel_rfl)) ((eq_piece_merged ..).mpr h)
 · exact h.elim
abbrev T_piece_Make : Type := List PV → (List PV → Int → Prop) → Prop
def wv_piece_Make (a0 : T_piece_all) (a1 : T_piece_merged) (p0 : List PV) (K : List PV → Int → Prop) : Prop :=
 (a0 p0 (fun yi3 => 
 (cbr (yi3 != (0 : Int))
 (K ([] : List PV) yi3)
 (a1 p0 (fun yl5 => 
 (K yl5 (0 : Int)))))))
def w_piece_Make (p0 : List PV) (K : List PV → Int → Prop) : Prop := wv_piece_Make w_piece_all w_piece_merged p0 K
def pw_piece_Make (w : T_piece_Make) (as : List PV) (K : PV → Prop) : Prop :=
 match as with
 | [(.data p0)] => w p0 (fun r0 r1 => K (.tup [(.data r0), (.int .i64 r1)]))
 | _ => False
def wp_piece_Make (as : List PV) (K : PV → Prop) : Prop := pw_piece_Make w_piece_Make as K
def lp_piece_Make (_ : T_piece_all) (_ : T_piece_merged) : LP := fun _ _ _ _ =>
 False
def S0_piece_Make (a0 : T_piece_all) (a1 : T_piece_merged) : SE := ⟨(E ef0), lookS [(n_piece_all, pw_piece_all a0), (n_piece_merged, pw_piece_merged a1)], lookI [], lp_piece_Make a0 a1⟩
theorem se0_piece_Make : SEOk (S0_piece_Make w_piece_all w_piece_merged) := seOk_of ⟨(ok_piece_all ef0 effG0), ok_piece_merged, trivial⟩ trivial effG0.ok
theorem eq_piece_Make (a0 a1 p0 K) : WP (S0_piece_Make a0 a1) 6 t_piece_Make [(.data p0)] K = wv_piece_Make a0 a1 p0 (fun r0 r1 => K (.tup [(.data r0), (.int .i64 r1)])) := by kernel_rfl
theorem ok_piece_Make : OkF (E ef0) wp_piece_Make n_piece_Make := by
 intro as K h
 unfold wp_piece_Make pw_piece_Make at h
 split at h
 · exact WP_ok (se0_piece_Make) (LpOk_no (by kernel_rfl)) (by kernel_rfl) (by kernel_rfl) (fun _ => baseS_none (by kernel_rfl) _) (effG0.num _ (by kernel_rfl)) ((eq_piece_Make ..).mpr h)
 · exact h.elim
abbrev T_piece_Check : Type := List PV → (Int → Prop) → Prop
def L_piece_Check_0_0 (a0 : T_piece_all) (a1 : T_piece_order) (x0 : Int → Prop) (x1 : List PV → Int → Bool → Prop) : Nat → List PV → Int → Prop
 | 0, _, _ => False
 | n + 1, l0, i1 =>
 (cbr (decide (i1 < (((List.length l0) : Nat) : Int)))
 (asr (decide ((0 : Int) ≤ (IntKind.i64.wrap (i1 - (1 : Int)))))
 (asr (decide ((IntKind.i64.wrap (i1 - (1 : Int))) < (((List.length l0) : Nat) : Int)))
 (asr (conf (.agg [.i .i64, .i .i64, .i .i64, .i .i64]) (List.getD l0 ((IntKind.i64.wrap (i1 - (1 : Int))).toNat) .nils))
 (asr (decide ((0 : Int) ≤ i1))
 (asr (decide (i1 < (((List.length l0) : Nat) : Int)))
 (asr (conf (.agg [.i .i64, .i .i64, .i .i64, .i .i64]) (List.getD l0 (i1.toNat) .nils))
 (a1 (intOfV (cellAt (List.getD l0 ((IntKind.i64.wrap (i1 - (1 : Int))).toNat) .nils) 2)) (intOfV (cellAt (List.getD l0 ((IntKind.i64.wrap (i1 - (1 : Int))).toNat) .nils) 3)) (intOfV (cellAt (List.getD l0 (i1.toNat) .nils) 0)) (intOfV (cellAt (List.getD l0 (i1.toNat) .nils) 1)) (fun yi1 => 
 (cbr (decide (yi1 ≥ (0 : Int)))
 (x0 (8 : Int))
 (L_piece_Check_0_0 a0 a1 x0 x1 n l0 (IntKind.i64.wrap (i1 + (1 : Int)))))))))))))
 (x1 l0 i1 false))
def wv_piece_Check (a0 : T_piece_all) (a1 : T_piece_order) (p0 : List PV) (K : Int → Prop) : Prop :=
 (a0 p0 (fun yi0 => 
 (cbr (yi0 != (0 : Int))
 (K yi0)
 (∃ n : Nat, L_piece_Check_0_0 a0 a1
 (fun yi2 => (K yi2))
 (fun _ _ _ => (K (0 : Int)))
 n p0 (1 : Int)))))
def w_piece_Check (p0 : List PV) (K : Int → Prop) : Prop := wv_piece_Check w_piece_all w_piece_order p0 K
def pw_piece_Check (w : T_piece_Check) (as : List PV) (K : PV → Prop) : Prop :=
 match as with
 | [(.data p0)] => w p0 (fun r0 => K (.int .i64 r0))
 | _ => False
def wp_piece_Check (as : List PV) (K : PV → Prop) : Prop := pw_piece_Check w_piece_Check as K
def D_piece_Check_0 (F : Frm) (H : Hp) (A0 : List PV → Int → Prop) : Prop :=
 match F, H with
 | [(0, .v (.data l0)), (4, .v (.int .i64 i1))], [] => (A0 l0 i1)
 | _, _ => False
def X_piece_Check_0_0 (Q : Ex → Frm → Hp → Prop) : Int → Prop := (fun i0 => Q .ret [(2, .v (.int .i64 i0))] [])
def X_piece_Check_0_1 (Q : Ex → Frm → Hp → Prop) : List PV → Int → Bool → Prop := (fun l0 i1 b2 => Q (.exit 0) [(0, .v (.data l0)), (4, .v (.int .i64 i1)), (13, .v (.bool b2))] [])
def R_piece_Check_0 (a0 : T_piece_all) (a1 : T_piece_order) (Q : Ex → Frm → Hp → Prop) (n : Nat) (F : Frm) (H : Hp) : Prop := D_piece_Check_0 F H (fun l0 i1 => L_piece_Check_0_0 a0 a1 (X_piece_Check_0_0 Q) (X_piece_Check_0_1 Q) n l0 i1)
def lp_piece_Check (a0 : T_piece_all) (a1 : T_piece_order) : LP := fun id F H Q =>
 bif Nat.beq id 17365500 then D_piece_Check_0 F H (fun l0 i1 => ∃ n : Nat, L_piece_Check_0_0 a0 a1 (X_piece_Check_0_0 Q) (X_piece_Check_0_1 Q) n l0 i1) else
 False
def S0_piece_Check (e : List (Nat × EffF)) (a0 : T_piece_all) (a1 : T_piece_order) : SE := ⟨(E e), lookS [(n_piece_all, pw_piece_all a0), (n_piece_order, pw_piece_order a1)], lookI [], lp_piece_Check a0 a1⟩
theorem se0_piece_Check (e : List (Nat × EffF)) (he : EG e) : SEOk (S0_piece_Check e w_piece_all w_piece_order) := seOk_of ⟨(ok_piece_all e he), (ok_piece_order e he), trivial⟩ trivial he.ok
theorem body_piece_Check_0_0 (e : List (Nat × EffF)) (a0 a1 Q n l0 i1) : WC (E e) (callW (S0_piece_Check e a0 a1) 5) (lp_piece_Check a0 a1) b_17365500 [(0, .v (.data l0)), (4, .v (.int .i64 i1))] [] (fun x F' H' => match x with | .norm => R_piece_Check_0 a0 a1 Q n F' H' | .exit i => Q (.exit i) F' H' | .ret => Q .ret F' H') = L_piece_Check_0_0 a0 a1 (X_piece_Check_0_0 Q) (X_piece_Check_0_1 Q) (n + 1) l0 i1 := by kernel_rfl
theorem lpb_piece_Check_0 (e : List (Nat × EffF)) (_ : EG e) : LpOk (E e) (lp_piece_Check w_piece_all w_piece_order) b_17365500 := (LpOk_no (by kernel_rfl))
theorem loop_piece_Check_0 (e : List (Nat × EffF)) (he : EG e) : ∀ F H Q, lp_piece_Check w_piece_all w_piece_order 17365500 F H Q → LoopT (E e) b_17365500 F H Q := by
 intro F H Q h
 have go := LoopT.intro (callW_ok (se0_piece_Check e he) 5) (lpb_piece_Check_0 e he) (R_piece_Check_0 w_piece_all w_piece_order Q) (by
   intro F H h
   unfold R_piece_Check_0 D_piece_Check_0 at h
   split at h
   · exact h
   · exact h) (by
   intro n F H h
   unfold R_piece_Check_0 D_piece_Check_0 at h
   split at h
   · exact (body_piece_Check_0_0 ..).mpr h
   · exact h.elim)
 have h : D_piece_Check_0 F H _ := h
 unfold D_piece_Check_0 at h
 split at h
 · obtain ⟨n, h⟩ := h; exact go n _ _ h
 · exact h.elim
theorem eq_piece_Check (e : List (Nat × EffF)) (a0 a1 p0 K) : WP (S0_piece_Check e a0 a1) 6 t_piece_Check [(.data p0)] K = wv_piece_Check a0 a1 p0 (fun r0 => K (.int .i64 r0)) := by kernel_rfl
theorem ok_piece_Check (e : List (Nat × EffF)) (he : EG e) : OkF (E e) wp_piece_Check n_piece_Check := by
 intro as K h
 unfold wp_piece_Check pw_piece_Check at h
 split at h
 · exact WP_ok (se0_piece_Check e he) (LpOk_by (l := [(17365500, b_17365500)]) ⟨loop_piece_Check_0 e he, trivial⟩ (by kernel_rfl)) (by kernel_rfl) (by kernel_rfl) (fun _ => baseS_none (by kernel_rfl) _) (he.num _ (by kernel_rfl)) ((eq_piece_Check ..).mpr h)
 · exact h.elim
abbrev T_piece_Has : Type := List PV → Int → Int → (Bool → Int → Prop) → Prop
def L_piece_Has_0_0 (a0 : T_piece_Check) (a1 : T_ratio_Check) (a2 : T_piece_order) (x0 : Int → Int → List PV → Int → Int → Bool → Prop) (x1 : Int → Int → Int → Prop) : Nat → Int → Int → List PV → Int → Int → Prop
 | 0, _, _, _, _, _ => False
 | n + 1, i0, i1, l2, i3, i4 =>
 (cbr (decide (i4 < i3))
 (asr (decide ((0 : Int) ≤ i4))
 (asr (decide (i4 < (((List.length l2) : Nat) : Int)))
 (lt (List.getD l2 (i4.toNat) .nils) (fun yr47 =>
 (asr (conf (.agg [.i .i64, .i .i64, .i .i64, .i .i64]) yr47)
 (jn (fun (yj57 : Bool → Prop) =>
 (a2 (intOfV (cellAt yr47 0)) (intOfV (cellAt yr47 1)) i0 i1 (fun yi59 => 
 (cbr (decide (yi59 ≤ (0 : Int)))
 (a2 i0 i1 (intOfV (cellAt yr47 2)) (intOfV (cellAt yr47 3)) (fun yi60 => 
 (yj57 (decide (yi60 < (0 : Int))))))
 (yj57 false)))))
 (fun yb56 => (cbr yb56
 (x1 i0 i1 i4)
 (lt (IntKind.i64.wrap (i4 + (1 : Int))) (fun yi58 =>
 (L_piece_Has_0_0 a0 a1 a2 x0 x1 n i0 i1 l2 i3 yi58)))))))))))
 (x0 i0 i1 l2 i3 i4 false))
def wv_piece_Has (a0 : T_piece_Check) (a1 : T_ratio_Check) (a2 : T_piece_order) (p0 : List PV) (p1 p2 : Int) (K : Bool → Int → Prop) : Prop :=
 (a0 p0 (fun yi3 => 
 (cbr (yi3 != (0 : Int))
 (K false yi3)
 (a1 p1 p2 (fun yi7 => 
 (cbr (yi7 != (0 : Int))
 (K false (2 : Int))
 (jn (fun (yj386 : Int → Int → Int → Prop) =>
 (∃ n : Nat, L_piece_Has_0_0 a0 a1 a2
 (fun yi396 yi397 _ _ _ _ => (yj386 yi396 yi397 (-1 : Int)))
 (fun yi402 yi403 yi404 => (yj386 yi402 yi403 yi404))
 n p1 p2 p0 (((List.length p0) : Nat) : Int) (0 : Int)))
 (fun _ _ yi385 => (K (decide (yi385 ≥ (0 : Int))) (0 : Int))))))))))
def w_piece_Has (p0 : List PV) (p1 p2 : Int) (K : Bool → Int → Prop) : Prop := wv_piece_Has w_piece_Check w_ratio_Check w_piece_order p0 p1 p2 K
def pw_piece_Has (w : T_piece_Has) (as : List PV) (K : PV → Prop) : Prop :=
 match as with
 | [(.data p0), (.agg [(.int .i64 p1), (.int .i64 p2)])] => w p0 p1 p2 (fun r0 r1 => K (.tup [(.bool r0), (.int .i64 r1)]))
 | _ => False
def wp_piece_Has (as : List PV) (K : PV → Prop) : Prop := pw_piece_Has w_piece_Has as K
def D_piece_Has_0 (F : Frm) (H : Hp) (A0 : Int → Int → List PV → Int → Int → Prop) : Prop :=
 match F, H with
 | [(0, .v (.data l2)), (1, .v (.fn (.func q0) [] [(.ptr 0 1 0 0)])), (7, .v (.int .i64 i3)), (8, .v (.int .i64 i4))], [⟨false, true, 2, [(.agg [(.int .i64 i0), (.int .i64 i1)])]⟩] => asr (Nat.beq q0 n_piece_Has_1) (A0 i0 i1 l2 i3 i4)
 | _, _ => False
def X_piece_Has_0_0 (Q : Ex → Frm → Hp → Prop) : Int → Int → List PV → Int → Int → Bool → Prop := (fun i0 i1 l2 i3 i4 b5 => Q (.exit 0) [(0, .v (.data l2)), (1, .v (.fn (.func n_piece_Has_1) [] [(.ptr 0 1 0 0)])), (7, .v (.int .i64 i3)), (8, .v (.int .i64 i4)), (9, .v (.bool b5))] [⟨false, true, 2, ([(.agg [(.int .i64 i0), (.int .i64 i1)])] : List PV)⟩])
def X_piece_Has_0_1 (Q : Ex → Frm → Hp → Prop) : Int → Int → Int → Prop := (fun i0 i1 i2 => Q .ret [(4, .v (.int .i64 i2))] [⟨false, true, 2, ([(.agg [(.int .i64 i0), (.int .i64 i1)])] : List PV)⟩])
def R_piece_Has_0 (a0 : T_piece_Check) (a1 : T_ratio_Check) (a2 : T_piece_order) (Q : Ex → Frm → Hp → Prop) (n : Nat) (F : Frm) (H : Hp) : Prop := D_piece_Has_0 F H (fun i0 i1 l2 i3 i4 => L_piece_Has_0_0 a0 a1 a2 (X_piece_Has_0_0 Q) (X_piece_Has_0_1 Q) n i0 i1 l2 i3 i4)
def lp_piece_Has (a0 : T_piece_Check) (a1 : T_ratio_Check) (a2 : T_piece_order) : LP := fun id F H Q =>
 bif Nat.beq id 68674300 then D_piece_Has_0 F H (fun i0 i1 l2 i3 i4 => ∃ n : Nat, L_piece_Has_0_0 a0 a1 a2 (X_piece_Has_0_0 Q) (X_piece_Has_0_1 Q) n i0 i1 l2 i3 i4) else
 False
def S0_piece_Has (e : List (Nat × EffF)) (a0 : T_piece_Check) (a1 : T_ratio_Check) (a2 : T_piece_order) : SE := ⟨(E e), lookS [(n_piece_Check, pw_piece_Check a0), (n_ratio_Check, pw_ratio_Check a1), (n_piece_order, pw_piece_order a2)], lookI [(n_s_ContainsFunc_api_Span_api_Span, t_s_ContainsFunc_api_Span_api_Span), (n_piece_Has_1, t_piece_Has_1)], lp_piece_Has a0 a1 a2⟩
def S1_piece_Has (e : List (Nat × EffF)) (a0 : T_piece_Check) (a1 : T_ratio_Check) (a2 : T_piece_order) : SE := ⟨(E e), lookS [(n_piece_Check, pw_piece_Check a0), (n_ratio_Check, pw_ratio_Check a1), (n_piece_order, pw_piece_order a2)], lookI [(n_s_ContainsFunc_api_Span_api_Span, t_s_ContainsFunc_api_Span_api_Span), (n_s_IndexFunc_api_Span_api_Span, t_s_IndexFunc_api_Span_api_Span), (n_piece_Has_1, t_piece_Has_1)], lp_piece_Has a0 a1 a2⟩
theorem se0_piece_Has (e : List (Nat × EffF)) (he : EG e) : SEOk (S0_piece_Has e w_piece_Check w_ratio_Check w_piece_order) := seOk_of ⟨(ok_piece_Check e he), (ok_ratio_Check e he), (ok_piece_order e he), trivial⟩ ⟨⟨by kernel_rfl, by kernel_rfl, rfl, fun as => baseS_none (by kernel_rfl) as, he.num _ (by kernel_rfl), (LpOk_no (by kernel_rfl))⟩, ⟨by kernel_rfl, by kernel_rfl, rfl, fun as => baseS_none (by kernel_rfl) as, he.num _ (by kernel_rfl), (LpOk_no (by kernel_rfl))⟩, trivial⟩ he.ok
theorem body_piece_Has_0_0 (e : List (Nat × EffF)) (a0 a1 a2 Q n i0 i1 l2 i3 i4) : WC (E e) (callW (S0_piece_Has e a0 a1 a2) 5) (lp_piece_Has a0 a1 a2) b_68674300 [(0, .v (.data l2)), (1, .v (.fn (.func n_piece_Has_1) [] [(.ptr 0 1 0 0)])), (7, .v (.int .i64 i3)), (8, .v (.int .i64 i4))] [⟨false, true, 2, ([(.agg [(.int .i64 i0), (.int .i64 i1)])] : List PV)⟩] (fun x F' H' => match x with | .norm => R_piece_Has_0 a0 a1 a2 Q n F' H' | .exit i => Q (.exit i) F' H' | .ret => Q .ret F' H') = L_piece_Has_0_0 a0 a1 a2 (X_piece_Has_0_0 Q) (X_piece_Has_0_1 Q) (n + 1) i0 i1 l2 i3 i4 := by kernel_rfl
theorem lpb_piece_Has_0 (e : List (Nat × EffF)) (_ : EG e) : LpOk (E e) (lp_piece_Has w_piece_Check w_ratio_Check w_piece_order) b_68674300 := (LpOk_no (by kernel_rfl))
theorem loop_piece_Has_0 (e : List (Nat × EffF)) (he : EG e) : ∀ F H Q, lp_piece_Has w_piece_Check w_ratio_Check w_piece_order 68674300 F H Q → LoopT (E e) b_68674300 F H Q := by
 intro F H Q h
 have go := LoopT.intro (callW_ok (se0_piece_Has e he) 5) (lpb_piece_Has_0 e he) (R_piece_Has_0 w_piece_Check w_ratio_Check w_piece_order Q) (by
   intro F H h
   unfold R_piece_Has_0 D_piece_Has_0 at h
   split at h
   · obtain ⟨hg, k⟩ := asr_iff.1 h
     clear h
     have h := k
     clear k
     try simp only [Bool.and_eq_true, decide_eq_true_eq] at hg
     have g0 := hg; have g0 := Nat.eq_of_beq_eq_true g0; subst g0; exact h
   · exact h) (by
   intro n F H h
   unfold R_piece_Has_0 D_piece_Has_0 at h
   split at h
   · obtain ⟨hg, k⟩ := asr_iff.1 h
     clear h
     have h := k
     clear k
     try simp only [Bool.and_eq_true, decide_eq_true_eq] at hg
     have g0 := hg; have g0 := Nat.eq_of_beq_eq_true g0; subst g0; exact (body_piece_Has_0_0 ..).mpr h
   · exact h.elim)
 have h : D_piece_Has_0 F H _ := h
 unfold D_piece_Has_0 at h
 split at h
 · obtain ⟨hg, n, h⟩ := asr_iff.1 h; exact go n _ _ (asr_iff.2 ⟨hg, h⟩)
 · exact h.elim
theorem se1_piece_Has (e : List (Nat × EffF)) (he : EG e) : SEOk (S1_piece_Has e w_piece_Check w_ratio_Check w_piece_order) := seOk_of ⟨(ok_piece_Check e he), (ok_ratio_Check e he), (ok_piece_order e he), trivial⟩ ⟨⟨by kernel_rfl, by kernel_rfl, rfl, fun as => baseS_none (by kernel_rfl) as, he.num _ (by kernel_rfl), (LpOk_no (by kernel_rfl))⟩, ⟨by kernel_rfl, by kernel_rfl, rfl, fun as => baseS_none (by kernel_rfl) as, he.num _ (by kernel_rfl), (LpOk_by (l := [(68674300, b_68674300)]) ⟨loop_piece_Has_0 e he, trivial⟩ (by kernel_rfl))⟩, ⟨by kernel_rfl, by kernel_rfl, rfl, fun as => baseS_none (by kernel_rfl) as, he.num _ (by kernel_rfl), (LpOk_no (by kernel_rfl))⟩, trivial⟩ he.ok
theorem eq_piece_Has (e : List (Nat × EffF)) (a0 a1 a2 p0 p1 p2 K) : WP (S1_piece_Has e a0 a1 a2) 6 t_piece_Has [(.data p0), (.agg [(.int .i64 p1), (.int .i64 p2)])] K = wv_piece_Has a0 a1 a2 p0 p1 p2 (fun r0 r1 => K (.tup [(.bool r0), (.int .i64 r1)])) := by kernel_rfl
theorem ok_piece_Has (e : List (Nat × EffF)) (he : EG e) : OkF (E e) wp_piece_Has n_piece_Has := by
 intro as K h
 unfold wp_piece_Has pw_piece_Has at h
 split at h
 · exact WP_ok (se1_piece_Has e he) (LpOk_no (by kernel_rfl)) (by kernel_rfl) (by kernel_rfl) (fun _ => baseS_none (by kernel_rfl) _) (he.num _ (by kernel_rfl)) ((eq_piece_Has ..).mpr h)
 · exact h.elim
abbrev T_piece_both : Type := List PV → List PV → (Int → Prop) → Prop
def wv_piece_both (a0 : T_piece_Check) (p0 p1 : List PV) (K : Int → Prop) : Prop :=
 (a0 p0 (fun yi0 => 
 (cbr (yi0 != (0 : Int))
 (K yi0)
 (a0 p1 (fun yi1 => 
 (K yi1))))))
def w_piece_both (p0 p1 : List PV) (K : Int → Prop) : Prop := wv_piece_both w_piece_Check p0 p1 K
def pw_piece_both (w : T_piece_both) (as : List PV) (K : PV → Prop) : Prop :=
 match as with
 | [(.data p0), (.data p1)] => w p0 p1 (fun r0 => K (.int .i64 r0))
 | _ => False
def wp_piece_both (as : List PV) (K : PV → Prop) : Prop := pw_piece_both w_piece_both as K
def lp_piece_both (_ : T_piece_Check) : LP := fun _ _ _ _ =>
 False
def S0_piece_both (e : List (Nat × EffF)) (a0 : T_piece_Check) : SE := ⟨(E e), lookS [(n_piece_Check, pw_piece_Check a0)], lookI [], lp_piece_both a0⟩
theorem se0_piece_both (e : List (Nat × EffF)) (he : EG e) : SEOk (S0_piece_both e w_piece_Check) := seOk_of ⟨(ok_piece_Check e he), trivial⟩ trivial he.ok
theorem eq_piece_both (e : List (Nat × EffF)) (a0 p0 p1 K) : WP (S0_piece_both e a0) 6 t_piece_both [(.data p0), (.data p1)] K = wv_piece_both a0 p0 p1 (fun r0 => K (.int .i64 r0)) := by kernel_rfl
theorem ok_piece_both (e : List (Nat × EffF)) (he : EG e) : OkF (E e) wp_piece_both n_piece_both := by
 intro as K h
 unfold wp_piece_both pw_piece_both at h
 split at h
 · exact WP_ok (se0_piece_both e he) (LpOk_no (by kernel_rfl)) (by kernel_rfl) (by kernel_rfl) (fun _ => baseS_none (by kernel_rfl) _) (he.num _ (by kernel_rfl)) ((eq_piece_both ..).mpr h)
 · exact h.elim
abbrev T_piece_few : Type := List PV → (List PV → Int → Prop) → Prop
def wv_piece_few (p0 : List PV) (K : List PV → Int → Prop) : Prop :=
 (cbr (decide ((((List.length p0) : Nat) : Int) > (60 : Int)))
 (K ([] : List PV) (4 : Int))
 (K p0 (0 : Int)))
def w_piece_few (p0 : List PV) (K : List PV → Int → Prop) : Prop := wv_piece_few p0 K
def pw_piece_few (w : T_piece_few) (as : List PV) (K : PV → Prop) : Prop :=
 match as with
 | [(.data p0)] => w p0 (fun r0 r1 => K (.tup [(.data r0), (.int .i64 r1)]))
 | _ => False
def wp_piece_few (as : List PV) (K : PV → Prop) : Prop := pw_piece_few w_piece_few as K
def lp_piece_few : LP := fun _ _ _ _ =>
 False
def S0_piece_few (e : List (Nat × EffF)) : SE := ⟨(E e), lookS [], lookI [], lp_piece_few⟩
theorem se0_piece_few (e : List (Nat × EffF)) (he : EG e) : SEOk (S0_piece_few e) := seOk_of trivial trivial he.ok
theorem eq_piece_few (e : List (Nat × EffF)) ( p0 K) : WP (S0_piece_few e) 6 t_piece_few [(.data p0)] K = wv_piece_few p0 (fun r0 r1 => K (.tup [(.data r0), (.int .i64 r1)])) := by kernel_rfl
theorem ok_piece_few (e : List (Nat × EffF)) (he : EG e) : OkF (E e) wp_piece_few n_piece_few := by
 intro as K h
 unfold wp_piece_few pw_piece_few at h
 split at h
 · exact WP_ok (se0_piece_few e he) (LpOk_no (by kernel_rfl)) (by kernel_rfl) (by kernel_rfl) (fun _ => baseS_none (by kernel_rfl) _) (he.num _ (by kernel_rfl)) ((eq_piece_few ..).mpr h)
 · exact h.elim
abbrev T_piece_Minus : Type := List PV → List PV → (List PV → Int → Prop) → Prop
mutual
def L_piece_Minus_1_0 (a0 : T_piece_both) (a1 : T_piece_order) (a2 : T_piece_few) (x62787000_0 : List PV → Int → Int → Int → Int → Int → Int → List PV → Int → Int → List PV → Int → Int → Bool → Prop) (x62787000_1 : List PV → List PV → Int → Int → Int → Int → Int → Int → List PV → Int → Int → List PV → Int → Int → Bool → Prop) : Nat → List PV → Int → Int → Int → Int → Int → Int → List PV → Int → Int → List PV → Int → Int → Prop
 | 0, _, _, _, _, _, _, _, _, _, _, _, _, _ => False
 | n62787000 + 1, l0, i1, i2, i3, i4, i5, i6, l7, i8, i9, l10, i11, i12 =>
 (cbr (decide (i12 < i11))
 (jn (fun (yj27 : Int → Int → Prop) =>
 (asr (decide ((0 : Int) ≤ i12))
 (asr (decide (i12 < (((List.length l10) : Nat) : Int)))
 (lt (List.getD l10 (i12.toNat) .nils) (fun yr30 =>
 (asr (conf (.agg [.i .i64, .i .i64, .i .i64, .i .i64]) yr30)
 (jn (fun (yj40 : Bool → Prop) =>
 (a1 (intOfV (cellAt yr30 2)) (intOfV (cellAt yr30 3)) i5 i6 (fun yi92 => 
 (cbr (decide (yi92 ≤ (0 : Int)))
 (yj40 true)
 (a1 (intOfV (cellAt yr30 0)) (intOfV (cellAt yr30 1)) i3 i4 (fun yi93 => 
 (yj40 (decide (yi93 ≥ (0 : Int))))))))))
 (fun yb39 => (cbr yb39
 (yj27 i5 i6)
 (a1 i5 i6 (intOfV (cellAt yr30 0)) (intOfV (cellAt yr30 1)) (fun yi44 => 
 (cbr (decide (yi44 < (0 : Int)))
 (lt (IntKind.i64.wrap (i12 + (1 : Int))) (fun yi45 =>
 (asr (decide (1 = List.length ([(.agg [(.int .i64 i5), (.int .i64 i6), (.int .i64 (intOfV (cellAt yr30 0))), (.int .i64 (intOfV (cellAt yr30 1)))])] : List PV)) && decide (1 = List.length ([(.agg [(.int .i64 i5), (.int .i64 i6), (.int .i64 (intOfV (cellAt yr30 0))), (.int .i64 (intOfV (cellAt yr30 1)))])] : List PV)))
 (L_piece_Minus_1_1 a0 a1 a2 x62787000_0 x62787000_1 n62787000 ([(.agg [(.int .i64 i5), (.int .i64 i6), (.int .i64 (intOfV (cellAt yr30 0))), (.int .i64 (intOfV (cellAt yr30 1)))])] : List PV) l0 i1 i2 i3 i4 (intOfV (cellAt yr30 2)) (intOfV (cellAt yr30 3)) l7 i8 i9 l10 i11 yi45))))
 (yj27 (intOfV (cellAt yr30 2)) (intOfV (cellAt yr30 3)))))))))))))))
 (fun yi25 yi26 => (lt (IntKind.i64.wrap (i12 + (1 : Int))) (fun yi28 =>
 (L_piece_Minus_1_0 a0 a1 a2 x62787000_0 x62787000_1 n62787000 l0 i1 i2 i3 i4 yi25 yi26 l7 i8 i9 l10 i11 yi28)))))
 (x62787000_0 l0 i1 i2 i3 i4 i5 i6 l7 i8 i9 l10 i11 i12 false))
def L_piece_Minus_1_1 (a0 : T_piece_both) (a1 : T_piece_order) (a2 : T_piece_few) (x62787000_0 : List PV → Int → Int → Int → Int → Int → Int → List PV → Int → Int → List PV → Int → Int → Bool → Prop) (x62787000_1 : List PV → List PV → Int → Int → Int → Int → Int → Int → List PV → Int → Int → List PV → Int → Int → Bool → Prop) : Nat → List PV → List PV → Int → Int → Int → Int → Int → Int → List PV → Int → Int → List PV → Int → Int → Prop
 | 0, _, _, _, _, _, _, _, _, _, _, _, _, _, _ => False
 | n62787000 + 1, l0, l1, i4, i5, i6, i7, i8, i9, l10, i11, i12, l13, i14, i15 =>
 (cbr (decide (i15 < i14))
 (jn (fun (yj70 : List PV → Int → Int → Prop) =>
 (asr (decide ((0 : Int) ≤ i15))
 (asr (decide (i15 < (((List.length l13) : Nat) : Int)))
 (lt (List.getD l13 (i15.toNat) .nils) (fun yr73 =>
 (asr (conf (.agg [.i .i64, .i .i64, .i .i64, .i .i64]) yr73)
 (jn (fun (yj83 : Bool → Prop) =>
 (a1 (intOfV (cellAt yr73 2)) (intOfV (cellAt yr73 3)) i8 i9 (fun yi90 => 
 (cbr (decide (yi90 ≤ (0 : Int)))
 (yj83 true)
 (a1 (intOfV (cellAt yr73 0)) (intOfV (cellAt yr73 1)) i6 i7 (fun yi91 => 
 (yj83 (decide (yi91 ≥ (0 : Int))))))))))
 (fun yb82 => (cbr yb82
 (yj70 l0 i8 i9)
 (jn (fun (yj87 : List PV → Prop) =>
 (a1 i8 i9 (intOfV (cellAt yr73 0)) (intOfV (cellAt yr73 1)) (fun yi89 => 
 (cbr (decide (yi89 < (0 : Int)))
 (asr (decide ((List.length l0) = (List.length l0)))
 (asr (decide ((0 + (List.length l0)) ≤ (List.length l0)))
 (asr (!(decide (((0 + (List.length l0)) + 1) ≤ (List.length l0))))
 (asr (decide ((List.length l0) = (List.length l0)))
 (asr (decide ((((List.length l0) + 1) + 64) * (32 + 1) ≤ room))
 (yj87 (l0 ++ ([(.agg [(.int .i64 i8), (.int .i64 i9), (.int .i64 (intOfV (cellAt yr73 0))), (.int .i64 (intOfV (cellAt yr73 1)))])] : List PV))))))))
 (yj87 l0)))))
 (fun yl86 => (yj70 yl86 (intOfV (cellAt yr73 2)) (intOfV (cellAt yr73 3))))))))))))))
 (fun yl67 yi68 yi69 => (lt (IntKind.i64.wrap (i15 + (1 : Int))) (fun yi71 =>
 (asr (decide ((List.length yl67) = List.length yl67) && decide ((List.length yl67) = List.length yl67))
 (L_piece_Minus_1_1 a0 a1 a2 x62787000_0 x62787000_1 n62787000 yl67 l1 i4 i5 i6 i7 yi68 yi69 l10 i11 i12 l13 i14 yi71))))))
 (x62787000_1 l0 l1 i4 i5 i6 i7 i8 i9 l10 i11 i12 l13 i14 i15 false))
end
mutual
def L_piece_Minus_0_0 (a0 : T_piece_both) (a1 : T_piece_order) (a2 : T_piece_few) (x62787001_0 : List PV → List PV → Int → Int → Bool → Prop) (x62787001_1 : List PV → List PV → List PV → Int → Int → Bool → Prop) : Nat → List PV → List PV → Int → Int → Prop
 | 0, _, _, _, _ => False
 | n62787001 + 1, l0, l1, i2, i3 =>
 (cbr (decide (i3 < i2))
 (jn (fun (yj161 : List PV → List PV → List PV → Int → Int → Prop) =>
 (asr (decide ((0 : Int) ≤ i3))
 (asr (decide (i3 < (((List.length l1) : Nat) : Int)))
 (lt (List.getD l1 (i3.toNat) .nils) (fun yr300 =>
 (asr (conf (.agg [.i .i64, .i .i64, .i .i64, .i .i64]) yr300)
 (∃ n62787000 : Nat, L_piece_Minus_1_0 a0 a1 a2
 (fun yl330 _ _ yi333 yi334 yi335 yi336 yl337 yi338 yi339 _ _ _ _ => (a1 yi335 yi336 yi333 yi334 (fun yi345 => 
 (cbr (decide (yi345 < (0 : Int)))
 (yj161 ([(.agg [(.int .i64 yi335), (.int .i64 yi336), (.int .i64 yi333), (.int .i64 yi334)])] : List PV) yl330 yl337 yi338 yi339)
 (lt (IntKind.i64.wrap (yi339 + (1 : Int))) (fun yi346 =>
 (L_piece_Minus_0_0 a0 a1 a2 x62787001_0 x62787001_1 n62787001 yl330 yl337 yi338 yi346)))))))
 (fun yl347 yl348 _ _ yi351 yi352 yi353 yi354 yl355 yi356 yi357 _ _ _ _ => (a1 yi353 yi354 yi351 yi352 (fun yi363 => 
 (cbr (decide (yi363 < (0 : Int)))
 (asr (decide ((List.length yl347) = (List.length yl347)))
 (asr (decide ((0 + (List.length yl347)) ≤ (List.length yl347)))
 (asr (!(decide (((0 + (List.length yl347)) + 1) ≤ (List.length yl347))))
 (asr (decide ((List.length yl347) = (List.length yl347)))
 (asr (decide ((((List.length yl347) + 1) + 64) * (32 + 1) ≤ room))
 (yj161 (yl347 ++ ([(.agg [(.int .i64 yi353), (.int .i64 yi354), (.int .i64 yi351), (.int .i64 yi352)])] : List PV)) yl348 yl355 yi356 yi357))))))
 (yj161 yl347 yl348 yl355 yi356 yi357)))))
 n62787000 l0 (intOfV (cellAt yr300 0)) (intOfV (cellAt yr300 1)) (intOfV (cellAt yr300 2)) (intOfV (cellAt yr300 3)) (intOfV (cellAt yr300 0)) (intOfV (cellAt yr300 1)) l1 i2 i3 l0 (((List.length l0) : Nat) : Int) (0 : Int))))))))
 (fun yl156 yl157 yl158 yi159 yi160 => (lt (IntKind.i64.wrap (yi160 + (1 : Int))) (fun yi162 =>
 (asr (decide ((List.length yl156) = List.length yl156) && decide ((List.length yl156) = List.length yl156))
 (L_piece_Minus_0_1 a0 a1 a2 x62787001_0 x62787001_1 n62787001 yl156 yl157 yl158 yi159 yi162))))))
 (x62787001_0 l0 l1 i2 i3 false))
def L_piece_Minus_0_1 (a0 : T_piece_both) (a1 : T_piece_order) (a2 : T_piece_few) (x62787001_0 : List PV → List PV → Int → Int → Bool → Prop) (x62787001_1 : List PV → List PV → List PV → Int → Int → Bool → Prop) : Nat → List PV → List PV → List PV → Int → Int → Prop
 | 0, _, _, _, _, _ => False
 | n62787001 + 1, l0, l1, l4, i5, i6 =>
 (cbr (decide (i6 < i5))
 (jn (fun (yj232 : List PV → List PV → List PV → Int → Int → Prop) =>
 (asr (decide ((0 : Int) ≤ i6))
 (asr (decide (i6 < (((List.length l4) : Nat) : Int)))
 (lt (List.getD l4 (i6.toNat) .nils) (fun yr235 =>
 (asr (conf (.agg [.i .i64, .i .i64, .i .i64, .i .i64]) yr235)
 (asr (decide ((List.length l0) = List.length l0) && decide ((List.length l0) = List.length l0))
 (∃ n62787000 : Nat, L_piece_Minus_1_1 a0 a1 a2
 (fun yl265 _ _ yi268 yi269 yi270 yi271 yl272 yi273 yi274 _ _ _ _ => (a1 yi270 yi271 yi268 yi269 (fun yi280 => 
 (cbr (decide (yi280 < (0 : Int)))
 (yj232 ([(.agg [(.int .i64 yi270), (.int .i64 yi271), (.int .i64 yi268), (.int .i64 yi269)])] : List PV) yl265 yl272 yi273 yi274)
 (lt (IntKind.i64.wrap (yi274 + (1 : Int))) (fun yi281 =>
 (L_piece_Minus_0_0 a0 a1 a2 x62787001_0 x62787001_1 n62787001 yl265 yl272 yi273 yi281)))))))
 (fun yl282 yl283 _ _ yi286 yi287 yi288 yi289 yl290 yi291 yi292 _ _ _ _ => (a1 yi288 yi289 yi286 yi287 (fun yi298 => 
 (cbr (decide (yi298 < (0 : Int)))
 (asr (decide ((List.length yl282) = (List.length yl282)))
 (asr (decide ((0 + (List.length yl282)) ≤ (List.length yl282)))
 (asr (!(decide (((0 + (List.length yl282)) + 1) ≤ (List.length yl282))))
 (asr (decide ((List.length yl282) = (List.length yl282)))
 (asr (decide ((((List.length yl282) + 1) + 64) * (32 + 1) ≤ room))
 (yj232 (yl282 ++ ([(.agg [(.int .i64 yi288), (.int .i64 yi289), (.int .i64 yi286), (.int .i64 yi287)])] : List PV)) yl283 yl290 yi291 yi292))))))
 (yj232 yl282 yl283 yl290 yi291 yi292)))))
 n62787000 l0 l1 (intOfV (cellAt yr235 0)) (intOfV (cellAt yr235 1)) (intOfV (cellAt yr235 2)) (intOfV (cellAt yr235 3)) (intOfV (cellAt yr235 0)) (intOfV (cellAt yr235 1)) l4 i5 i6 l1 (((List.length l1) : Nat) : Int) (0 : Int)))))))))
 (fun yl227 yl228 yl229 yi230 yi231 => (lt (IntKind.i64.wrap (yi231 + (1 : Int))) (fun yi233 =>
 (asr (decide ((List.length yl227) = List.length yl227) && decide ((List.length yl227) = List.length yl227))
 (L_piece_Minus_0_1 a0 a1 a2 x62787001_0 x62787001_1 n62787001 yl227 yl228 yl229 yi230 yi233))))))
 (x62787001_1 l0 l1 l4 i5 i6 false))
end
def wv_piece_Minus (a0 : T_piece_both) (a1 : T_piece_order) (a2 : T_piece_few) (p0 p1 : List PV) (K : List PV → Int → Prop) : Prop :=
 (a0 p0 p1 (fun yi3 => 
 (cbr (yi3 != (0 : Int))
 (K ([] : List PV) yi3)
 (∃ n62787001 : Nat, L_piece_Minus_0_0 a0 a1 a2
 (fun _ _ _ _ _ => (a2 ([] : List PV) (fun yl382 yi383 => 
 (K yl382 yi383))))
 (fun yl384 _ _ _ _ _ => (asr (decide ((List.length yl384) = (List.length yl384)))
 (asr (decide ((0 + (List.length yl384)) ≤ (List.length yl384)))
 (a2 (List.take (List.length yl384) yl384) (fun yl392 yi393 => 
 (K yl392 yi393))))))
 n62787001 p1 p0 (((List.length p0) : Nat) : Int) (0 : Int)))))
def w_piece_Minus (p0 p1 : List PV) (K : List PV → Int → Prop) : Prop := wv_piece_Minus w_piece_both w_piece_order w_piece_few p0 p1 K
def pw_piece_Minus (w : T_piece_Minus) (as : List PV) (K : PV → Prop) : Prop :=
 match as with
 | [(.data p0), (.data p1)] => w p0 p1 (fun r0 r1 => K (.tup [(.data r0), (.int .i64 r1)]))
 | _ => False
def wp_piece_Minus (as : List PV) (K : PV → Prop) : Prop := pw_piece_Minus w_piece_Minus as K
def D_piece_Minus_1 (F : Frm) (H : Hp) (A0 : List PV → Int → Int → Int → Int → Int → Int → List PV → Int → Int → List PV → Int → Int → Prop) (A1 : List PV → List PV → Int → Int → Int → Int → Int → Int → List PV → Int → Int → List PV → Int → Int → Prop) : Prop :=
 match F, H with
 | [(1, .v (.data l0)), (7, .v .nils), (9, .box (.agg [(.int .i64 i1), (.int .i64 i2), (.int .i64 i3), (.int .i64 i4)])), (10, .box (.agg [(.int .i64 i5), (.int .i64 i6)])), (19, .v (.data l7)), (20, .v (.int .i64 i8)), (21, .v (.int .i64 i9)), (27, .v (.data l10)), (28, .v (.int .i64 i11)), (29, .v (.int .i64 i12))], [] => (A0 l0 i1 i2 i3 i4 i5 i6 l7 i8 i9 l10 i11 i12)
 | [(1, .v (.data l1)), (7, .v (.own 0 0 t2 t3 none)), (9, .box (.agg [(.int .i64 i4), (.int .i64 i5), (.int .i64 i6), (.int .i64 i7)])), (10, .box (.agg [(.int .i64 i8), (.int .i64 i9)])), (19, .v (.data l10)), (20, .v (.int .i64 i11)), (21, .v (.int .i64 i12)), (27, .v (.data l13)), (28, .v (.int .i64 i14)), (29, .v (.int .i64 i15))], [⟨false, true, 4, l0⟩] => asr (decide (t2 = List.length l0) && decide (t3 = List.length l0)) (A1 l0 l1 i4 i5 i6 i7 i8 i9 l10 i11 i12 l13 i14 i15)
 | _, _ => False
def D_piece_Minus_0 (F : Frm) (H : Hp) (A0 : List PV → List PV → Int → Int → Prop) (A1 : List PV → List PV → List PV → Int → Int → Prop) : Prop :=
 match F, H with
 | [(1, .v (.data l0)), (7, .v .nils), (19, .v (.data l1)), (20, .v (.int .i64 i2)), (21, .v (.int .i64 i3))], [] => (A0 l0 l1 i2 i3)
 | [(1, .v (.data l1)), (7, .v (.own 0 0 t2 t3 none)), (19, .v (.data l4)), (20, .v (.int .i64 i5)), (21, .v (.int .i64 i6))], [⟨false, true, 4, l0⟩] => asr (decide (t2 = List.length l0) && decide (t3 = List.length l0)) (A1 l0 l1 l4 i5 i6)
 | _, _ => False
def X_piece_Minus_1_0 (Q : Ex → Frm → Hp → Prop) : List PV → Int → Int → Int → Int → Int → Int → List PV → Int → Int → List PV → Int → Int → Bool → Prop := (fun l0 i1 i2 i3 i4 i5 i6 l7 i8 i9 l10 i11 i12 b13 => Q (.exit 2) [(1, .v (.data l0)), (7, .v .nils), (9, .box (.agg [(.int .i64 i1), (.int .i64 i2), (.int .i64 i3), (.int .i64 i4)])), (10, .box (.agg [(.int .i64 i5), (.int .i64 i6)])), (19, .v (.data l7)), (20, .v (.int .i64 i8)), (21, .v (.int .i64 i9)), (27, .v (.data l10)), (28, .v (.int .i64 i11)), (29, .v (.int .i64 i12)), (30, .v (.bool b13))] [])
def X_piece_Minus_1_1 (Q : Ex → Frm → Hp → Prop) : List PV → List PV → Int → Int → Int → Int → Int → Int → List PV → Int → Int → List PV → Int → Int → Bool → Prop := (fun l0 l1 i4 i5 i6 i7 i8 i9 l10 i11 i12 l13 i14 i15 b16 => Q (.exit 2) [(1, .v (.data l1)), (7, .v (.own 0 0 (List.length l0) (List.length l0) none)), (9, .box (.agg [(.int .i64 i4), (.int .i64 i5), (.int .i64 i6), (.int .i64 i7)])), (10, .box (.agg [(.int .i64 i8), (.int .i64 i9)])), (19, .v (.data l10)), (20, .v (.int .i64 i11)), (21, .v (.int .i64 i12)), (27, .v (.data l13)), (28, .v (.int .i64 i14)), (29, .v (.int .i64 i15)), (30, .v (.bool b16))] [⟨false, true, 4, l0⟩])
def X_piece_Minus_0_0 (Q : Ex → Frm → Hp → Prop) : List PV → List PV → Int → Int → Bool → Prop := (fun l0 l1 i2 i3 b4 => Q (.exit 0) [(1, .v (.data l0)), (7, .v .nils), (19, .v (.data l1)), (20, .v (.int .i64 i2)), (21, .v (.int .i64 i3)), (22, .v (.bool b4))] [])
def X_piece_Minus_0_1 (Q : Ex → Frm → Hp → Prop) : List PV → List PV → List PV → Int → Int → Bool → Prop := (fun l0 l1 l4 i5 i6 b7 => Q (.exit 0) [(1, .v (.data l1)), (7, .v (.own 0 0 (List.length l0) (List.length l0) none)), (19, .v (.data l4)), (20, .v (.int .i64 i5)), (21, .v (.int .i64 i6)), (22, .v (.bool b7))] [⟨false, true, 4, l0⟩])
def R_piece_Minus_1 (a0 : T_piece_both) (a1 : T_piece_order) (a2 : T_piece_few) (Q : Ex → Frm → Hp → Prop) (n : Nat) (F : Frm) (H : Hp) : Prop := D_piece_Minus_1 F H (fun l0 i1 i2 i3 i4 i5 i6 l7 i8 i9 l10 i11 i12 => L_piece_Minus_1_0 a0 a1 a2 (X_piece_Minus_1_0 Q) (X_piece_Minus_1_1 Q) n l0 i1 i2 i3 i4 i5 i6 l7 i8 i9 l10 i11 i12) (fun l0 l1 i4 i5 i6 i7 i8 i9 l10 i11 i12 l13 i14 i15 => L_piece_Minus_1_1 a0 a1 a2 (X_piece_Minus_1_0 Q) (X_piece_Minus_1_1 Q) n l0 l1 i4 i5 i6 i7 i8 i9 l10 i11 i12 l13 i14 i15)
def R_piece_Minus_0 (a0 : T_piece_both) (a1 : T_piece_order) (a2 : T_piece_few) (Q : Ex → Frm → Hp → Prop) (n : Nat) (F : Frm) (H : Hp) : Prop := D_piece_Minus_0 F H (fun l0 l1 i2 i3 => L_piece_Minus_0_0 a0 a1 a2 (X_piece_Minus_0_0 Q) (X_piece_Minus_0_1 Q) n l0 l1 i2 i3) (fun l0 l1 l4 i5 i6 => L_piece_Minus_0_1 a0 a1 a2 (X_piece_Minus_0_0 Q) (X_piece_Minus_0_1 Q) n l0 l1 l4 i5 i6)
def lp_piece_Minus (a0 : T_piece_both) (a1 : T_piece_order) (a2 : T_piece_few) : LP := fun id F H Q =>
 bif Nat.beq id 62787000 then D_piece_Minus_1 F H (fun l0 i1 i2 i3 i4 i5 i6 l7 i8 i9 l10 i11 i12 => ∃ n : Nat, L_piece_Minus_1_0 a0 a1 a2 (X_piece_Minus_1_0 Q) (X_piece_Minus_1_1 Q) n l0 i1 i2 i3 i4 i5 i6 l7 i8 i9 l10 i11 i12) (fun l0 l1 i4 i5 i6 i7 i8 i9 l10 i11 i12 l13 i14 i15 => ∃ n : Nat, L_piece_Minus_1_1 a0 a1 a2 (X_piece_Minus_1_0 Q) (X_piece_Minus_1_1 Q) n l0 l1 i4 i5 i6 i7 i8 i9 l10 i11 i12 l13 i14 i15) else
 bif Nat.beq id 62787001 then D_piece_Minus_0 F H (fun l0 l1 i2 i3 => ∃ n : Nat, L_piece_Minus_0_0 a0 a1 a2 (X_piece_Minus_0_0 Q) (X_piece_Minus_0_1 Q) n l0 l1 i2 i3) (fun l0 l1 l4 i5 i6 => ∃ n : Nat, L_piece_Minus_0_1 a0 a1 a2 (X_piece_Minus_0_0 Q) (X_piece_Minus_0_1 Q) n l0 l1 l4 i5 i6) else
 False
def S0_piece_Minus (e : List (Nat × EffF)) (a0 : T_piece_both) (a1 : T_piece_order) (a2 : T_piece_few) : SE := ⟨(E e), lookS [(n_piece_both, pw_piece_both a0), (n_piece_order, pw_piece_order a1), (n_piece_few, pw_piece_few a2)], lookI [], lp_piece_Minus a0 a1 a2⟩
theorem se0_piece_Minus (e : List (Nat × EffF)) (he : EG e) : SEOk (S0_piece_Minus e w_piece_both w_piece_order w_piece_few) := seOk_of ⟨(ok_piece_both e he), (ok_piece_order e he), (ok_piece_few e he), trivial⟩ trivial he.ok
theorem body_piece_Minus_1_0 (e : List (Nat × EffF)) (a0 a1 a2 Q n l0 i1 i2 i3 i4 i5 i6 l7 i8 i9 l10 i11 i12) : WC (E e) (callW (S0_piece_Minus e a0 a1 a2) 5) (lp_piece_Minus a0 a1 a2) b_62787000 [(1, .v (.data l0)), (7, .v .nils), (9, .box (.agg [(.int .i64 i1), (.int .i64 i2), (.int .i64 i3), (.int .i64 i4)])), (10, .box (.agg [(.int .i64 i5), (.int .i64 i6)])), (19, .v (.data l7)), (20, .v (.int .i64 i8)), (21, .v (.int .i64 i9)), (27, .v (.data l10)), (28, .v (.int .i64 i11)), (29, .v (.int .i64 i12))] [] (fun x F' H' => match x with | .norm => R_piece_Minus_1 a0 a1 a2 Q n F' H' | .exit i => Q (.exit i) F' H' | .ret => Q .ret F' H') = L_piece_Minus_1_0 a0 a1 a2 (X_piece_Minus_1_0 Q) (X_piece_Minus_1_1 Q) (n + 1) l0 i1 i2 i3 i4 i5 i6 l7 i8 i9 l10 i11 i12 := by kernel_rfl
theorem body_piece_Minus_1_1 (e : List (Nat × EffF)) (a0 a1 a2 Q n l0 l1 i4 i5 i6 i7 i8 i9 l10 i11 i12 l13 i14 i15) : WC (E e) (callW (S0_piece_Minus e a0 a1 a2) 5) (lp_piece_Minus a0 a1 a2) b_62787000 [(1, .v (.data l1)), (7, .v (.own 0 0 (List.length l0) (List.length l0) none)), (9, .box (.agg [(.int .i64 i4), (.int .i64 i5), (.int .i64 i6), (.int .i64 i7)])), (10, .box (.agg [(.int .i64 i8), (.int .i64 i9)])), (19, .v (.data l10)), (20, .v (.int .i64 i11)), (21, .v (.int .i64 i12)), (27, .v (.data l13)), (28, .v (.int .i64 i14)), (29, .v (.int .i64 i15))] [⟨false, true, 4, l0⟩] (fun x F' H' => match x with | .norm => R_piece_Minus_1 a0 a1 a2 Q n F' H' | .exit i => Q (.exit i) F' H' | .ret => Q .ret F' H') = L_piece_Minus_1_1 a0 a1 a2 (X_piece_Minus_1_0 Q) (X_piece_Minus_1_1 Q) (n + 1) l0 l1 i4 i5 i6 i7 i8 i9 l10 i11 i12 l13 i14 i15 := by kernel_rfl
theorem lpb_piece_Minus_1 (e : List (Nat × EffF)) (_ : EG e) : LpOk (E e) (lp_piece_Minus w_piece_both w_piece_order w_piece_few) b_62787000 := (LpOk_no (by kernel_rfl))
theorem loop_piece_Minus_1 (e : List (Nat × EffF)) (he : EG e) : ∀ F H Q, lp_piece_Minus w_piece_both w_piece_order w_piece_few 62787000 F H Q → LoopT (E e) b_62787000 F H Q := by
 intro F H Q h
 have go := LoopT.intro (callW_ok (se0_piece_Minus e he) 5) (lpb_piece_Minus_1 e he) (R_piece_Minus_1 w_piece_both w_piece_order w_piece_few Q) (by
   intro F H h
   unfold R_piece_Minus_1 D_piece_Minus_1 at h
   split at h
   · exact h
   · obtain ⟨hg, k⟩ := asr_iff.1 h
     clear h
     have h := k
     clear k
     try simp only [Bool.and_eq_true, decide_eq_true_eq] at hg
     obtain ⟨g0, g1⟩ := hg; subst g0; subst g1; exact h
   · exact h) (by
   intro n F H h
   unfold R_piece_Minus_1 D_piece_Minus_1 at h
   split at h
   · exact (body_piece_Minus_1_0 ..).mpr h
   · obtain ⟨hg, k⟩ := asr_iff.1 h
     clear h
     have h := k
     clear k
     try simp only [Bool.and_eq_true, decide_eq_true_eq] at hg
     obtain ⟨g0, g1⟩ := hg; subst g0; subst g1; exact (body_piece_Minus_1_1 ..).mpr h
   · exact h.elim)
 have h : D_piece_Minus_1 F H _ _ := h
 unfold D_piece_Minus_1 at h
 split at h
 · obtain ⟨n, h⟩ := h; exact go n _ _ h
 · obtain ⟨hg, n, h⟩ := asr_iff.1 h; exact go n _ _ (asr_iff.2 ⟨hg, h⟩)
 · exact h.elim
theorem body_piece_Minus_0_0 (e : List (Nat × EffF)) (a0 a1 a2 Q n l0 l1 i2 i3) : WC (E e) (callW (S0_piece_Minus e a0 a1 a2) 5) (lp_piece_Minus a0 a1 a2) b_62787001 [(1, .v (.data l0)), (7, .v .nils), (19, .v (.data l1)), (20, .v (.int .i64 i2)), (21, .v (.int .i64 i3))] [] (fun x F' H' => match x with | .norm => R_piece_Minus_0 a0 a1 a2 Q n F' H' | .exit i => Q (.exit i) F' H' | .ret => Q .ret F' H') = L_piece_Minus_0_0 a0 a1 a2 (X_piece_Minus_0_0 Q) (X_piece_Minus_0_1 Q) (n + 1) l0 l1 i2 i3 := by kernel_rfl
theorem body_piece_Minus_0_1 (e : List (Nat × EffF)) (a0 a1 a2 Q n l0 l1 l4 i5 i6) : WC (E e) (callW (S0_piece_Minus e a0 a1 a2) 5) (lp_piece_Minus a0 a1 a2) b_62787001 [(1, .v (.data l1)), (7, .v (.own 0 0 (List.length l0) (List.length l0) none)), (19, .v (.data l4)), (20, .v (.int .i64 i5)), (21, .v (.int .i64 i6))] [⟨false, true, 4, l0⟩] (fun x F' H' => match x with | .norm => R_piece_Minus_0 a0 a1 a2 Q n F' H' | .exit i => Q (.exit i) F' H' | .ret => Q .ret F' H') = L_piece_Minus_0_1 a0 a1 a2 (X_piece_Minus_0_0 Q) (X_piece_Minus_0_1 Q) (n + 1) l0 l1 l4 i5 i6 := by kernel_rfl
theorem lpb_piece_Minus_0 (e : List (Nat × EffF)) (he : EG e) : LpOk (E e) (lp_piece_Minus w_piece_both w_piece_order w_piece_few) b_62787001 := (LpOk_by (l := [(62787000, b_62787000)]) ⟨loop_piece_Minus_1 e he, trivial⟩ (by kernel_rfl))
theorem loop_piece_Minus_0 (e : List (Nat × EffF)) (he : EG e) : ∀ F H Q, lp_piece_Minus w_piece_both w_piece_order w_piece_few 62787001 F H Q → LoopT (E e) b_62787001 F H Q := by
 intro F H Q h
 have go := LoopT.intro (callW_ok (se0_piece_Minus e he) 5) (lpb_piece_Minus_0 e he) (R_piece_Minus_0 w_piece_both w_piece_order w_piece_few Q) (by
   intro F H h
   unfold R_piece_Minus_0 D_piece_Minus_0 at h
   split at h
   · exact h
   · obtain ⟨hg, k⟩ := asr_iff.1 h
     clear h
     have h := k
     clear k
     try simp only [Bool.and_eq_true, decide_eq_true_eq] at hg
     obtain ⟨g0, g1⟩ := hg; subst g0; subst g1; exact h
   · exact h) (by
   intro n F H h
   unfold R_piece_Minus_0 D_piece_Minus_0 at h
   split at h
   · exact (body_piece_Minus_0_0 ..).mpr h
   · obtain ⟨hg, k⟩ := asr_iff.1 h
     clear h
     have h := k
     clear k
     try simp only [Bool.and_eq_true, decide_eq_true_eq] at hg
     obtain ⟨g0, g1⟩ := hg; subst g0; subst g1; exact (body_piece_Minus_0_1 ..).mpr h
   · exact h.elim)
 have h : D_piece_Minus_0 F H _ _ := h
 unfold D_piece_Minus_0 at h
 split at h
 · obtain ⟨n, h⟩ := h; exact go n _ _ h
 · obtain ⟨hg, n, h⟩ := asr_iff.1 h; exact go n _ _ (asr_iff.2 ⟨hg, h⟩)
 · exact h.elim
theorem eq_piece_Minus (e : List (Nat × EffF)) (a0 a1 a2 p0 p1 K) : WP (S0_piece_Minus e a0 a1 a2) 6 t_piece_Minus [(.data p0), (.data p1)] K = wv_piece_Minus a0 a1 a2 p0 p1 (fun r0 r1 => K (.tup [(.data r0), (.int .i64 r1)])) := by kernel_rfl
theorem ok_piece_Minus (e : List (Nat × EffF)) (he : EG e) : OkF (E e) wp_piece_Minus n_piece_Minus := by
 intro as K h
 unfold wp_piece_Minus pw_piece_Minus at h
 split at h
 · exact WP_ok (se0_piece_Minus e he) (LpOk_by (l := [(62787000, b_62787000), (62787001, b_62787001)]) ⟨loop_piece_Minus_1 e he, loop_piece_Minus_0 e he, trivial⟩ (by kernel_rfl)) (by kernel_rfl) (by kernel_rfl) (fun _ => baseS_none (by kernel_rfl) _) (he.num _ (by kernel_rfl)) ((eq_piece_Minus ..).mpr h)
 · exact h.elim
abbrev T_piece_Length_1 : Type := Int → Int → Int → Int → (Int → Int → Int → Prop) → Prop
def wv_piece_Length_1 (a0 : T_ratio_Sub) (p0 p1 p2 p3 : Int) (K : Int → Int → Int → Prop) : Prop :=
 (a0 p2 p3 p0 p1 (fun yi3 yi4 yi5 => 
 (K yi3 yi4 yi5)))
def w_piece_Length_1 (p0 p1 p2 p3 : Int) (K : Int → Int → Int → Prop) : Prop := wv_piece_Length_1 w_ratio_Sub p0 p1 p2 p3 K
def pw_piece_Length_1 (w : T_piece_Length_1) (as : List PV) (K : PV → Prop) : Prop :=
 match as with
 | [(.agg [(.int .i64 p0), (.int .i64 p1), (.int .i64 p2), (.int .i64 p3)])] => w p0 p1 p2 p3 (fun r0 r1 r2 => K (.tup [(.agg [(.int .i64 r0), (.int .i64 r1)]), (.int .i64 r2)]))
 | _ => False
def wp_piece_Length_1 (as : List PV) (K : PV → Prop) : Prop := pw_piece_Length_1 w_piece_Length_1 as K
def lp_piece_Length_1 (_ : T_ratio_Sub) : LP := fun _ _ _ _ =>
 False
def S0_piece_Length_1 (e : List (Nat × EffF)) (a0 : T_ratio_Sub) : SE := ⟨(E e), lookS [(n_ratio_Sub, pw_ratio_Sub a0)], lookI [], lp_piece_Length_1 a0⟩
theorem se0_piece_Length_1 (e : List (Nat × EffF)) (he : EG e) : SEOk (S0_piece_Length_1 e w_ratio_Sub) := seOk_of ⟨(ok_ratio_Sub e he), trivial⟩ trivial he.ok
theorem eq_piece_Length_1 (e : List (Nat × EffF)) (a0 p0 p1 p2 p3 K) : WP (S0_piece_Length_1 e a0) 6 t_piece_Length_1 [(.agg [(.int .i64 p0), (.int .i64 p1), (.int .i64 p2), (.int .i64 p3)])] K = wv_piece_Length_1 a0 p0 p1 p2 p3 (fun r0 r1 r2 => K (.tup [(.agg [(.int .i64 r0), (.int .i64 r1)]), (.int .i64 r2)])) := by kernel_rfl
theorem ok_piece_Length_1 (e : List (Nat × EffF)) (he : EG e) : OkF (E e) wp_piece_Length_1 n_piece_Length_1 := by
 intro as K h
 unfold wp_piece_Length_1 pw_piece_Length_1 at h
 split at h
 · exact WP_ok (se0_piece_Length_1 e he) (LpOk_no (by kernel_rfl)) (by kernel_rfl) (by kernel_rfl) (fun _ => baseS_none (by kernel_rfl) _) (he.num _ (by kernel_rfl)) ((eq_piece_Length_1 ..).mpr h)
 · exact h.elim
abbrev T_piece_Length : Type := List PV → (Int → Int → Int → Prop) → Prop
def L_piece_Length_0_0 (a0 : T_piece_Check) (a1 : T_piece_Length_1) (a2 : T_ratio_Add) (x0 : Int → Int → Int → Int → List PV → Int → Int → Bool → Prop) (x1 : Int → Int → Int → Prop) : Nat → Int → Int → Int → Int → List PV → Int → Int → Prop
 | 0, _, _, _, _, _, _, _ => False
 | n + 1, i0, i1, i2, i3, l4, i5, i6 =>
 (cbr (decide (i6 < i5))
 (asr (decide ((0 : Int) ≤ i6))
 (asr (decide (i6 < (((List.length l4) : Nat) : Int)))
 (lt (List.getD l4 (i6.toNat) .nils) (fun yr19 =>
 (asr (conf (.agg [.i .i64, .i .i64, .i .i64, .i .i64]) yr19)
 (a1 (intOfV (cellAt yr19 0)) (intOfV (cellAt yr19 1)) (intOfV (cellAt yr19 2)) (intOfV (cellAt yr19 3)) (fun yi23 yi24 yi25 => 
 (cbr (yi25 != (0 : Int))
 (x1 (0 : Int) (0 : Int) yi25)
 (a2 i2 i3 yi23 yi24 (fun yi29 yi30 yi31 => 
 (cbr (yi31 != (0 : Int))
 (x1 (0 : Int) (0 : Int) yi31)
 (lt (IntKind.i64.wrap (i6 + (1 : Int))) (fun yi32 =>
 (L_piece_Length_0_0 a0 a1 a2 x0 x1 n i0 i1 yi29 yi30 l4 i5 yi32))))))))))))))
 (x0 i0 i1 i2 i3 l4 i5 i6 false))
def wv_piece_Length (a0 : T_piece_Check) (a1 : T_piece_Length_1) (a2 : T_ratio_Add) (p0 : List PV) (K : Int → Int → Int → Prop) : Prop :=
 (a0 p0 (fun yi3 => 
 (cbr (yi3 != (0 : Int))
 (K (0 : Int) (0 : Int) yi3)
 (jn (fun (yj106 : Int → Int → Int → Prop) =>
 (∃ n : Nat, L_piece_Length_0_0 a0 a1 a2
 (fun _ _ yi120 yi121 _ _ _ _ => (yj106 yi120 yi121 (0 : Int)))
 (fun yi126 yi127 yi128 => (yj106 yi126 yi127 yi128))
 n (0 : Int) (0 : Int) (0 : Int) (1 : Int) p0 (((List.length p0) : Nat) : Int) (0 : Int)))
 (fun yi103 yi104 yi105 => (K yi103 yi104 yi105))))))
def w_piece_Length (p0 : List PV) (K : Int → Int → Int → Prop) : Prop := wv_piece_Length w_piece_Check w_piece_Length_1 w_ratio_Add p0 K
def pw_piece_Length (w : T_piece_Length) (as : List PV) (K : PV → Prop) : Prop :=
 match as with
 | [(.data p0)] => w p0 (fun r0 r1 r2 => K (.tup [(.agg [(.int .i64 r0), (.int .i64 r1)]), (.int .i64 r2)]))
 | _ => False
def wp_piece_Length (as : List PV) (K : PV → Prop) : Prop := pw_piece_Length w_piece_Length as K
def D_piece_Length_0 (F : Frm) (H : Hp) (A0 : Int → Int → Int → Int → List PV → Int → Int → Prop) : Prop :=
 match F, H with
 | [(1, .v (.fn (.func q0) [] [])), (4, .box (.agg [(.int .i64 i0), (.int .i64 i1)])), (6, .box (.agg [(.int .i64 i2), (.int .i64 i3)])), (12, .v (.data l4)), (13, .v (.int .i64 i5)), (14, .v (.int .i64 i6))], [] => asr (Nat.beq q0 n_piece_Length_1) (A0 i0 i1 i2 i3 l4 i5 i6)
 | _, _ => False
def X_piece_Length_0_0 (Q : Ex → Frm → Hp → Prop) : Int → Int → Int → Int → List PV → Int → Int → Bool → Prop := (fun i0 i1 i2 i3 l4 i5 i6 b7 => Q (.exit 0) [(1, .v (.fn (.func n_piece_Length_1) [] [])), (4, .box (.agg [(.int .i64 i0), (.int .i64 i1)])), (6, .box (.agg [(.int .i64 i2), (.int .i64 i3)])), (12, .v (.data l4)), (13, .v (.int .i64 i5)), (14, .v (.int .i64 i6)), (15, .v (.bool b7))] [])
def X_piece_Length_0_1 (Q : Ex → Frm → Hp → Prop) : Int → Int → Int → Prop := (fun i0 i1 i2 => Q .ret [(4, .box (.agg [(.int .i64 i0), (.int .i64 i1)])), (5, .v (.int .i64 i2))] [])
def R_piece_Length_0 (a0 : T_piece_Check) (a1 : T_piece_Length_1) (a2 : T_ratio_Add) (Q : Ex → Frm → Hp → Prop) (n : Nat) (F : Frm) (H : Hp) : Prop := D_piece_Length_0 F H (fun i0 i1 i2 i3 l4 i5 i6 => L_piece_Length_0_0 a0 a1 a2 (X_piece_Length_0_0 Q) (X_piece_Length_0_1 Q) n i0 i1 i2 i3 l4 i5 i6)
def lp_piece_Length (a0 : T_piece_Check) (a1 : T_piece_Length_1) (a2 : T_ratio_Add) : LP := fun id F H Q =>
 bif Nat.beq id 87165700 then D_piece_Length_0 F H (fun i0 i1 i2 i3 l4 i5 i6 => ∃ n : Nat, L_piece_Length_0_0 a0 a1 a2 (X_piece_Length_0_0 Q) (X_piece_Length_0_1 Q) n i0 i1 i2 i3 l4 i5 i6) else
 False
def S0_piece_Length (e : List (Nat × EffF)) (a0 : T_piece_Check) (a1 : T_piece_Length_1) (a2 : T_ratio_Add) : SE := ⟨(E e), lookS [(n_piece_Check, pw_piece_Check a0), (n_piece_Length_1, pw_piece_Length_1 a1), (n_ratio_Add, pw_ratio_Add a2)], lookI [], lp_piece_Length a0 a1 a2⟩
def S1_piece_Length (e : List (Nat × EffF)) (a0 : T_piece_Check) (a1 : T_piece_Length_1) (a2 : T_ratio_Add) : SE := ⟨(E e), lookS [(n_piece_Check, pw_piece_Check a0), (n_piece_Length_1, pw_piece_Length_1 a1), (n_ratio_Add, pw_ratio_Add a2)], lookI [(n_piece_sum, t_piece_sum)], lp_piece_Length a0 a1 a2⟩
theorem se0_piece_Length (e : List (Nat × EffF)) (he : EG e) : SEOk (S0_piece_Length e w_piece_Check w_piece_Length_1 w_ratio_Add) := seOk_of ⟨(ok_piece_Check e he), (ok_piece_Length_1 e he), (ok_ratio_Add e he), trivial⟩ trivial he.ok
theorem body_piece_Length_0_0 (e : List (Nat × EffF)) (a0 a1 a2 Q n i0 i1 i2 i3 l4 i5 i6) : WC (E e) (callW (S0_piece_Length e a0 a1 a2) 5) (lp_piece_Length a0 a1 a2) b_87165700 [(1, .v (.fn (.func n_piece_Length_1) [] [])), (4, .box (.agg [(.int .i64 i0), (.int .i64 i1)])), (6, .box (.agg [(.int .i64 i2), (.int .i64 i3)])), (12, .v (.data l4)), (13, .v (.int .i64 i5)), (14, .v (.int .i64 i6))] [] (fun x F' H' => match x with | .norm => R_piece_Length_0 a0 a1 a2 Q n F' H' | .exit i => Q (.exit i) F' H' | .ret => Q .ret F' H') = L_piece_Length_0_0 a0 a1 a2 (X_piece_Length_0_0 Q) (X_piece_Length_0_1 Q) (n + 1) i0 i1 i2 i3 l4 i5 i6 := by kernel_rfl
theorem lpb_piece_Length_0 (e : List (Nat × EffF)) (_ : EG e) : LpOk (E e) (lp_piece_Length w_piece_Check w_piece_Length_1 w_ratio_Add) b_87165700 := (LpOk_no (by kernel_rfl))
theorem loop_piece_Length_0 (e : List (Nat × EffF)) (he : EG e) : ∀ F H Q, lp_piece_Length w_piece_Check w_piece_Length_1 w_ratio_Add 87165700 F H Q → LoopT (E e) b_87165700 F H Q := by
 intro F H Q h
 have go := LoopT.intro (callW_ok (se0_piece_Length e he) 5) (lpb_piece_Length_0 e he) (R_piece_Length_0 w_piece_Check w_piece_Length_1 w_ratio_Add Q) (by
   intro F H h
   unfold R_piece_Length_0 D_piece_Length_0 at h
   split at h
   · obtain ⟨hg, k⟩ := asr_iff.1 h
     clear h
     have h := k
     clear k
     try simp only [Bool.and_eq_true, decide_eq_true_eq] at hg
     have g0 := hg; have g0 := Nat.eq_of_beq_eq_true g0; subst g0; exact h
   · exact h) (by
   intro n F H h
   unfold R_piece_Length_0 D_piece_Length_0 at h
   split at h
   · obtain ⟨hg, k⟩ := asr_iff.1 h
     clear h
     have h := k
     clear k
     try simp only [Bool.and_eq_true, decide_eq_true_eq] at hg
     have g0 := hg; have g0 := Nat.eq_of_beq_eq_true g0; subst g0; exact (body_piece_Length_0_0 ..).mpr h
   · exact h.elim)
 have h : D_piece_Length_0 F H _ := h
 unfold D_piece_Length_0 at h
 split at h
 · obtain ⟨hg, n, h⟩ := asr_iff.1 h; exact go n _ _ (asr_iff.2 ⟨hg, h⟩)
 · exact h.elim
theorem se1_piece_Length (e : List (Nat × EffF)) (he : EG e) : SEOk (S1_piece_Length e w_piece_Check w_piece_Length_1 w_ratio_Add) := seOk_of ⟨(ok_piece_Check e he), (ok_piece_Length_1 e he), (ok_ratio_Add e he), trivial⟩ ⟨⟨by kernel_rfl, by kernel_rfl, rfl, fun as => baseS_none (by kernel_rfl) as, he.num _ (by kernel_rfl), (LpOk_by (l := [(87165700, b_87165700)]) ⟨loop_piece_Length_0 e he, trivial⟩ (by kernel_rfl))⟩, trivial⟩ he.ok
theorem eq_piece_Length (e : List (Nat × EffF)) (a0 a1 a2 p0 K) : WP (S1_piece_Length e a0 a1 a2) 6 t_piece_Length [(.data p0)] K = wv_piece_Length a0 a1 a2 p0 (fun r0 r1 r2 => K (.tup [(.agg [(.int .i64 r0), (.int .i64 r1)]), (.int .i64 r2)])) := by kernel_rfl
theorem ok_piece_Length (e : List (Nat × EffF)) (he : EG e) : OkF (E e) wp_piece_Length n_piece_Length := by
 intro as K h
 unfold wp_piece_Length pw_piece_Length at h
 split at h
 · exact WP_ok (se1_piece_Length e he) (LpOk_no (by kernel_rfl)) (by kernel_rfl) (by kernel_rfl) (fun _ => baseS_none (by kernel_rfl) _) (he.num _ (by kernel_rfl)) ((eq_piece_Length ..).mpr h)
 · exact h.elim
abbrev T_piece_sooner : Type := Int → Int → Int → Int → (Int → Int → Prop) → Prop
def wv_piece_sooner (a0 : T_piece_order) (p0 p1 p2 p3 : Int) (K : Int → Int → Prop) : Prop :=
 (a0 p0 p1 p2 p3 (fun yi0 => 
 (cbr (decide (yi0 < (0 : Int)))
 (K p0 p1)
 (K p2 p3))))
def w_piece_sooner (p0 p1 p2 p3 : Int) (K : Int → Int → Prop) : Prop := wv_piece_sooner w_piece_order p0 p1 p2 p3 K
def pw_piece_sooner (w : T_piece_sooner) (as : List PV) (K : PV → Prop) : Prop :=
 match as with
 | [(.agg [(.int .i64 p0), (.int .i64 p1)]), (.agg [(.int .i64 p2), (.int .i64 p3)])] => w p0 p1 p2 p3 (fun r0 r1 => K (.agg [(.int .i64 r0), (.int .i64 r1)]))
 | _ => False
def wp_piece_sooner (as : List PV) (K : PV → Prop) : Prop := pw_piece_sooner w_piece_sooner as K
def lp_piece_sooner (_ : T_piece_order) : LP := fun _ _ _ _ =>
 False
def S0_piece_sooner (e : List (Nat × EffF)) (a0 : T_piece_order) : SE := ⟨(E e), lookS [(n_piece_order, pw_piece_order a0)], lookI [], lp_piece_sooner a0⟩
theorem se0_piece_sooner (e : List (Nat × EffF)) (he : EG e) : SEOk (S0_piece_sooner e w_piece_order) := seOk_of ⟨(ok_piece_order e he), trivial⟩ trivial he.ok
theorem eq_piece_sooner (e : List (Nat × EffF)) (a0 p0 p1 p2 p3 K) : WP (S0_piece_sooner e a0) 6 t_piece_sooner [(.agg [(.int .i64 p0), (.int .i64 p1)]), (.agg [(.int .i64 p2), (.int .i64 p3)])] K = wv_piece_sooner a0 p0 p1 p2 p3 (fun r0 r1 => K (.agg [(.int .i64 r0), (.int .i64 r1)])) := by kernel_rfl
theorem ok_piece_sooner (e : List (Nat × EffF)) (he : EG e) : OkF (E e) wp_piece_sooner n_piece_sooner := by
 intro as K h
 unfold wp_piece_sooner pw_piece_sooner at h
 split at h
 · exact WP_ok (se0_piece_sooner e he) (LpOk_no (by kernel_rfl)) (by kernel_rfl) (by kernel_rfl) (fun _ => baseS_none (by kernel_rfl) _) (he.num _ (by kernel_rfl)) ((eq_piece_sooner ..).mpr h)
 · exact h.elim
abbrev T_piece_later : Type := Int → Int → Int → Int → (Int → Int → Prop) → Prop
def wv_piece_later (a0 : T_piece_order) (p0 p1 p2 p3 : Int) (K : Int → Int → Prop) : Prop :=
 (a0 p0 p1 p2 p3 (fun yi0 => 
 (cbr (decide (yi0 < (0 : Int)))
 (K p2 p3)
 (K p0 p1))))
def w_piece_later (p0 p1 p2 p3 : Int) (K : Int → Int → Prop) : Prop := wv_piece_later w_piece_order p0 p1 p2 p3 K
def pw_piece_later (w : T_piece_later) (as : List PV) (K : PV → Prop) : Prop :=
 match as with
 | [(.agg [(.int .i64 p0), (.int .i64 p1)]), (.agg [(.int .i64 p2), (.int .i64 p3)])] => w p0 p1 p2 p3 (fun r0 r1 => K (.agg [(.int .i64 r0), (.int .i64 r1)]))
 | _ => False
def wp_piece_later (as : List PV) (K : PV → Prop) : Prop := pw_piece_later w_piece_later as K
def lp_piece_later (_ : T_piece_order) : LP := fun _ _ _ _ =>
 False
def S0_piece_later (e : List (Nat × EffF)) (a0 : T_piece_order) : SE := ⟨(E e), lookS [(n_piece_order, pw_piece_order a0)], lookI [], lp_piece_later a0⟩
theorem se0_piece_later (e : List (Nat × EffF)) (he : EG e) : SEOk (S0_piece_later e w_piece_order) := seOk_of ⟨(ok_piece_order e he), trivial⟩ trivial he.ok
theorem eq_piece_later (e : List (Nat × EffF)) (a0 p0 p1 p2 p3 K) : WP (S0_piece_later e a0) 6 t_piece_later [(.agg [(.int .i64 p0), (.int .i64 p1)]), (.agg [(.int .i64 p2), (.int .i64 p3)])] K = wv_piece_later a0 p0 p1 p2 p3 (fun r0 r1 => K (.agg [(.int .i64 r0), (.int .i64 r1)])) := by kernel_rfl
theorem ok_piece_later (e : List (Nat × EffF)) (he : EG e) : OkF (E e) wp_piece_later n_piece_later := by
 intro as K h
 unfold wp_piece_later pw_piece_later at h
 split at h
 · exact WP_ok (se0_piece_later e he) (LpOk_no (by kernel_rfl)) (by kernel_rfl) (by kernel_rfl) (fun _ => baseS_none (by kernel_rfl) _) (he.num _ (by kernel_rfl)) ((eq_piece_later ..).mpr h)
 · exact h.elim
abbrev T_piece_Cut : Type := List PV → Int → Int → (List PV → List PV → Int → Prop) → Prop
mutual
def L_piece_Cut_0_0 (a0 : T_piece_Check) (a1 : T_ratio_Check) (a2 : T_piece_sooner) (a3 : T_piece_valid) (a4 : T_piece_later) (x0 : Int → Int → List PV → Int → Int → Bool → Prop) (x1 : List PV → List PV → Int → Int → List PV → Int → Int → Bool → Prop) (x2 : List PV → Int → Int → List PV → Int → Int → Bool → Prop) (x3 : List PV → Int → Int → List PV → Int → Int → Bool → Prop) (x4 : List PV → List PV → Int → Int → List PV → Int → Int → Bool → Prop) : Nat → Int → Int → List PV → Int → Int → Prop
 | 0, _, _, _, _, _ => False
 | n + 1, i0, i1, l2, i3, i4 =>
 (cbr (decide (i4 < i3))
 (asr (decide ((0 : Int) ≤ i4))
 (asr (decide (i4 < (((List.length l2) : Nat) : Int)))
 (lt (List.getD l2 (i4.toNat) .nils) (fun yr35 =>
 (asr (conf (.agg [.i .i64, .i .i64, .i .i64, .i .i64]) yr35)
 (a2 (intOfV (cellAt yr35 2)) (intOfV (cellAt yr35 3)) i0 i1 (fun yi44 yi45 => 
 (a3 (intOfV (cellAt yr35 0)) (intOfV (cellAt yr35 1)) yi44 yi45 (fun yb47 => 
 (cbr yb47
 (a4 (intOfV (cellAt yr35 0)) (intOfV (cellAt yr35 1)) i0 i1 (fun yi50 yi51 => 
 (a3 yi50 yi51 (intOfV (cellAt yr35 2)) (intOfV (cellAt yr35 3)) (fun yb53 => 
 (cbr yb53
 (lt (IntKind.i64.wrap (i4 + (1 : Int))) (fun yi54 =>
 (asr (decide (1 = List.length ([(.agg [(.int .i64 (intOfV (cellAt yr35 0))), (.int .i64 (intOfV (cellAt yr35 1))), (.int .i64 yi44), (.int .i64 yi45)])] : List PV)) && decide (1 = List.length ([(.agg [(.int .i64 (intOfV (cellAt yr35 0))), (.int .i64 (intOfV (cellAt yr35 1))), (.int .i64 yi44), (.int .i64 yi45)])] : List PV)) && decide (1 = List.length ([(.agg [(.int .i64 yi50), (.int .i64 yi51), (.int .i64 (intOfV (cellAt yr35 2))), (.int .i64 (intOfV (cellAt yr35 3)))])] : List PV)) && decide (1 = List.length ([(.agg [(.int .i64 yi50), (.int .i64 yi51), (.int .i64 (intOfV (cellAt yr35 2))), (.int .i64 (intOfV (cellAt yr35 3)))])] : List PV)))
 (L_piece_Cut_0_1 a0 a1 a2 a3 a4 x0 x1 x2 x3 x4 n ([(.agg [(.int .i64 (intOfV (cellAt yr35 0))), (.int .i64 (intOfV (cellAt yr35 1))), (.int .i64 yi44), (.int .i64 yi45)])] : List PV) ([(.agg [(.int .i64 yi50), (.int .i64 yi51), (.int .i64 (intOfV (cellAt yr35 2))), (.int .i64 (intOfV (cellAt yr35 3)))])] : List PV) i0 i1 l2 i3 yi54))))
 (lt (IntKind.i64.wrap (i4 + (1 : Int))) (fun yi103 =>
 (asr (decide (1 = List.length ([(.agg [(.int .i64 (intOfV (cellAt yr35 0))), (.int .i64 (intOfV (cellAt yr35 1))), (.int .i64 yi44), (.int .i64 yi45)])] : List PV)) && decide (1 = List.length ([(.agg [(.int .i64 (intOfV (cellAt yr35 0))), (.int .i64 (intOfV (cellAt yr35 1))), (.int .i64 yi44), (.int .i64 yi45)])] : List PV)))
 (L_piece_Cut_0_2 a0 a1 a2 a3 a4 x0 x1 x2 x3 x4 n ([(.agg [(.int .i64 (intOfV (cellAt yr35 0))), (.int .i64 (intOfV (cellAt yr35 1))), (.int .i64 yi44), (.int .i64 yi45)])] : List PV) i0 i1 l2 i3 yi103)))))))))
 (a4 (intOfV (cellAt yr35 0)) (intOfV (cellAt yr35 1)) i0 i1 (fun yi152 yi153 => 
 (a3 yi152 yi153 (intOfV (cellAt yr35 2)) (intOfV (cellAt yr35 3)) (fun yb155 => 
 (cbr yb155
 (lt (IntKind.i64.wrap (i4 + (1 : Int))) (fun yi156 =>
 (asr (decide (1 = List.length ([(.agg [(.int .i64 yi152), (.int .i64 yi153), (.int .i64 (intOfV (cellAt yr35 2))), (.int .i64 (intOfV (cellAt yr35 3)))])] : List PV)) && decide (1 = List.length ([(.agg [(.int .i64 yi152), (.int .i64 yi153), (.int .i64 (intOfV (cellAt yr35 2))), (.int .i64 (intOfV (cellAt yr35 3)))])] : List PV)))
 (L_piece_Cut_0_3 a0 a1 a2 a3 a4 x0 x1 x2 x3 x4 n ([(.agg [(.int .i64 yi152), (.int .i64 yi153), (.int .i64 (intOfV (cellAt yr35 2))), (.int .i64 (intOfV (cellAt yr35 3)))])] : List PV) i0 i1 l2 i3 yi156))))
 (lt (IntKind.i64.wrap (i4 + (1 : Int))) (fun yi264 =>
 (L_piece_Cut_0_0 a0 a1 a2 a3 a4 x0 x1 x2 x3 x4 n i0 i1 l2 i3 yi264))))))))))))))))))
 (x0 i0 i1 l2 i3 i4 false))
def L_piece_Cut_0_1 (a0 : T_piece_Check) (a1 : T_ratio_Check) (a2 : T_piece_sooner) (a3 : T_piece_valid) (a4 : T_piece_later) (x0 : Int → Int → List PV → Int → Int → Bool → Prop) (x1 : List PV → List PV → Int → Int → List PV → Int → Int → Bool → Prop) (x2 : List PV → Int → Int → List PV → Int → Int → Bool → Prop) (x3 : List PV → Int → Int → List PV → Int → Int → Bool → Prop) (x4 : List PV → List PV → Int → Int → List PV → Int → Int → Bool → Prop) : Nat → List PV → List PV → Int → Int → List PV → Int → Int → Prop
 | 0, _, _, _, _, _, _, _ => False
 | n + 1, l0, l1, i2, i3, l8, i9, i10 =>
 (cbr (decide (i10 < i9))
 (jn (fun (yj79 : List PV → List PV → Prop) =>
 (asr (decide ((0 : Int) ≤ i10))
 (asr (decide (i10 < (((List.length l8) : Nat) : Int)))
 (lt (List.getD l8 (i10.toNat) .nils) (fun yr82 =>
 (asr (conf (.agg [.i .i64, .i .i64, .i .i64, .i .i64]) yr82)
 (jn (fun (yj90 : List PV → Prop) =>
 (a2 (intOfV (cellAt yr82 2)) (intOfV (cellAt yr82 3)) i2 i3 (fun yi99 yi100 => 
 (a3 (intOfV (cellAt yr82 0)) (intOfV (cellAt yr82 1)) yi99 yi100 (fun yb102 => 
 (cbr yb102
 (asr (decide ((List.length l0) = (List.length l0)))
 (asr (decide ((0 + (List.length l0)) ≤ (List.length l0)))
 (asr (!(decide (((0 + (List.length l0)) + 1) ≤ (List.length l0))))
 (asr (decide ((List.length l0) = (List.length l0)))
 (asr (decide ((((List.length l0) + 1) + 64) * (32 + 1) ≤ room))
 (yj90 (l0 ++ ([(.agg [(.int .i64 (intOfV (cellAt yr82 0))), (.int .i64 (intOfV (cellAt yr82 1))), (.int .i64 yi99), (.int .i64 yi100)])] : List PV))))))))
 (yj90 l0)))))))
 (fun yl89 => (a4 (intOfV (cellAt yr82 0)) (intOfV (cellAt yr82 1)) i2 i3 (fun yi93 yi94 => 
 (a3 yi93 yi94 (intOfV (cellAt yr82 2)) (intOfV (cellAt yr82 3)) (fun yb96 => 
 (cbr yb96
 (asr (decide ((List.length l1) = (List.length l1)))
 (asr (decide ((0 + (List.length l1)) ≤ (List.length l1)))
 (asr (!(decide (((0 + (List.length l1)) + 1) ≤ (List.length l1))))
 (asr (decide ((List.length l1) = (List.length l1)))
 (asr (decide ((((List.length l1) + 1) + 64) * (32 + 1) ≤ room))
 (yj79 yl89 (l1 ++ ([(.agg [(.int .i64 yi93), (.int .i64 yi94), (.int .i64 (intOfV (cellAt yr82 2))), (.int .i64 (intOfV (cellAt yr82 3)))])] : List PV))))))))
 (yj79 yl89 l1))))))))))))))
 (fun yl77 yl78 => (lt (IntKind.i64.wrap (i10 + (1 : Int))) (fun yi80 =>
 (asr (decide ((List.length yl77) = List.length yl77) && decide ((List.length yl77) = List.length yl77) && decide ((List.length yl78) = List.length yl78) && decide ((List.length yl78) = List.length yl78))
 (L_piece_Cut_0_1 a0 a1 a2 a3 a4 x0 x1 x2 x3 x4 n yl77 yl78 i2 i3 l8 i9 yi80))))))
 (x1 l0 l1 i2 i3 l8 i9 i10 false))
def L_piece_Cut_0_2 (a0 : T_piece_Check) (a1 : T_ratio_Check) (a2 : T_piece_sooner) (a3 : T_piece_valid) (a4 : T_piece_later) (x0 : Int → Int → List PV → Int → Int → Bool → Prop) (x1 : List PV → List PV → Int → Int → List PV → Int → Int → Bool → Prop) (x2 : List PV → Int → Int → List PV → Int → Int → Bool → Prop) (x3 : List PV → Int → Int → List PV → Int → Int → Bool → Prop) (x4 : List PV → List PV → Int → Int → List PV → Int → Int → Bool → Prop) : Nat → List PV → Int → Int → List PV → Int → Int → Prop
 | 0, _, _, _, _, _, _ => False
 | n + 1, l0, i1, i2, l5, i6, i7 =>
 (cbr (decide (i7 < i6))
 (asr (decide ((0 : Int) ≤ i7))
 (asr (decide (i7 < (((List.length l5) : Nat) : Int)))
 (lt (List.getD l5 (i7.toNat) .nils) (fun yr127 =>
 (asr (conf (.agg [.i .i64, .i .i64, .i .i64, .i .i64]) yr127)
 (jn (fun (yj135 : List PV → Prop) =>
 (a2 (intOfV (cellAt yr127 2)) (intOfV (cellAt yr127 3)) i1 i2 (fun yi146 yi147 => 
 (a3 (intOfV (cellAt yr127 0)) (intOfV (cellAt yr127 1)) yi146 yi147 (fun yb149 => 
 (cbr yb149
 (asr (decide ((List.length l0) = (List.length l0)))
 (asr (decide ((0 + (List.length l0)) ≤ (List.length l0)))
 (asr (!(decide (((0 + (List.length l0)) + 1) ≤ (List.length l0))))
 (asr (decide ((List.length l0) = (List.length l0)))
 (asr (decide ((((List.length l0) + 1) + 64) * (32 + 1) ≤ room))
 (yj135 (l0 ++ ([(.agg [(.int .i64 (intOfV (cellAt yr127 0))), (.int .i64 (intOfV (cellAt yr127 1))), (.int .i64 yi146), (.int .i64 yi147)])] : List PV))))))))
 (yj135 l0)))))))
 (fun yl134 => (a4 (intOfV (cellAt yr127 0)) (intOfV (cellAt yr127 1)) i1 i2 (fun yi138 yi139 => 
 (a3 yi138 yi139 (intOfV (cellAt yr127 2)) (intOfV (cellAt yr127 3)) (fun yb141 => 
 (cbr yb141
 (lt (IntKind.i64.wrap (i7 + (1 : Int))) (fun yi142 =>
 (asr (decide ((List.length yl134) = List.length yl134) && decide ((List.length yl134) = List.length yl134) && decide (1 = List.length ([(.agg [(.int .i64 yi138), (.int .i64 yi139), (.int .i64 (intOfV (cellAt yr127 2))), (.int .i64 (intOfV (cellAt yr127 3)))])] : List PV)) && decide (1 = List.length ([(.agg [(.int .i64 yi138), (.int .i64 yi139), (.int .i64 (intOfV (cellAt yr127 2))), (.int .i64 (intOfV (cellAt yr127 3)))])] : List PV)))
 (L_piece_Cut_0_1 a0 a1 a2 a3 a4 x0 x1 x2 x3 x4 n yl134 ([(.agg [(.int .i64 yi138), (.int .i64 yi139), (.int .i64 (intOfV (cellAt yr127 2))), (.int .i64 (intOfV (cellAt yr127 3)))])] : List PV) i1 i2 l5 i6 yi142))))
 (lt (IntKind.i64.wrap (i7 + (1 : Int))) (fun yi143 =>
 (asr (decide ((List.length yl134) = List.length yl134) && decide ((List.length yl134) = List.length yl134))
 (L_piece_Cut_0_2 a0 a1 a2 a3 a4 x0 x1 x2 x3 x4 n yl134 i1 i2 l5 i6 yi143))))))))))))))))
 (x2 l0 i1 i2 l5 i6 i7 false))
def L_piece_Cut_0_3 (a0 : T_piece_Check) (a1 : T_ratio_Check) (a2 : T_piece_sooner) (a3 : T_piece_valid) (a4 : T_piece_later) (x0 : Int → Int → List PV → Int → Int → Bool → Prop) (x1 : List PV → List PV → Int → Int → List PV → Int → Int → Bool → Prop) (x2 : List PV → Int → Int → List PV → Int → Int → Bool → Prop) (x3 : List PV → Int → Int → List PV → Int → Int → Bool → Prop) (x4 : List PV → List PV → Int → Int → List PV → Int → Int → Bool → Prop) : Nat → List PV → Int → Int → List PV → Int → Int → Prop
 | 0, _, _, _, _, _, _ => False
 | n + 1, l0, i1, i2, l5, i6, i7 =>
 (cbr (decide (i7 < i6))
 (jn (fun (yj185 : List PV → List PV → Prop) =>
 (jn (fun (yj236 : List PV → Prop) =>
 (asr (decide ((0 : Int) ≤ i7))
 (asr (decide (i7 < (((List.length l5) : Nat) : Int)))
 (lt (List.getD l5 (i7.toNat) .nils) (fun yr239 =>
 (asr (conf (.agg [.i .i64, .i .i64, .i .i64, .i .i64]) yr239)
 (a2 (intOfV (cellAt yr239 2)) (intOfV (cellAt yr239 3)) i1 i2 (fun yi248 yi249 => 
 (a3 (intOfV (cellAt yr239 0)) (intOfV (cellAt yr239 1)) yi248 yi249 (fun yb251 => 
 (cbr yb251
 (a4 (intOfV (cellAt yr239 0)) (intOfV (cellAt yr239 1)) i1 i2 (fun yi254 yi255 => 
 (a3 yi254 yi255 (intOfV (cellAt yr239 2)) (intOfV (cellAt yr239 3)) (fun yb257 => 
 (cbr yb257
 (asr (decide ((List.length l0) = (List.length l0)))
 (asr (decide ((0 + (List.length l0)) ≤ (List.length l0)))
 (asr (!(decide (((0 + (List.length l0)) + 1) ≤ (List.length l0))))
 (asr (decide ((List.length l0) = (List.length l0)))
 (asr (decide ((((List.length l0) + 1) + 64) * (32 + 1) ≤ room))
 (yj185 (l0 ++ ([(.agg [(.int .i64 yi254), (.int .i64 yi255), (.int .i64 (intOfV (cellAt yr239 2))), (.int .i64 (intOfV (cellAt yr239 3)))])] : List PV)) ([(.agg [(.int .i64 (intOfV (cellAt yr239 0))), (.int .i64 (intOfV (cellAt yr239 1))), (.int .i64 yi248), (.int .i64 yi249)])] : List PV)))))))
 (yj185 l0 ([(.agg [(.int .i64 (intOfV (cellAt yr239 0))), (.int .i64 (intOfV (cellAt yr239 1))), (.int .i64 yi248), (.int .i64 yi249)])] : List PV)))))))
 (a4 (intOfV (cellAt yr239 0)) (intOfV (cellAt yr239 1)) i1 i2 (fun yi260 yi261 => 
 (a3 yi260 yi261 (intOfV (cellAt yr239 2)) (intOfV (cellAt yr239 3)) (fun yb263 => 
 (cbr yb263
 (asr (decide ((List.length l0) = (List.length l0)))
 (asr (decide ((0 + (List.length l0)) ≤ (List.length l0)))
 (asr (!(decide (((0 + (List.length l0)) + 1) ≤ (List.length l0))))
 (asr (decide ((List.length l0) = (List.length l0)))
 (asr (decide ((((List.length l0) + 1) + 64) * (32 + 1) ≤ room))
 (yj236 (l0 ++ ([(.agg [(.int .i64 yi260), (.int .i64 yi261), (.int .i64 (intOfV (cellAt yr239 2))), (.int .i64 (intOfV (cellAt yr239 3)))])] : List PV))))))))
 (yj236 l0)))))))))))))))))
 (fun yl235 => (lt (IntKind.i64.wrap (i7 + (1 : Int))) (fun yi237 =>
 (asr (decide ((List.length yl235) = List.length yl235) && decide ((List.length yl235) = List.length yl235))
 (L_piece_Cut_0_3 a0 a1 a2 a3 a4 x0 x1 x2 x3 x4 n yl235 i1 i2 l5 i6 yi237)))))))
 (fun yl183 yl184 => (lt (IntKind.i64.wrap (i7 + (1 : Int))) (fun yi186 =>
 (asr (decide ((List.length yl184) = List.length yl184) && decide ((List.length yl184) = List.length yl184) && decide ((List.length yl183) = List.length yl183) && decide ((List.length yl183) = List.length yl183))
 (L_piece_Cut_0_4 a0 a1 a2 a3 a4 x0 x1 x2 x3 x4 n yl183 yl184 i1 i2 l5 i6 yi186))))))
 (x3 l0 i1 i2 l5 i6 i7 false))
def L_piece_Cut_0_4 (a0 : T_piece_Check) (a1 : T_ratio_Check) (a2 : T_piece_sooner) (a3 : T_piece_valid) (a4 : T_piece_later) (x0 : Int → Int → List PV → Int → Int → Bool → Prop) (x1 : List PV → List PV → Int → Int → List PV → Int → Int → Bool → Prop) (x2 : List PV → Int → Int → List PV → Int → Int → Bool → Prop) (x3 : List PV → Int → Int → List PV → Int → Int → Bool → Prop) (x4 : List PV → List PV → Int → Int → List PV → Int → Int → Bool → Prop) : Nat → List PV → List PV → Int → Int → List PV → Int → Int → Prop
 | 0, _, _, _, _, _, _, _ => False
 | n + 1, l0, l1, i2, i3, l8, i9, i10 =>
 (cbr (decide (i10 < i9))
 (jn (fun (yj211 : List PV → List PV → Prop) =>
 (asr (decide ((0 : Int) ≤ i10))
 (asr (decide (i10 < (((List.length l8) : Nat) : Int)))
 (lt (List.getD l8 (i10.toNat) .nils) (fun yr214 =>
 (asr (conf (.agg [.i .i64, .i .i64, .i .i64, .i .i64]) yr214)
 (jn (fun (yj222 : List PV → Prop) =>
 (a2 (intOfV (cellAt yr214 2)) (intOfV (cellAt yr214 3)) i2 i3 (fun yi231 yi232 => 
 (a3 (intOfV (cellAt yr214 0)) (intOfV (cellAt yr214 1)) yi231 yi232 (fun yb234 => 
 (cbr yb234
 (asr (decide ((List.length l1) = (List.length l1)))
 (asr (decide ((0 + (List.length l1)) ≤ (List.length l1)))
 (asr (!(decide (((0 + (List.length l1)) + 1) ≤ (List.length l1))))
 (asr (decide ((List.length l1) = (List.length l1)))
 (asr (decide ((((List.length l1) + 1) + 64) * (32 + 1) ≤ room))
 (yj222 (l1 ++ ([(.agg [(.int .i64 (intOfV (cellAt yr214 0))), (.int .i64 (intOfV (cellAt yr214 1))), (.int .i64 yi231), (.int .i64 yi232)])] : List PV))))))))
 (yj222 l1)))))))
 (fun yl221 => (a4 (intOfV (cellAt yr214 0)) (intOfV (cellAt yr214 1)) i2 i3 (fun yi225 yi226 => 
 (a3 yi225 yi226 (intOfV (cellAt yr214 2)) (intOfV (cellAt yr214 3)) (fun yb228 => 
 (cbr yb228
 (asr (decide ((List.length l0) = (List.length l0)))
 (asr (decide ((0 + (List.length l0)) ≤ (List.length l0)))
 (asr (!(decide (((0 + (List.length l0)) + 1) ≤ (List.length l0))))
 (asr (decide ((List.length l0) = (List.length l0)))
 (asr (decide ((((List.length l0) + 1) + 64) * (32 + 1) ≤ room))
 (yj211 (l0 ++ ([(.agg [(.int .i64 yi225), (.int .i64 yi226), (.int .i64 (intOfV (cellAt yr214 2))), (.int .i64 (intOfV (cellAt yr214 3)))])] : List PV)) yl221))))))
 (yj211 l0 yl221))))))))))))))
 (fun yl209 yl210 => (lt (IntKind.i64.wrap (i10 + (1 : Int))) (fun yi212 =>
 (asr (decide ((List.length yl210) = List.length yl210) && decide ((List.length yl210) = List.length yl210) && decide ((List.length yl209) = List.length yl209) && decide ((List.length yl209) = List.length yl209))
 (L_piece_Cut_0_4 a0 a1 a2 a3 a4 x0 x1 x2 x3 x4 n yl209 yl210 i2 i3 l8 i9 yi212))))))
 (x4 l0 l1 i2 i3 l8 i9 i10 false))
end
def wv_piece_Cut (a0 : T_piece_Check) (a1 : T_ratio_Check) (a2 : T_piece_sooner) (a3 : T_piece_valid) (a4 : T_piece_later) (p0 : List PV) (p1 p2 : Int) (K : List PV → List PV → Int → Prop) : Prop :=
 (a0 p0 (fun yi3 => 
 (cbr (yi3 != (0 : Int))
 (K ([] : List PV) ([] : List PV) yi3)
 (a1 p1 p2 (fun yi7 => 
 (cbr (yi7 != (0 : Int))
 (K ([] : List PV) ([] : List PV) (2 : Int))
 (∃ n : Nat, L_piece_Cut_0_0 a0 a1 a2 a3 a4
 (fun _ _ _ _ _ _ => (K ([] : List PV) ([] : List PV) (0 : Int)))
 (fun yl307 yl308 _ _ _ _ _ _ => (asr (decide ((List.length yl307) = (List.length yl307)))
 (asr (decide ((0 + (List.length yl307)) ≤ (List.length yl307)))
 (asr (decide ((List.length yl308) = (List.length yl308)))
 (asr (decide ((0 + (List.length yl308)) ≤ (List.length yl308)))
 (K (List.take (List.length yl307) yl307) (List.take (List.length yl308) yl308) (0 : Int)))))))
 (fun yl315 _ _ _ _ _ _ => (asr (decide ((List.length yl315) = (List.length yl315)))
 (asr (decide ((0 + (List.length yl315)) ≤ (List.length yl315)))
 (K (List.take (List.length yl315) yl315) ([] : List PV) (0 : Int)))))
 (fun yl322 _ _ _ _ _ _ => (asr (decide ((List.length yl322) = (List.length yl322)))
 (asr (decide ((0 + (List.length yl322)) ≤ (List.length yl322)))
 (K ([] : List PV) (List.take (List.length yl322) yl322) (0 : Int)))))
 (fun yl329 yl330 _ _ _ _ _ _ => (asr (decide ((List.length yl330) = (List.length yl330)))
 (asr (decide ((0 + (List.length yl330)) ≤ (List.length yl330)))
 (asr (decide ((List.length yl329) = (List.length yl329)))
 (asr (decide ((0 + (List.length yl329)) ≤ (List.length yl329)))
 (K (List.take (List.length yl330) yl330) (List.take (List.length yl329) yl329) (0 : Int)))))))
 n p1 p2 p0 (((List.length p0) : Nat) : Int) (0 : Int))))))))
def w_piece_Cut (p0 : List PV) (p1 p2 : Int) (K : List PV → List PV → Int → Prop) : Prop := wv_piece_Cut w_piece_Check w_ratio_Check w_piece_sooner w_piece_valid w_piece_later p0 p1 p2 K
def pw_piece_Cut (w : T_piece_Cut) (as : List PV) (K : PV → Prop) : Prop :=
 match as with
 | [(.data p0), (.agg [(.int .i64 p1), (.int .i64 p2)])] => w p0 p1 p2 (fun r0 r1 r2 => K (.tup [(.data r0), (.data r1), (.int .i64 r2)]))
 | _ => False
def wp_piece_Cut (as : List PV) (K : PV → Prop) : Prop := pw_piece_Cut w_piece_Cut as K
def D_piece_Cut_0 (F : Frm) (H : Hp) (A0 : Int → Int → List PV → Int → Int → Prop) (A1 : List PV → List PV → Int → Int → List PV → Int → Int → Prop) (A2 : List PV → Int → Int → List PV → Int → Int → Prop) (A3 : List PV → Int → Int → List PV → Int → Int → Prop) (A4 : List PV → List PV → Int → Int → List PV → Int → Int → Prop) : Prop :=
 match F, H with
 | [(3, .box (.agg [(.int .i64 i0), (.int .i64 i1)])), (4, .v .nils), (5, .v .nils), (20, .v (.data l2)), (21, .v (.int .i64 i3)), (22, .v (.int .i64 i4))], [] => (A0 i0 i1 l2 i3 i4)
 | [(3, .box (.agg [(.int .i64 i2), (.int .i64 i3)])), (4, .v (.own 0 0 t4 t5 none)), (5, .v (.own 1 0 t6 t7 none)), (20, .v (.data l8)), (21, .v (.int .i64 i9)), (22, .v (.int .i64 i10))], [⟨false, true, 4, l0⟩, ⟨false, true, 4, l1⟩] => asr (decide (t4 = List.length l0) && decide (t5 = List.length l0) && decide (t6 = List.length l1) && decide (t7 = List.length l1)) (A1 l0 l1 i2 i3 l8 i9 i10)
 | [(3, .box (.agg [(.int .i64 i1), (.int .i64 i2)])), (4, .v (.own 0 0 t3 t4 none)), (5, .v .nils), (20, .v (.data l5)), (21, .v (.int .i64 i6)), (22, .v (.int .i64 i7))], [⟨false, true, 4, l0⟩] => asr (decide (t3 = List.length l0) && decide (t4 = List.length l0)) (A2 l0 i1 i2 l5 i6 i7)
 | [(3, .box (.agg [(.int .i64 i1), (.int .i64 i2)])), (4, .v .nils), (5, .v (.own 0 0 t3 t4 none)), (20, .v (.data l5)), (21, .v (.int .i64 i6)), (22, .v (.int .i64 i7))], [⟨false, true, 4, l0⟩] => asr (decide (t3 = List.length l0) && decide (t4 = List.length l0)) (A3 l0 i1 i2 l5 i6 i7)
 | [(3, .box (.agg [(.int .i64 i2), (.int .i64 i3)])), (4, .v (.own 1 0 t4 t5 none)), (5, .v (.own 0 0 t6 t7 none)), (20, .v (.data l8)), (21, .v (.int .i64 i9)), (22, .v (.int .i64 i10))], [⟨false, true, 4, l0⟩, ⟨false, true, 4, l1⟩] => asr (decide (t4 = List.length l1) && decide (t5 = List.length l1) && decide (t6 = List.length l0) && decide (t7 = List.length l0)) (A4 l0 l1 i2 i3 l8 i9 i10)
 | _, _ => False
def X_piece_Cut_0_0 (Q : Ex → Frm → Hp → Prop) : Int → Int → List PV → Int → Int → Bool → Prop := (fun i0 i1 l2 i3 i4 b5 => Q (.exit 0) [(3, .box (.agg [(.int .i64 i0), (.int .i64 i1)])), (4, .v .nils), (5, .v .nils), (20, .v (.data l2)), (21, .v (.int .i64 i3)), (22, .v (.int .i64 i4)), (23, .v (.bool b5))] [])
def X_piece_Cut_0_1 (Q : Ex → Frm → Hp → Prop) : List PV → List PV → Int → Int → List PV → Int → Int → Bool → Prop := (fun l0 l1 i2 i3 l8 i9 i10 b11 => Q (.exit 0) [(3, .box (.agg [(.int .i64 i2), (.int .i64 i3)])), (4, .v (.own 0 0 (List.length l0) (List.length l0) none)), (5, .v (.own 1 0 (List.length l1) (List.length l1) none)), (20, .v (.data l8)), (21, .v (.int .i64 i9)), (22, .v (.int .i64 i10)), (23, .v (.bool b11))] [⟨false, true, 4, l0⟩, ⟨false, true, 4, l1⟩])
def X_piece_Cut_0_2 (Q : Ex → Frm → Hp → Prop) : List PV → Int → Int → List PV → Int → Int → Bool → Prop := (fun l0 i1 i2 l5 i6 i7 b8 => Q (.exit 0) [(3, .box (.agg [(.int .i64 i1), (.int .i64 i2)])), (4, .v (.own 0 0 (List.length l0) (List.length l0) none)), (5, .v .nils), (20, .v (.data l5)), (21, .v (.int .i64 i6)), (22, .v (.int .i64 i7)), (23, .v (.bool b8))] [⟨false, true, 4, l0⟩])
def X_piece_Cut_0_3 (Q : Ex → Frm → Hp → Prop) : List PV → Int → Int → List PV → Int → Int → Bool → Prop := (fun l0 i1 i2 l5 i6 i7 b8 => Q (.exit 0) [(3, .box (.agg [(.int .i64 i1), (.int .i64 i2)])), (4, .v .nils), (5, .v (.own 0 0 (List.length l0) (List.length l0) none)), (20, .v (.data l5)), (21, .v (.int .i64 i6)), (22, .v (.int .i64 i7)), (23, .v (.bool b8))] [⟨false, true, 4, l0⟩])
def X_piece_Cut_0_4 (Q : Ex → Frm → Hp → Prop) : List PV → List PV → Int → Int → List PV → Int → Int → Bool → Prop := (fun l0 l1 i2 i3 l8 i9 i10 b11 => Q (.exit 0) [(3, .box (.agg [(.int .i64 i2), (.int .i64 i3)])), (4, .v (.own 1 0 (List.length l1) (List.length l1) none)), (5, .v (.own 0 0 (List.length l0) (List.length l0) none)), (20, .v (.data l8)), (21, .v (.int .i64 i9)), (22, .v (.int .i64 i10)), (23, .v (.bool b11))] [⟨false, true, 4, l0⟩, ⟨false, true, 4, l1⟩])
def R_piece_Cut_0 (a0 : T_piece_Check) (a1 : T_ratio_Check) (a2 : T_piece_sooner) (a3 : T_piece_valid) (a4 : T_piece_later) (Q : Ex → Frm → Hp → Prop) (n : Nat) (F : Frm) (H : Hp) : Prop := D_piece_Cut_0 F H (fun i0 i1 l2 i3 i4 => L_piece_Cut_0_0 a0 a1 a2 a3 a4 (X_piece_Cut_0_0 Q) (X_piece_Cut_0_1 Q) (X_piece_Cut_0_2 Q) (X_piece_Cut_0_3 Q) (X_piece_Cut_0_4 Q) n i0 i1 l2 i3 i4) (fun l0 l1 i2 i3 l8 i9 i10 => L_piece_Cut_0_1 a0 a1 a2 a3 a4 (X_piece_Cut_0_0 Q) (X_piece_Cut_0_1 Q) (X_piece_Cut_0_2 Q) (X_piece_Cut_0_3 Q) (X_piece_Cut_0_4 Q) n l0 l1 i2 i3 l8 i9 i10) (fun l0 i1 i2 l5 i6 i7 => L_piece_Cut_0_2 a0 a1 a2 a3 a4 (X_piece_Cut_0_0 Q) (X_piece_Cut_0_1 Q) (X_piece_Cut_0_2 Q) (X_piece_Cut_0_3 Q) (X_piece_Cut_0_4 Q) n l0 i1 i2 l5 i6 i7) (fun l0 i1 i2 l5 i6 i7 => L_piece_Cut_0_3 a0 a1 a2 a3 a4 (X_piece_Cut_0_0 Q) (X_piece_Cut_0_1 Q) (X_piece_Cut_0_2 Q) (X_piece_Cut_0_3 Q) (X_piece_Cut_0_4 Q) n l0 i1 i2 l5 i6 i7) (fun l0 l1 i2 i3 l8 i9 i10 => L_piece_Cut_0_4 a0 a1 a2 a3 a4 (X_piece_Cut_0_0 Q) (X_piece_Cut_0_1 Q) (X_piece_Cut_0_2 Q) (X_piece_Cut_0_3 Q) (X_piece_Cut_0_4 Q) n l0 l1 i2 i3 l8 i9 i10)
def lp_piece_Cut (a0 : T_piece_Check) (a1 : T_ratio_Check) (a2 : T_piece_sooner) (a3 : T_piece_valid) (a4 : T_piece_later) : LP := fun id F H Q =>
 bif Nat.beq id 4793600 then D_piece_Cut_0 F H (fun i0 i1 l2 i3 i4 => ∃ n : Nat, L_piece_Cut_0_0 a0 a1 a2 a3 a4 (X_piece_Cut_0_0 Q) (X_piece_Cut_0_1 Q) (X_piece_Cut_0_2 Q) (X_piece_Cut_0_3 Q) (X_piece_Cut_0_4 Q) n i0 i1 l2 i3 i4) (fun l0 l1 i2 i3 l8 i9 i10 => ∃ n : Nat, L_piece_Cut_0_1 a0 a1 a2 a3 a4 (X_piece_Cut_0_0 Q) (X_piece_Cut_0_1 Q) (X_piece_Cut_0_2 Q) (X_piece_Cut_0_3 Q) (X_piece_Cut_0_4 Q) n l0 l1 i2 i3 l8 i9 i10) (fun l0 i1 i2 l5 i6 i7 => ∃ n : Nat, L_piece_Cut_0_2 a0 a1 a2 a3 a4 (X_piece_Cut_0_0 Q) (X_piece_Cut_0_1 Q) (X_piece_Cut_0_2 Q) (X_piece_Cut_0_3 Q) (X_piece_Cut_0_4 Q) n l0 i1 i2 l5 i6 i7) (fun l0 i1 i2 l5 i6 i7 => ∃ n : Nat, L_piece_Cut_0_3 a0 a1 a2 a3 a4 (X_piece_Cut_0_0 Q) (X_piece_Cut_0_1 Q) (X_piece_Cut_0_2 Q) (X_piece_Cut_0_3 Q) (X_piece_Cut_0_4 Q) n l0 i1 i2 l5 i6 i7) (fun l0 l1 i2 i3 l8 i9 i10 => ∃ n : Nat, L_piece_Cut_0_4 a0 a1 a2 a3 a4 (X_piece_Cut_0_0 Q) (X_piece_Cut_0_1 Q) (X_piece_Cut_0_2 Q) (X_piece_Cut_0_3 Q) (X_piece_Cut_0_4 Q) n l0 l1 i2 i3 l8 i9 i10) else
 False
def S0_piece_Cut (e : List (Nat × EffF)) (a0 : T_piece_Check) (a1 : T_ratio_Check) (a2 : T_piece_sooner) (a3 : T_piece_valid) (a4 : T_piece_later) : SE := ⟨(E e), lookS [(n_piece_Check, pw_piece_Check a0), (n_ratio_Check, pw_ratio_Check a1), (n_piece_sooner, pw_piece_sooner a2), (n_piece_valid, pw_piece_valid a3), (n_piece_later, pw_piece_later a4)], lookI [], lp_piece_Cut a0 a1 a2 a3 a4⟩
theorem se0_piece_Cut (e : List (Nat × EffF)) (he : EG e) : SEOk (S0_piece_Cut e w_piece_Check w_ratio_Check w_piece_sooner w_piece_valid w_piece_later) := seOk_of ⟨(ok_piece_Check e he), (ok_ratio_Check e he), (ok_piece_sooner e he), (ok_piece_valid e he), (ok_piece_later e he), trivial⟩ trivial he.ok
theorem body_piece_Cut_0_0 (e : List (Nat × EffF)) (a0 a1 a2 a3 a4 Q n i0 i1 l2 i3 i4) : WC (E e) (callW (S0_piece_Cut e a0 a1 a2 a3 a4) 5) (lp_piece_Cut a0 a1 a2 a3 a4) b_4793600 [(3, .box (.agg [(.int .i64 i0), (.int .i64 i1)])), (4, .v .nils), (5, .v .nils), (20, .v (.data l2)), (21, .v (.int .i64 i3)), (22, .v (.int .i64 i4))] [] (fun x F' H' => match x with | .norm => R_piece_Cut_0 a0 a1 a2 a3 a4 Q n F' H' | .exit i => Q (.exit i) F' H' | .ret => Q .ret F' H') = L_piece_Cut_0_0 a0 a1 a2 a3 a4 (X_piece_Cut_0_0 Q) (X_piece_Cut_0_1 Q) (X_piece_Cut_0_2 Q) (X_piece_Cut_0_3 Q) (X_piece_Cut_0_4 Q) (n + 1) i0 i1 l2 i3 i4 := by kernel_rfl
theorem body_piece_Cut_0_1 (e : List (Nat × EffF)) (a0 a1 a2 a3 a4 Q n l0 l1 i2 i3 l8 i9 i10) : WC (E e) (callW (S0_piece_Cut e a0 a1 a2 a3 a4) 5) (lp_piece_Cut a0 a1 a2 a3 a4) b_4793600 [(3, .box (.agg [(.int .i64 i2), (.int .i64 i3)])), (4, .v (.own 0 0 (List.length l0) (List.length l0) none)), (5, .v (.own 1 0 (List.length l1) (List.length l1) none)), (20, .v (.data l8)), (21, .v (.int .i64 i9)), (22, .v (.int .i64 i10))] [⟨false, true, 4, l0⟩, ⟨false, true, 4, l1⟩] (fun x F' H' => match x with | .norm => R_piece_Cut_0 a0 a1 a2 a3 a4 Q n F' H' | .exit i => Q (.exit i) F' H' | .ret => Q .ret F' H') = L_piece_Cut_0_1 a0 a1 a2 a3 a4 (X_piece_Cut_0_0 Q) (X_piece_Cut_0_1 Q) (X_piece_Cut_0_2 Q) (X_piece_Cut_0_3 Q) (X_piece_Cut_0_4 Q) (n + 1) l0 l1 i2 i3 l8 i9 i10 := by kernel_rfl
theorem body_piece_Cut_0_2 (e : List (Nat × EffF)) (a0 a1 a2 a3 a4 Q n l0 i1 i2 l5 i6 i7) : WC (E e) (callW (S0_piece_Cut e a0 a1 a2 a3 a4) 5) (lp_piece_Cut a0 a1 a2 a3 a4) b_4793600 [(3, .box (.agg [(.int .i64 i1), (.int .i64 i2)])), (4, .v (.own 0 0 (List.length l0) (List.length l0) none)), (5, .v .nils), (20, .v (.data l5)), (21, .v (.int .i64 i6)), (22, .v (.int .i64 i7))] [⟨false, true, 4, l0⟩] (fun x F' H' => match x with | .norm => R_piece_Cut_0 a0 a1 a2 a3 a4 Q n F' H' | .exit i => Q (.exit i) F' H' | .ret => Q .ret F' H') = L_piece_Cut_0_2 a0 a1 a2 a3 a4 (X_piece_Cut_0_0 Q) (X_piece_Cut_0_1 Q) (X_piece_Cut_0_2 Q) (X_piece_Cut_0_3 Q) (X_piece_Cut_0_4 Q) (n + 1) l0 i1 i2 l5 i6 i7 := by kernel_rfl
theorem body_piece_Cut_0_3 (e : List (Nat × EffF)) (a0 a1 a2 a3 a4 Q n l0 i1 i2 l5 i6 i7) : WC (E e) (callW (S0_piece_Cut e a0 a1 a2 a3 a4) 5) (lp_piece_Cut a0 a1 a2 a3 a4) b_4793600 [(3, .box (.agg [(.int .i64 i1), (.int .i64 i2)])), (4, .v .nils), (5, .v (.own 0 0 (List.length l0) (List.length l0) none)), (20, .v (.data l5)), (21, .v (.int .i64 i6)), (22, .v (.int .i64 i7))] [⟨false, true, 4, l0⟩] (fun x F' H' => match x with | .norm => R_piece_Cut_0 a0 a1 a2 a3 a4 Q n F' H' | .exit i => Q (.exit i) F' H' | .ret => Q .ret F' H') = L_piece_Cut_0_3 a0 a1 a2 a3 a4 (X_piece_Cut_0_0 Q) (X_piece_Cut_0_1 Q) (X_piece_Cut_0_2 Q) (X_piece_Cut_0_3 Q) (X_piece_Cut_0_4 Q) (n + 1) l0 i1 i2 l5 i6 i7 := by kernel_rfl
theorem body_piece_Cut_0_4 (e : List (Nat × EffF)) (a0 a1 a2 a3 a4 Q n l0 l1 i2 i3 l8 i9 i10) : WC (E e) (callW (S0_piece_Cut e a0 a1 a2 a3 a4) 5) (lp_piece_Cut a0 a1 a2 a3 a4) b_4793600 [(3, .box (.agg [(.int .i64 i2), (.int .i64 i3)])), (4, .v (.own 1 0 (List.length l1) (List.length l1) none)), (5, .v (.own 0 0 (List.length l0) (List.length l0) none)), (20, .v (.data l8)), (21, .v (.int .i64 i9)), (22, .v (.int .i64 i10))] [⟨false, true, 4, l0⟩, ⟨false, true, 4, l1⟩] (fun x F' H' => match x with | .norm => R_piece_Cut_0 a0 a1 a2 a3 a4 Q n F' H' | .exit i => Q (.exit i) F' H' | .ret => Q .ret F' H') = L_piece_Cut_0_4 a0 a1 a2 a3 a4 (X_piece_Cut_0_0 Q) (X_piece_Cut_0_1 Q) (X_piece_Cut_0_2 Q) (X_piece_Cut_0_3 Q) (X_piece_Cut_0_4 Q) (n + 1) l0 l1 i2 i3 l8 i9 i10 := by kernel_rfl
theorem lpb_piece_Cut_0 (e : List (Nat × EffF)) (_ : EG e) : LpOk (E e) (lp_piece_Cut w_piece_Check w_ratio_Check w_piece_sooner w_piece_valid w_piece_later) b_4793600 := (LpOk_no (by kernel_rfl))
theorem loop_piece_Cut_0 (e : List (Nat × EffF)) (he : EG e) : ∀ F H Q, lp_piece_Cut w_piece_Check w_ratio_Check w_piece_sooner w_piece_valid w_piece_later 4793600 F H Q → LoopT (E e) b_4793600 F H Q := by
 intro F H Q h
 have go := LoopT.intro (callW_ok (se0_piece_Cut e he) 5) (lpb_piece_Cut_0 e he) (R_piece_Cut_0 w_piece_Check w_ratio_Check w_piece_sooner w_piece_valid w_piece_later Q) (by
   intro F H h
   unfold R_piece_Cut_0 D_piece_Cut_0 at h
   split at h
   · exact h
   · obtain ⟨hg, k⟩ := asr_iff.1 h
     clear h
     have h := k
     clear k
     try simp only [Bool.and_eq_true, decide_eq_true_eq] at hg
     obtain ⟨⟨⟨g0, g1⟩, g2⟩, g3⟩ := hg; subst g0; subst g1; subst g2; subst g3; exact h
   · obtain ⟨hg, k⟩ := asr_iff.1 h
     clear h
     have h := k
     clear k
     try simp only [Bool.and_eq_true, decide_eq_true_eq] at hg
     obtain ⟨g0, g1⟩ := hg; subst g0; subst g1; exact h
   · obtain ⟨hg, k⟩ := asr_iff.1 h
     clear h
     have h := k
     clear k
     try simp only [Bool.and_eq_true, decide_eq_true_eq] at hg
     obtain ⟨g0, g1⟩ := hg; subst g0; subst g1; exact h
   · obtain ⟨hg, k⟩ := asr_iff.1 h
     clear h
     have h := k
     clear k
     try simp only [Bool.and_eq_true, decide_eq_true_eq] at hg
     obtain ⟨⟨⟨g0, g1⟩, g2⟩, g3⟩ := hg; subst g0; subst g1; subst g2; subst g3; exact h
   · exact h) (by
   intro n F H h
   unfold R_piece_Cut_0 D_piece_Cut_0 at h
   split at h
   · exact (body_piece_Cut_0_0 ..).mpr h
   · obtain ⟨hg, k⟩ := asr_iff.1 h
     clear h
     have h := k
     clear k
     try simp only [Bool.and_eq_true, decide_eq_true_eq] at hg
     obtain ⟨⟨⟨g0, g1⟩, g2⟩, g3⟩ := hg; subst g0; subst g1; subst g2; subst g3; exact (body_piece_Cut_0_1 ..).mpr h
   · obtain ⟨hg, k⟩ := asr_iff.1 h
     clear h
     have h := k
     clear k
     try simp only [Bool.and_eq_true, decide_eq_true_eq] at hg
     obtain ⟨g0, g1⟩ := hg; subst g0; subst g1; exact (body_piece_Cut_0_2 ..).mpr h
   · obtain ⟨hg, k⟩ := asr_iff.1 h
     clear h
     have h := k
     clear k
     try simp only [Bool.and_eq_true, decide_eq_true_eq] at hg
     obtain ⟨g0, g1⟩ := hg; subst g0; subst g1; exact (body_piece_Cut_0_3 ..).mpr h
   · obtain ⟨hg, k⟩ := asr_iff.1 h
     clear h
     have h := k
     clear k
     try simp only [Bool.and_eq_true, decide_eq_true_eq] at hg
     obtain ⟨⟨⟨g0, g1⟩, g2⟩, g3⟩ := hg; subst g0; subst g1; subst g2; subst g3; exact (body_piece_Cut_0_4 ..).mpr h
   · exact h.elim)
 have h : D_piece_Cut_0 F H _ _ _ _ _ := h
 unfold D_piece_Cut_0 at h
 split at h
 · obtain ⟨n, h⟩ := h; exact go n _ _ h
 · obtain ⟨hg, n, h⟩ := asr_iff.1 h; exact go n _ _ (asr_iff.2 ⟨hg, h⟩)
 · obtain ⟨hg, n, h⟩ := asr_iff.1 h; exact go n _ _ (asr_iff.2 ⟨hg, h⟩)
 · obtain ⟨hg, n, h⟩ := asr_iff.1 h; exact go n _ _ (asr_iff.2 ⟨hg, h⟩)
 · obtain ⟨hg, n, h⟩ := asr_iff.1 h; exact go n _ _ (asr_iff.2 ⟨hg, h⟩)
 · exact h.elim
theorem eq_piece_Cut (e : List (Nat × EffF)) (a0 a1 a2 a3 a4 p0 p1 p2 K) : WP (S0_piece_Cut e a0 a1 a2 a3 a4) 6 t_piece_Cut [(.data p0), (.agg [(.int .i64 p1), (.int .i64 p2)])] K = wv_piece_Cut a0 a1 a2 a3 a4 p0 p1 p2 (fun r0 r1 r2 => K (.tup [(.data r0), (.data r1), (.int .i64 r2)])) := by kernel_rfl
theorem ok_piece_Cut (e : List (Nat × EffF)) (he : EG e) : OkF (E e) wp_piece_Cut n_piece_Cut := by
 intro as K h
 unfold wp_piece_Cut pw_piece_Cut at h
 split at h
 · exact WP_ok (se0_piece_Cut e he) (LpOk_by (l := [(4793600, b_4793600)]) ⟨loop_piece_Cut_0 e he, trivial⟩ (by kernel_rfl)) (by kernel_rfl) (by kernel_rfl) (fun _ => baseS_none (by kernel_rfl) _) (he.num _ (by kernel_rfl)) ((eq_piece_Cut ..).mpr h)
 · exact h.elim
abbrev T_piece_Union : Type := List PV → List PV → (List PV → Int → Prop) → Prop
def L_piece_Union_0_0 (a0 : T_piece_both) (a1 : T_piece_merged) (a2 : T_piece_few) (x14451100_0 : List PV → Int → List PV → Int → Int → Bool → Prop) : Nat → List PV → Int → List PV → Int → Int → Prop
 | 0, _, _, _, _, _ => False
 | n14451100 + 1, l0, i1, l2, i3, i4 =>
 (cbr (decide (i4 < i3))
 (asr (decide ((0 : Int) ≤ i4))
 (asr (decide (i4 < (((List.length l2) : Nat) : Int)))
 (lt (List.getD l2 (i4.toNat) .nils) (fun yr9 =>
 (asr (conf (.one (.d)) yr9)
 (lt (IntKind.i64.wrap (i1 + (((List.length (datOfV yr9)) : Nat) : Int))) (fun yi11 =>
 (cbr (decide (yi11 < (0 : Int)))
 False
 (lt (IntKind.i64.wrap (i4 + (1 : Int))) (fun yi12 =>
 (L_piece_Union_0_0 a0 a1 a2 x14451100_0 n14451100 l0 yi11 l2 i3 yi12)))))))))))
 (x14451100_0 l0 i1 l2 i3 i4 false))
mutual
def L_piece_Union_1_0 (a0 : T_piece_both) (a1 : T_piece_merged) (a2 : T_piece_few) (x14451101_0 : List PV → Int → Int → Bool → Prop) (x14451101_1 : List PV → Nat → List PV → Int → Int → Bool → Prop) : Nat → List PV → Int → Int → Prop
 | 0, _, _, _ => False
 | n14451101 + 1, l0, i1, i2 =>
 (cbr (decide (i2 < i1))
 (asr (decide ((0 : Int) ≤ i2))
 (asr (decide (i2 < (((List.length l0) : Nat) : Int)))
 (lt (List.getD l0 (i2.toNat) .nils) (fun yr46 =>
 (asr (conf (.one (.d)) yr46)
 (asr (headOk 4 (datOfV yr46))
 (cbr (List.isEmpty (datOfV yr46))
 (lt (IntKind.i64.wrap (i2 + (1 : Int))) (fun yi47 =>
 (L_piece_Union_1_0 a0 a1 a2 x14451101_0 x14451101_1 n14451101 l0 i1 yi47)))
 (asr (decide (((List.length (datOfV yr46)) + 64) * (32 + 1) ≤ room))
 (lt (IntKind.i64.wrap (i2 + (1 : Int))) (fun yi48 =>
 (asr (decide ((List.length (datOfV yr46)) = List.length (datOfV yr46)))
 (L_piece_Union_1_1 a0 a1 a2 x14451101_0 x14451101_1 n14451101 (datOfV yr46) (List.length (datOfV yr46)) l0 i1 yi48))))))))))))
 (x14451101_0 l0 i1 i2 false))
def L_piece_Union_1_1 (a0 : T_piece_both) (a1 : T_piece_merged) (a2 : T_piece_few) (x14451101_0 : List PV → Int → Int → Bool → Prop) (x14451101_1 : List PV → Nat → List PV → Int → Int → Bool → Prop) : Nat → List PV → Nat → List PV → Int → Int → Prop
 | 0, _, _, _, _, _ => False
 | n14451101 + 1, l0, n1, l3, i4, i5 =>
 (cbr (decide (i5 < i4))
 (asr (decide ((0 : Int) ≤ i5))
 (asr (decide (i5 < (((List.length l3) : Nat) : Int)))
 (lt (List.getD l3 (i5.toNat) .nils) (fun yr52 =>
 (asr (conf (.one (.d)) yr52)
 (asr (headOk 4 (datOfV yr52))
 (asr (decide ((List.length l0) = (List.length l0)))
 (asr (decide ((0 + n1) ≤ (List.length l0)))
 (cbr (List.isEmpty (datOfV yr52))
 (lt (IntKind.i64.wrap (i5 + (1 : Int))) (fun yi53 =>
 (asr (decide ((List.length l0) = List.length l0))
 (L_piece_Union_1_1 a0 a1 a2 x14451101_0 x14451101_1 n14451101 l0 n1 l3 i4 yi53))))
 (asr (decide (((0 + n1) + (List.length (datOfV yr52))) ≤ (List.length l0)))
 (lt (IntKind.i64.wrap (i5 + (1 : Int))) (fun yi54 =>
 (asr (decide ((List.length l0) = List.length ((List.take (0 + n1) l0) ++ ((datOfV yr52) ++ (List.drop ((0 + n1) + (List.length (datOfV yr52))) l0)))))
 (L_piece_Union_1_1 a0 a1 a2 x14451101_0 x14451101_1 n14451101 ((List.take (0 + n1) l0) ++ ((datOfV yr52) ++ (List.drop ((0 + n1) + (List.length (datOfV yr52))) l0))) (n1 + (List.length (datOfV yr52))) l3 i4 yi54))))))))))))))
 (x14451101_1 l0 n1 l3 i4 i5 false))
end
def wv_piece_Union (a0 : T_piece_both) (a1 : T_piece_merged) (a2 : T_piece_few) (p0 p1 : List PV) (K : List PV → Int → Prop) : Prop :=
 (a0 p0 p1 (fun yi3 => 
 (cbr (yi3 != (0 : Int))
 (K ([] : List PV) yi3)
 (jn (fun yj251 =>
 (jn (fun (yj257 : List PV → Nat → Prop) =>
 (∃ n14451100 : Nat, L_piece_Union_0_0 a0 a1 a2
 (fun yl267 yi268 _ _ _ _ => (cbr (decide (yi268 < (0 : Int)))
 False
 (jn (fun yj290 =>
 (lt (IntKind.i64.wrap (yi268 - (0 : Int))) (fun yi312 =>
 (cbr (decide (yi312 > (0 : Int)))
 (asr (decide ((0 : Int) ≤ yi312))
 (cbr (decide ((yi312.toNat) = 0))
 yj290
 (asr (decide (((List.length (List.replicate (yi312.toNat) ((.agg [(.int .i64 (0)), (.int .i64 (0)), (.int .i64 (0)), (.int .i64 (0))]) : PV))) + 64) * (32 + 1) ≤ room))
 (asr ((decide ((0 : Int) ≤ (((List.length (List.replicate (yi312.toNat) ((.agg [(.int .i64 (0)), (.int .i64 (0)), (.int .i64 (0)), (.int .i64 (0))]) : PV))) : Nat) : Int))) || (decide ((0 : Int) ≤ (((List.length (List.replicate (yi312.toNat) ((.agg [(.int .i64 (0)), (.int .i64 (0)), (.int .i64 (0)), (.int .i64 (0))]) : PV))) : Nat) : Int))))
 (asr (decide ((List.length (List.replicate (yi312.toNat) ((.agg [(.int .i64 (0)), (.int .i64 (0)), (.int .i64 (0)), (.int .i64 (0))]) : PV))) = List.length (List.replicate (yi312.toNat) ((.agg [(.int .i64 (0)), (.int .i64 (0)), (.int .i64 (0)), (.int .i64 (0))]) : PV))))
 (∃ n14451101 : Nat, L_piece_Union_1_1 a0 a1 a2
 (fun _ _ _ _ => yj251)
 (fun yl327 yn328 _ _ _ _ => (yj257 yl327 yn328))
 n14451101 (List.replicate (yi312.toNat) ((.agg [(.int .i64 (0)), (.int .i64 (0)), (.int .i64 (0)), (.int .i64 (0))]) : PV)) 0 yl267 (((List.length yl267) : Nat) : Int) (0 : Int)))))))
 yj290))))
 (∃ n14451101 : Nat, L_piece_Union_1_0 a0 a1 a2
 (fun _ _ _ _ => yj251)
 (fun yl305 yn306 _ _ _ _ => (yj257 yl305 yn306))
 n14451101 yl267 (((List.length yl267) : Nat) : Int) (0 : Int)))))
 n14451100 ([(.data p0), (.data p1)] : List PV) (0 : Int) ([(.data p0), (.data p1)] : List PV) (2 : Int) (0 : Int)))
 (fun yl255 yn256 => (asr (decide ((List.length yl255) = (List.length yl255)))
 (asr (decide ((0 + yn256) ≤ (List.length yl255)))
 (a1 (List.take yn256 yl255) (fun yl258 => 
 (a2 yl258 (fun yl259 yi260 => 
 (K yl259 yi260))))))))))
 (a1 ([] : List PV) (fun yl252 => 
 (a2 yl252 (fun yl253 yi254 => 
 (K yl253 yi254)))))))))
def w_piece_Union (p0 p1 : List PV) (K : List PV → Int → Prop) : Prop := wv_piece_Union w_piece_both w_piece_merged w_piece_few p0 p1 K
def pw_piece_Union (w : T_piece_Union) (as : List PV) (K : PV → Prop) : Prop :=
 match as with
 | [(.data p0), (.data p1)] => w p0 p1 (fun r0 r1 => K (.tup [(.data r0), (.int .i64 r1)]))
 | _ => False
def wp_piece_Union (as : List PV) (K : PV → Prop) : Prop := pw_piece_Union w_piece_Union as K
def D_piece_Union_0 (F : Frm) (H : Hp) (A0 : List PV → Int → List PV → Int → Int → Prop) : Prop :=
 match F, H with
 | [(0, .v (.data l0)), (3, .v (.int .i64 i1)), (9, .v (.data l2)), (10, .v (.int .i64 i3)), (11, .v (.int .i64 i4))], [] => (A0 l0 i1 l2 i3 i4)
 | _, _ => False
def D_piece_Union_1 (F : Frm) (H : Hp) (A0 : List PV → Int → Int → Prop) (A1 : List PV → Nat → List PV → Int → Int → Prop) : Prop :=
 match F, H with
 | [(6, .v .nils), (25, .v (.data l0)), (26, .v (.int .i64 i1)), (27, .v (.int .i64 i2))], [] => (A0 l0 i1 i2)
 | [(6, .v (.own 0 0 n1 t2 none)), (25, .v (.data l3)), (26, .v (.int .i64 i4)), (27, .v (.int .i64 i5))], [⟨false, true, 4, l0⟩] => asr (decide (t2 = List.length l0)) (A1 l0 n1 l3 i4 i5)
 | _, _ => False
def X_piece_Union_0_0 (Q : Ex → Frm → Hp → Prop) : List PV → Int → List PV → Int → Int → Bool → Prop := (fun l0 i1 l2 i3 i4 b5 => Q (.exit 0) [(0, .v (.data l0)), (3, .v (.int .i64 i1)), (9, .v (.data l2)), (10, .v (.int .i64 i3)), (11, .v (.int .i64 i4)), (12, .v (.bool b5))] [])
def X_piece_Union_1_0 (Q : Ex → Frm → Hp → Prop) : List PV → Int → Int → Bool → Prop := (fun l0 i1 i2 b3 => Q (.exit 2) [(6, .v .nils), (25, .v (.data l0)), (26, .v (.int .i64 i1)), (27, .v (.int .i64 i2)), (28, .v (.bool b3))] [])
def X_piece_Union_1_1 (Q : Ex → Frm → Hp → Prop) : List PV → Nat → List PV → Int → Int → Bool → Prop := (fun l0 n1 l3 i4 i5 b6 => Q (.exit 2) [(6, .v (.own 0 0 n1 (List.length l0) none)), (25, .v (.data l3)), (26, .v (.int .i64 i4)), (27, .v (.int .i64 i5)), (28, .v (.bool b6))] [⟨false, true, 4, l0⟩])
def R_piece_Union_0 (a0 : T_piece_both) (a1 : T_piece_merged) (a2 : T_piece_few) (Q : Ex → Frm → Hp → Prop) (n : Nat) (F : Frm) (H : Hp) : Prop := D_piece_Union_0 F H (fun l0 i1 l2 i3 i4 => L_piece_Union_0_0 a0 a1 a2 (X_piece_Union_0_0 Q) n l0 i1 l2 i3 i4)
def R_piece_Union_1 (a0 : T_piece_both) (a1 : T_piece_merged) (a2 : T_piece_few) (Q : Ex → Frm → Hp → Prop) (n : Nat) (F : Frm) (H : Hp) : Prop := D_piece_Union_1 F H (fun l0 i1 i2 => L_piece_Union_1_0 a0 a1 a2 (X_piece_Union_1_0 Q) (X_piece_Union_1_1 Q) n l0 i1 i2) (fun l0 n1 l3 i4 i5 => L_piece_Union_1_1 a0 a1 a2 (X_piece_Union_1_0 Q) (X_piece_Union_1_1 Q) n l0 n1 l3 i4 i5)
def lp_piece_Union (a0 : T_piece_both) (a1 : T_piece_merged) (a2 : T_piece_few) : LP := fun id F H Q =>
 bif Nat.beq id 14451100 then D_piece_Union_0 F H (fun l0 i1 l2 i3 i4 => ∃ n : Nat, L_piece_Union_0_0 a0 a1 a2 (X_piece_Union_0_0 Q) n l0 i1 l2 i3 i4) else
 bif Nat.beq id 14451101 then D_piece_Union_1 F H (fun l0 i1 i2 => ∃ n : Nat, L_piece_Union_1_0 a0 a1 a2 (X_piece_Union_1_0 Q) (X_piece_Union_1_1 Q) n l0 i1 i2) (fun l0 n1 l3 i4 i5 => ∃ n : Nat, L_piece_Union_1_1 a0 a1 a2 (X_piece_Union_1_0 Q) (X_piece_Union_1_1 Q) n l0 n1 l3 i4 i5) else
 False
def S0_piece_Union (a0 : T_piece_both) (a1 : T_piece_merged) (a2 : T_piece_few) : SE := ⟨(E ef0), lookS [(n_piece_both, pw_piece_both a0), (n_piece_merged, pw_piece_merged a1), (n_piece_few, pw_piece_few a2)], lookI [(n_s_Grow_api_Span_api_Span, t_s_Grow_api_Span_api_Span)], lp_piece_Union a0 a1 a2⟩
def S1_piece_Union (a0 : T_piece_both) (a1 : T_piece_merged) (a2 : T_piece_few) : SE := ⟨(E ef0), lookS [(n_piece_both, pw_piece_both a0), (n_piece_merged, pw_piece_merged a1), (n_piece_few, pw_piece_few a2)], lookI [(n_s_Concat_api_Span_api_Span, t_s_Concat_api_Span_api_Span), (n_s_Grow_api_Span_api_Span, t_s_Grow_api_Span_api_Span)], lp_piece_Union a0 a1 a2⟩
theorem se0_piece_Union : SEOk (S0_piece_Union w_piece_both w_piece_merged w_piece_few) := seOk_of ⟨(ok_piece_both ef0 effG0), ok_piece_merged, (ok_piece_few ef0 effG0), trivial⟩ ⟨⟨by kernel_rfl, by kernel_rfl, rfl, fun as => baseS_none (by kernel_rfl) as, effG0.num _ (by kernel_rfl), (LpOk_no (by kernel_rfl))⟩, trivial⟩ effG0.ok
theorem body_piece_Union_0_0 (a0 a1 a2 Q n l0 i1 l2 i3 i4) : WC (E ef0) (callW (S0_piece_Union a0 a1 a2) 5) (lp_piece_Union a0 a1 a2) b_14451100 [(0, .v (.data l0)), (3, .v (.int .i64 i1)), (9, .v (.data l2)), (10, .v (.int .i64 i3)), (11, .v (.int .i64 i4))] [] (fun x F' H' => match x with | .norm => R_piece_Union_0 a0 a1 a2 Q n F' H' | .exit i => Q (.exit i) F' H' | .ret => Q .ret F' H') = L_piece_Union_0_0 a0 a1 a2 (X_piece_Union_0_0 Q) (n + 1) l0 i1 l2 i3 i4 := by kernel_rfl
theorem lpb_piece_Union_0 : LpOk (E ef0) (lp_piece_Union w_piece_both w_piece_merged w_piece_few) b_14451100 := (LpOk_no (by kernel_rfl))
theorem loop_piece_Union_0 : ∀ F H Q, lp_piece_Union w_piece_both w_piece_merged w_piece_few 14451100 F H Q → LoopT (E ef0) b_14451100 F H Q := by
 intro F H Q h
 have go := LoopT.intro (callW_ok (se0_piece_Union) 5) (lpb_piece_Union_0) (R_piece_Union_0 w_piece_both w_piece_merged w_piece_few Q) (by
   intro F H h
   unfold R_piece_Union_0 D_piece_Union_0 at h
   split at h
   · exact h
   · exact h) (by
   intro n F H h
   unfold R_piece_Union_0 D_piece_Union_0 at h
   split at h
   · exact (body_piece_Union_0_0 ..).mpr h
   · exact h.elim)
 have h : D_piece_Union_0 F H _ := h
 unfold D_piece_Union_0 at h
 split at h
 · obtain ⟨n, h⟩ := h; exact go n _ _ h
 · exact h.elim
theorem body_piece_Union_1_0 (a0 a1 a2 Q n l0 i1 i2) : WC (E ef0) (callW (S0_piece_Union a0 a1 a2) 5) (lp_piece_Union a0 a1 a2) b_14451101 [(6, .v .nils), (25, .v (.data l0)), (26, .v (.int .i64 i1)), (27, .v (.int .i64 i2))] [] (fun x F' H' => match x with | .norm => R_piece_Union_1 a0 a1 a2 Q n F' H' | .exit i => Q (.exit i) F' H' | .ret => Q .ret F' H') = L_piece_Union_1_0 a0 a1 a2 (X_piece_Union_1_0 Q) (X_piece_Union_1_1 Q) (n + 1) l0 i1 i2 := by kernel_rfl
theorem body_piece_Union_1_1 (a0 a1 a2 Q n l0 n1 l3 i4 i5) : WC (E ef0) (callW (S0_piece_Union a0 a1 a2) 5) (lp_piece_Union a0 a1 a2) b_14451101 [(6, .v (.own 0 0 n1 (List.length l0) none)), (25, .v (.data l3)), (26, .v (.int .i64 i4)), (27, .v (.int .i64 i5))] [⟨false, true, 4, l0⟩] (fun x F' H' => match x with | .norm => R_piece_Union_1 a0 a1 a2 Q n F' H' | .exit i => Q (.exit i) F' H' | .ret => Q .ret F' H') = L_piece_Union_1_1 a0 a1 a2 (X_piece_Union_1_0 Q) (X_piece_Union_1_1 Q) (n + 1) l0 n1 l3 i4 i5 := by kernel_rfl
theorem lpb_piece_Union_1 : LpOk (E ef0) (lp_piece_Union w_piece_both w_piece_merged w_piece_few) b_14451101 := (LpOk_no (by kernel_rfl))
theorem loop_piece_Union_1 : ∀ F H Q, lp_piece_Union w_piece_both w_piece_merged w_piece_few 14451101 F H Q → LoopT (E ef0) b_14451101 F H Q := by
 intro F H Q h
 have go := LoopT.intro (callW_ok (se0_piece_Union) 5) (lpb_piece_Union_1) (R_piece_Union_1 w_piece_both w_piece_merged w_piece_few Q) (by
   intro F H h
   unfold R_piece_Union_1 D_piece_Union_1 at h
   split at h
   · exact h
   · obtain ⟨hg, k⟩ := asr_iff.1 h
     clear h
     have h := k
     clear k
     try simp only [decide_eq_true_eq] at hg
     have g0 := hg; subst g0; exact h
   · exact h) (by
   intro n F H h
   unfold R_piece_Union_1 D_piece_Union_1 at h
   split at h
   · exact (body_piece_Union_1_0 ..).mpr h
   · obtain ⟨hg, k⟩ := asr_iff.1 h
     clear h
     have h := k
     clear k
     try simp only [decide_eq_true_eq] at hg
     have g0 := hg; subst g0; exact (body_piece_Union_1_1 ..).mpr h
   · exact h.elim)
 have h : D_piece_Union_1 F H _ _ := h
 unfold D_piece_Union_1 at h
 split at h
 · obtain ⟨n, h⟩ := h; exact go n _ _ h
 · obtain ⟨hg, n, h⟩ := asr_iff.1 h; exact go n _ _ (asr_iff.2 ⟨hg, h⟩)
 · exact h.elim
theorem se1_piece_Union : SEOk (S1_piece_Union w_piece_both w_piece_merged w_piece_few) := seOk_of ⟨(ok_piece_both ef0 effG0), ok_piece_merged, (ok_piece_few ef0 effG0), trivial⟩ ⟨⟨by kernel_rfl, by kernel_rfl, rfl, fun as => baseS_none (by kernel_rfl) as, effG0.num _ (by kernel_rfl), (LpOk_by (l := [(14451100, b_14451100), (14451101, b_14451101)]) ⟨loop_piece_Union_0, loop_piece_Union_1, trivial⟩ (by kernel_rfl))⟩, ⟨by kernel_rfl, by kernel_rfl, rfl, fun as => baseS_none (by kernel_rfl) as, effG0.num _ (by kernel_rfl), (LpOk_no (by kernel_rfl))⟩, trivial⟩ effG0.ok
theorem eq_piece_Union (a0 a1 a2 p0 p1 K) : WP (S1_piece_Union a0 a1 a2) 6 t_piece_Union [(.data p0), (.data p1)] K = wv_piece_Union a0 a1 a2 p0 p1 (fun r0 r1 => K (.tup [(.data r0), (.int .i64 r1)])) := by kernel_rfl
theorem ok_piece_Union : OkF (E ef0) wp_piece_Union n_piece_Union := by
 intro as K h
 unfold wp_piece_Union pw_piece_Union at h
 split at h
 · exact WP_ok (se1_piece_Union) (LpOk_no (by kernel_rfl)) (by kernel_rfl) (by kernel_rfl) (fun _ => baseS_none (by kernel_rfl) _) (effG0.num _ (by kernel_rfl)) ((eq_piece_Union ..).mpr h)
 · exact h.elim
abbrev T_piece_Meet : Type := List PV → List PV → (List PV → Int → Prop) → Prop
mutual
def L_piece_Meet_0_0 (a0 : T_piece_both) (a1 : T_piece_later) (a2 : T_piece_sooner) (a3 : T_piece_valid) (a4 : T_piece_order) (a5 : T_piece_few) (x0 : List PV → List PV → Int → Int → Bool → Prop) (x1 : List PV → List PV → List PV → Int → Int → Bool → Prop) : Nat → List PV → List PV → Int → Int → Prop
 | 0, _, _, _, _ => False
 | n + 1, l0, l1, i2, i3 =>
 (jn (fun (yj7 : Bool → Prop) =>
 (cbr (decide (i2 < (((List.length l0) : Nat) : Int)))
 (yj7 (decide (i3 < (((List.length l1) : Nat) : Int))))
 (yj7 false)))
 (fun yb6 => (cbr yb6
 (asr (decide ((0 : Int) ≤ i2))
 (asr (decide (i2 < (((List.length l0) : Nat) : Int)))
 (lt (List.getD l0 (i2.toNat) .nils) (fun yr16 =>
 (asr (conf (.agg [.i .i64, .i .i64, .i .i64, .i .i64]) yr16)
 (asr (decide ((0 : Int) ≤ i3))
 (asr (decide (i3 < (((List.length l1) : Nat) : Int)))
 (lt (List.getD l1 (i3.toNat) .nils) (fun yr17 =>
 (asr (conf (.agg [.i .i64, .i .i64, .i .i64, .i .i64]) yr17)
 (a1 (intOfV (cellAt yr16 0)) (intOfV (cellAt yr16 1)) (intOfV (cellAt yr17 0)) (intOfV (cellAt yr17 1)) (fun yi18 yi19 => 
 (asr (decide ((0 : Int) ≤ i2))
 (asr (decide (i2 < (((List.length l0) : Nat) : Int)))
 (lt (List.getD l0 (i2.toNat) .nils) (fun yr20 =>
 (asr (conf (.agg [.i .i64, .i .i64, .i .i64, .i .i64]) yr20)
 (asr (decide ((0 : Int) ≤ i3))
 (asr (decide (i3 < (((List.length l1) : Nat) : Int)))
 (lt (List.getD l1 (i3.toNat) .nils) (fun yr21 =>
 (asr (conf (.agg [.i .i64, .i .i64, .i .i64, .i .i64]) yr21)
 (a2 (intOfV (cellAt yr20 2)) (intOfV (cellAt yr20 3)) (intOfV (cellAt yr21 2)) (intOfV (cellAt yr21 3)) (fun yi22 yi23 => 
 (a3 yi18 yi19 yi22 yi23 (fun yb27 => 
 (cbr yb27
 (asr (decide ((0 : Int) ≤ i2))
 (asr (decide (i2 < (((List.length l0) : Nat) : Int)))
 (lt (List.getD l0 (i2.toNat) .nils) (fun yr31 =>
 (asr (conf (.agg [.i .i64, .i .i64, .i .i64, .i .i64]) yr31)
 (asr (decide ((0 : Int) ≤ i3))
 (asr (decide (i3 < (((List.length l1) : Nat) : Int)))
 (lt (List.getD l1 (i3.toNat) .nils) (fun yr32 =>
 (asr (conf (.agg [.i .i64, .i .i64, .i .i64, .i .i64]) yr32)
 (a4 (intOfV (cellAt yr31 2)) (intOfV (cellAt yr31 3)) (intOfV (cellAt yr32 2)) (intOfV (cellAt yr32 3)) (fun yi33 => 
 (cbr (decide (yi33 ≤ (0 : Int)))
 (lt (IntKind.i64.wrap (i2 + (1 : Int))) (fun yi34 =>
 (asr (decide (1 = List.length ([(.agg [(.int .i64 yi18), (.int .i64 yi19), (.int .i64 yi22), (.int .i64 yi23)])] : List PV)) && decide (1 = List.length ([(.agg [(.int .i64 yi18), (.int .i64 yi19), (.int .i64 yi22), (.int .i64 yi23)])] : List PV)))
 (L_piece_Meet_0_1 a0 a1 a2 a3 a4 a5 x0 x1 n ([(.agg [(.int .i64 yi18), (.int .i64 yi19), (.int .i64 yi22), (.int .i64 yi23)])] : List PV) l0 l1 yi34 i3))))
 (lt (IntKind.i64.wrap (i3 + (1 : Int))) (fun yi69 =>
 (asr (decide (1 = List.length ([(.agg [(.int .i64 yi18), (.int .i64 yi19), (.int .i64 yi22), (.int .i64 yi23)])] : List PV)) && decide (1 = List.length ([(.agg [(.int .i64 yi18), (.int .i64 yi19), (.int .i64 yi22), (.int .i64 yi23)])] : List PV)))
 (L_piece_Meet_0_1 a0 a1 a2 a3 a4 a5 x0 x1 n ([(.agg [(.int .i64 yi18), (.int .i64 yi19), (.int .i64 yi22), (.int .i64 yi23)])] : List PV) l0 l1 i2 yi69)))))))))))))))))
 (asr (decide ((0 : Int) ≤ i2))
 (asr (decide (i2 < (((List.length l0) : Nat) : Int)))
 (lt (List.getD l0 (i2.toNat) .nils) (fun yr73 =>
 (asr (conf (.agg [.i .i64, .i .i64, .i .i64, .i .i64]) yr73)
 (asr (decide ((0 : Int) ≤ i3))
 (asr (decide (i3 < (((List.length l1) : Nat) : Int)))
 (lt (List.getD l1 (i3.toNat) .nils) (fun yr74 =>
 (asr (conf (.agg [.i .i64, .i .i64, .i .i64, .i .i64]) yr74)
 (a4 (intOfV (cellAt yr73 2)) (intOfV (cellAt yr73 3)) (intOfV (cellAt yr74 2)) (intOfV (cellAt yr74 3)) (fun yi75 => 
 (cbr (decide (yi75 ≤ (0 : Int)))
 (lt (IntKind.i64.wrap (i2 + (1 : Int))) (fun yi76 =>
 (L_piece_Meet_0_0 a0 a1 a2 a3 a4 a5 x0 x1 n l0 l1 yi76 i3)))
 (lt (IntKind.i64.wrap (i3 + (1 : Int))) (fun yi77 =>
 (L_piece_Meet_0_0 a0 a1 a2 a3 a4 a5 x0 x1 n l0 l1 i2 yi77)))))))))))))))))))))))))))))))))))))))))))
 (x0 l0 l1 i2 i3 false))))
def L_piece_Meet_0_1 (a0 : T_piece_both) (a1 : T_piece_later) (a2 : T_piece_sooner) (a3 : T_piece_valid) (a4 : T_piece_order) (a5 : T_piece_few) (x0 : List PV → List PV → Int → Int → Bool → Prop) (x1 : List PV → List PV → List PV → Int → Int → Bool → Prop) : Nat → List PV → List PV → List PV → Int → Int → Prop
 | 0, _, _, _, _, _ => False
 | n + 1, l0, l1, l2, i5, i6 =>
 (jn (fun (yj38 : Bool → Prop) =>
 (cbr (decide (i5 < (((List.length l1) : Nat) : Int)))
 (yj38 (decide (i6 < (((List.length l2) : Nat) : Int))))
 (yj38 false)))
 (fun yb37 => (cbr yb37
 (asr (decide ((0 : Int) ≤ i5))
 (asr (decide (i5 < (((List.length l1) : Nat) : Int)))
 (lt (List.getD l1 (i5.toNat) .nils) (fun yr47 =>
 (asr (conf (.agg [.i .i64, .i .i64, .i .i64, .i .i64]) yr47)
 (asr (decide ((0 : Int) ≤ i6))
 (asr (decide (i6 < (((List.length l2) : Nat) : Int)))
 (lt (List.getD l2 (i6.toNat) .nils) (fun yr48 =>
 (asr (conf (.agg [.i .i64, .i .i64, .i .i64, .i .i64]) yr48)
 (a1 (intOfV (cellAt yr47 0)) (intOfV (cellAt yr47 1)) (intOfV (cellAt yr48 0)) (intOfV (cellAt yr48 1)) (fun yi49 yi50 => 
 (asr (decide ((0 : Int) ≤ i5))
 (asr (decide (i5 < (((List.length l1) : Nat) : Int)))
 (lt (List.getD l1 (i5.toNat) .nils) (fun yr51 =>
 (asr (conf (.agg [.i .i64, .i .i64, .i .i64, .i .i64]) yr51)
 (asr (decide ((0 : Int) ≤ i6))
 (asr (decide (i6 < (((List.length l2) : Nat) : Int)))
 (lt (List.getD l2 (i6.toNat) .nils) (fun yr52 =>
 (asr (conf (.agg [.i .i64, .i .i64, .i .i64, .i .i64]) yr52)
 (a2 (intOfV (cellAt yr51 2)) (intOfV (cellAt yr51 3)) (intOfV (cellAt yr52 2)) (intOfV (cellAt yr52 3)) (fun yi53 yi54 => 
 (jn (fun (yj58 : List PV → Prop) =>
 (a3 yi49 yi50 yi53 yi54 (fun yb68 => 
 (cbr yb68
 (asr (decide ((List.length l0) = (List.length l0)))
 (asr (decide ((0 + (List.length l0)) ≤ (List.length l0)))
 (asr (!(decide (((0 + (List.length l0)) + 1) ≤ (List.length l0))))
 (asr (decide ((List.length l0) = (List.length l0)))
 (asr (decide ((((List.length l0) + 1) + 64) * (32 + 1) ≤ room))
 (yj58 (l0 ++ ([(.agg [(.int .i64 yi49), (.int .i64 yi50), (.int .i64 yi53), (.int .i64 yi54)])] : List PV))))))))
 (yj58 l0)))))
 (fun yl57 => (asr (decide ((0 : Int) ≤ i5))
 (asr (decide (i5 < (((List.length l1) : Nat) : Int)))
 (lt (List.getD l1 (i5.toNat) .nils) (fun yr62 =>
 (asr (conf (.agg [.i .i64, .i .i64, .i .i64, .i .i64]) yr62)
 (asr (decide ((0 : Int) ≤ i6))
 (asr (decide (i6 < (((List.length l2) : Nat) : Int)))
 (lt (List.getD l2 (i6.toNat) .nils) (fun yr63 =>
 (asr (conf (.agg [.i .i64, .i .i64, .i .i64, .i .i64]) yr63)
 (a4 (intOfV (cellAt yr62 2)) (intOfV (cellAt yr62 3)) (intOfV (cellAt yr63 2)) (intOfV (cellAt yr63 3)) (fun yi64 => 
 (cbr (decide (yi64 ≤ (0 : Int)))
 (lt (IntKind.i64.wrap (i5 + (1 : Int))) (fun yi65 =>
 (asr (decide ((List.length yl57) = List.length yl57) && decide ((List.length yl57) = List.length yl57))
 (L_piece_Meet_0_1 a0 a1 a2 a3 a4 a5 x0 x1 n yl57 l1 l2 yi65 i6))))
 (lt (IntKind.i64.wrap (i6 + (1 : Int))) (fun yi66 =>
 (asr (decide ((List.length yl57) = List.length yl57) && decide ((List.length yl57) = List.length yl57))
 (L_piece_Meet_0_1 a0 a1 a2 a3 a4 a5 x0 x1 n yl57 l1 l2 i5 yi66)))))))))))))))))))))))))))))))))))))))))))
 (x1 l0 l1 l2 i5 i6 false))))
end
def wv_piece_Meet (a0 : T_piece_both) (a1 : T_piece_later) (a2 : T_piece_sooner) (a3 : T_piece_valid) (a4 : T_piece_order) (a5 : T_piece_few) (p0 p1 : List PV) (K : List PV → Int → Prop) : Prop :=
 (a0 p0 p1 (fun yi3 => 
 (cbr (yi3 != (0 : Int))
 (K ([] : List PV) yi3)
 (∃ n : Nat, L_piece_Meet_0_0 a0 a1 a2 a3 a4 a5
 (fun _ _ _ _ _ => (a5 ([] : List PV) (fun yl96 yi97 => 
 (K yl96 yi97))))
 (fun yl98 _ _ _ _ _ => (asr (decide ((List.length yl98) = (List.length yl98)))
 (asr (decide ((0 + (List.length yl98)) ≤ (List.length yl98)))
 (a5 (List.take (List.length yl98) yl98) (fun yl106 yi107 => 
 (K yl106 yi107))))))
 n p0 p1 (0 : Int) (0 : Int)))))
def w_piece_Meet (p0 p1 : List PV) (K : List PV → Int → Prop) : Prop := wv_piece_Meet w_piece_both w_piece_later w_piece_sooner w_piece_valid w_piece_order w_piece_few p0 p1 K
def pw_piece_Meet (w : T_piece_Meet) (as : List PV) (K : PV → Prop) : Prop :=
 match as with
 | [(.data p0), (.data p1)] => w p0 p1 (fun r0 r1 => K (.tup [(.data r0), (.int .i64 r1)]))
 | _ => False
def wp_piece_Meet (as : List PV) (K : PV → Prop) : Prop := pw_piece_Meet w_piece_Meet as K
def D_piece_Meet_0 (F : Frm) (H : Hp) (A0 : List PV → List PV → Int → Int → Prop) (A1 : List PV → List PV → List PV → Int → Int → Prop) : Prop :=
 match F, H with
 | [(0, .v (.data l0)), (1, .v (.data l1)), (7, .v .nils), (8, .v (.int .i64 i2)), (9, .v (.int .i64 i3))], [] => (A0 l0 l1 i2 i3)
 | [(0, .v (.data l1)), (1, .v (.data l2)), (7, .v (.own 0 0 t3 t4 none)), (8, .v (.int .i64 i5)), (9, .v (.int .i64 i6))], [⟨false, true, 4, l0⟩] => asr (decide (t3 = List.length l0) && decide (t4 = List.length l0)) (A1 l0 l1 l2 i5 i6)
 | _, _ => False
def X_piece_Meet_0_0 (Q : Ex → Frm → Hp → Prop) : List PV → List PV → Int → Int → Bool → Prop := (fun l0 l1 i2 i3 b4 => Q (.exit 0) [(0, .v (.data l0)), (1, .v (.data l1)), (7, .v .nils), (8, .v (.int .i64 i2)), (9, .v (.int .i64 i3)), (26, .v (.bool b4))] [])
def X_piece_Meet_0_1 (Q : Ex → Frm → Hp → Prop) : List PV → List PV → List PV → Int → Int → Bool → Prop := (fun l0 l1 l2 i5 i6 b7 => Q (.exit 0) [(0, .v (.data l1)), (1, .v (.data l2)), (7, .v (.own 0 0 (List.length l0) (List.length l0) none)), (8, .v (.int .i64 i5)), (9, .v (.int .i64 i6)), (26, .v (.bool b7))] [⟨false, true, 4, l0⟩])
def R_piece_Meet_0 (a0 : T_piece_both) (a1 : T_piece_later) (a2 : T_piece_sooner) (a3 : T_piece_valid) (a4 : T_piece_order) (a5 : T_piece_few) (Q : Ex → Frm → Hp → Prop) (n : Nat) (F : Frm) (H : Hp) : Prop := D_piece_Meet_0 F H (fun l0 l1 i2 i3 => L_piece_Meet_0_0 a0 a1 a2 a3 a4 a5 (X_piece_Meet_0_0 Q) (X_piece_Meet_0_1 Q) n l0 l1 i2 i3) (fun l0 l1 l2 i5 i6 => L_piece_Meet_0_1 a0 a1 a2 a3 a4 a5 (X_piece_Meet_0_0 Q) (X_piece_Meet_0_1 Q) n l0 l1 l2 i5 i6)
def lp_piece_Meet (a0 : T_piece_both) (a1 : T_piece_later) (a2 : T_piece_sooner) (a3 : T_piece_valid) (a4 : T_piece_order) (a5 : T_piece_few) : LP := fun id F H Q =>
 bif Nat.beq id 48457700 then D_piece_Meet_0 F H (fun l0 l1 i2 i3 => ∃ n : Nat, L_piece_Meet_0_0 a0 a1 a2 a3 a4 a5 (X_piece_Meet_0_0 Q) (X_piece_Meet_0_1 Q) n l0 l1 i2 i3) (fun l0 l1 l2 i5 i6 => ∃ n : Nat, L_piece_Meet_0_1 a0 a1 a2 a3 a4 a5 (X_piece_Meet_0_0 Q) (X_piece_Meet_0_1 Q) n l0 l1 l2 i5 i6) else
 False
def S0_piece_Meet (e : List (Nat × EffF)) (a0 : T_piece_both) (a1 : T_piece_later) (a2 : T_piece_sooner) (a3 : T_piece_valid) (a4 : T_piece_order) (a5 : T_piece_few) : SE := ⟨(E e), lookS [(n_piece_both, pw_piece_both a0), (n_piece_later, pw_piece_later a1), (n_piece_sooner, pw_piece_sooner a2), (n_piece_valid, pw_piece_valid a3), (n_piece_order, pw_piece_order a4), (n_piece_few, pw_piece_few a5)], lookI [], lp_piece_Meet a0 a1 a2 a3 a4 a5⟩
theorem se0_piece_Meet (e : List (Nat × EffF)) (he : EG e) : SEOk (S0_piece_Meet e w_piece_both w_piece_later w_piece_sooner w_piece_valid w_piece_order w_piece_few) := seOk_of ⟨(ok_piece_both e he), (ok_piece_later e he), (ok_piece_sooner e he), (ok_piece_valid e he), (ok_piece_order e he), (ok_piece_few e he), trivial⟩ trivial he.ok
theorem body_piece_Meet_0_0 (e : List (Nat × EffF)) (a0 a1 a2 a3 a4 a5 Q n l0 l1 i2 i3) : WC (E e) (callW (S0_piece_Meet e a0 a1 a2 a3 a4 a5) 5) (lp_piece_Meet a0 a1 a2 a3 a4 a5) b_48457700 [(0, .v (.data l0)), (1, .v (.data l1)), (7, .v .nils), (8, .v (.int .i64 i2)), (9, .v (.int .i64 i3))] [] (fun x F' H' => match x with | .norm => R_piece_Meet_0 a0 a1 a2 a3 a4 a5 Q n F' H' | .exit i => Q (.exit i) F' H' | .ret => Q .ret F' H') = L_piece_Meet_0_0 a0 a1 a2 a3 a4 a5 (X_piece_Meet_0_0 Q) (X_piece_Meet_0_1 Q) (n + 1) l0 l1 i2 i3 := by kernel_rfl
theorem body_piece_Meet_0_1 (e : List (Nat × EffF)) (a0 a1 a2 a3 a4 a5 Q n l0 l1 l2 i5 i6) : WC (E e) (callW (S0_piece_Meet e a0 a1 a2 a3 a4 a5) 5) (lp_piece_Meet a0 a1 a2 a3 a4 a5) b_48457700 [(0, .v (.data l1)), (1, .v (.data l2)), (7, .v (.own 0 0 (List.length l0) (List.length l0) none)), (8, .v (.int .i64 i5)), (9, .v (.int .i64 i6))] [⟨false, true, 4, l0⟩] (fun x F' H' => match x with | .norm => R_piece_Meet_0 a0 a1 a2 a3 a4 a5 Q n F' H' | .exit i => Q (.exit i) F' H' | .ret => Q .ret F' H') = L_piece_Meet_0_1 a0 a1 a2 a3 a4 a5 (X_piece_Meet_0_0 Q) (X_piece_Meet_0_1 Q) (n + 1) l0 l1 l2 i5 i6 := by kernel_rfl
theorem lpb_piece_Meet_0 (e : List (Nat × EffF)) (_ : EG e) : LpOk (E e) (lp_piece_Meet w_piece_both w_piece_later w_piece_sooner w_piece_valid w_piece_order w_piece_few) b_48457700 := (LpOk_no (by kernel_rfl))
theorem loop_piece_Meet_0 (e : List (Nat × EffF)) (he : EG e) : ∀ F H Q, lp_piece_Meet w_piece_both w_piece_later w_piece_sooner w_piece_valid w_piece_order w_piece_few 48457700 F H Q → LoopT (E e) b_48457700 F H Q := by
 intro F H Q h
 have go := LoopT.intro (callW_ok (se0_piece_Meet e he) 5) (lpb_piece_Meet_0 e he) (R_piece_Meet_0 w_piece_both w_piece_later w_piece_sooner w_piece_valid w_piece_order w_piece_few Q) (by
   intro F H h
   unfold R_piece_Meet_0 D_piece_Meet_0 at h
   split at h
   · exact h
   · obtain ⟨hg, k⟩ := asr_iff.1 h
     clear h
     have h := k
     clear k
     try simp only [Bool.and_eq_true, decide_eq_true_eq] at hg
     obtain ⟨g0, g1⟩ := hg; subst g0; subst g1; exact h
   · exact h) (by
   intro n F H h
   unfold R_piece_Meet_0 D_piece_Meet_0 at h
   split at h
   · exact (body_piece_Meet_0_0 ..).mpr h
   · obtain ⟨hg, k⟩ := asr_iff.1 h
     clear h
     have h := k
     clear k
     try simp only [Bool.and_eq_true, decide_eq_true_eq] at hg
     obtain ⟨g0, g1⟩ := hg; subst g0; subst g1; exact (body_piece_Meet_0_1 ..).mpr h
   · exact h.elim)
 have h : D_piece_Meet_0 F H _ _ := h
 unfold D_piece_Meet_0 at h
 split at h
 · obtain ⟨n, h⟩ := h; exact go n _ _ h
 · obtain ⟨hg, n, h⟩ := asr_iff.1 h; exact go n _ _ (asr_iff.2 ⟨hg, h⟩)
 · exact h.elim
theorem eq_piece_Meet (e : List (Nat × EffF)) (a0 a1 a2 a3 a4 a5 p0 p1 K) : WP (S0_piece_Meet e a0 a1 a2 a3 a4 a5) 6 t_piece_Meet [(.data p0), (.data p1)] K = wv_piece_Meet a0 a1 a2 a3 a4 a5 p0 p1 (fun r0 r1 => K (.tup [(.data r0), (.int .i64 r1)])) := by kernel_rfl
theorem ok_piece_Meet (e : List (Nat × EffF)) (he : EG e) : OkF (E e) wp_piece_Meet n_piece_Meet := by
 intro as K h
 unfold wp_piece_Meet pw_piece_Meet at h
 split at h
 · exact WP_ok (se0_piece_Meet e he) (LpOk_by (l := [(48457700, b_48457700)]) ⟨loop_piece_Meet_0 e he, trivial⟩ (by kernel_rfl)) (by kernel_rfl) (by kernel_rfl) (fun _ => baseS_none (by kernel_rfl) _) (he.num _ (by kernel_rfl)) ((eq_piece_Meet ..).mpr h)
 · exact h.elim
abbrev T_piece_Worth : Type := Int → List PV → List PV → List PV → (Int → Int → Int → Prop) → Prop
def L_piece_Worth_0_0 (a0 : T_cake_Check) (a1 : T_piece_Check) (a2 : T_piece_order) (a3 : T_cake_Value) (a4 : T_ratio_Add) (x0 : Int → List PV → List PV → Int → Int → Int → Int → List PV → Int → Int → Bool → Prop) (x1 : Int → List PV → List PV → Int → Int → Int → Prop) : Nat → Int → List PV → List PV → Int → Int → Int → Int → List PV → Int → Int → Prop
 | 0, _, _, _, _, _, _, _, _, _, _ => False
 | n + 1, i0, l1, l2, i3, i4, i5, i6, l7, i8, i9 =>
 (cbr (decide (i9 < i8))
 (asr (decide ((0 : Int) ≤ i9))
 (asr (decide (i9 < (((List.length l7) : Nat) : Int)))
 (lt (List.getD l7 (i9.toNat) .nils) (fun yr57 =>
 (asr (conf (.agg [.i .i64, .i .i64, .i .i64, .i .i64]) yr57)
 (a3 i0 l1 l2 (intOfV (cellAt yr57 0)) (intOfV (cellAt yr57 1)) (intOfV (cellAt yr57 2)) (intOfV (cellAt yr57 3)) (fun yi79 yi80 yi81 => 
 (cbr (yi81 != (0 : Int))
 (x1 i0 l1 l2 (0 : Int) (0 : Int) yi81)
 (a4 i5 i6 yi79 yi80 (fun yi85 yi86 yi87 => 
 (cbr (yi87 != (0 : Int))
 (x1 i0 l1 l2 (0 : Int) (0 : Int) yi87)
 (lt (IntKind.i64.wrap (i9 + (1 : Int))) (fun yi88 =>
 (L_piece_Worth_0_0 a0 a1 a2 a3 a4 x0 x1 n i0 l1 l2 i3 i4 yi85 yi86 l7 i8 yi88))))))))))))))
 (x0 i0 l1 l2 i3 i4 i5 i6 l7 i8 i9 false))
def wv_piece_Worth (a0 : T_cake_Check) (a1 : T_piece_Check) (a2 : T_piece_order) (a3 : T_cake_Value) (a4 : T_ratio_Add) (p0 : Int) (p1 p2 p3 : List PV) (K : Int → Int → Int → Prop) : Prop :=
 (a0 p0 p1 p2 (fun yi3 => 
 (cbr (yi3 != (0 : Int))
 (K (0 : Int) (0 : Int) yi3)
 (a1 p3 (fun yi7 => 
 (cbr (yi7 != (0 : Int))
 (K (0 : Int) (0 : Int) yi7)
 (jn (fun (yj23 : Bool → Prop) =>
 (cbr (decide ((((List.length p3) : Nat) : Int) > (0 : Int)))
 (asr (decide ((0 : Int) < (((List.length p3) : Nat) : Int)))
 (lt (List.getD p3 0 .nils) (fun yr239 =>
 (asr (conf (.agg [.i .i64, .i .i64, .i .i64, .i .i64]) yr239)
 (cbr (decide ((intOfV (cellAt yr239 0)) < (0 : Int)))
 (yj23 true)
 (lt (IntKind.i64.wrap ((((List.length p3) : Nat) : Int) - (1 : Int))) (fun yi240 =>
 (asr (decide ((0 : Int) ≤ yi240))
 (asr (decide (yi240 < (((List.length p3) : Nat) : Int)))
 (lt (List.getD p3 (yi240.toNat) .nils) (fun yr241 =>
 (asr (conf (.agg [.i .i64, .i .i64, .i .i64, .i .i64]) yr241)
 (a2 (intOfV (cellAt yr241 2)) (intOfV (cellAt yr241 3)) p0 (1 : Int) (fun yi242 => 
 (yj23 (decide (yi242 > (0 : Int))))))))))))))))))
 (yj23 false)))
 (fun yb22 => (cbr yb22
 (K (0 : Int) (0 : Int) (2 : Int))
 (jn (fun (yj204 : Int → List PV → List PV → Int → Int → Int → Prop) =>
 (∃ n : Nat, L_piece_Worth_0_0 a0 a1 a2 a3 a4
 (fun yi222 yl223 yl224 _ _ yi227 yi228 _ _ _ _ => (yj204 yi222 yl223 yl224 yi227 yi228 (0 : Int)))
 (fun yi233 yl234 yl235 yi236 yi237 yi238 => (yj204 yi233 yl234 yl235 yi236 yi237 yi238))
 n p0 p1 p2 (0 : Int) (0 : Int) (0 : Int) (1 : Int) p3 (((List.length p3) : Nat) : Int) (0 : Int)))
 (fun _ _ _ yi201 yi202 yi203 => (K yi201 yi202 yi203))))))))))))
def w_piece_Worth (p0 : Int) (p1 p2 p3 : List PV) (K : Int → Int → Int → Prop) : Prop := wv_piece_Worth w_cake_Check w_piece_Check w_piece_order w_cake_Value w_ratio_Add p0 p1 p2 p3 K
def pw_piece_Worth (w : T_piece_Worth) (as : List PV) (K : PV → Prop) : Prop :=
 match as with
 | [(.agg [(.int .i64 p0), (.data p1), (.data p2)]), (.data p3)] => w p0 p1 p2 p3 (fun r0 r1 r2 => K (.tup [(.agg [(.int .i64 r0), (.int .i64 r1)]), (.int .i64 r2)]))
 | _ => False
def wp_piece_Worth (as : List PV) (K : PV → Prop) : Prop := pw_piece_Worth w_piece_Worth as K
def D_piece_Worth_0 (F : Frm) (H : Hp) (A0 : Int → List PV → List PV → Int → Int → Int → Int → List PV → Int → Int → Prop) : Prop :=
 match F, H with
 | [(1, .v (.fn (.func q0) [] [(.ptr 0 1 0 0)])), (4, .box (.agg [(.int .i64 i3), (.int .i64 i4)])), (6, .box (.agg [(.int .i64 i5), (.int .i64 i6)])), (12, .v (.data l7)), (13, .v (.int .i64 i8)), (14, .v (.int .i64 i9))], [⟨false, true, 3, [(.agg [(.int .i64 i0), (.data l1), (.data l2)])]⟩] => asr (Nat.beq q0 n_piece_Worth_1) (A0 i0 l1 l2 i3 i4 i5 i6 l7 i8 i9)
 | _, _ => False
def X_piece_Worth_0_0 (Q : Ex → Frm → Hp → Prop) : Int → List PV → List PV → Int → Int → Int → Int → List PV → Int → Int → Bool → Prop := (fun i0 l1 l2 i3 i4 i5 i6 l7 i8 i9 b10 => Q (.exit 0) [(1, .v (.fn (.func n_piece_Worth_1) [] [(.ptr 0 1 0 0)])), (4, .box (.agg [(.int .i64 i3), (.int .i64 i4)])), (6, .box (.agg [(.int .i64 i5), (.int .i64 i6)])), (12, .v (.data l7)), (13, .v (.int .i64 i8)), (14, .v (.int .i64 i9)), (15, .v (.bool b10))] [⟨false, true, 3, ([(.agg [(.int .i64 i0), (.data l1), (.data l2)])] : List PV)⟩])
def X_piece_Worth_0_1 (Q : Ex → Frm → Hp → Prop) : Int → List PV → List PV → Int → Int → Int → Prop := (fun i0 l1 l2 i3 i4 i5 => Q .ret [(4, .box (.agg [(.int .i64 i3), (.int .i64 i4)])), (5, .v (.int .i64 i5))] [⟨false, true, 3, ([(.agg [(.int .i64 i0), (.data l1), (.data l2)])] : List PV)⟩])
def R_piece_Worth_0 (a0 : T_cake_Check) (a1 : T_piece_Check) (a2 : T_piece_order) (a3 : T_cake_Value) (a4 : T_ratio_Add) (Q : Ex → Frm → Hp → Prop) (n : Nat) (F : Frm) (H : Hp) : Prop := D_piece_Worth_0 F H (fun i0 l1 l2 i3 i4 i5 i6 l7 i8 i9 => L_piece_Worth_0_0 a0 a1 a2 a3 a4 (X_piece_Worth_0_0 Q) (X_piece_Worth_0_1 Q) n i0 l1 l2 i3 i4 i5 i6 l7 i8 i9)
def lp_piece_Worth (a0 : T_cake_Check) (a1 : T_piece_Check) (a2 : T_piece_order) (a3 : T_cake_Value) (a4 : T_ratio_Add) : LP := fun id F H Q =>
 bif Nat.beq id 87165700 then D_piece_Worth_0 F H (fun i0 l1 l2 i3 i4 i5 i6 l7 i8 i9 => ∃ n : Nat, L_piece_Worth_0_0 a0 a1 a2 a3 a4 (X_piece_Worth_0_0 Q) (X_piece_Worth_0_1 Q) n i0 l1 l2 i3 i4 i5 i6 l7 i8 i9) else
 False
def S0_piece_Worth (e : List (Nat × EffF)) (a0 : T_cake_Check) (a1 : T_piece_Check) (a2 : T_piece_order) (a3 : T_cake_Value) (a4 : T_ratio_Add) : SE := ⟨(E e), lookS [(n_cake_Check, pw_cake_Check a0), (n_piece_Check, pw_piece_Check a1), (n_piece_order, pw_piece_order a2), (n_cake_Value, pw_cake_Value a3), (n_ratio_Add, pw_ratio_Add a4)], lookI [(n_piece_Worth_1, t_piece_Worth_1)], lp_piece_Worth a0 a1 a2 a3 a4⟩
def S1_piece_Worth (e : List (Nat × EffF)) (a0 : T_cake_Check) (a1 : T_piece_Check) (a2 : T_piece_order) (a3 : T_cake_Value) (a4 : T_ratio_Add) : SE := ⟨(E e), lookS [(n_cake_Check, pw_cake_Check a0), (n_piece_Check, pw_piece_Check a1), (n_piece_order, pw_piece_order a2), (n_cake_Value, pw_cake_Value a3), (n_ratio_Add, pw_ratio_Add a4)], lookI [(n_piece_sum, t_piece_sum), (n_piece_Worth_1, t_piece_Worth_1)], lp_piece_Worth a0 a1 a2 a3 a4⟩
theorem se0_piece_Worth (e : List (Nat × EffF)) (he : EG e) : SEOk (S0_piece_Worth e w_cake_Check w_piece_Check w_piece_order w_cake_Value w_ratio_Add) := seOk_of ⟨(ok_cake_Check e he), (ok_piece_Check e he), (ok_piece_order e he), (ok_cake_Value e he), (ok_ratio_Add e he), trivial⟩ ⟨⟨by kernel_rfl, by kernel_rfl, rfl, fun as => baseS_none (by kernel_rfl) as, he.num _ (by kernel_rfl), (LpOk_no (by kernel_rfl))⟩, trivial⟩ he.ok
theorem body_piece_Worth_0_0 (e : List (Nat × EffF)) (a0 a1 a2 a3 a4 Q n i0 l1 l2 i3 i4 i5 i6 l7 i8 i9) : WC (E e) (callW (S0_piece_Worth e a0 a1 a2 a3 a4) 5) (lp_piece_Worth a0 a1 a2 a3 a4) b_87165700 [(1, .v (.fn (.func n_piece_Worth_1) [] [(.ptr 0 1 0 0)])), (4, .box (.agg [(.int .i64 i3), (.int .i64 i4)])), (6, .box (.agg [(.int .i64 i5), (.int .i64 i6)])), (12, .v (.data l7)), (13, .v (.int .i64 i8)), (14, .v (.int .i64 i9))] [⟨false, true, 3, ([(.agg [(.int .i64 i0), (.data l1), (.data l2)])] : List PV)⟩] (fun x F' H' => match x with | .norm => R_piece_Worth_0 a0 a1 a2 a3 a4 Q n F' H' | .exit i => Q (.exit i) F' H' | .ret => Q .ret F' H') = L_piece_Worth_0_0 a0 a1 a2 a3 a4 (X_piece_Worth_0_0 Q) (X_piece_Worth_0_1 Q) (n + 1) i0 l1 l2 i3 i4 i5 i6 l7 i8 i9 := by kernel_rfl
theorem lpb_piece_Worth_0 (e : List (Nat × EffF)) (_ : EG e) : LpOk (E e) (lp_piece_Worth w_cake_Check w_piece_Check w_piece_order w_cake_Value w_ratio_Add) b_87165700 := (LpOk_no (by kernel_rfl))
theorem loop_piece_Worth_0 (e : List (Nat × EffF)) (he : EG e) : ∀ F H Q, lp_piece_Worth w_cake_Check w_piece_Check w_piece_order w_cake_Value w_ratio_Add 87165700 F H Q → LoopT (E e) b_87165700 F H Q := by
 intro F H Q h
 have go := LoopT.intro (callW_ok (se0_piece_Worth e he) 5) (lpb_piece_Worth_0 e he) (R_piece_Worth_0 w_cake_Check w_piece_Check w_piece_order w_cake_Value w_ratio_Add Q) (by
   intro F H h
   unfold R_piece_Worth_0 D_piece_Worth_0 at h
   split at h
   · obtain ⟨hg, k⟩ := asr_iff.1 h
     clear h
     have h := k
     clear k
     try simp only [Bool.and_eq_true, decide_eq_true_eq] at hg
     have g0 := hg; have g0 := Nat.eq_of_beq_eq_true g0; subst g0; exact h
   · exact h) (by
   intro n F H h
   unfold R_piece_Worth_0 D_piece_Worth_0 at h
   split at h
   · obtain ⟨hg, k⟩ := asr_iff.1 h
     clear h
     have h := k
     clear k
     try simp only [Bool.and_eq_true, decide_eq_true_eq] at hg
     have g0 := hg; have g0 := Nat.eq_of_beq_eq_true g0; subst g0; exact (body_piece_Worth_0_0 ..).mpr h
   · exact h.elim)
 have h : D_piece_Worth_0 F H _ := h
 unfold D_piece_Worth_0 at h
 split at h
 · obtain ⟨hg, n, h⟩ := asr_iff.1 h; exact go n _ _ (asr_iff.2 ⟨hg, h⟩)
 · exact h.elim
theorem se1_piece_Worth (e : List (Nat × EffF)) (he : EG e) : SEOk (S1_piece_Worth e w_cake_Check w_piece_Check w_piece_order w_cake_Value w_ratio_Add) := seOk_of ⟨(ok_cake_Check e he), (ok_piece_Check e he), (ok_piece_order e he), (ok_cake_Value e he), (ok_ratio_Add e he), trivial⟩ ⟨⟨by kernel_rfl, by kernel_rfl, rfl, fun as => baseS_none (by kernel_rfl) as, he.num _ (by kernel_rfl), (LpOk_by (l := [(87165700, b_87165700)]) ⟨loop_piece_Worth_0 e he, trivial⟩ (by kernel_rfl))⟩, ⟨by kernel_rfl, by kernel_rfl, rfl, fun as => baseS_none (by kernel_rfl) as, he.num _ (by kernel_rfl), (LpOk_no (by kernel_rfl))⟩, trivial⟩ he.ok
theorem eq_piece_Worth (e : List (Nat × EffF)) (a0 a1 a2 a3 a4 p0 p1 p2 p3 K) : WP (S1_piece_Worth e a0 a1 a2 a3 a4) 6 t_piece_Worth [(.agg [(.int .i64 p0), (.data p1), (.data p2)]), (.data p3)] K = wv_piece_Worth a0 a1 a2 a3 a4 p0 p1 p2 p3 (fun r0 r1 r2 => K (.tup [(.agg [(.int .i64 r0), (.int .i64 r1)]), (.int .i64 r2)])) := by kernel_rfl
theorem ok_piece_Worth (e : List (Nat × EffF)) (he : EG e) : OkF (E e) wp_piece_Worth n_piece_Worth := by
 intro as K h
 unfold wp_piece_Worth pw_piece_Worth at h
 split at h
 · exact WP_ok (se1_piece_Worth e he) (LpOk_no (by kernel_rfl)) (by kernel_rfl) (by kernel_rfl) (fun _ => baseS_none (by kernel_rfl) _) (he.num _ (by kernel_rfl)) ((eq_piece_Worth ..).mpr h)
 · exact h.elim
end Go.Pf.Vc
namespace Go.Pf.Vc
open Go Go.Pf
set_option linter.unusedVariables false
theorem det_piece_valid (p0 : Int) (p1 : Int) (p2 : Int) (p3 : Int) (r0 : Bool) (h : ∀ K : Bool → Prop, K r0 → w_piece_valid p0 p1 p2 p3 K) (K : Bool → Prop) : w_piece_valid p0 p1 p2 p3 K = K r0 :=
 propext ⟨fun k => detC (ok_piece_valid [] effG_nil) (as := [(.agg [(.int .i64 p0), (.int .i64 p1), (.int .i64 p2), (.int .i64 p3)])]) (x := (.bool r0)) (fun K' k' => h (fun r0 => K' (.bool r0)) k') (K := fun x => match x with | (.bool r0) => K r0 | _ => False) k, h K⟩
theorem det_piece_all (p0 : List PV) (r0 : Int) (h : ∀ K : Int → Prop, K r0 → w_piece_all p0 K) (K : Int → Prop) : w_piece_all p0 K = K r0 :=
 propext ⟨fun k => detC (ok_piece_all [] effG_nil) (as := [(.data p0)]) (x := (.int .i64 r0)) (fun K' k' => h (fun r0 => K' (.int .i64 r0)) k') (K := fun x => match x with | (.int .i64 r0) => K r0 | _ => False) k, h K⟩
theorem det_piece_merged (p0 : List PV) (r0 : List PV) (h : ∀ K : List PV → Prop, K r0 → w_piece_merged p0 K) (K : List PV → Prop) : w_piece_merged p0 K = K r0 :=
 propext ⟨fun k => detC ok_piece_merged (as := [(.data p0)]) (x := (.data r0)) (fun K' k' => h (fun r0 => K' (.data r0)) k') (K := fun x => match x with | (.data r0) => K r0 | _ => False) k, h K⟩
theorem det_piece_Check (p0 : List PV) (r0 : Int) (h : ∀ K : Int → Prop, K r0 → w_piece_Check p0 K) (K : Int → Prop) : w_piece_Check p0 K = K r0 :=
 propext ⟨fun k => detC (ok_piece_Check [] effG_nil) (as := [(.data p0)]) (x := (.int .i64 r0)) (fun K' k' => h (fun r0 => K' (.int .i64 r0)) k') (K := fun x => match x with | (.int .i64 r0) => K r0 | _ => False) k, h K⟩
theorem det_piece_Has (p0 : List PV) (p1 : Int) (p2 : Int) (r0 : Bool) (r1 : Int) (h : ∀ K : Bool → Int → Prop, K r0 r1 → w_piece_Has p0 p1 p2 K) (K : Bool → Int → Prop) : w_piece_Has p0 p1 p2 K = K r0 r1 :=
 propext ⟨fun k => detC (ok_piece_Has [] effG_nil) (as := [(.data p0), (.agg [(.int .i64 p1), (.int .i64 p2)])]) (x := (.tup [(.bool r0), (.int .i64 r1)])) (fun K' k' => h (fun r0 r1 => K' (.tup [(.bool r0), (.int .i64 r1)])) k') (K := fun x => match x with | (.tup [(.bool r0), (.int .i64 r1)]) => K r0 r1 | _ => False) k, h K⟩
theorem det_piece_Minus (p0 : List PV) (p1 : List PV) (r0 : List PV) (r1 : Int) (h : ∀ K : List PV → Int → Prop, K r0 r1 → w_piece_Minus p0 p1 K) (K : List PV → Int → Prop) : w_piece_Minus p0 p1 K = K r0 r1 :=
 propext ⟨fun k => detC (ok_piece_Minus [] effG_nil) (as := [(.data p0), (.data p1)]) (x := (.tup [(.data r0), (.int .i64 r1)])) (fun K' k' => h (fun r0 r1 => K' (.tup [(.data r0), (.int .i64 r1)])) k') (K := fun x => match x with | (.tup [(.data r0), (.int .i64 r1)]) => K r0 r1 | _ => False) k, h K⟩
theorem det_piece_Length (p0 : List PV) (r0 : Int) (r1 : Int) (r2 : Int) (h : ∀ K : Int → Int → Int → Prop, K r0 r1 r2 → w_piece_Length p0 K) (K : Int → Int → Int → Prop) : w_piece_Length p0 K = K r0 r1 r2 :=
 propext ⟨fun k => detC (ok_piece_Length [] effG_nil) (as := [(.data p0)]) (x := (.tup [(.agg [(.int .i64 r0), (.int .i64 r1)]), (.int .i64 r2)])) (fun K' k' => h (fun r0 r1 r2 => K' (.tup [(.agg [(.int .i64 r0), (.int .i64 r1)]), (.int .i64 r2)])) k') (K := fun x => match x with | (.tup [(.agg [(.int .i64 r0), (.int .i64 r1)]), (.int .i64 r2)]) => K r0 r1 r2 | _ => False) k, h K⟩
theorem det_piece_Cut (p0 : List PV) (p1 : Int) (p2 : Int) (r0 : List PV) (r1 : List PV) (r2 : Int) (h : ∀ K : List PV → List PV → Int → Prop, K r0 r1 r2 → w_piece_Cut p0 p1 p2 K) (K : List PV → List PV → Int → Prop) : w_piece_Cut p0 p1 p2 K = K r0 r1 r2 :=
 propext ⟨fun k => detC (ok_piece_Cut [] effG_nil) (as := [(.data p0), (.agg [(.int .i64 p1), (.int .i64 p2)])]) (x := (.tup [(.data r0), (.data r1), (.int .i64 r2)])) (fun K' k' => h (fun r0 r1 r2 => K' (.tup [(.data r0), (.data r1), (.int .i64 r2)])) k') (K := fun x => match x with | (.tup [(.data r0), (.data r1), (.int .i64 r2)]) => K r0 r1 r2 | _ => False) k, h K⟩
theorem det_piece_Union (p0 : List PV) (p1 : List PV) (r0 : List PV) (r1 : Int) (h : ∀ K : List PV → Int → Prop, K r0 r1 → w_piece_Union p0 p1 K) (K : List PV → Int → Prop) : w_piece_Union p0 p1 K = K r0 r1 :=
 propext ⟨fun k => detC ok_piece_Union (as := [(.data p0), (.data p1)]) (x := (.tup [(.data r0), (.int .i64 r1)])) (fun K' k' => h (fun r0 r1 => K' (.tup [(.data r0), (.int .i64 r1)])) k') (K := fun x => match x with | (.tup [(.data r0), (.int .i64 r1)]) => K r0 r1 | _ => False) k, h K⟩
theorem det_piece_Meet (p0 : List PV) (p1 : List PV) (r0 : List PV) (r1 : Int) (h : ∀ K : List PV → Int → Prop, K r0 r1 → w_piece_Meet p0 p1 K) (K : List PV → Int → Prop) : w_piece_Meet p0 p1 K = K r0 r1 :=
 propext ⟨fun k => detC (ok_piece_Meet [] effG_nil) (as := [(.data p0), (.data p1)]) (x := (.tup [(.data r0), (.int .i64 r1)])) (fun K' k' => h (fun r0 r1 => K' (.tup [(.data r0), (.int .i64 r1)])) k') (K := fun x => match x with | (.tup [(.data r0), (.int .i64 r1)]) => K r0 r1 | _ => False) k, h K⟩
theorem det_piece_Worth (p0 : Int) (p1 : List PV) (p2 : List PV) (p3 : List PV) (r0 : Int) (r1 : Int) (r2 : Int) (h : ∀ K : Int → Int → Int → Prop, K r0 r1 r2 → w_piece_Worth p0 p1 p2 p3 K) (K : Int → Int → Int → Prop) : w_piece_Worth p0 p1 p2 p3 K = K r0 r1 r2 :=
 propext ⟨fun k => detC (ok_piece_Worth [] effG_nil) (as := [(.agg [(.int .i64 p0), (.data p1), (.data p2)]), (.data p3)]) (x := (.tup [(.agg [(.int .i64 r0), (.int .i64 r1)]), (.int .i64 r2)])) (fun K' k' => h (fun r0 r1 r2 => K' (.tup [(.agg [(.int .i64 r0), (.int .i64 r1)]), (.int .i64 r2)])) k') (K := fun x => match x with | (.tup [(.agg [(.int .i64 r0), (.int .i64 r1)]), (.int .i64 r2)]) => K r0 r1 r2 | _ => False) k, h K⟩
end Go.Pf.Vc
namespace Go.Pf.Vc
open Go Go.Pf
set_option maxRecDepth 100000
abbrev T_r01_abs : Type := Int → (Int → Prop) → Prop
def wv_r01_abs (p0 : Int) (K : Int → Prop) : Prop :=
 (cbr (decide (p0 < (0 : Int)))
 (K (IntKind.u64.wrap ((IntKind.u64.wrap (IntKind.i64.wrap ((0 : Int) - (IntKind.i64.wrap (p0 + (1 : Int)))))) + (1 : Int))))
 (K (IntKind.u64.wrap p0)))
def w_r01_abs (p0 : Int) (K : Int → Prop) : Prop := wv_r01_abs p0 K
def pw_r01_abs (w : T_r01_abs) (as : List PV) (K : PV → Prop) : Prop :=
 match as with
 | [(.int .i64 p0)] => w p0 (fun r0 => K (.int .u64 r0))
 | _ => False
def wp_r01_abs (as : List PV) (K : PV → Prop) : Prop := pw_r01_abs w_r01_abs as K
def lp_r01_abs : LP := fun _ _ _ _ =>
 False
def S0_r01_abs (e : List (Nat × EffF)) : SE := ⟨(E e), lookS [], lookI [], lp_r01_abs⟩
theorem se0_r01_abs (e : List (Nat × EffF)) (he : EG e) : SEOk (S0_r01_abs e) := seOk_of trivial trivial he.ok
theorem eq_r01_abs (e : List (Nat × EffF)) ( p0 K) : WP (S0_r01_abs e) 6 t_r01_abs [(.int .i64 p0)] K = wv_r01_abs p0 (fun r0 => K (.int .u64 r0)) := by kernel_rfl
theorem ok_r01_abs (e : List (Nat × EffF)) (he : EG e) : OkF (E e) wp_r01_abs n_r01_abs := by
 intro as K h
 unfold wp_r01_abs pw_r01_abs at h
 split at h
 · exact WP_ok (se0_r01_abs e he) (LpOk_no (by kernel_rfl)) (by kernel_rfl) (by kernel_rfl) (fun _ => baseS_none (by kernel_rfl) _) (he.num _ (by kernel_rfl)) ((eq_r01_abs ..).mpr h)
 · exact h.elim
abbrev T_r01_gcd : Type := Int → Int → (Int → Prop) → Prop
def L_r01_gcd_0_0 (x0 : Int → Int → Bool → Prop) : Nat → Int → Int → Prop
 | 0, _, _ => False
 | n + 1, i0, i1 =>
 (cbr (i1 != (0 : Int))
 (asr (!(decide (i1 = (0 : Int))))
 (L_r01_gcd_0_0 x0 n i1 (Int.tmod i0 i1)))
 (x0 i0 i1 false))
def wv_r01_gcd (p0 p1 : Int) (K : Int → Prop) : Prop :=
 (∃ n : Nat, L_r01_gcd_0_0
 (fun yi0 _ _ => (K yi0))
 n p0 p1)
def w_r01_gcd (p0 p1 : Int) (K : Int → Prop) : Prop := wv_r01_gcd p0 p1 K
def pw_r01_gcd (w : T_r01_gcd) (as : List PV) (K : PV → Prop) : Prop :=
 match as with
 | [(.int .u64 p0), (.int .u64 p1)] => w p0 p1 (fun r0 => K (.int .u64 r0))
 | _ => False
def wp_r01_gcd (as : List PV) (K : PV → Prop) : Prop := pw_r01_gcd w_r01_gcd as K
def D_r01_gcd_0 (F : Frm) (H : Hp) (A0 : Int → Int → Prop) : Prop :=
 match F, H with
 | [(0, .v (.int .u64 i0)), (1, .v (.int .u64 i1))], [] => (A0 i0 i1)
 | _, _ => False
def X_r01_gcd_0_0 (Q : Ex → Frm → Hp → Prop) : Int → Int → Bool → Prop := (fun i0 i1 b2 => Q (.exit 0) [(0, .v (.int .u64 i0)), (1, .v (.int .u64 i1)), (6, .v (.bool b2))] [])
def R_r01_gcd_0 (Q : Ex → Frm → Hp → Prop) (n : Nat) (F : Frm) (H : Hp) : Prop := D_r01_gcd_0 F H (fun i0 i1 => L_r01_gcd_0_0 (X_r01_gcd_0_0 Q) n i0 i1)
def lp_r01_gcd : LP := fun id F H Q =>
 bif Nat.beq id 16774900 then D_r01_gcd_0 F H (fun i0 i1 => ∃ n : Nat, L_r01_gcd_0_0 (X_r01_gcd_0_0 Q) n i0 i1) else
 False
def S0_r01_gcd (e : List (Nat × EffF)) : SE := ⟨(E e), lookS [], lookI [], lp_r01_gcd⟩
theorem se0_r01_gcd (e : List (Nat × EffF)) (he : EG e) : SEOk (S0_r01_gcd e) := seOk_of trivial trivial he.ok
theorem body_r01_gcd_0_0 (e : List (Nat × EffF)) ( Q n i0 i1) : WC (E e) (callW (S0_r01_gcd e) 5) (lp_r01_gcd) b_16774900 [(0, .v (.int .u64 i0)), (1, .v (.int .u64 i1))] [] (fun x F' H' => match x with | .norm => R_r01_gcd_0 Q n F' H' | .exit i => Q (.exit i) F' H' | .ret => Q .ret F' H') = L_r01_gcd_0_0 (X_r01_gcd_0_0 Q) (n + 1) i0 i1 := by kernel_rfl
theorem lpb_r01_gcd_0 (e : List (Nat × EffF)) (_ : EG e) : LpOk (E e) (lp_r01_gcd) b_16774900 := (LpOk_no (by kernel_rfl))
theorem loop_r01_gcd_0 (e : List (Nat × EffF)) (he : EG e) : ∀ F H Q, lp_r01_gcd 16774900 F H Q → LoopT (E e) b_16774900 F H Q := by
 intro F H Q h
 have go := LoopT.intro (callW_ok (se0_r01_gcd e he) 5) (lpb_r01_gcd_0 e he) (R_r01_gcd_0 Q) (by
   intro F H h
   unfold R_r01_gcd_0 D_r01_gcd_0 at h
   split at h
   · exact h
   · exact h) (by
   intro n F H h
   unfold R_r01_gcd_0 D_r01_gcd_0 at h
   split at h
   · exact (body_r01_gcd_0_0 ..).mpr h
   · exact h.elim)
 have h : D_r01_gcd_0 F H _ := h
 unfold D_r01_gcd_0 at h
 split at h
 · obtain ⟨n, h⟩ := h; exact go n _ _ h
 · exact h.elim
theorem eq_r01_gcd (e : List (Nat × EffF)) ( p0 p1 K) : WP (S0_r01_gcd e) 6 t_r01_gcd [(.int .u64 p0), (.int .u64 p1)] K = wv_r01_gcd p0 p1 (fun r0 => K (.int .u64 r0)) := by kernel_rfl
theorem ok_r01_gcd (e : List (Nat × EffF)) (he : EG e) : OkF (E e) wp_r01_gcd n_r01_gcd := by
 intro as K h
 unfold wp_r01_gcd pw_r01_gcd at h
 split at h
 · exact WP_ok (se0_r01_gcd e he) (LpOk_by (l := [(16774900, b_16774900)]) ⟨loop_r01_gcd_0 e he, trivial⟩ (by kernel_rfl)) (by kernel_rfl) (by kernel_rfl) (fun _ => baseS_none (by kernel_rfl) _) (he.num _ (by kernel_rfl)) ((eq_r01_gcd ..).mpr h)
 · exact h.elim
abbrev T_r01_Check : Type := Int → Int → (Int → Prop) → Prop
def wv_r01_Check (a0 : T_r01_abs) (a1 : T_r01_gcd) (p0 p1 : Int) (K : Int → Prop) : Prop :=
 (cbr (decide (p1 < (1 : Int)))
 (K (8 : Int))
 (cbr (decide (p1 > (1000000000000000000 : Int)))
 (K (8 : Int))
 (cbr (decide (p0 < (-1000000000000000000 : Int)))
 (K (8 : Int))
 (cbr (decide (p0 > (1000000000000000000 : Int)))
 (K (8 : Int))
 (a0 p0 (fun yi0 => 
 (a1 yi0 (IntKind.u64.wrap p1) (fun yi1 => 
 (cbr (yi1 != (1 : Int))
 (K (8 : Int))
 (K (0 : Int)))))))))))
def w_r01_Check (p0 p1 : Int) (K : Int → Prop) : Prop := wv_r01_Check w_r01_abs w_r01_gcd p0 p1 K
def pw_r01_Check (w : T_r01_Check) (as : List PV) (K : PV → Prop) : Prop :=
 match as with
 | [(.agg [(.int .i64 p0), (.int .i64 p1)])] => w p0 p1 (fun r0 => K (.int .i64 r0))
 | _ => False
def wp_r01_Check (as : List PV) (K : PV → Prop) : Prop := pw_r01_Check w_r01_Check as K
def lp_r01_Check (_ : T_r01_abs) (_ : T_r01_gcd) : LP := fun _ _ _ _ =>
 False
def S0_r01_Check (e : List (Nat × EffF)) (a0 : T_r01_abs) (a1 : T_r01_gcd) : SE := ⟨(E e), lookS [(n_r01_abs, pw_r01_abs a0), (n_r01_gcd, pw_r01_gcd a1)], lookI [], lp_r01_Check a0 a1⟩
theorem se0_r01_Check (e : List (Nat × EffF)) (he : EG e) : SEOk (S0_r01_Check e w_r01_abs w_r01_gcd) := seOk_of ⟨(ok_r01_abs e he), (ok_r01_gcd e he), trivial⟩ trivial he.ok
theorem eq_r01_Check (e : List (Nat × EffF)) (a0 a1 p0 p1 K) : WP (S0_r01_Check e a0 a1) 6 t_r01_Check [(.agg [(.int .i64 p0), (.int .i64 p1)])] K = wv_r01_Check a0 a1 p0 p1 (fun r0 => K (.int .i64 r0)) := by kernel_rfl
theorem ok_r01_Check (e : List (Nat × EffF)) (he : EG e) : OkF (E e) wp_r01_Check n_r01_Check := by
 intro as K h
 unfold wp_r01_Check pw_r01_Check at h
 split at h
 · exact WP_ok (se0_r01_Check e he) (LpOk_no (by kernel_rfl)) (by kernel_rfl) (by kernel_rfl) (fun _ => baseS_none (by kernel_rfl) _) (he.num _ (by kernel_rfl)) ((eq_r01_Check ..).mpr h)
 · exact h.elim
abbrev T_r01_Both : Type := Int → Int → Int → Int → (Int → Prop) → Prop
def wv_r01_Both (a0 : T_r01_Check) (p0 p1 p2 p3 : Int) (K : Int → Prop) : Prop :=
 (a0 p0 p1 (fun yi0 => 
 (cbr (yi0 != (0 : Int))
 (a0 p0 p1 (fun yi1 => 
 (K yi1)))
 (a0 p2 p3 (fun yi2 => 
 (K yi2))))))
def w_r01_Both (p0 p1 p2 p3 : Int) (K : Int → Prop) : Prop := wv_r01_Both w_r01_Check p0 p1 p2 p3 K
def pw_r01_Both (w : T_r01_Both) (as : List PV) (K : PV → Prop) : Prop :=
 match as with
 | [(.agg [(.int .i64 p0), (.int .i64 p1)]), (.agg [(.int .i64 p2), (.int .i64 p3)])] => w p0 p1 p2 p3 (fun r0 => K (.int .i64 r0))
 | _ => False
def wp_r01_Both (as : List PV) (K : PV → Prop) : Prop := pw_r01_Both w_r01_Both as K
def lp_r01_Both (_ : T_r01_Check) : LP := fun _ _ _ _ =>
 False
def S0_r01_Both (e : List (Nat × EffF)) (a0 : T_r01_Check) : SE := ⟨(E e), lookS [(n_r01_Check, pw_r01_Check a0)], lookI [], lp_r01_Both a0⟩
theorem se0_r01_Both (e : List (Nat × EffF)) (he : EG e) : SEOk (S0_r01_Both e w_r01_Check) := seOk_of ⟨(ok_r01_Check e he), trivial⟩ trivial he.ok
theorem eq_r01_Both (e : List (Nat × EffF)) (a0 p0 p1 p2 p3 K) : WP (S0_r01_Both e a0) 6 t_r01_Both [(.agg [(.int .i64 p0), (.int .i64 p1)]), (.agg [(.int .i64 p2), (.int .i64 p3)])] K = wv_r01_Both a0 p0 p1 p2 p3 (fun r0 => K (.int .i64 r0)) := by kernel_rfl
theorem ok_r01_Both (e : List (Nat × EffF)) (he : EG e) : OkF (E e) wp_r01_Both n_r01_Both := by
 intro as K h
 unfold wp_r01_Both pw_r01_Both at h
 split at h
 · exact WP_ok (se0_r01_Both e he) (LpOk_no (by kernel_rfl)) (by kernel_rfl) (by kernel_rfl) (fun _ => baseS_none (by kernel_rfl) _) (he.num _ (by kernel_rfl)) ((eq_r01_Both ..).mpr h)
 · exact h.elim
abbrev T_r01_times : Type := Int → Int → (Int → Int → Prop) → Prop
def wv_r01_times (p0 p1 : Int) (K : Int → Int → Prop) : Prop :=
 (K (IntKind.u64.wrap ((IntKind.u64.wrap ((IntKind.u64.wrap ((Int.fdiv p0 4294967296) * (Int.fdiv p1 4294967296))) + (Int.fdiv (IntKind.u64.wrap ((Int.fdiv p0 4294967296) * (IntKind.u64.wrap (BitVec.ofInt IntKind.u64.bits p1 &&& BitVec.ofInt IntKind.u64.bits (4294967295 : Int)).toNat))) 4294967296))) + (Int.fdiv (IntKind.u64.wrap ((IntKind.u64.wrap ((IntKind.u64.wrap (BitVec.ofInt IntKind.u64.bits (IntKind.u64.wrap ((Int.fdiv p0 4294967296) * (IntKind.u64.wrap (BitVec.ofInt IntKind.u64.bits p1 &&& BitVec.ofInt IntKind.u64.bits (4294967295 : Int)).toNat))) &&& BitVec.ofInt IntKind.u64.bits (4294967295 : Int)).toNat) + (IntKind.u64.wrap ((IntKind.u64.wrap (BitVec.ofInt IntKind.u64.bits p0 &&& BitVec.ofInt IntKind.u64.bits (4294967295 : Int)).toNat) * (Int.fdiv p1 4294967296))))) + (Int.fdiv (IntKind.u64.wrap ((IntKind.u64.wrap (BitVec.ofInt IntKind.u64.bits p0 &&& BitVec.ofInt IntKind.u64.bits (4294967295 : Int)).toNat) * (IntKind.u64.wrap (BitVec.ofInt IntKind.u64.bits p1 &&& BitVec.ofInt IntKind.u64.bits (4294967295 : Int)).toNat))) 4294967296))) 4294967296))) (IntKind.u64.wrap (BitVec.ofInt IntKind.u64.bits (IntKind.u64.wrap ((IntKind.u64.wrap ((IntKind.u64.wrap ((IntKind.u64.wrap (BitVec.ofInt IntKind.u64.bits (IntKind.u64.wrap ((Int.fdiv p0 4294967296) * (IntKind.u64.wrap (BitVec.ofInt IntKind.u64.bits p1 &&& BitVec.ofInt IntKind.u64.bits (4294967295 : Int)).toNat))) &&& BitVec.ofInt IntKind.u64.bits (4294967295 : Int)).toNat) + (IntKind.u64.wrap ((IntKind.u64.wrap (BitVec.ofInt IntKind.u64.bits p0 &&& BitVec.ofInt IntKind.u64.bits (4294967295 : Int)).toNat) * (Int.fdiv p1 4294967296))))) + (Int.fdiv (IntKind.u64.wrap ((IntKind.u64.wrap (BitVec.ofInt IntKind.u64.bits p0 &&& BitVec.ofInt IntKind.u64.bits (4294967295 : Int)).toNat) * (IntKind.u64.wrap (BitVec.ofInt IntKind.u64.bits p1 &&& BitVec.ofInt IntKind.u64.bits (4294967295 : Int)).toNat))) 4294967296))) * (4294967296 : Int))) ||| BitVec.ofInt IntKind.u64.bits (IntKind.u64.wrap (BitVec.ofInt IntKind.u64.bits (IntKind.u64.wrap ((IntKind.u64.wrap (BitVec.ofInt IntKind.u64.bits p0 &&& BitVec.ofInt IntKind.u64.bits (4294967295 : Int)).toNat) * (IntKind.u64.wrap (BitVec.ofInt IntKind.u64.bits p1 &&& BitVec.ofInt IntKind.u64.bits (4294967295 : Int)).toNat))) &&& BitVec.ofInt IntKind.u64.bits (4294967295 : Int)).toNat)).toNat))
def w_r01_times (p0 p1 : Int) (K : Int → Int → Prop) : Prop := wv_r01_times p0 p1 K
def pw_r01_times (w : T_r01_times) (as : List PV) (K : PV → Prop) : Prop :=
 match as with
 | [(.int .u64 p0), (.int .u64 p1)] => w p0 p1 (fun r0 r1 => K (.agg [(.int .u64 r0), (.int .u64 r1)]))
 | _ => False
def wp_r01_times (as : List PV) (K : PV → Prop) : Prop := pw_r01_times w_r01_times as K
def lp_r01_times : LP := fun _ _ _ _ =>
 False
def S0_r01_times (e : List (Nat × EffF)) : SE := ⟨(E e), lookS [], lookI [], lp_r01_times⟩
theorem se0_r01_times (e : List (Nat × EffF)) (he : EG e) : SEOk (S0_r01_times e) := seOk_of trivial trivial he.ok
theorem eq_r01_times (e : List (Nat × EffF)) ( p0 p1 K) : WP (S0_r01_times e) 6 t_r01_times [(.int .u64 p0), (.int .u64 p1)] K = wv_r01_times p0 p1 (fun r0 r1 => K (.agg [(.int .u64 r0), (.int .u64 r1)])) := by kernel_rfl
theorem ok_r01_times (e : List (Nat × EffF)) (he : EG e) : OkF (E e) wp_r01_times n_r01_times := by
 intro as K h
 unfold wp_r01_times pw_r01_times at h
 split at h
 · exact WP_ok (se0_r01_times e he) (LpOk_no (by kernel_rfl)) (by kernel_rfl) (by kernel_rfl) (fun _ => baseS_none (by kernel_rfl) _) (he.num _ (by kernel_rfl)) ((eq_r01_times ..).mpr h)
 · exact h.elim
abbrev T_r01_less : Type := Int → Int → Int → Int → (Bool → Prop) → Prop
def wv_r01_less (p0 p1 p2 p3 : Int) (K : Bool → Prop) : Prop :=
 (cbr (decide (p0 < p2))
 (K true)
 (cbr (p0 == p2)
 (K (decide (p1 < p3)))
 (K false)))
def w_r01_less (p0 p1 p2 p3 : Int) (K : Bool → Prop) : Prop := wv_r01_less p0 p1 p2 p3 K
def pw_r01_less (w : T_r01_less) (as : List PV) (K : PV → Prop) : Prop :=
 match as with
 | [(.agg [(.int .u64 p0), (.int .u64 p1)]), (.agg [(.int .u64 p2), (.int .u64 p3)])] => w p0 p1 p2 p3 (fun r0 => K (.bool r0))
 | _ => False
def wp_r01_less (as : List PV) (K : PV → Prop) : Prop := pw_r01_less w_r01_less as K
def lp_r01_less : LP := fun _ _ _ _ =>
 False
def S0_r01_less (e : List (Nat × EffF)) : SE := ⟨(E e), lookS [], lookI [], lp_r01_less⟩
theorem se0_r01_less (e : List (Nat × EffF)) (he : EG e) : SEOk (S0_r01_less e) := seOk_of trivial trivial he.ok
theorem eq_r01_less (e : List (Nat × EffF)) ( p0 p1 p2 p3 K) : WP (S0_r01_less e) 6 t_r01_less [(.agg [(.int .u64 p0), (.int .u64 p1)]), (.agg [(.int .u64 p2), (.int .u64 p3)])] K = wv_r01_less p0 p1 p2 p3 (fun r0 => K (.bool r0)) := by kernel_rfl
theorem ok_r01_less (e : List (Nat × EffF)) (he : EG e) : OkF (E e) wp_r01_less n_r01_less := by
 intro as K h
 unfold wp_r01_less pw_r01_less at h
 split at h
 · exact WP_ok (se0_r01_less e he) (LpOk_no (by kernel_rfl)) (by kernel_rfl) (by kernel_rfl) (fun _ => baseS_none (by kernel_rfl) _) (he.num _ (by kernel_rfl)) ((eq_r01_less ..).mpr h)
 · exact h.elim
abbrev T_r01_Less : Type := Int → Int → Int → Int → (Bool → Prop) → Prop
def wv_r01_Less (a0 : T_r01_abs) (a1 : T_r01_times) (a2 : T_r01_less) (p0 p1 p2 p3 : Int) (K : Bool → Prop) : Prop :=
 (cbr ((decide (p0 < (0 : Int))) != (decide (p2 < (0 : Int))))
 (K (decide (p0 < (0 : Int))))
 (a0 p0 (fun yi0 => 
 (a1 yi0 (IntKind.u64.wrap p3) (fun yi1 yi2 => 
 (a0 p2 (fun yi3 => 
 (a1 yi3 (IntKind.u64.wrap p1) (fun yi4 yi5 => 
 (cbr (decide (p0 < (0 : Int)))
 (a2 yi4 yi5 yi1 yi2 (fun yb6 => 
 (K yb6)))
 (a2 yi1 yi2 yi4 yi5 (fun yb7 => 
 (K yb7)))))))))))))
def w_r01_Less (p0 p1 p2 p3 : Int) (K : Bool → Prop) : Prop := wv_r01_Less w_r01_abs w_r01_times w_r01_less p0 p1 p2 p3 K
def pw_r01_Less (w : T_r01_Less) (as : List PV) (K : PV → Prop) : Prop :=
 match as with
 | [(.agg [(.int .i64 p0), (.int .i64 p1)]), (.agg [(.int .i64 p2), (.int .i64 p3)])] => w p0 p1 p2 p3 (fun r0 => K (.bool r0))
 | _ => False
def wp_r01_Less (as : List PV) (K : PV → Prop) : Prop := pw_r01_Less w_r01_Less as K
def lp_r01_Less (_ : T_r01_abs) (_ : T_r01_times) (_ : T_r01_less) : LP := fun _ _ _ _ =>
 False
def S0_r01_Less (e : List (Nat × EffF)) (a0 : T_r01_abs) (a1 : T_r01_times) (a2 : T_r01_less) : SE := ⟨(E e), lookS [(n_r01_abs, pw_r01_abs a0), (n_r01_times, pw_r01_times a1), (n_r01_less, pw_r01_less a2)], lookI [], lp_r01_Less a0 a1 a2⟩
theorem se0_r01_Less (e : List (Nat × EffF)) (he : EG e) : SEOk (S0_r01_Less e w_r01_abs w_r01_times w_r01_less) := seOk_of ⟨(ok_r01_abs e he), (ok_r01_times e he), (ok_r01_less e he), trivial⟩ trivial he.ok
theorem eq_r01_Less (e : List (Nat × EffF)) (a0 a1 a2 p0 p1 p2 p3 K) : WP (S0_r01_Less e a0 a1 a2) 6 t_r01_Less [(.agg [(.int .i64 p0), (.int .i64 p1)]), (.agg [(.int .i64 p2), (.int .i64 p3)])] K = wv_r01_Less a0 a1 a2 p0 p1 p2 p3 (fun r0 => K (.bool r0)) := by kernel_rfl
theorem ok_r01_Less (e : List (Nat × EffF)) (he : EG e) : OkF (E e) wp_r01_Less n_r01_Less := by
 intro as K h
 unfold wp_r01_Less pw_r01_Less at h
 split at h
 · exact WP_ok (se0_r01_Less e he) (LpOk_no (by kernel_rfl)) (by kernel_rfl) (by kernel_rfl) (fun _ => baseS_none (by kernel_rfl) _) (he.num _ (by kernel_rfl)) ((eq_r01_Less ..).mpr h)
 · exact h.elim
abbrev T_r01_Of : Type := Int → (Int → Int → Prop) → Prop
def wv_r01_Of (p0 : Int) (K : Int → Int → Prop) : Prop :=
 (K p0 (1 : Int))
def w_r01_Of (p0 : Int) (K : Int → Int → Prop) : Prop := wv_r01_Of p0 K
def pw_r01_Of (w : T_r01_Of) (as : List PV) (K : PV → Prop) : Prop :=
 match as with
 | [(.int .i64 p0)] => w p0 (fun r0 r1 => K (.agg [(.int .i64 r0), (.int .i64 r1)]))
 | _ => False
def wp_r01_Of (as : List PV) (K : PV → Prop) : Prop := pw_r01_Of w_r01_Of as K
def lp_r01_Of : LP := fun _ _ _ _ =>
 False
def S0_r01_Of (e : List (Nat × EffF)) : SE := ⟨(E e), lookS [], lookI [], lp_r01_Of⟩
theorem se0_r01_Of (e : List (Nat × EffF)) (he : EG e) : SEOk (S0_r01_Of e) := seOk_of trivial trivial he.ok
theorem eq_r01_Of (e : List (Nat × EffF)) ( p0 K) : WP (S0_r01_Of e) 6 t_r01_Of [(.int .i64 p0)] K = wv_r01_Of p0 (fun r0 r1 => K (.agg [(.int .i64 r0), (.int .i64 r1)])) := by kernel_rfl
theorem ok_r01_Of (e : List (Nat × EffF)) (he : EG e) : OkF (E e) wp_r01_Of n_r01_Of := by
 intro as K h
 unfold wp_r01_Of pw_r01_Of at h
 split at h
 · exact WP_ok (se0_r01_Of e he) (LpOk_no (by kernel_rfl)) (by kernel_rfl) (by kernel_rfl) (fun _ => baseS_none (by kernel_rfl) _) (he.num _ (by kernel_rfl)) ((eq_r01_Of ..).mpr h)
 · exact h.elim
end Go.Pf.Vc
namespace Go.Pf.Vc
open Go Go.Pf
set_option linter.unusedVariables false
theorem det_r01_gcd (p0 : Int) (p1 : Int) (r0 : Int) (h : ∀ K : Int → Prop, K r0 → w_r01_gcd p0 p1 K) (K : Int → Prop) : w_r01_gcd p0 p1 K = K r0 :=
 propext ⟨fun k => detC (ok_r01_gcd [] effG_nil) (as := [(.int .u64 p0), (.int .u64 p1)]) (x := (.int .u64 r0)) (fun K' k' => h (fun r0 => K' (.int .u64 r0)) k') (K := fun x => match x with | (.int .u64 r0) => K r0 | _ => False) k, h K⟩
end Go.Pf.Vc
namespace Go.Pf.Vc
open Go Go.Pf
set_option maxRecDepth 100000
abbrev T_r02_Great : Type := Int → List PV → List PV → (Bool → Prop) → Prop
def wv_r02_Great (_ : Int) (p1 p2 : List PV) (K : Bool → Prop) : Prop :=
 (cbr (decide ((((List.length p1) : Nat) : Int) > (60 : Int)))
 (K true)
 (K (decide ((((List.length p2) : Nat) : Int) > (60 : Int)))))
def w_r02_Great (p0 : Int) (p1 p2 : List PV) (K : Bool → Prop) : Prop := wv_r02_Great p0 p1 p2 K
def pw_r02_Great (w : T_r02_Great) (as : List PV) (K : PV → Prop) : Prop :=
 match as with
 | [(.agg [(.int .i64 p0), (.data p1), (.data p2)])] => w p0 p1 p2 (fun r0 => K (.bool r0))
 | _ => False
def wp_r02_Great (as : List PV) (K : PV → Prop) : Prop := pw_r02_Great w_r02_Great as K
def lp_r02_Great : LP := fun _ _ _ _ =>
 False
def S0_r02_Great (e : List (Nat × EffF)) : SE := ⟨(E e), lookS [], lookI [], lp_r02_Great⟩
theorem se0_r02_Great (e : List (Nat × EffF)) (he : EG e) : SEOk (S0_r02_Great e) := seOk_of trivial trivial he.ok
theorem eq_r02_Great (e : List (Nat × EffF)) ( p0 p1 p2 K) : WP (S0_r02_Great e) 6 t_r02_Great [(.agg [(.int .i64 p0), (.data p1), (.data p2)])] K = wv_r02_Great p0 p1 p2 (fun r0 => K (.bool r0)) := by kernel_rfl
theorem ok_r02_Great (e : List (Nat × EffF)) (he : EG e) : OkF (E e) wp_r02_Great n_r02_Great := by
 intro as K h
 unfold wp_r02_Great pw_r02_Great at h
 split at h
 · exact WP_ok (se0_r02_Great e he) (LpOk_no (by kernel_rfl)) (by kernel_rfl) (by kernel_rfl) (fun _ => baseS_none (by kernel_rfl) _) (he.num _ (by kernel_rfl)) ((eq_r02_Great ..).mpr h)
 · exact h.elim
abbrev T_r02_Check : Type := Int → List PV → List PV → (Int → Prop) → Prop
def L_r02_Check_0_0 (x0 : Int → Prop) (x1 : Int → List PV → List PV → Bool → Int → Bool → Prop) : Nat → Int → List PV → List PV → Bool → Int → Prop
 | 0, _, _, _, _, _ => False
 | n + 1, i0, l1, l2, b3, i4 =>
 (cbr (decide (i4 < (((List.length l2) : Nat) : Int)))
 (asr (decide ((0 : Int) ≤ (IntKind.i64.wrap (i4 + (1 : Int)))))
 (asr (decide ((IntKind.i64.wrap (i4 + (1 : Int))) < (((List.length l1) : Nat) : Int)))
 (asr (conf (.one (.i .i64)) (List.getD l1 ((IntKind.i64.wrap (i4 + (1 : Int))).toNat) .nils))
 (asr (decide ((0 : Int) ≤ i4))
 (asr (decide (i4 < (((List.length l1) : Nat) : Int)))
 (asr (conf (.one (.i .i64)) (List.getD l1 (i4.toNat) .nils))
 (cbr (decide ((intOfV (List.getD l1 ((IntKind.i64.wrap (i4 + (1 : Int))).toNat) .nils)) ≤ (intOfV (List.getD l1 (i4.toNat) .nils))))
 (x0 (8 : Int))
 (asr (decide ((0 : Int) ≤ i4))
 (asr (decide (i4 < (((List.length l2) : Nat) : Int)))
 (asr (conf (.one (.i .i64)) (List.getD l2 (i4.toNat) .nils))
 (cbr (decide ((intOfV (List.getD l2 (i4.toNat) .nils)) < (0 : Int)))
 (x0 (8 : Int))
 (asr (decide ((0 : Int) ≤ i4))
 (asr (decide (i4 < (((List.length l2) : Nat) : Int)))
 (asr (conf (.one (.i .i64)) (List.getD l2 (i4.toNat) .nils))
 (cbr (decide ((intOfV (List.getD l2 (i4.toNat) .nils)) > (12 : Int)))
 (x0 (8 : Int))
 (cbr b3
 (L_r02_Check_0_0 x0 x1 n i0 l1 l2 true (IntKind.i64.wrap (i4 + (1 : Int))))
 (asr (decide ((0 : Int) ≤ i4))
 (asr (decide (i4 < (((List.length l2) : Nat) : Int)))
 (asr (conf (.one (.i .i64)) (List.getD l2 (i4.toNat) .nils))
 (L_r02_Check_0_0 x0 x1 n i0 l1 l2 (decide ((intOfV (List.getD l2 (i4.toNat) .nils)) > (0 : Int))) (IntKind.i64.wrap (i4 + (1 : Int)))))))))))))))))))))))
 (x1 i0 l1 l2 b3 i4 false))
def wv_r02_Check (p0 : Int) (p1 p2 : List PV) (K : Int → Prop) : Prop :=
 (cbr (decide (p0 > (1000 : Int)))
 (K (4 : Int))
 (cbr (decide ((((List.length p1) : Nat) : Int) > (40 : Int)))
 (K (4 : Int))
 (cbr (decide (p0 < (1 : Int)))
 (K (8 : Int))
 (cbr (decide ((((List.length p1) : Nat) : Int) < (2 : Int)))
 (K (8 : Int))
 (cbr ((((List.length p2) : Nat) : Int) != (IntKind.i64.wrap ((((List.length p1) : Nat) : Int) - (1 : Int))))
 (K (8 : Int))
 (asr (decide ((0 : Int) < (((List.length p1) : Nat) : Int)))
 (asr (conf (.one (.i .i64)) (List.getD p1 0 .nils))
 (cbr ((intOfV (List.getD p1 0 .nils)) != (0 : Int))
 (K (8 : Int))
 (asr (decide ((0 : Int) ≤ (IntKind.i64.wrap ((((List.length p1) : Nat) : Int) - (1 : Int)))))
 (asr (decide ((IntKind.i64.wrap ((((List.length p1) : Nat) : Int) - (1 : Int))) < (((List.length p1) : Nat) : Int)))
 (asr (conf (.one (.i .i64)) (List.getD p1 ((IntKind.i64.wrap ((((List.length p1) : Nat) : Int) - (1 : Int))).toNat) .nils))
 (cbr ((intOfV (List.getD p1 ((IntKind.i64.wrap ((((List.length p1) : Nat) : Int) - (1 : Int))).toNat) .nils)) != p0)
 (K (8 : Int))
 (∃ n : Nat, L_r02_Check_0_0
 (fun yi0 => (K yi0))
 (fun _ _ _ yb4 _ _ => (cbr (!yb4)
 (K (8 : Int))
 (K (0 : Int))))
 n p0 p1 p2 false (0 : Int))))))))))))))
def w_r02_Check (p0 : Int) (p1 p2 : List PV) (K : Int → Prop) : Prop := wv_r02_Check p0 p1 p2 K
def pw_r02_Check (w : T_r02_Check) (as : List PV) (K : PV → Prop) : Prop :=
 match as with
 | [(.agg [(.int .i64 p0), (.data p1), (.data p2)])] => w p0 p1 p2 (fun r0 => K (.int .i64 r0))
 | _ => False
def wp_r02_Check (as : List PV) (K : PV → Prop) : Prop := pw_r02_Check w_r02_Check as K
def D_r02_Check_0 (F : Frm) (H : Hp) (A0 : Int → List PV → List PV → Bool → Int → Prop) : Prop :=
 match F, H with
 | [(1, .box (.agg [(.int .i64 i0), (.data l1), (.data l2)])), (3, .v (.bool b3)), (4, .v (.int .i64 i4))], [] => (A0 i0 l1 l2 b3 i4)
 | _, _ => False
def X_r02_Check_0_0 (Q : Ex → Frm → Hp → Prop) : Int → Prop := (fun i0 => Q .ret [(2, .v (.int .i64 i0))] [])
def X_r02_Check_0_1 (Q : Ex → Frm → Hp → Prop) : Int → List PV → List PV → Bool → Int → Bool → Prop := (fun i0 l1 l2 b3 i4 b5 => Q (.exit 0) [(1, .box (.agg [(.int .i64 i0), (.data l1), (.data l2)])), (3, .v (.bool b3)), (4, .v (.int .i64 i4)), (57, .v (.bool b5))] [])
def R_r02_Check_0 (Q : Ex → Frm → Hp → Prop) (n : Nat) (F : Frm) (H : Hp) : Prop := D_r02_Check_0 F H (fun i0 l1 l2 b3 i4 => L_r02_Check_0_0 (X_r02_Check_0_0 Q) (X_r02_Check_0_1 Q) n i0 l1 l2 b3 i4)
def lp_r02_Check : LP := fun id F H Q =>
 bif Nat.beq id 94526800 then D_r02_Check_0 F H (fun i0 l1 l2 b3 i4 => ∃ n : Nat, L_r02_Check_0_0 (X_r02_Check_0_0 Q) (X_r02_Check_0_1 Q) n i0 l1 l2 b3 i4) else
 False
def S0_r02_Check (e : List (Nat × EffF)) : SE := ⟨(E e), lookS [], lookI [], lp_r02_Check⟩
theorem se0_r02_Check (e : List (Nat × EffF)) (he : EG e) : SEOk (S0_r02_Check e) := seOk_of trivial trivial he.ok
theorem body_r02_Check_0_0 (e : List (Nat × EffF)) ( Q n i0 l1 l2 b3 i4) : WC (E e) (callW (S0_r02_Check e) 5) (lp_r02_Check) b_94526800 [(1, .box (.agg [(.int .i64 i0), (.data l1), (.data l2)])), (3, .v (.bool b3)), (4, .v (.int .i64 i4))] [] (fun x F' H' => match x with | .norm => R_r02_Check_0 Q n F' H' | .exit i => Q (.exit i) F' H' | .ret => Q .ret F' H') = L_r02_Check_0_0 (X_r02_Check_0_0 Q) (X_r02_Check_0_1 Q) (n + 1) i0 l1 l2 b3 i4 := by kernel_rfl
theorem lpb_r02_Check_0 (e : List (Nat × EffF)) (_ : EG e) : LpOk (E e) (lp_r02_Check) b_94526800 := (LpOk_no (by kernel_rfl))
theorem loop_r02_Check_0 (e : List (Nat × EffF)) (he : EG e) : ∀ F H Q, lp_r02_Check 94526800 F H Q → LoopT (E e) b_94526800 F H Q := by
 intro F H Q h
 have go := LoopT.intro (callW_ok (se0_r02_Check e he) 5) (lpb_r02_Check_0 e he) (R_r02_Check_0 Q) (by
   intro F H h
   unfold R_r02_Check_0 D_r02_Check_0 at h
   split at h
   · exact h
   · exact h) (by
   intro n F H h
   unfold R_r02_Check_0 D_r02_Check_0 at h
   split at h
   · exact (body_r02_Check_0_0 ..).mpr h
   · exact h.elim)
 have h : D_r02_Check_0 F H _ := h
 unfold D_r02_Check_0 at h
 split at h
 · obtain ⟨n, h⟩ := h; exact go n _ _ h
 · exact h.elim
theorem eq_r02_Check (e : List (Nat × EffF)) ( p0 p1 p2 K) : WP (S0_r02_Check e) 6 t_r02_Check [(.agg [(.int .i64 p0), (.data p1), (.data p2)])] K = wv_r02_Check p0 p1 p2 (fun r0 => K (.int .i64 r0)) := by kernel_rfl
theorem ok_r02_Check (e : List (Nat × EffF)) (he : EG e) : OkF (E e) wp_r02_Check n_r02_Check := by
 intro as K h
 unfold wp_r02_Check pw_r02_Check at h
 split at h
 · exact WP_ok (se0_r02_Check e he) (LpOk_by (l := [(94526800, b_94526800)]) ⟨loop_r02_Check_0 e he, trivial⟩ (by kernel_rfl)) (by kernel_rfl) (by kernel_rfl) (fun _ => baseS_none (by kernel_rfl) _) (he.num _ (by kernel_rfl)) ((eq_r02_Check ..).mpr h)
 · exact h.elim
abbrev T_r02_Point : Type := Int → Int → Int → (Bool → Prop) → Prop
def wv_r02_Point (a0 : T_r01_Check) (a1 : T_r01_Of) (a2 : T_r01_Less) (p0 p1 p2 : Int) (K : Bool → Prop) : Prop :=
 (a0 p1 p2 (fun yi0 => 
 (cbr (yi0 == (0 : Int))
 (cbr (decide (p1 ≥ (0 : Int)))
 (a1 p0 (fun yi1 yi2 => 
 (a2 yi1 yi2 p1 p2 (fun yb3 => 
 (K (!yb3))))))
 (K false))
 (K false))))
def w_r02_Point (p0 p1 p2 : Int) (K : Bool → Prop) : Prop := wv_r02_Point w_r01_Check w_r01_Of w_r01_Less p0 p1 p2 K
def pw_r02_Point (w : T_r02_Point) (as : List PV) (K : PV → Prop) : Prop :=
 match as with
 | [(.int .i64 p0), (.agg [(.int .i64 p1), (.int .i64 p2)])] => w p0 p1 p2 (fun r0 => K (.bool r0))
 | _ => False
def wp_r02_Point (as : List PV) (K : PV → Prop) : Prop := pw_r02_Point w_r02_Point as K
def lp_r02_Point (_ : T_r01_Check) (_ : T_r01_Of) (_ : T_r01_Less) : LP := fun _ _ _ _ =>
 False
def S0_r02_Point (e : List (Nat × EffF)) (a0 : T_r01_Check) (a1 : T_r01_Of) (a2 : T_r01_Less) : SE := ⟨(E e), lookS [(n_r01_Check, pw_r01_Check a0), (n_r01_Of, pw_r01_Of a1), (n_r01_Less, pw_r01_Less a2)], lookI [], lp_r02_Point a0 a1 a2⟩
theorem se0_r02_Point (e : List (Nat × EffF)) (he : EG e) : SEOk (S0_r02_Point e w_r01_Check w_r01_Of w_r01_Less) := seOk_of ⟨(ok_r01_Check e he), (ok_r01_Of e he), (ok_r01_Less e he), trivial⟩ trivial he.ok
theorem eq_r02_Point (e : List (Nat × EffF)) (a0 a1 a2 p0 p1 p2 K) : WP (S0_r02_Point e a0 a1 a2) 6 t_r02_Point [(.int .i64 p0), (.agg [(.int .i64 p1), (.int .i64 p2)])] K = wv_r02_Point a0 a1 a2 p0 p1 p2 (fun r0 => K (.bool r0)) := by kernel_rfl
theorem ok_r02_Point (e : List (Nat × EffF)) (he : EG e) : OkF (E e) wp_r02_Point n_r02_Point := by
 intro as K h
 unfold wp_r02_Point pw_r02_Point at h
 split at h
 · exact WP_ok (se0_r02_Point e he) (LpOk_no (by kernel_rfl)) (by kernel_rfl) (by kernel_rfl) (fun _ => baseS_none (by kernel_rfl) _) (he.num _ (by kernel_rfl)) ((eq_r02_Point ..).mpr h)
 · exact h.elim
end Go.Pf.Vc
namespace Go.Pf.Vc
open Go Go.Pf
set_option linter.unusedVariables false
theorem det_r02_Check (p0 : Int) (p1 : List PV) (p2 : List PV) (r0 : Int) (h : ∀ K : Int → Prop, K r0 → w_r02_Check p0 p1 p2 K) (K : Int → Prop) : w_r02_Check p0 p1 p2 K = K r0 :=
 propext ⟨fun k => detC (ok_r02_Check [] effG_nil) (as := [(.agg [(.int .i64 p0), (.data p1), (.data p2)])]) (x := (.int .i64 r0)) (fun K' k' => h (fun r0 => K' (.int .i64 r0)) k') (K := fun x => match x with | (.int .i64 r0) => K r0 | _ => False) k, h K⟩
end Go.Pf.Vc
namespace Go.Pf.Vc
open Go Go.Pf
set_option maxRecDepth 100000
abbrev T_r03_Great : Type := List PV → (Bool → Prop) → Prop
def wv_r03_Great (p0 : List PV) (K : Bool → Prop) : Prop :=
 (jn (fun (yj1 : Bool → Prop) =>
 (cbr (decide ((((List.length p0) : Nat) : Int) > (20 : Int)))
 (cbr (decide ((((List.length p0) : Nat) : Int) ≤ (60 : Int)))
 (yj1 true)
 (yj1 (decide ((((List.length p0) : Nat) : Int) > (70 : Int)))))
 (yj1 (decide ((((List.length p0) : Nat) : Int) > (70 : Int))))))
 (fun yb0 => (K yb0)))
def w_r03_Great (p0 : List PV) (K : Bool → Prop) : Prop := wv_r03_Great p0 K
def pw_r03_Great (w : T_r03_Great) (as : List PV) (K : PV → Prop) : Prop :=
 match as with
 | [(.data p0)] => w p0 (fun r0 => K (.bool r0))
 | _ => False
def wp_r03_Great (as : List PV) (K : PV → Prop) : Prop := pw_r03_Great w_r03_Great as K
def lp_r03_Great : LP := fun _ _ _ _ =>
 False
def S0_r03_Great (e : List (Nat × EffF)) : SE := ⟨(E e), lookS [], lookI [], lp_r03_Great⟩
theorem se0_r03_Great (e : List (Nat × EffF)) (he : EG e) : SEOk (S0_r03_Great e) := seOk_of trivial trivial he.ok
theorem eq_r03_Great (e : List (Nat × EffF)) ( p0 K) : WP (S0_r03_Great e) 6 t_r03_Great [(.data p0)] K = wv_r03_Great p0 (fun r0 => K (.bool r0)) := by kernel_rfl
theorem ok_r03_Great (e : List (Nat × EffF)) (he : EG e) : OkF (E e) wp_r03_Great n_r03_Great := by
 intro as K h
 unfold wp_r03_Great pw_r03_Great at h
 split at h
 · exact WP_ok (se0_r03_Great e he) (LpOk_no (by kernel_rfl)) (by kernel_rfl) (by kernel_rfl) (fun _ => baseS_none (by kernel_rfl) _) (he.num _ (by kernel_rfl)) ((eq_r03_Great ..).mpr h)
 · exact h.elim
abbrev T_r03_Valid : Type := Int → Int → Int → Int → (Bool → Prop) → Prop
def wv_r03_Valid (a0 : T_r01_Both) (a1 : T_r01_Less) (p0 p1 p2 p3 : Int) (K : Bool → Prop) : Prop :=
 (jn (fun (yj3 : Bool → Prop) =>
 (a0 p0 p1 p2 p3 (fun yi4 => 
 (cbr (yi4 == (0 : Int))
 (a1 p0 p1 p2 p3 (fun yb5 => 
 (yj3 yb5)))
 (yj3 false)))))
 (fun yb2 => (K yb2)))
def w_r03_Valid (p0 p1 p2 p3 : Int) (K : Bool → Prop) : Prop := wv_r03_Valid w_r01_Both w_r01_Less p0 p1 p2 p3 K
def pw_r03_Valid (w : T_r03_Valid) (as : List PV) (K : PV → Prop) : Prop :=
 match as with
 | [(.agg [(.int .i64 p0), (.int .i64 p1), (.int .i64 p2), (.int .i64 p3)])] => w p0 p1 p2 p3 (fun r0 => K (.bool r0))
 | _ => False
def wp_r03_Valid (as : List PV) (K : PV → Prop) : Prop := pw_r03_Valid w_r03_Valid as K
def lp_r03_Valid (_ : T_r01_Both) (_ : T_r01_Less) : LP := fun _ _ _ _ =>
 False
def S0_r03_Valid (e : List (Nat × EffF)) (a0 : T_r01_Both) (a1 : T_r01_Less) : SE := ⟨(E e), lookS [(n_r01_Both, pw_r01_Both a0), (n_r01_Less, pw_r01_Less a1)], lookI [], lp_r03_Valid a0 a1⟩
theorem se0_r03_Valid (e : List (Nat × EffF)) (he : EG e) : SEOk (S0_r03_Valid e w_r01_Both w_r01_Less) := seOk_of ⟨(ok_r01_Both e he), (ok_r01_Less e he), trivial⟩ trivial he.ok
theorem eq_r03_Valid (e : List (Nat × EffF)) (a0 a1 p0 p1 p2 p3 K) : WP (S0_r03_Valid e a0 a1) 6 t_r03_Valid [(.agg [(.int .i64 p0), (.int .i64 p1), (.int .i64 p2), (.int .i64 p3)])] K = wv_r03_Valid a0 a1 p0 p1 p2 p3 (fun r0 => K (.bool r0)) := by kernel_rfl
theorem ok_r03_Valid (e : List (Nat × EffF)) (he : EG e) : OkF (E e) wp_r03_Valid n_r03_Valid := by
 intro as K h
 unfold wp_r03_Valid pw_r03_Valid at h
 split at h
 · exact WP_ok (se0_r03_Valid e he) (LpOk_no (by kernel_rfl)) (by kernel_rfl) (by kernel_rfl) (fun _ => baseS_none (by kernel_rfl) _) (he.num _ (by kernel_rfl)) ((eq_r03_Valid ..).mpr h)
 · exact h.elim
abbrev T_r03_Check : Type := List PV → (Int → Prop) → Prop
def L_r03_Check_0_0 (a0 : T_r03_Valid) (a1 : T_r01_Less) (x0 : List PV → Int → Bool → Prop) (x1 : Int → Prop) : Nat → List PV → Int → Prop
 | 0, _, _ => False
 | n + 1, l0, i1 =>
 (cbr (decide (i1 < (((List.length l0) : Nat) : Int)))
 (jn (fun (yj21 : Bool → Prop) =>
 (asr (decide ((0 : Int) ≤ i1))
 (asr (decide (i1 < (((List.length l0) : Nat) : Int)))
 (lt (List.getD l0 (i1.toNat) .nils) (fun yr23 =>
 (asr (conf (.agg [.i .i64, .i .i64, .i .i64, .i .i64]) yr23)
 (a0 (intOfV (cellAt yr23 0)) (intOfV (cellAt yr23 1)) (intOfV (cellAt yr23 2)) (intOfV (cellAt yr23 3)) (fun yb24 => 
 (cbr (!yb24)
 (yj21 true)
 (cbr (decide (i1 > (0 : Int)))
 (lt (IntKind.i64.wrap (i1 - (1 : Int))) (fun yi25 =>
 (asr (decide ((0 : Int) ≤ yi25))
 (asr (decide (yi25 < (((List.length l0) : Nat) : Int)))
 (lt (List.getD l0 (yi25.toNat) .nils) (fun yr26 =>
 (asr (conf (.agg [.i .i64, .i .i64, .i .i64, .i .i64]) yr26)
 (asr (decide ((0 : Int) ≤ i1))
 (asr (decide (i1 < (((List.length l0) : Nat) : Int)))
 (lt (List.getD l0 (i1.toNat) .nils) (fun yr27 =>
 (asr (conf (.agg [.i .i64, .i .i64, .i .i64, .i .i64]) yr27)
 (a1 (intOfV (cellAt yr26 2)) (intOfV (cellAt yr26 3)) (intOfV (cellAt yr27 0)) (intOfV (cellAt yr27 1)) (fun yb28 => 
 (yj21 (!yb28))))))))))))))))
 (yj21 false)))))))))))
 (fun yb20 => (cbr yb20
 (x1 (8 : Int))
 (lt (IntKind.i64.wrap (i1 + (1 : Int))) (fun yi22 =>
 (L_r03_Check_0_0 a0 a1 x0 x1 n l0 yi22))))))
 (x0 l0 i1 false))
def wv_r03_Check (a0 : T_r03_Valid) (a1 : T_r01_Less) (p0 : List PV) (K : Int → Prop) : Prop :=
 (cbr (decide ((((List.length p0) : Nat) : Int) > (60 : Int)))
 (K (4 : Int))
 (∃ n : Nat, L_r03_Check_0_0 a0 a1
 (fun _ _ _ => (K (0 : Int)))
 (fun yi36 => (K yi36))
 n p0 (0 : Int)))
def w_r03_Check (p0 : List PV) (K : Int → Prop) : Prop := wv_r03_Check w_r03_Valid w_r01_Less p0 K
def pw_r03_Check (w : T_r03_Check) (as : List PV) (K : PV → Prop) : Prop :=
 match as with
 | [(.data p0)] => w p0 (fun r0 => K (.int .i64 r0))
 | _ => False
def wp_r03_Check (as : List PV) (K : PV → Prop) : Prop := pw_r03_Check w_r03_Check as K
def D_r03_Check_0 (F : Frm) (H : Hp) (A0 : List PV → Int → Prop) : Prop :=
 match F, H with
 | [(0, .v (.data l0)), (3, .v (.int .i64 i1))], [] => (A0 l0 i1)
 | _, _ => False
def X_r03_Check_0_0 (Q : Ex → Frm → Hp → Prop) : List PV → Int → Bool → Prop := (fun l0 i1 b2 => Q (.exit 0) [(0, .v (.data l0)), (3, .v (.int .i64 i1)), (10, .v (.bool b2))] [])
def X_r03_Check_0_1 (Q : Ex → Frm → Hp → Prop) : Int → Prop := (fun i0 => Q .ret [(2, .v (.int .i64 i0))] [])
def R_r03_Check_0 (a0 : T_r03_Valid) (a1 : T_r01_Less) (Q : Ex → Frm → Hp → Prop) (n : Nat) (F : Frm) (H : Hp) : Prop := D_r03_Check_0 F H (fun l0 i1 => L_r03_Check_0_0 a0 a1 (X_r03_Check_0_0 Q) (X_r03_Check_0_1 Q) n l0 i1)
def lp_r03_Check (a0 : T_r03_Valid) (a1 : T_r01_Less) : LP := fun id F H Q =>
 bif Nat.beq id 754900 then D_r03_Check_0 F H (fun l0 i1 => ∃ n : Nat, L_r03_Check_0_0 a0 a1 (X_r03_Check_0_0 Q) (X_r03_Check_0_1 Q) n l0 i1) else
 False
def S0_r03_Check (e : List (Nat × EffF)) (a0 : T_r03_Valid) (a1 : T_r01_Less) : SE := ⟨(E e), lookS [(n_r03_Valid, pw_r03_Valid a0), (n_r01_Less, pw_r01_Less a1)], lookI [], lp_r03_Check a0 a1⟩
theorem se0_r03_Check (e : List (Nat × EffF)) (he : EG e) : SEOk (S0_r03_Check e w_r03_Valid w_r01_Less) := seOk_of ⟨(ok_r03_Valid e he), (ok_r01_Less e he), trivial⟩ trivial he.ok
theorem body_r03_Check_0_0 (e : List (Nat × EffF)) (a0 a1 Q n l0 i1) : WC (E e) (callW (S0_r03_Check e a0 a1) 5) (lp_r03_Check a0 a1) b_754900 [(0, .v (.data l0)), (3, .v (.int .i64 i1))] [] (fun x F' H' => match x with | .norm => R_r03_Check_0 a0 a1 Q n F' H' | .exit i => Q (.exit i) F' H' | .ret => Q .ret F' H') = L_r03_Check_0_0 a0 a1 (X_r03_Check_0_0 Q) (X_r03_Check_0_1 Q) (n + 1) l0 i1 := by kernel_rfl
theorem lpb_r03_Check_0 (e : List (Nat × EffF)) (_ : EG e) : LpOk (E e) (lp_r03_Check w_r03_Valid w_r01_Less) b_754900 := (LpOk_no (by kernel_rfl))
theorem loop_r03_Check_0 (e : List (Nat × EffF)) (he : EG e) : ∀ F H Q, lp_r03_Check w_r03_Valid w_r01_Less 754900 F H Q → LoopT (E e) b_754900 F H Q := by
 intro F H Q h
 have go := LoopT.intro (callW_ok (se0_r03_Check e he) 5) (lpb_r03_Check_0 e he) (R_r03_Check_0 w_r03_Valid w_r01_Less Q) (by
   intro F H h
   unfold R_r03_Check_0 D_r03_Check_0 at h
   split at h
   · exact h
   · exact h) (by
   intro n F H h
   unfold R_r03_Check_0 D_r03_Check_0 at h
   split at h
   · exact (body_r03_Check_0_0 ..).mpr h
   · exact h.elim)
 have h : D_r03_Check_0 F H _ := h
 unfold D_r03_Check_0 at h
 split at h
 · obtain ⟨n, h⟩ := h; exact go n _ _ h
 · exact h.elim
theorem eq_r03_Check (e : List (Nat × EffF)) (a0 a1 p0 K) : WP (S0_r03_Check e a0 a1) 6 t_r03_Check [(.data p0)] K = wv_r03_Check a0 a1 p0 (fun r0 => K (.int .i64 r0)) := by kernel_rfl
theorem ok_r03_Check (e : List (Nat × EffF)) (he : EG e) : OkF (E e) wp_r03_Check n_r03_Check := by
 intro as K h
 unfold wp_r03_Check pw_r03_Check at h
 split at h
 · exact WP_ok (se0_r03_Check e he) (LpOk_by (l := [(754900, b_754900)]) ⟨loop_r03_Check_0 e he, trivial⟩ (by kernel_rfl)) (by kernel_rfl) (by kernel_rfl) (fun _ => baseS_none (by kernel_rfl) _) (he.num _ (by kernel_rfl)) ((eq_r03_Check ..).mpr h)
 · exact h.elim
abbrev T_r03_Same : Type := List PV → List PV → (Bool → Prop) → Prop
def L_r03_Same_0_0 (x0 : Bool → Prop) (x1 : List PV → List PV → Int → Bool → Prop) : Nat → List PV → List PV → Int → Prop
 | 0, _, _, _ => False
 | n + 1, l0, l1, i2 =>
 (cbr (decide (i2 < (((List.length l0) : Nat) : Int)))
 (asr (decide ((0 : Int) ≤ i2))
 (asr (decide (i2 < (((List.length l0) : Nat) : Int)))
 (asr (conf (.agg [.i .i64, .i .i64, .i .i64, .i .i64]) (List.getD l0 (i2.toNat) .nils))
 (asr (decide ((0 : Int) ≤ i2))
 (asr (decide (i2 < (((List.length l1) : Nat) : Int)))
 (asr (conf (.agg [.i .i64, .i .i64, .i .i64, .i .i64]) (List.getD l1 (i2.toNat) .nils))
 (cbr (!(((intOfV (cellAt (List.getD l0 (i2.toNat) .nils) 0)) == (intOfV (cellAt (List.getD l1 (i2.toNat) .nils) 0))) && (((intOfV (cellAt (List.getD l0 (i2.toNat) .nils) 1)) == (intOfV (cellAt (List.getD l1 (i2.toNat) .nils) 1))) && (((intOfV (cellAt (List.getD l0 (i2.toNat) .nils) 2)) == (intOfV (cellAt (List.getD l1 (i2.toNat) .nils) 2))) && (((intOfV (cellAt (List.getD l0 (i2.toNat) .nils) 3)) == (intOfV (cellAt (List.getD l1 (i2.toNat) .nils) 3))) && true)))))
 (x0 false)
 (L_r03_Same_0_0 x0 x1 n l0 l1 (IntKind.i64.wrap (i2 + (1 : Int)))))))))))
 (x1 l0 l1 i2 false))
def wv_r03_Same (p0 p1 : List PV) (K : Bool → Prop) : Prop :=
 (cbr ((((List.length p0) : Nat) : Int) != (((List.length p1) : Nat) : Int))
 (K false)
 (∃ n : Nat, L_r03_Same_0_0
 (fun yb0 => (K yb0))
 (fun _ _ _ _ => (K true))
 n p0 p1 (0 : Int)))
def w_r03_Same (p0 p1 : List PV) (K : Bool → Prop) : Prop := wv_r03_Same p0 p1 K
def pw_r03_Same (w : T_r03_Same) (as : List PV) (K : PV → Prop) : Prop :=
 match as with
 | [(.data p0), (.data p1)] => w p0 p1 (fun r0 => K (.bool r0))
 | _ => False
def wp_r03_Same (as : List PV) (K : PV → Prop) : Prop := pw_r03_Same w_r03_Same as K
def D_r03_Same_0 (F : Frm) (H : Hp) (A0 : List PV → List PV → Int → Prop) : Prop :=
 match F, H with
 | [(0, .v (.data l0)), (1, .v (.data l1)), (5, .v (.int .i64 i2))], [] => (A0 l0 l1 i2)
 | _, _ => False
def X_r03_Same_0_0 (Q : Ex → Frm → Hp → Prop) : Bool → Prop := (fun b0 => Q .ret [(4, .v (.bool b0))] [])
def X_r03_Same_0_1 (Q : Ex → Frm → Hp → Prop) : List PV → List PV → Int → Bool → Prop := (fun l0 l1 i2 b3 => Q (.exit 0) [(0, .v (.data l0)), (1, .v (.data l1)), (5, .v (.int .i64 i2)), (14, .v (.bool b3))] [])
def R_r03_Same_0 (Q : Ex → Frm → Hp → Prop) (n : Nat) (F : Frm) (H : Hp) : Prop := D_r03_Same_0 F H (fun l0 l1 i2 => L_r03_Same_0_0 (X_r03_Same_0_0 Q) (X_r03_Same_0_1 Q) n l0 l1 i2)
def lp_r03_Same : LP := fun id F H Q =>
 bif Nat.beq id 27088800 then D_r03_Same_0 F H (fun l0 l1 i2 => ∃ n : Nat, L_r03_Same_0_0 (X_r03_Same_0_0 Q) (X_r03_Same_0_1 Q) n l0 l1 i2) else
 False
def S0_r03_Same (e : List (Nat × EffF)) : SE := ⟨(E e), lookS [], lookI [], lp_r03_Same⟩
theorem se0_r03_Same (e : List (Nat × EffF)) (he : EG e) : SEOk (S0_r03_Same e) := seOk_of trivial trivial he.ok
theorem body_r03_Same_0_0 (e : List (Nat × EffF)) ( Q n l0 l1 i2) : WC (E e) (callW (S0_r03_Same e) 5) (lp_r03_Same) b_27088800 [(0, .v (.data l0)), (1, .v (.data l1)), (5, .v (.int .i64 i2))] [] (fun x F' H' => match x with | .norm => R_r03_Same_0 Q n F' H' | .exit i => Q (.exit i) F' H' | .ret => Q .ret F' H') = L_r03_Same_0_0 (X_r03_Same_0_0 Q) (X_r03_Same_0_1 Q) (n + 1) l0 l1 i2 := by kernel_rfl
theorem lpb_r03_Same_0 (e : List (Nat × EffF)) (_ : EG e) : LpOk (E e) (lp_r03_Same) b_27088800 := (LpOk_no (by kernel_rfl))
theorem loop_r03_Same_0 (e : List (Nat × EffF)) (he : EG e) : ∀ F H Q, lp_r03_Same 27088800 F H Q → LoopT (E e) b_27088800 F H Q := by
 intro F H Q h
 have go := LoopT.intro (callW_ok (se0_r03_Same e he) 5) (lpb_r03_Same_0 e he) (R_r03_Same_0 Q) (by
   intro F H h
   unfold R_r03_Same_0 D_r03_Same_0 at h
   split at h
   · exact h
   · exact h) (by
   intro n F H h
   unfold R_r03_Same_0 D_r03_Same_0 at h
   split at h
   · exact (body_r03_Same_0_0 ..).mpr h
   · exact h.elim)
 have h : D_r03_Same_0 F H _ := h
 unfold D_r03_Same_0 at h
 split at h
 · obtain ⟨n, h⟩ := h; exact go n _ _ h
 · exact h.elim
theorem eq_r03_Same (e : List (Nat × EffF)) ( p0 p1 K) : WP (S0_r03_Same e) 6 t_r03_Same [(.data p0), (.data p1)] K = wv_r03_Same p0 p1 (fun r0 => K (.bool r0)) := by kernel_rfl
theorem ok_r03_Same (e : List (Nat × EffF)) (he : EG e) : OkF (E e) wp_r03_Same n_r03_Same := by
 intro as K h
 unfold wp_r03_Same pw_r03_Same at h
 split at h
 · exact WP_ok (se0_r03_Same e he) (LpOk_by (l := [(27088800, b_27088800)]) ⟨loop_r03_Same_0 e he, trivial⟩ (by kernel_rfl)) (by kernel_rfl) (by kernel_rfl) (fun _ => baseS_none (by kernel_rfl) _) (he.num _ (by kernel_rfl)) ((eq_r03_Same ..).mpr h)
 · exact h.elim
abbrev T_r03_Within : Type := Int → List PV → (Bool → Prop) → Prop
def L_r03_Within_0_0 (a0 : T_r02_Point) (x0 : Int → List PV → Int → Bool → Prop) (x1 : Bool → Prop) : Nat → Int → List PV → Int → Prop
 | 0, _, _, _ => False
 | n + 1, i0, l1, i2 =>
 (cbr (decide (i2 < (((List.length l1) : Nat) : Int)))
 (jn (fun (yj15 : Bool → Prop) =>
 (asr (decide ((0 : Int) ≤ i2))
 (asr (decide (i2 < (((List.length l1) : Nat) : Int)))
 (lt (List.getD l1 (i2.toNat) .nils) (fun yr17 =>
 (asr (conf (.agg [.i .i64, .i .i64, .i .i64, .i .i64]) yr17)
 (a0 i0 (intOfV (cellAt yr17 0)) (intOfV (cellAt yr17 1)) (fun yb18 => 
 (cbr (!yb18)
 (yj15 true)
 (asr (decide ((0 : Int) ≤ i2))
 (asr (decide (i2 < (((List.length l1) : Nat) : Int)))
 (lt (List.getD l1 (i2.toNat) .nils) (fun yr19 =>
 (asr (conf (.agg [.i .i64, .i .i64, .i .i64, .i .i64]) yr19)
 (a0 i0 (intOfV (cellAt yr19 2)) (intOfV (cellAt yr19 3)) (fun yb20 => 
 (yj15 (!yb20))))))))))))))))))
 (fun yb14 => (cbr yb14
 (x1 false)
 (lt (IntKind.i64.wrap (i2 + (1 : Int))) (fun yi16 =>
 (L_r03_Within_0_0 a0 x0 x1 n i0 l1 yi16))))))
 (x0 i0 l1 i2 false))
def wv_r03_Within (a0 : T_r02_Point) (p0 : Int) (p1 : List PV) (K : Bool → Prop) : Prop :=
 (∃ n : Nat, L_r03_Within_0_0 a0
 (fun _ _ _ _ => (K true))
 (fun yb30 => (K yb30))
 n p0 p1 (0 : Int))
def w_r03_Within (p0 : Int) (p1 : List PV) (K : Bool → Prop) : Prop := wv_r03_Within w_r02_Point p0 p1 K
def pw_r03_Within (w : T_r03_Within) (as : List PV) (K : PV → Prop) : Prop :=
 match as with
 | [(.int .i64 p0), (.data p1)] => w p0 p1 (fun r0 => K (.bool r0))
 | _ => False
def wp_r03_Within (as : List PV) (K : PV → Prop) : Prop := pw_r03_Within w_r03_Within as K
def D_r03_Within_0 (F : Frm) (H : Hp) (A0 : Int → List PV → Int → Prop) : Prop :=
 match F, H with
 | [(0, .v (.int .i64 i0)), (1, .v (.data l1)), (5, .v (.int .i64 i2))], [] => (A0 i0 l1 i2)
 | _, _ => False
def X_r03_Within_0_0 (Q : Ex → Frm → Hp → Prop) : Int → List PV → Int → Bool → Prop := (fun i0 l1 i2 b3 => Q (.exit 0) [(0, .v (.int .i64 i0)), (1, .v (.data l1)), (5, .v (.int .i64 i2)), (9, .v (.bool b3))] [])
def X_r03_Within_0_1 (Q : Ex → Frm → Hp → Prop) : Bool → Prop := (fun b0 => Q .ret [(4, .v (.bool b0))] [])
def R_r03_Within_0 (a0 : T_r02_Point) (Q : Ex → Frm → Hp → Prop) (n : Nat) (F : Frm) (H : Hp) : Prop := D_r03_Within_0 F H (fun i0 l1 i2 => L_r03_Within_0_0 a0 (X_r03_Within_0_0 Q) (X_r03_Within_0_1 Q) n i0 l1 i2)
def lp_r03_Within (a0 : T_r02_Point) : LP := fun id F H Q =>
 bif Nat.beq id 21172200 then D_r03_Within_0 F H (fun i0 l1 i2 => ∃ n : Nat, L_r03_Within_0_0 a0 (X_r03_Within_0_0 Q) (X_r03_Within_0_1 Q) n i0 l1 i2) else
 False
def S0_r03_Within (e : List (Nat × EffF)) (a0 : T_r02_Point) : SE := ⟨(E e), lookS [(n_r02_Point, pw_r02_Point a0)], lookI [], lp_r03_Within a0⟩
theorem se0_r03_Within (e : List (Nat × EffF)) (he : EG e) : SEOk (S0_r03_Within e w_r02_Point) := seOk_of ⟨(ok_r02_Point e he), trivial⟩ trivial he.ok
theorem body_r03_Within_0_0 (e : List (Nat × EffF)) (a0 Q n i0 l1 i2) : WC (E e) (callW (S0_r03_Within e a0) 5) (lp_r03_Within a0) b_21172200 [(0, .v (.int .i64 i0)), (1, .v (.data l1)), (5, .v (.int .i64 i2))] [] (fun x F' H' => match x with | .norm => R_r03_Within_0 a0 Q n F' H' | .exit i => Q (.exit i) F' H' | .ret => Q .ret F' H') = L_r03_Within_0_0 a0 (X_r03_Within_0_0 Q) (X_r03_Within_0_1 Q) (n + 1) i0 l1 i2 := by kernel_rfl
theorem lpb_r03_Within_0 (e : List (Nat × EffF)) (_ : EG e) : LpOk (E e) (lp_r03_Within w_r02_Point) b_21172200 := (LpOk_no (by kernel_rfl))
theorem loop_r03_Within_0 (e : List (Nat × EffF)) (he : EG e) : ∀ F H Q, lp_r03_Within w_r02_Point 21172200 F H Q → LoopT (E e) b_21172200 F H Q := by
 intro F H Q h
 have go := LoopT.intro (callW_ok (se0_r03_Within e he) 5) (lpb_r03_Within_0 e he) (R_r03_Within_0 w_r02_Point Q) (by
   intro F H h
   unfold R_r03_Within_0 D_r03_Within_0 at h
   split at h
   · exact h
   · exact h) (by
   intro n F H h
   unfold R_r03_Within_0 D_r03_Within_0 at h
   split at h
   · exact (body_r03_Within_0_0 ..).mpr h
   · exact h.elim)
 have h : D_r03_Within_0 F H _ := h
 unfold D_r03_Within_0 at h
 split at h
 · obtain ⟨n, h⟩ := h; exact go n _ _ h
 · exact h.elim
theorem eq_r03_Within (e : List (Nat × EffF)) (a0 p0 p1 K) : WP (S0_r03_Within e a0) 6 t_r03_Within [(.int .i64 p0), (.data p1)] K = wv_r03_Within a0 p0 p1 (fun r0 => K (.bool r0)) := by kernel_rfl
theorem ok_r03_Within (e : List (Nat × EffF)) (he : EG e) : OkF (E e) wp_r03_Within n_r03_Within := by
 intro as K h
 unfold wp_r03_Within pw_r03_Within at h
 split at h
 · exact WP_ok (se0_r03_Within e he) (LpOk_by (l := [(21172200, b_21172200)]) ⟨loop_r03_Within_0 e he, trivial⟩ (by kernel_rfl)) (by kernel_rfl) (by kernel_rfl) (fun _ => baseS_none (by kernel_rfl) _) (he.num _ (by kernel_rfl)) ((eq_r03_Within ..).mpr h)
 · exact h.elim
end Go.Pf.Vc
namespace Go.Pf.Vc
open Go Go.Pf
set_option linter.unusedVariables false
theorem det_r03_Check (p0 : List PV) (r0 : Int) (h : ∀ K : Int → Prop, K r0 → w_r03_Check p0 K) (K : Int → Prop) : w_r03_Check p0 K = K r0 :=
 propext ⟨fun k => detC (ok_r03_Check [] effG_nil) (as := [(.data p0)]) (x := (.int .i64 r0)) (fun K' k' => h (fun r0 => K' (.int .i64 r0)) k') (K := fun x => match x with | (.int .i64 r0) => K r0 | _ => False) k, h K⟩
theorem det_r03_Same (p0 : List PV) (p1 : List PV) (r0 : Bool) (h : ∀ K : Bool → Prop, K r0 → w_r03_Same p0 p1 K) (K : Bool → Prop) : w_r03_Same p0 p1 K = K r0 :=
 propext ⟨fun k => detC (ok_r03_Same [] effG_nil) (as := [(.data p0), (.data p1)]) (x := (.bool r0)) (fun K' k' => h (fun r0 => K' (.bool r0)) k') (K := fun x => match x with | (.bool r0) => K r0 | _ => False) k, h K⟩
theorem det_r03_Within (p0 : Int) (p1 : List PV) (r0 : Bool) (h : ∀ K : Bool → Prop, K r0 → w_r03_Within p0 p1 K) (K : Bool → Prop) : w_r03_Within p0 p1 K = K r0 :=
 propext ⟨fun k => detC (ok_r03_Within [] effG_nil) (as := [(.int .i64 p0), (.data p1)]) (x := (.bool r0)) (fun K' k' => h (fun r0 => K' (.bool r0)) k') (K := fun x => match x with | (.bool r0) => K r0 | _ => False) k, h K⟩
end Go.Pf.Vc
namespace Go.Pf.Vc
open Go Go.Pf
set_option maxRecDepth 100000
abbrev T_l03_valid : Type := List PV → (Bool → Prop) → Prop
def wv_l03_valid (a0 : T_r03_Great) (a1 : T_r03_Check) (p0 : List PV) (K : Bool → Prop) : Prop :=
 (jn (fun (yj3 : Bool → Prop) =>
 (a0 p0 (fun yb4 => 
 (cbr (!yb4)
 (a1 p0 (fun yi5 => 
 (yj3 (yi5 == (0 : Int)))))
 (yj3 false)))))
 (fun yb2 => (K yb2)))
def w_l03_valid (p0 : List PV) (K : Bool → Prop) : Prop := wv_l03_valid w_r03_Great w_r03_Check p0 K
def pw_l03_valid (w : T_l03_valid) (as : List PV) (K : PV → Prop) : Prop :=
 match as with
 | [(.data p0)] => w p0 (fun r0 => K (.bool r0))
 | _ => False
def wp_l03_valid (as : List PV) (K : PV → Prop) : Prop := pw_l03_valid w_l03_valid as K
def lp_l03_valid (_ : T_r03_Great) (_ : T_r03_Check) : LP := fun _ _ _ _ =>
 False
def S0_l03_valid (e : List (Nat × EffF)) (a0 : T_r03_Great) (a1 : T_r03_Check) : SE := ⟨(E e), lookS [(n_r03_Great, pw_r03_Great a0), (n_r03_Check, pw_r03_Check a1)], lookI [], lp_l03_valid a0 a1⟩
theorem se0_l03_valid (e : List (Nat × EffF)) (he : EG e) : SEOk (S0_l03_valid e w_r03_Great w_r03_Check) := seOk_of ⟨(ok_r03_Great e he), (ok_r03_Check e he), trivial⟩ trivial he.ok
theorem eq_l03_valid (e : List (Nat × EffF)) (a0 a1 p0 K) : WP (S0_l03_valid e a0 a1) 6 t_l03_valid [(.data p0)] K = wv_l03_valid a0 a1 p0 (fun r0 => K (.bool r0)) := by kernel_rfl
theorem ok_l03_valid (e : List (Nat × EffF)) (he : EG e) : OkF (E e) wp_l03_valid n_l03_valid := by
 intro as K h
 unfold wp_l03_valid pw_l03_valid at h
 split at h
 · exact WP_ok (se0_l03_valid e he) (LpOk_no (by kernel_rfl)) (by kernel_rfl) (by kernel_rfl) (fun _ => baseS_none (by kernel_rfl) _) (he.num _ (by kernel_rfl)) ((eq_l03_valid ..).mpr h)
 · exact h.elim
abbrev T_l03_of : Type := Int → Int → (Int → Int → Int → Int → Prop) → Prop
def wv_l03_of (p0 p1 : Int) (K : Int → Int → Int → Int → Prop) : Prop :=
 (K p0 (1 : Int) p1 (1 : Int))
def w_l03_of (p0 p1 : Int) (K : Int → Int → Int → Int → Prop) : Prop := wv_l03_of p0 p1 K
def pw_l03_of (w : T_l03_of) (as : List PV) (K : PV → Prop) : Prop :=
 match as with
 | [(.int .i64 p0), (.int .i64 p1)] => w p0 p1 (fun r0 r1 r2 r3 => K (.agg [(.int .i64 r0), (.int .i64 r1), (.int .i64 r2), (.int .i64 r3)]))
 | _ => False
def wp_l03_of (as : List PV) (K : PV → Prop) : Prop := pw_l03_of w_l03_of as K
def lp_l03_of : LP := fun _ _ _ _ =>
 False
def S0_l03_of (e : List (Nat × EffF)) : SE := ⟨(E e), lookS [], lookI [], lp_l03_of⟩
theorem se0_l03_of (e : List (Nat × EffF)) (he : EG e) : SEOk (S0_l03_of e) := seOk_of trivial trivial he.ok
theorem eq_l03_of (e : List (Nat × EffF)) ( p0 p1 K) : WP (S0_l03_of e) 6 t_l03_of [(.int .i64 p0), (.int .i64 p1)] K = wv_l03_of p0 p1 (fun r0 r1 r2 r3 => K (.agg [(.int .i64 r0), (.int .i64 r1), (.int .i64 r2), (.int .i64 r3)])) := by kernel_rfl
theorem ok_l03_of (e : List (Nat × EffF)) (he : EG e) : OkF (E e) wp_l03_of n_l03_of := by
 intro as K h
 unfold wp_l03_of pw_l03_of at h
 split at h
 · exact WP_ok (se0_l03_of e he) (LpOk_no (by kernel_rfl)) (by kernel_rfl) (by kernel_rfl) (fun _ => baseS_none (by kernel_rfl) _) (he.num _ (by kernel_rfl)) ((eq_l03_of ..).mpr h)
 · exact h.elim
abbrev T_l03_is : Type := List PV → Int → List PV → (Bool → Prop) → Prop
def wv_l03_is (a0 : T_r03_Same) (p0 : List PV) (p1 : Int) (p2 : List PV) (K : Bool → Prop) : Prop :=
 (jn (fun (yj2 : Bool → Prop) =>
 (cbr (p1 == (0 : Int))
 (a0 p0 p2 (fun yb3 => 
 (yj2 yb3)))
 (yj2 false)))
 (fun yb1 => (K yb1)))
def w_l03_is (p0 : List PV) (p1 : Int) (p2 : List PV) (K : Bool → Prop) : Prop := wv_l03_is w_r03_Same p0 p1 p2 K
def pw_l03_is (w : T_l03_is) (as : List PV) (K : PV → Prop) : Prop :=
 match as with
 | [(.data p0), (.int .i64 p1), (.data p2)] => w p0 p1 p2 (fun r0 => K (.bool r0))
 | _ => False
def wp_l03_is (as : List PV) (K : PV → Prop) : Prop := pw_l03_is w_l03_is as K
def lp_l03_is (_ : T_r03_Same) : LP := fun _ _ _ _ =>
 False
def S0_l03_is (e : List (Nat × EffF)) (a0 : T_r03_Same) : SE := ⟨(E e), lookS [(n_r03_Same, pw_r03_Same a0)], lookI [], lp_l03_is a0⟩
theorem se0_l03_is (e : List (Nat × EffF)) (he : EG e) : SEOk (S0_l03_is e w_r03_Same) := seOk_of ⟨(ok_r03_Same e he), trivial⟩ trivial he.ok
theorem eq_l03_is (e : List (Nat × EffF)) (a0 p0 p1 p2 K) : WP (S0_l03_is e a0) 6 t_l03_is [(.data p0), (.int .i64 p1), (.data p2)] K = wv_l03_is a0 p0 p1 p2 (fun r0 => K (.bool r0)) := by kernel_rfl
theorem ok_l03_is (e : List (Nat × EffF)) (he : EG e) : OkF (E e) wp_l03_is n_l03_is := by
 intro as K h
 unfold wp_l03_is pw_l03_is at h
 split at h
 · exact WP_ok (se0_l03_is e he) (LpOk_no (by kernel_rfl)) (by kernel_rfl) (by kernel_rfl) (fun _ => baseS_none (by kernel_rfl) _) (he.num _ (by kernel_rfl)) ((eq_l03_is ..).mpr h)
 · exact h.elim
abbrev T_l03_alive : Type := (Bool → Prop) → Prop
def wv_l03_alive (a0 : T_l03_of) (a1 : T_piece_Make) (a2 : T_piece_Has) (a3 : T_piece_Minus) (a4 : T_piece_Length) (a5 : T_piece_Cut) (a6 : T_l03_is) (K : Bool → Prop) : Prop :=
 (a0 (2 : Int) (5 : Int) (fun yi14 yi15 yi16 yi17 => 
 (a0 (0 : Int) (1 : Int) (fun yi18 yi19 yi20 yi21 => 
 (a0 (1 : Int) (2 : Int) (fun yi22 yi23 yi24 yi25 => 
 (a1 ([(.agg [(.int .i64 yi14), (.int .i64 yi15), (.int .i64 yi16), (.int .i64 yi17)]), (.agg [(.int .i64 yi18), (.int .i64 yi19), (.int .i64 yi20), (.int .i64 yi21)]), (.agg [(.int .i64 yi22), (.int .i64 yi23), (.int .i64 yi24), (.int .i64 yi25)])] : List PV) (fun yl26 yi27 => 
 (a0 (4 : Int) (5 : Int) (fun yi34 yi35 _ _ => 
 (a2 yl26 yi34 yi35 (fun yb38 yi39 => 
 (a0 (4 : Int) (5 : Int) (fun _ _ yi48 yi49 => 
 (a2 yl26 yi48 yi49 (fun yb50 yi51 => 
 (a0 (1 : Int) (2 : Int) (fun yi58 yi59 yi60 yi61 => 
 (a3 yl26 ([(.agg [(.int .i64 yi58), (.int .i64 yi59), (.int .i64 yi60), (.int .i64 yi61)])] : List PV) (fun yl62 yi63 => 
 (a4 yl62 (fun yi67 yi68 yi69 => 
 (a0 (3 : Int) (4 : Int) (fun yi77 yi78 _ _ => 
 (a5 yl62 yi77 yi78 (fun yl81 yl82 yi83 => 
 (jn (fun (yj113 : Bool → Prop) =>
 (a0 (0 : Int) (5 : Int) (fun yi114 yi115 yi116 yi117 => 
 (a6 yl26 yi27 ([(.agg [(.int .i64 yi114), (.int .i64 yi115), (.int .i64 yi116), (.int .i64 yi117)])] : List PV) (fun yb118 => 
 (cbr yb118
 (cbr (yi39 == (0 : Int))
 (cbr yb38
 (cbr (yi51 == (0 : Int))
 (cbr (!yb50)
 (a0 (0 : Int) (1 : Int) (fun yi119 yi120 yi121 yi122 => 
 (a0 (2 : Int) (5 : Int) (fun yi123 yi124 yi125 yi126 => 
 (a6 yl62 yi63 ([(.agg [(.int .i64 yi119), (.int .i64 yi120), (.int .i64 yi121), (.int .i64 yi122)]), (.agg [(.int .i64 yi123), (.int .i64 yi124), (.int .i64 yi125), (.int .i64 yi126)])] : List PV) (fun yb127 => 
 (cbr yb127
 (cbr (yi69 == (0 : Int))
 (cbr ((yi67 == (4 : Int)) && ((yi68 == (1 : Int)) && true))
 (a0 (0 : Int) (1 : Int) (fun yi128 yi129 yi130 yi131 => 
 (a0 (2 : Int) (3 : Int) (fun yi132 yi133 yi134 yi135 => 
 (a6 yl81 yi83 ([(.agg [(.int .i64 yi128), (.int .i64 yi129), (.int .i64 yi130), (.int .i64 yi131)]), (.agg [(.int .i64 yi132), (.int .i64 yi133), (.int .i64 yi134), (.int .i64 yi135)])] : List PV) (fun yb136 => 
 (cbr yb136
 (a0 (3 : Int) (5 : Int) (fun yi137 yi138 yi139 yi140 => 
 (a6 yl82 yi83 ([(.agg [(.int .i64 yi137), (.int .i64 yi138), (.int .i64 yi139), (.int .i64 yi140)])] : List PV) (fun yb141 => 
 (yj113 yb141)))))
 (yj113 false))))))))
 (yj113 false))
 (yj113 false))
 (yj113 false))))))))
 (yj113 false))
 (yj113 false))
 (yj113 false))
 (yj113 false))
 (yj113 false)))))))
 (fun yb112 => (K yb112)))))))))))))))))))))))))))))
def w_l03_alive (K : Bool → Prop) : Prop := wv_l03_alive w_l03_of w_piece_Make w_piece_Has w_piece_Minus w_piece_Length w_piece_Cut w_l03_is  K
def pw_l03_alive (w : T_l03_alive) (as : List PV) (K : PV → Prop) : Prop :=
 match as with
 | [] => w  (fun r0 => K (.bool r0))
 | _ => False
def wp_l03_alive (as : List PV) (K : PV → Prop) : Prop := pw_l03_alive w_l03_alive as K
def lp_l03_alive (_ : T_l03_of) (_ : T_piece_Make) (_ : T_piece_Has) (_ : T_piece_Minus) (_ : T_piece_Length) (_ : T_piece_Cut) (_ : T_l03_is) : LP := fun _ _ _ _ =>
 False
def S0_l03_alive (a0 : T_l03_of) (a1 : T_piece_Make) (a2 : T_piece_Has) (a3 : T_piece_Minus) (a4 : T_piece_Length) (a5 : T_piece_Cut) (a6 : T_l03_is) : SE := ⟨(E ef0), lookS [(n_l03_of, pw_l03_of a0), (n_piece_Make, pw_piece_Make a1), (n_piece_Has, pw_piece_Has a2), (n_piece_Minus, pw_piece_Minus a3), (n_piece_Length, pw_piece_Length a4), (n_piece_Cut, pw_piece_Cut a5), (n_l03_is, pw_l03_is a6)], lookI [], lp_l03_alive a0 a1 a2 a3 a4 a5 a6⟩
theorem se0_l03_alive : SEOk (S0_l03_alive w_l03_of w_piece_Make w_piece_Has w_piece_Minus w_piece_Length w_piece_Cut w_l03_is) := seOk_of ⟨(ok_l03_of ef0 effG0), ok_piece_Make, (ok_piece_Has ef0 effG0), (ok_piece_Minus ef0 effG0), (ok_piece_Length ef0 effG0), (ok_piece_Cut ef0 effG0), (ok_l03_is ef0 effG0), trivial⟩ trivial effG0.ok
theorem eq_l03_alive (a0 a1 a2 a3 a4 a5 a6 K) : WP (S0_l03_alive a0 a1 a2 a3 a4 a5 a6) 6 t_l03_alive [] K = wv_l03_alive a0 a1 a2 a3 a4 a5 a6  (fun r0 => K (.bool r0)) := by kernel_rfl
theorem ok_l03_alive : OkF (E ef0) wp_l03_alive n_l03_alive := by
 intro as K h
 unfold wp_l03_alive pw_l03_alive at h
 split at h
 · exact WP_ok (se0_l03_alive) (LpOk_no (by kernel_rfl)) (by kernel_rfl) (by kernel_rfl) (fun _ => baseS_none (by kernel_rfl) _) (effG0.num _ (by kernel_rfl)) ((eq_l03_alive ..).mpr h)
 · exact h.elim
abbrev T_l03_lengths : Type := List PV → List PV → List PV → List PV → (Int → Int → Int → Int → Int → Int → Int → Int → Bool → Prop) → Prop
def wv_l03_lengths (a0 : T_piece_Length) (p0 p1 p2 p3 : List PV) (K : Int → Int → Int → Int → Int → Int → Int → Int → Bool → Prop) : Prop :=
 (a0 p0 (fun yi3 yi4 yi5 => 
 (a0 p1 (fun yi9 yi10 yi11 => 
 (a0 p2 (fun yi15 yi16 yi17 => 
 (a0 p3 (fun yi21 yi22 yi23 => 
 (jn (fun (yj25 : Bool → Prop) =>
 (cbr (yi5 == (0 : Int))
 (cbr (yi11 == (0 : Int))
 (cbr (yi17 == (0 : Int))
 (yj25 (yi23 == (0 : Int)))
 (yj25 false))
 (yj25 false))
 (yj25 false)))
 (fun yb24 => (K yi3 yi4 yi9 yi10 yi15 yi16 yi21 yi22 yb24)))))))))))
def w_l03_lengths (p0 p1 p2 p3 : List PV) (K : Int → Int → Int → Int → Int → Int → Int → Int → Bool → Prop) : Prop := wv_l03_lengths w_piece_Length p0 p1 p2 p3 K
def pw_l03_lengths (w : T_l03_lengths) (as : List PV) (K : PV → Prop) : Prop :=
 match as with
 | [(.data p0), (.data p1), (.data p2), (.data p3)] => w p0 p1 p2 p3 (fun r0 r1 r2 r3 r4 r5 r6 r7 r8 => K (.tup [(.agg [(.int .i64 r0), (.int .i64 r1), (.int .i64 r2), (.int .i64 r3), (.int .i64 r4), (.int .i64 r5), (.int .i64 r6), (.int .i64 r7)]), (.bool r8)]))
 | _ => False
def wp_l03_lengths (as : List PV) (K : PV → Prop) : Prop := pw_l03_lengths w_l03_lengths as K
def lp_l03_lengths (_ : T_piece_Length) : LP := fun _ _ _ _ =>
 False
def S0_l03_lengths (e : List (Nat × EffF)) (a0 : T_piece_Length) : SE := ⟨(E e), lookS [(n_piece_Length, pw_piece_Length a0)], lookI [], lp_l03_lengths a0⟩
theorem se0_l03_lengths (e : List (Nat × EffF)) (he : EG e) : SEOk (S0_l03_lengths e w_piece_Length) := seOk_of ⟨(ok_piece_Length e he), trivial⟩ trivial he.ok
theorem eq_l03_lengths (e : List (Nat × EffF)) (a0 p0 p1 p2 p3 K) : WP (S0_l03_lengths e a0) 6 t_l03_lengths [(.data p0), (.data p1), (.data p2), (.data p3)] K = wv_l03_lengths a0 p0 p1 p2 p3 (fun r0 r1 r2 r3 r4 r5 r6 r7 r8 => K (.tup [(.agg [(.int .i64 r0), (.int .i64 r1), (.int .i64 r2), (.int .i64 r3), (.int .i64 r4), (.int .i64 r5), (.int .i64 r6), (.int .i64 r7)]), (.bool r8)])) := by kernel_rfl
theorem ok_l03_lengths (e : List (Nat × EffF)) (he : EG e) : OkF (E e) wp_l03_lengths n_l03_lengths := by
 intro as K h
 unfold wp_l03_lengths pw_l03_lengths at h
 split at h
 · exact WP_ok (se0_l03_lengths e he) (LpOk_no (by kernel_rfl)) (by kernel_rfl) (by kernel_rfl) (fun _ => baseS_none (by kernel_rfl) _) (he.num _ (by kernel_rfl)) ((eq_l03_lengths ..).mpr h)
 · exact h.elim
abbrev T_l03_adds : Type := Int → Int → Int → Int → Int → Int → Int → Int → Bool → (Bool → Prop) → Prop
def wv_l03_adds (a0 : T_ratio_Add) (p0 p1 p2 p3 p4 p5 p6 p7 : Int) (p8 : Bool) (K : Bool → Prop) : Prop :=
 (cbr (!p8)
 (K true)
 (a0 p0 p1 p2 p3 (fun yi3 yi4 yi5 => 
 (a0 p4 p5 p6 p7 (fun yi9 yi10 yi11 => 
 (jn (fun (yj13 : Bool → Prop) =>
 (cbr (yi5 != (0 : Int))
 (yj13 true)
 (cbr (yi11 != (0 : Int))
 (yj13 true)
 (yj13 ((yi3 == yi9) && ((yi4 == yi10) && true))))))
 (fun yb12 => (K yb12))))))))
def w_l03_adds (p0 p1 p2 p3 p4 p5 p6 p7 : Int) (p8 : Bool) (K : Bool → Prop) : Prop := wv_l03_adds w_ratio_Add p0 p1 p2 p3 p4 p5 p6 p7 p8 K
def pw_l03_adds (w : T_l03_adds) (as : List PV) (K : PV → Prop) : Prop :=
 match as with
 | [(.agg [(.int .i64 p0), (.int .i64 p1), (.int .i64 p2), (.int .i64 p3), (.int .i64 p4), (.int .i64 p5), (.int .i64 p6), (.int .i64 p7)]), (.bool p8)] => w p0 p1 p2 p3 p4 p5 p6 p7 p8 (fun r0 => K (.bool r0))
 | _ => False
def wp_l03_adds (as : List PV) (K : PV → Prop) : Prop := pw_l03_adds w_l03_adds as K
def lp_l03_adds (_ : T_ratio_Add) : LP := fun _ _ _ _ =>
 False
def S0_l03_adds (e : List (Nat × EffF)) (a0 : T_ratio_Add) : SE := ⟨(E e), lookS [(n_ratio_Add, pw_ratio_Add a0)], lookI [], lp_l03_adds a0⟩
theorem se0_l03_adds (e : List (Nat × EffF)) (he : EG e) : SEOk (S0_l03_adds e w_ratio_Add) := seOk_of ⟨(ok_ratio_Add e he), trivial⟩ trivial he.ok
theorem eq_l03_adds (e : List (Nat × EffF)) (a0 p0 p1 p2 p3 p4 p5 p6 p7 p8 K) : WP (S0_l03_adds e a0) 6 t_l03_adds [(.agg [(.int .i64 p0), (.int .i64 p1), (.int .i64 p2), (.int .i64 p3), (.int .i64 p4), (.int .i64 p5), (.int .i64 p6), (.int .i64 p7)]), (.bool p8)] K = wv_l03_adds a0 p0 p1 p2 p3 p4 p5 p6 p7 p8 (fun r0 => K (.bool r0)) := by kernel_rfl
theorem ok_l03_adds (e : List (Nat × EffF)) (he : EG e) : OkF (E e) wp_l03_adds n_l03_adds := by
 intro as K h
 unfold wp_l03_adds pw_l03_adds at h
 split at h
 · exact WP_ok (se0_l03_adds e he) (LpOk_no (by kernel_rfl)) (by kernel_rfl) (by kernel_rfl) (fun _ => baseS_none (by kernel_rfl) _) (he.num _ (by kernel_rfl)) ((eq_l03_adds ..).mpr h)
 · exact h.elim
abbrev T_l03_worths : Type := Int → List PV → List PV → List PV → List PV → List PV → List PV → (Int → Int → Int → Int → Int → Int → Int → Int → Bool → Prop) → Prop
def wv_l03_worths (a0 : T_piece_Worth) (p0 : Int) (p1 p2 p3 p4 p5 p6 : List PV) (K : Int → Int → Int → Int → Int → Int → Int → Int → Bool → Prop) : Prop :=
 (a0 p0 p1 p2 p3 (fun yi3 yi4 yi5 => 
 (a0 p0 p1 p2 p4 (fun yi9 yi10 yi11 => 
 (a0 p0 p1 p2 p5 (fun yi15 yi16 yi17 => 
 (a0 p0 p1 p2 p6 (fun yi21 yi22 yi23 => 
 (jn (fun (yj25 : Bool → Prop) =>
 (cbr (yi5 == (0 : Int))
 (cbr (yi11 == (0 : Int))
 (cbr (yi17 == (0 : Int))
 (yj25 (yi23 == (0 : Int)))
 (yj25 false))
 (yj25 false))
 (yj25 false)))
 (fun yb24 => (K yi3 yi4 yi9 yi10 yi15 yi16 yi21 yi22 yb24)))))))))))
def w_l03_worths (p0 : Int) (p1 p2 p3 p4 p5 p6 : List PV) (K : Int → Int → Int → Int → Int → Int → Int → Int → Bool → Prop) : Prop := wv_l03_worths w_piece_Worth p0 p1 p2 p3 p4 p5 p6 K
def pw_l03_worths (w : T_l03_worths) (as : List PV) (K : PV → Prop) : Prop :=
 match as with
 | [(.agg [(.int .i64 p0), (.data p1), (.data p2)]), (.data p3), (.data p4), (.data p5), (.data p6)] => w p0 p1 p2 p3 p4 p5 p6 (fun r0 r1 r2 r3 r4 r5 r6 r7 r8 => K (.tup [(.agg [(.int .i64 r0), (.int .i64 r1), (.int .i64 r2), (.int .i64 r3), (.int .i64 r4), (.int .i64 r5), (.int .i64 r6), (.int .i64 r7)]), (.bool r8)]))
 | _ => False
def wp_l03_worths (as : List PV) (K : PV → Prop) : Prop := pw_l03_worths w_l03_worths as K
def lp_l03_worths (_ : T_piece_Worth) : LP := fun _ _ _ _ =>
 False
def S0_l03_worths (e : List (Nat × EffF)) (a0 : T_piece_Worth) : SE := ⟨(E e), lookS [(n_piece_Worth, pw_piece_Worth a0)], lookI [], lp_l03_worths a0⟩
theorem se0_l03_worths (e : List (Nat × EffF)) (he : EG e) : SEOk (S0_l03_worths e w_piece_Worth) := seOk_of ⟨(ok_piece_Worth e he), trivial⟩ trivial he.ok
theorem eq_l03_worths (e : List (Nat × EffF)) (a0 p0 p1 p2 p3 p4 p5 p6 K) : WP (S0_l03_worths e a0) 6 t_l03_worths [(.agg [(.int .i64 p0), (.data p1), (.data p2)]), (.data p3), (.data p4), (.data p5), (.data p6)] K = wv_l03_worths a0 p0 p1 p2 p3 p4 p5 p6 (fun r0 r1 r2 r3 r4 r5 r6 r7 r8 => K (.tup [(.agg [(.int .i64 r0), (.int .i64 r1), (.int .i64 r2), (.int .i64 r3), (.int .i64 r4), (.int .i64 r5), (.int .i64 r6), (.int .i64 r7)]), (.bool r8)])) := by kernel_rfl
theorem ok_l03_worths (e : List (Nat × EffF)) (he : EG e) : OkF (E e) wp_l03_worths n_l03_worths := by
 intro as K h
 unfold wp_l03_worths pw_l03_worths at h
 split at h
 · exact WP_ok (se0_l03_worths e he) (LpOk_no (by kernel_rfl)) (by kernel_rfl) (by kernel_rfl) (fun _ => baseS_none (by kernel_rfl) _) (he.num _ (by kernel_rfl)) ((eq_l03_worths ..).mpr h)
 · exact h.elim
abbrev T_l03_PieceSums : Type := List PV → List PV → Int → List PV → List PV → (Bool → Prop) → Prop
def wv_l03_PieceSums (a0 : T_l03_valid) (a1 : T_r02_Great) (a2 : T_l03_alive) (a3 : T_piece_Union) (a4 : T_piece_Meet) (a5 : T_l03_lengths) (a6 : T_l03_adds) (a7 : T_r02_Check) (a8 : T_r03_Within) (a9 : T_l03_worths) (p0 p1 : List PV) (p2 : Int) (p3 p4 : List PV) (K : Bool → Prop) : Prop :=
 (jn (fun (yj14 : Bool → Prop) =>
 (a0 p0 (fun yb113 => 
 (cbr (!yb113)
 (yj14 true)
 (a0 p1 (fun yb114 => 
 (cbr (!yb114)
 (yj14 true)
 (a1 p2 p3 p4 (fun yb115 => 
 (yj14 yb115))))))))))
 (fun yb13 => (cbr yb13
 (a2  (fun yb16 => 
 (K yb16)))
 (a3 p0 p1 (fun yl19 yi20 => 
 (a4 p0 p1 (fun yl23 yi24 => 
 (jn (fun (yj28 : Bool → Prop) =>
 (cbr (yi20 != (0 : Int))
 (yj28 true)
 (yj28 (yi24 != (0 : Int)))))
 (fun yb27 => (cbr yb27
 (K false)
 (a5 p0 p1 yl19 yl23 (fun yi59 yi60 yi61 yi62 yi63 yi64 yi65 yi66 yb67 => 
 (a6 yi59 yi60 yi61 yi62 yi63 yi64 yi65 yi66 yb67 (fun yb68 => 
 (cbr (!yb68)
 (K false)
 (jn (fun (yj83 : Bool → Prop) =>
 (a7 p2 p3 p4 (fun yi110 => 
 (cbr (yi110 != (0 : Int))
 (yj83 true)
 (a8 p2 p0 (fun yb111 => 
 (cbr (!yb111)
 (yj83 true)
 (a8 p2 p1 (fun yb112 => 
 (yj83 (!yb112)))))))))))
 (fun yb82 => (cbr yb82
 (a2  (fun yb85 => 
 (K yb85)))
 (jn (fun (yj98 : Bool → Prop) =>
 (a9 p2 p3 p4 p0 p1 yl19 yl23 (fun yi99 yi100 yi101 yi102 yi103 yi104 yi105 yi106 yb107 => 
 (a6 yi99 yi100 yi101 yi102 yi103 yi104 yi105 yi106 yb107 (fun yb108 => 
 (cbr yb108
 (a2  (fun yb109 => 
 (yj98 yb109)))
 (yj98 false)))))))
 (fun yb97 => (K yb97)))))))))))))))))))))
def w_l03_PieceSums (p0 p1 : List PV) (p2 : Int) (p3 p4 : List PV) (K : Bool → Prop) : Prop := wv_l03_PieceSums w_l03_valid w_r02_Great w_l03_alive w_piece_Union w_piece_Meet w_l03_lengths w_l03_adds w_r02_Check w_r03_Within w_l03_worths p0 p1 p2 p3 p4 K
def pw_l03_PieceSums (w : T_l03_PieceSums) (as : List PV) (K : PV → Prop) : Prop :=
 match as with
 | [(.data p0), (.data p1), (.agg [(.int .i64 p2), (.data p3), (.data p4)])] => w p0 p1 p2 p3 p4 (fun r0 => K (.bool r0))
 | _ => False
def wp_l03_PieceSums (as : List PV) (K : PV → Prop) : Prop := pw_l03_PieceSums w_l03_PieceSums as K
def lp_l03_PieceSums (_ : T_l03_valid) (_ : T_r02_Great) (_ : T_l03_alive) (_ : T_piece_Union) (_ : T_piece_Meet) (_ : T_l03_lengths) (_ : T_l03_adds) (_ : T_r02_Check) (_ : T_r03_Within) (_ : T_l03_worths) : LP := fun _ _ _ _ =>
 False
def S0_l03_PieceSums (a0 : T_l03_valid) (a1 : T_r02_Great) (a2 : T_l03_alive) (a3 : T_piece_Union) (a4 : T_piece_Meet) (a5 : T_l03_lengths) (a6 : T_l03_adds) (a7 : T_r02_Check) (a8 : T_r03_Within) (a9 : T_l03_worths) : SE := ⟨(E ef0), lookS [(n_l03_valid, pw_l03_valid a0), (n_r02_Great, pw_r02_Great a1), (n_l03_alive, pw_l03_alive a2), (n_piece_Union, pw_piece_Union a3), (n_piece_Meet, pw_piece_Meet a4), (n_l03_lengths, pw_l03_lengths a5), (n_l03_adds, pw_l03_adds a6), (n_r02_Check, pw_r02_Check a7), (n_r03_Within, pw_r03_Within a8), (n_l03_worths, pw_l03_worths a9)], lookI [], lp_l03_PieceSums a0 a1 a2 a3 a4 a5 a6 a7 a8 a9⟩
theorem se0_l03_PieceSums : SEOk (S0_l03_PieceSums w_l03_valid w_r02_Great w_l03_alive w_piece_Union w_piece_Meet w_l03_lengths w_l03_adds w_r02_Check w_r03_Within w_l03_worths) := seOk_of ⟨(ok_l03_valid ef0 effG0), (ok_r02_Great ef0 effG0), ok_l03_alive, ok_piece_Union, (ok_piece_Meet ef0 effG0), (ok_l03_lengths ef0 effG0), (ok_l03_adds ef0 effG0), (ok_r02_Check ef0 effG0), (ok_r03_Within ef0 effG0), (ok_l03_worths ef0 effG0), trivial⟩ trivial effG0.ok
theorem eq_l03_PieceSums (a0 a1 a2 a3 a4 a5 a6 a7 a8 a9 p0 p1 p2 p3 p4 K) : WP (S0_l03_PieceSums a0 a1 a2 a3 a4 a5 a6 a7 a8 a9) 6 t_l03_PieceSums [(.data p0), (.data p1), (.agg [(.int .i64 p2), (.data p3), (.data p4)])] K = wv_l03_PieceSums a0 a1 a2 a3 a4 a5 a6 a7 a8 a9 p0 p1 p2 p3 p4 (fun r0 => K (.bool r0)) := by kernel_rfl
theorem ok_l03_PieceSums : OkF (E ef0) wp_l03_PieceSums n_l03_PieceSums := by
 intro as K h
 unfold wp_l03_PieceSums pw_l03_PieceSums at h
 split at h
 · exact WP_ok (se0_l03_PieceSums) (LpOk_no (by kernel_rfl)) (by kernel_rfl) (by kernel_rfl) (fun _ => baseS_none (by kernel_rfl) _) (effG0.num _ (by kernel_rfl)) ((eq_l03_PieceSums ..).mpr h)
 · exact h.elim
end Go.Pf.Vc
namespace Go.Pf.Vc
open Go Go.Pf
def I64 (n : Int) : Prop := -9223372036854775808 ≤ n ∧ n ≤ 9223372036854775807
def U64 (n : Int) : Prop := 0 ≤ n ∧ n ≤ 18446744073709551615
theorem wu64' (n : Int) : IntKind.u64.wrap n = n % 18446744073709551616 := by
 simp only [IntKind.wrap, IntKind.signed, IntKind.bits, Bool.false_and, Bool.false_eq_true, if_false]
 rfl
theorem wi64' (n : Int) : IntKind.i64.wrap n = if n % 18446744073709551616 ≥ 9223372036854775808 then n % 18446744073709551616 - 18446744073709551616 else n % 18446744073709551616 := by
 have e1 : (2 : Int) ^ 64 = 18446744073709551616 := rfl
 have e2 : (2 : Int) ^ (64 - 1) = 9223372036854775808 := rfl
 simp only [IntKind.wrap, IntKind.signed, IntKind.bits, Bool.true_and, e1, e2]
 by_cases h : n % 18446744073709551616 ≥ 9223372036854775808 <;> simp [h]
theorem wu64 {n : Int} (h : U64 n) : IntKind.u64.wrap n = n := by
 unfold U64 at h
 rw [wu64']
 omega
theorem wi64 {n : Int} (h : I64 n) : IntKind.i64.wrap n = n := by
 unfold I64 at h
 rw [wi64']
 split <;> omega
theorem cbr_true {x y : Prop} : cbr true x y = x := rfl
theorem cbr_false {x y : Prop} : cbr false x y = y := rfl
theorem asr_true {x : Prop} : asr true x = x := rfl
theorem size_eq {p : Int} (h : I64 p) (K : Int → Prop) : w_ratio_size p K = K (p.natAbs : Int) := by
 unfold I64 at h
 unfold w_ratio_size wv_ratio_size
 by_cases hp : p < 0
 · have e : IntKind.u64.wrap ((0 : Int) - IntKind.u64.wrap p) = (p.natAbs : Int) := by
     rw [wu64', wu64']
     omega
   rw [decide_eq_true hp, cbr_true, e]
 · rw [decide_eq_false hp, cbr_false, wu64 ⟨by omega, by omega⟩]
   congr 1
   omega
theorem gcd_loop (x : Int → Int → Bool → Prop) : ∀ (n a b : Nat), b < n → L_ratio_gcd_0_0 x n (a : Int) (b : Int) = x ((Nat.gcd a b : Nat) : Int) 0 false
 | 0, a, b, h => by omega
 | n + 1, a, b, h => by
   unfold L_ratio_gcd_0_0
   by_cases hb : b = 0
   · subst hb
     simp [cbr]
   · have h1 : (b : Int) > 0 := by omega
     have h2 : ¬ ((b : Int) = 0) := by omega
     rw [decide_eq_true h1, cbr_true, decide_eq_false h2, Bool.not_false, asr_true]
     have e : Int.tmod (a : Int) (b : Int) = ((a % b : Nat) : Int) := by rw [Int.tmod_eq_emod_of_nonneg (by omega)]; omega
     rw [e, gcd_loop x n b (a % b) (by have := Nat.mod_lt a (show b > 0 by omega); omega)]
     rw [Nat.gcd_comm a b, Nat.gcd_rec b a, Nat.gcd_comm]
theorem gcd_of (a b : Nat) (K : Int → Prop) (h : K ((Nat.gcd a b : Nat) : Int)) : w_ratio_gcd (a : Int) (b : Int) K := by
 unfold w_ratio_gcd wv_ratio_gcd
 exact ⟨b + 1, by rw [gcd_loop _ (b + 1) a b (by omega)]; exact h⟩
def RV (n d : Int) : Prop := 1 ≤ d ∧ d ≤ 1000000000000000000 ∧ -1000000000000000000 ≤ n ∧ n ≤ 1000000000000000000 ∧ Nat.gcd n.natAbs d.natAbs = 1
instance (n d : Int) : Decidable (RV n d) := by unfold RV; infer_instance
def chk (n d : Int) : Int := if RV n d then 0 else 8
theorem Check_of {n d : Int} (hn : I64 n) (hd : I64 d) {K : Int → Prop} (h : K (chk n d)) : w_ratio_Check n d K := by
 unfold w_ratio_Check wv_ratio_Check
 by_cases h1 : d < 1
 · have e : chk n d = 8 := if_neg fun h => by have := h.1; omega
   rw [decide_eq_true h1, cbr_true, ← e]; exact h
 · have hd' := hd; have hn' := hn
   unfold I64 at hd' hn'
   have ed : IntKind.u64.wrap d = ((d.natAbs : Nat) : Int) := by rw [wu64 ⟨by omega, by omega⟩]; omega
   rw [decide_eq_false h1, cbr_false, size_eq hn, ed]
   by_cases h2 : ((if ((d.natAbs : Nat) : Int) > ((n.natAbs : Nat) : Int) then ((d.natAbs : Nat) : Int) else ((n.natAbs : Nat) : Int)) > 1000000000000000000)
   · have e : chk n d = 8 := if_neg fun h => by
       obtain ⟨a1, a2, a3, a4, _⟩ := h
       revert h2; split <;> omega
     rw [decide_eq_true h2, cbr_true, ← e]; exact h
   · rw [decide_eq_false h2, cbr_false, size_eq hn]
     refine gcd_of _ _ _ ?_
     have h3 : 0 < Nat.gcd n.natAbs d.natAbs := Nat.gcd_pos_of_pos_right _ (by omega)
     have h4 : d ≤ 1000000000000000000 ∧ -1000000000000000000 ≤ n ∧ n ≤ 1000000000000000000 := by
       revert h2; split <;> omega
     by_cases h5 : ((Nat.gcd n.natAbs d.natAbs : Nat) : Int) > 1
     · have e : chk n d = 8 := if_neg fun h => by have := h.2.2.2.2; omega
       rw [decide_eq_true h5, cbr_true, ← e]; exact h
     · have e : chk n d = 0 := if_pos ⟨by omega, h4.1, h4.2.1, h4.2.2, by omega⟩
       rw [decide_eq_false h5, cbr_false, ← e]; exact h
end Go.Pf.Vc
namespace Go.Pf.Vc
open Go Go.Pf
theorem mask32 {p : Int} (h : U64 p) : IntKind.u64.wrap (BitVec.ofInt IntKind.u64.bits p &&& BitVec.ofInt IntKind.u64.bits (4294967295 : Int)).toNat = p % 4294967296 := by
 unfold U64 at h
 have e1 : (BitVec.ofInt 64 p).toNat = p.toNat := by
   rw [BitVec.toNat_ofInt]; omega
 have e2 : (BitVec.ofInt 64 (4294967295 : Int)).toNat = 4294967295 := rfl
 have e3 : (BitVec.ofInt IntKind.u64.bits p &&& BitVec.ofInt IntKind.u64.bits (4294967295 : Int)).toNat = p.toNat % 4294967296 := by
   show (BitVec.ofInt 64 p &&& BitVec.ofInt 64 (4294967295 : Int)).toNat = _
   rw [BitVec.toNat_and, e1, e2]
   exact Nat.and_two_pow_sub_one_eq_mod p.toNat 32
 rw [e3, wu64']
 omega
theorem fdiv32 (p : Int) : Int.fdiv p 4294967296 = p / 4294967296 := by
 rw [Int.fdiv_eq_ediv_of_nonneg _ (by omega)]
theorem Mul64_eq {a b : Int} (ha : U64 a) (hb : U64 b) (K : Int → Int → Prop) : w_m_Mul64 a b K = K (a * b / 18446744073709551616) (a * b % 18446744073709551616) := by
 unfold w_m_Mul64 wv_m_Mul64
 simp only [fdiv32]
 rw [mask32 ha, mask32 hb]
 unfold U64 at ha hb
 have ha' := ha; have hb' := hb
 obtain ⟨x1, hx1⟩ : ∃ x, x = a / 4294967296 := ⟨_, rfl⟩
 obtain ⟨x0, hx0⟩ : ∃ x, x = a % 4294967296 := ⟨_, rfl⟩
 obtain ⟨y1, hy1⟩ : ∃ x, x = b / 4294967296 := ⟨_, rfl⟩
 obtain ⟨y0, hy0⟩ : ∃ x, x = b % 4294967296 := ⟨_, rfl⟩
 rw [← hx1, ← hx0, ← hy1, ← hy0]
 have b1 : 0 ≤ x1 ∧ x1 ≤ 4294967295 := by omega
 have b2 : 0 ≤ x0 ∧ x0 ≤ 4294967295 := by omega
 have b3 : 0 ≤ y1 ∧ y1 ≤ 4294967295 := by omega
 have b4 : 0 ≤ y0 ∧ y0 ≤ 4294967295 := by omega
 have pb : ∀ x y : Int, 0 ≤ x ∧ x ≤ 4294967295 → 0 ≤ y ∧ y ≤ 4294967295 → 0 ≤ x * y ∧ x * y ≤ 18446744065119617025 := by
   intro x y hx hy
   refine ⟨Int.mul_nonneg hx.1 hy.1, ?_⟩
   have := Int.mul_le_mul hx.2 hy.2 hy.1 (by omega : (0 : Int) ≤ 4294967295)
   omega
 have p1 := pb x1 y1 b1 b3
 have p2 := pb x1 y0 b1 b4
 have p3 := pb x0 y1 b2 b3
 have p4 := pb x0 y0 b2 b4
 have ea : a = x1 * 4294967296 + x0 := by omega
 have eb : b = y1 * 4294967296 + y0 := by omega
 have eab : a * b = x1 * y1 * 18446744073709551616 + x1 * y0 * 4294967296 + x0 * y1 * 4294967296 + x0 * y0 := by
   rw [ea, eb]; grind
 obtain ⟨P, hP⟩ : ∃ x, x = x1 * y1 := ⟨_, rfl⟩
 obtain ⟨Q, hQ⟩ : ∃ x, x = x1 * y0 := ⟨_, rfl⟩
 obtain ⟨R, hR⟩ : ∃ x, x = x0 * y1 := ⟨_, rfl⟩
 obtain ⟨S, hS⟩ : ∃ x, x = x0 * y0 := ⟨_, rfl⟩
 rw [← hP] at p1; rw [← hQ] at p2; rw [← hR] at p3; rw [← hS] at p4
 rw [← hP, ← hQ, ← hR, ← hS] at eab ⊢
 have w1 : IntKind.u64.wrap S = S := wu64 ⟨by omega, by omega⟩
 have w2 : IntKind.u64.wrap Q = Q := wu64 ⟨by omega, by omega⟩
 have w3 : IntKind.u64.wrap R = R := wu64 ⟨by omega, by omega⟩
 have w4 : IntKind.u64.wrap P = P := wu64 ⟨by omega, by omega⟩
 rw [w1, w2, w3, w4]
 have w5 : IntKind.u64.wrap (Q + S / 4294967296) = Q + S / 4294967296 := wu64 ⟨by omega, by omega⟩
 rw [w5, mask32 ⟨by omega, by omega⟩]
 have w6 : IntKind.u64.wrap ((Q + S / 4294967296) % 4294967296 + R) = (Q + S / 4294967296) % 4294967296 + R := wu64 ⟨by omega, by omega⟩
 rw [w6]
 have w7 : IntKind.u64.wrap (P + (Q + S / 4294967296) / 4294967296) = P + (Q + S / 4294967296) / 4294967296 := by
   have : a * b / 18446744073709551616 ≤ 18446744073709551615 := by
     have h1 : a * b ≤ 18446744073709551615 * 18446744073709551615 := by
       have := Int.mul_le_mul ha'.2 hb'.2 hb'.1 (by omega : (0 : Int) ≤ 18446744073709551615)
       exact this
     omega
   exact wu64 ⟨by omega, by omega⟩
 rw [w7]
 have hab : a * b ≤ 18446744073709551615 * 18446744073709551615 := Int.mul_le_mul ha'.2 hb'.2 hb'.1 (by omega : (0 : Int) ≤ 18446744073709551615)
 rw [eab] at hab ⊢
 rw [wu64', wu64']
 congr 1
 omega
theorem Or2_of {a b : Int} {K : Int → Prop} (h : K (if a = 0 then b else a)) : w_cmp_Or_api_Errno [.int .i64 a, .int .i64 b] K := by
 unfold w_cmp_Or_api_Errno wv_cmp_Or_api_Errno
 refine ⟨3, ?_⟩
 have e1 : IntKind.i64.wrap 1 = 1 := by decide
 have e2 : IntKind.i64.wrap 2 = 2 := by decide
 by_cases ha : a = 0
 · by_cases hb : b = 0
   · simp [L_cmp_Or_api_Errno_0_0, cbr_true, cbr_false, asr_true, conf, confC, intOfV, e1, e2, ha, hb] at h ⊢; exact h
   · have e3 : (b != 0) = true := by simpa using hb
     simp [L_cmp_Or_api_Errno_0_0, cbr_true, cbr_false, asr_true, conf, confC, intOfV, e1, e2, ha, e3] at h ⊢; exact h
 · have e3 : (a != 0) = true := by simpa using ha
   simp [L_cmp_Or_api_Errno_0_0, cbr_true, cbr_false, asr_true, conf, confC, intOfV, e1, e2, ha, e3] at h ⊢; exact h
def chk2 (a b c d : Int) : Int := if chk a b = 0 then chk c d else chk a b
theorem check_of {a b c d : Int} (ha : I64 a) (hb : I64 b) (hc : I64 c) (hd : I64 d) {K : Int → Prop} (h : K (chk2 a b c d)) : w_ratio_check a b c d K := by
 unfold w_ratio_check wv_ratio_check
 exact Check_of ha hb (Check_of hc hd (Or2_of h))
end Go.Pf.Vc
namespace Go.Pf.Vc
open Go Go.Pf
def cmp3 (a b : Int) : Int := if a < b then -1 else if a > b then 1 else 0
theorem Compare_i_eq (a b : Int) (K : Int → Prop) : w_cmp_Compare_int64 a b K = K (cmp3 a b) := by
 unfold w_cmp_Compare_int64 wv_cmp_Compare_int64
 simp only [w_cmp_isNaN_int64, wv_cmp_isNaN_int64, bne_self_eq_false, cbr_false, cmp3]
 by_cases h : a < b
 · simp [h, cbr_true]
 · by_cases h2 : a > b
   · simp [h, h2, cbr_true, cbr_false]
   · simp [h, h2, cbr_false]
theorem Compare_u_eq (a b : Int) (K : Int → Prop) : w_cmp_Compare_uint64 a b K = K (cmp3 a b) := by
 unfold w_cmp_Compare_uint64 wv_cmp_Compare_uint64
 simp only [w_cmp_isNaN_uint64, wv_cmp_isNaN_uint64, bne_self_eq_false, cbr_false, cmp3]
 by_cases h : a < b
 · simp [h, cbr_true]
 · by_cases h2 : a > b
   · simp [h, h2, cbr_true, cbr_false]
   · simp [h, h2, cbr_false]
theorem Or2i_of {a b : Int} {K : Int → Prop} (h : K (if a = 0 then b else a)) : w_cmp_Or_int [.int .i64 a, .int .i64 b] K := by
 unfold w_cmp_Or_int wv_cmp_Or_int
 refine ⟨3, ?_⟩
 have e1 : IntKind.i64.wrap 1 = 1 := by decide
 have e2 : IntKind.i64.wrap 2 = 2 := by decide
 by_cases ha : a = 0
 · by_cases hb : b = 0
   · simp [L_cmp_Or_int_0_0, cbr_true, cbr_false, asr_true, conf, confC, intOfV, e1, e2, ha, hb] at h ⊢; exact h
   · have e3 : (b != 0) = true := by simpa using hb
     simp [L_cmp_Or_int_0_0, cbr_true, cbr_false, asr_true, conf, confC, intOfV, e1, e2, ha, e3] at h ⊢; exact h
 · have e3 : (a != 0) = true := by simpa using ha
   simp [L_cmp_Or_int_0_0, cbr_true, cbr_false, asr_true, conf, confC, intOfV, e1, e2, ha, e3] at h ⊢; exact h
theorem I64.of {n : Int} (h1 : -1000000000000000000 ≤ n) (h2 : n ≤ 1000000000000000000) : I64 n := ⟨by omega, by omega⟩
theorem chk2_zero {a b c d : Int} : chk2 a b c d = 0 ↔ RV a b ∧ RV c d := by
 unfold chk2 chk
 by_cases h1 : RV a b <;> by_cases h2 : RV c d <;> simp [h1, h2]
def cmpR (a b c d : Int) : Int := cmp3 (a * d) (c * b)
theorem cmp3_wide {x y : Int} (_ : 0 ≤ x) (_ : 0 ≤ y) : (if cmp3 (x / 18446744073709551616) (y / 18446744073709551616) = 0 then cmp3 (x % 18446744073709551616) (y % 18446744073709551616) else cmp3 (x / 18446744073709551616) (y / 18446744073709551616)) = cmp3 x y := by
 unfold cmp3
 split <;> rename_i h <;> revert h <;> repeat' split <;> intro h <;> omega
theorem U64.abs {n : Int} (h : I64 n) : U64 ((n.natAbs : Nat) : Int) := by unfold I64 at h; unfold U64; omega
theorem Cmp_of {a b c d : Int} (ha : I64 a) (hb : I64 b) (hc : I64 c) (hd : I64 d) {K : Int → Int → Prop} (h : K (if chk2 a b c d = 0 then cmpR a b c d else 0) (chk2 a b c d)) : w_ratio_Cmp a b c d K := by
 unfold w_ratio_Cmp wv_ratio_Cmp
 refine check_of ha hb hc hd ?_
 by_cases hk : chk2 a b c d = 0
 · rw [if_pos hk] at h
   rw [hk] at h ⊢
   obtain ⟨⟨b1, b2, a1, a2, _⟩, d1, d2, c1, c2, _⟩ := chk2_zero.1 hk
   simp only [bne_self_eq_false, cbr_false]
   by_cases hs : decide (a < 0) = decide (c < 0)
   · have e : (decide (a < 0) != decide (c < 0)) = false := by rw [hs]; simp
     rw [e, cbr_false, size_eq ha, wu64 ⟨by omega, by omega⟩, Mul64_eq (U64.abs ha) ⟨by omega, by omega⟩, size_eq hc, wu64 ⟨by omega, by omega⟩, Mul64_eq (U64.abs hc) ⟨by omega, by omega⟩, Compare_u_eq, Compare_u_eq]
     refine Or2i_of ?_
     have p1 : 0 ≤ ((a.natAbs : Nat) : Int) * d := Int.mul_nonneg (by omega) (by omega)
     have p2 : 0 ≤ ((c.natAbs : Nat) : Int) * b := Int.mul_nonneg (by omega) (by omega)
     rw [cmp3_wide p1 p2]
     by_cases hneg : a < 0
     · have hcn : c < 0 := by simpa [hneg] using hs.symm
       rw [decide_eq_true hneg, cbr_true]
       have e1 : ((a.natAbs : Nat) : Int) * d = -(a * d) := by
         rw [show ((a.natAbs : Nat) : Int) = -a by omega, Int.neg_mul]
       have e2 : ((c.natAbs : Nat) : Int) * b = -(c * b) := by
         rw [show ((c.natAbs : Nat) : Int) = -c by omega, Int.neg_mul]
       have e3 : IntKind.i64.wrap (0 - cmp3 (((a.natAbs : Nat) : Int) * d) (((c.natAbs : Nat) : Int) * b)) = cmpR a b c d := by
         rw [e1, e2]
         unfold cmpR cmp3
         rw [wi64 (by unfold I64; repeat' split <;> omega)]
         repeat' split <;> omega
       rw [e3]; exact h
     · have hcn : ¬ c < 0 := by simpa [hneg] using hs.symm
       rw [decide_eq_false hneg, cbr_false, show ((a.natAbs : Nat) : Int) = a by omega, show ((c.natAbs : Nat) : Int) = c by omega]
       exact h
   · have e : (decide (a < 0) != decide (c < 0)) = true := by simpa using hs
     rw [e, cbr_true, Compare_i_eq]
     have e2 : cmp3 a c = cmpR a b c d := by
       unfold cmpR cmp3
       by_cases hneg : a < 0
       · have hcn : ¬ c < 0 := by intro hcn; simp [hneg, hcn] at hs
         have q1 : a * d < 0 := Int.mul_neg_of_neg_of_pos hneg (by omega)
         have q2 : 0 ≤ c * b := Int.mul_nonneg (by omega) (by omega)
         rw [if_pos (by omega), if_pos (by omega)]
       · have hcn : c < 0 := by
           by_cases hcn : c < 0
           · exact hcn
           · simp [hneg, hcn] at hs
         have q1 : c * b < 0 := Int.mul_neg_of_neg_of_pos hcn (by omega)
         have q2 : 0 ≤ a * d := Int.mul_nonneg (by omega) (by omega)
         rw [if_neg (by omega), if_pos (by omega), if_neg (by omega), if_pos (by omega)]
     rw [e2]; exact h
 · rw [if_neg hk] at h
   have e : (chk2 a b c d != 0) = true := by simpa using hk
   rw [e, cbr_true]; exact h
end Go.Pf.Vc
namespace Go.Pf.Vc
open Go Go.Pf
def blen (x : Nat) : Nat := if x = 0 then 0 else x.log2 + 1
theorem blen_lt (x : Nat) : x < 2 ^ blen x := by
 unfold blen
 split
 · rename_i h; subst h; decide
 · exact Nat.lt_log2_self
theorem blen_le {x : Nat} (h : x ≠ 0) : 2 ^ (blen x - 1) ≤ x := by
 unfold blen
 rw [if_neg h]
 exact Nat.log2_self_le h
theorem blen_of {x m : Nat} (h1 : 2 ^ m ≤ x) (h2 : x < 2 ^ (m + 1)) : blen x = m + 1 := by
 have hx : x ≠ 0 := by have := Nat.two_pow_pos m; omega
 unfold blen
 rw [if_neg hx]
 congr 1
 have a := Nat.log2_self_le hx
 have b := Nat.lt_log2_self (n := x)
 have c1 : ¬ (x.log2 < m) := fun h => by
   have := Nat.pow_le_pow_right (show 0 < 2 by omega) (show x.log2 + 1 ≤ m by omega)
   omega
 have c2 : ¬ (m < x.log2) := fun h => by
   have := Nat.pow_le_pow_right (show 0 < 2 by omega) (show m + 1 ≤ x.log2 by omega)
   omega
 omega
theorem blen_div {x k : Nat} (h : 2 ^ k ≤ x) : blen x = k + blen (x / 2 ^ k) := by
 have hp := Nat.two_pow_pos k
 have hq : x / 2 ^ k ≠ 0 := by
   have := Nat.div_pos h hp
   omega
 have h1 := blen_le hq
 have h2 := blen_lt (x / 2 ^ k)
 obtain ⟨m, hm⟩ : ∃ m, blen (x / 2 ^ k) = m + 1 := ⟨blen (x / 2 ^ k) - 1, by
   have : blen (x / 2 ^ k) ≠ 0 := by unfold blen; rw [if_neg hq]; omega
   omega⟩
 rw [hm] at h1 h2 ⊢
 rw [Nat.add_sub_cancel] at h1
 have := blen_of (x := x) (m := k + m) (by
     rw [Nat.pow_add]
     calc 2 ^ k * 2 ^ m ≤ 2 ^ k * (x / 2 ^ k) := Nat.mul_le_mul_left _ h1
       _ ≤ x := Nat.mul_div_le _ _) (by
     rw [show k + m + 1 = k + (m + 1) by omega, Nat.pow_add]
     rw [Nat.mul_comm]
     exact (Nat.div_lt_iff_lt_mul hp).1 h2)
 omega
theorem tab_eq : ∀ x : Nat, x < 256 → intOfV (List.getD len8tab x .nils) = (blen x : Int) := by decide +kernel
theorem wu8 {n : Int} (h0 : 0 ≤ n) (h1 : n < 256) : IntKind.u8.wrap n = n := by
 have e1 : (2 : Int) ^ 8 = 256 := rfl
 simp only [IntKind.wrap, IntKind.signed, IntKind.bits, Bool.false_and, Bool.false_eq_true, if_false, e1]
 omega
theorem look_eq {n : Int} (h0 : 0 ≤ n) (h1 : n < 256) : intOfV (List.getD len8tab (IntKind.u8.wrap n).toNat .nils) = (blen n.toNat : Int) := by
 rw [wu8 h0 h1]
 exact tab_eq n.toNat (by omega)
theorem blen8 {n : Nat} (h : n < 256) : blen n ≤ 8 := by
 by_cases h0 : n = 0
 · subst h0; decide
 · have := blen_le h0
   have h2 : blen n - 1 < 8 := by
     refine Nat.lt_of_not_le fun hc => ?_
     have := Nat.pow_le_pow_right (show 0 < 2 by omega) hc
     omega
   omega
theorem leaf8 {n k : Int} (h0 : 0 ≤ n) (h1 : n < 256) (hk : 0 ≤ k ∧ k ≤ 56) {m : Int} (hm : m = k + blen n.toNat) {K : Int → Prop} (h : K m) :
   asr (decide ((0 : Int) ≤ (IntKind.u8.wrap n))) (asr (decide ((IntKind.u8.wrap n) < (256 : Int))) (K (IntKind.i64.wrap (k + (IntKind.i64.wrap (intOfV (List.getD len8tab ((IntKind.u8.wrap n).toNat) .nils))))))) := by
 have hb := blen8 (n := n.toNat) (by omega)
 have e1 : IntKind.i64.wrap (blen n.toNat : Int) = blen n.toNat := wi64 (by unfold I64; omega)
 have e2 : IntKind.i64.wrap (k + blen n.toNat : Int) = k + blen n.toNat := wi64 (by unfold I64; omega)
 rw [look_eq h0 h1, wu8 h0 h1, decide_eq_true h0, asr_true, decide_eq_true h1, asr_true, e1, e2, ← hm]
 exact h
theorem fdivn (p q : Int) (hq : 0 ≤ q) : Int.fdiv p q = p / q := Int.fdiv_eq_ediv_of_nonneg _ hq
theorem Len64_of {p : Int} (hp : U64 p) {K : Int → Prop} (h : K (blen p.toNat : Int)) : w_m_Len64 p K := by
 unfold U64 at hp
 unfold w_m_Len64 wv_m_Len64
 simp only [fdivn _ 4294967296 (by omega), fdivn _ 65536 (by omega), fdivn _ 256 (by omega)]
 have key : ∀ (k : Nat) (q : Int), 2 ^ k ≤ p.toNat → q = p / (2 ^ k : Nat) → (blen p.toNat : Int) = k + blen q.toNat := by
   intro k q hk hq
   have e : q.toNat = p.toNat / 2 ^ k := by
     rw [hq]
     obtain ⟨m, rfl⟩ : ∃ m : Nat, p = m := ⟨p.toNat, by omega⟩
     rw [← Int.natCast_ediv, Int.toNat_natCast, Int.toNat_natCast]
   rw [e]
   have := blen_div hk
   omega
 by_cases h1 : p ≥ 4294967296
 · rw [decide_eq_true h1, cbr_true]
   by_cases h2 : p / 4294967296 ≥ 65536
   · rw [decide_eq_true h2, cbr_true]
     by_cases h3 : p / 4294967296 / 65536 ≥ 256
     · rw [decide_eq_true h3, cbr_true]
       exact leaf8 (by omega) (by omega) (by omega) (key 56 _ (by omega) (by omega)) h
     · rw [decide_eq_false h3, cbr_false]
       exact leaf8 (by omega) (by omega) (by omega) (key 48 _ (by omega) (by omega)) h
   · rw [decide_eq_false h2, cbr_false]
     by_cases h3 : p / 4294967296 ≥ 256
     · rw [decide_eq_true h3, cbr_true]
       exact leaf8 (by omega) (by omega) (by omega) (key 40 _ (by omega) (by omega)) h
     · rw [decide_eq_false h3, cbr_false]
       exact leaf8 (by omega) (by omega) (by omega) (key 32 _ (by omega) (by omega)) h
 · rw [decide_eq_false h1, cbr_false]
   by_cases h2 : p ≥ 65536
   · rw [decide_eq_true h2, cbr_true]
     by_cases h3 : p / 65536 ≥ 256
     · rw [decide_eq_true h3, cbr_true]
       exact leaf8 (by omega) (by omega) (by omega) (key 24 _ (by omega) (by omega)) h
     · rw [decide_eq_false h3, cbr_false]
       exact leaf8 (by omega) (by omega) (by omega) (key 16 _ (by omega) (by omega)) h
   · rw [decide_eq_false h2, cbr_false]
     by_cases h3 : p ≥ 256
     · rw [decide_eq_true h3, cbr_true]
       exact leaf8 (by omega) (by omega) (by omega) (key 8 _ (by omega) (by omega)) h
     · rw [decide_eq_false h3, cbr_false]
       exact leaf8 (by omega) (by omega) (by omega) (by simp) h
theorem LeadingZeros64_of {p : Int} (hp : U64 p) {K : Int → Prop} (h : K (64 - blen p.toNat : Int)) : w_m_LeadingZeros64 p K := by
 unfold w_m_LeadingZeros64 wv_m_LeadingZeros64
 refine Len64_of hp ?_
 have hb : blen p.toNat ≤ 64 := by
   unfold U64 at hp
   by_cases h0 : p.toNat = 0
   · rw [h0]; decide
   · have := blen_le h0
     have h2 : blen p.toNat - 1 < 64 := by
       refine Nat.lt_of_not_le fun hc => ?_
       have := Nat.pow_le_pow_right (show 0 < 2 by omega) hc
       omega
     omega
 rw [wi64 (by unfold I64; omega)]
 exact h
end Go.Pf.Vc
namespace Go.Pf.Vc
open Go Go.Pf
structure DI (y yn1 yn0 u un q r : Int) : Prop where
 hy : y = yn1 * 4294967296 + yn0
 h1 : 2147483648 ≤ yn1 ∧ yn1 ≤ 4294967295
 h0 : 0 ≤ yn0 ∧ yn0 ≤ 4294967295
 hn : 0 ≤ un ∧ un ≤ 4294967295
 hu : q * yn1 + r = u
 hq : 0 ≤ q ∧ q ≤ 4294967297
 hr : 0 ≤ r ∧ r ≤ 4294967295
 hlt : u < y
 hU : u * 4294967296 + un < (q + 1) * y
def DG (y u un q : Int) : Prop := 0 ≤ q ∧ q ≤ 4294967295 ∧ q * y ≤ u * 4294967296 + un ∧ u * 4294967296 + un < (q + 1) * y
theorem DI.step {y yn1 yn0 u un q r : Int} (h : DI y yn1 yn0 u un q r) {A B C : Prop}
   (hA : DG y u un (q - 1) → 0 ≤ q - 1 → q - 1 ≤ 4294967296 → A)
   (hB : DI y yn1 yn0 u un (q - 1) (r + yn1) → B)
   (hC : DG y u un q → C) :
   cbr (decide (q ≥ (4294967296 : Int)))
     (cbr (decide ((IntKind.u64.wrap (r + yn1)) ≥ (4294967296 : Int))) A B)
     (cbr (decide ((IntKind.u64.wrap (q * yn0)) > (IntKind.u64.wrap ((IntKind.u64.wrap ((4294967296 : Int) * r)) + un))))
       (cbr (decide ((IntKind.u64.wrap (r + yn1)) ≥ (4294967296 : Int))) A B) C) := by
 have h' := h
 obtain ⟨hy, h1, h0, hn, hu, hq, hr, hlt, hU⟩ := h
 have e1 : IntKind.u64.wrap (r + yn1) = r + yn1 := wu64 ⟨by omega, by omega⟩
 have eq1 : q * y = q * yn1 * 4294967296 + q * yn0 := by rw [hy]; grind
 have eq2 : (q - 1) * y = q * y - y := by grind
 have eq3 : (q - 1) * yn1 = q * yn1 - yn1 := by grind
 have eq4 : (q - 1 + 1) * y = q * y := by grind
 have eq5 : (q - 1) * yn0 = q * yn0 - yn0 := by grind
 have big : u * 4294967296 + un < q * y → cbr (decide ((IntKind.u64.wrap (r + yn1)) ≥ (4294967296 : Int))) A B := by
   intro hb
   have q1 : 0 ≤ q - 1 := by
     refine Int.not_lt.1 fun hc => ?_
     have hq0 : q = 0 := by omega
     subst hq0
     simp at hb hu
     omega
   rw [e1]
   by_cases hc : r + yn1 ≥ 4294967296
   · rw [decide_eq_true hc, cbr_true]
     have hp : (q - 1) * yn0 ≤ 4294967296 * 4294967295 := Int.mul_le_mul (by omega) h0.2 h0.1 (by omega)
     have hle : (q - 1) * y ≤ u * 4294967296 + un := by
       have : (q - 1) * y = (q - 1) * yn1 * 4294967296 + (q - 1) * yn0 := by rw [hy]; grind
       omega
     have hlt32 : q - 1 ≤ 4294967295 := by
       refine Int.not_lt.1 fun hc => ?_
       have : 4294967296 * y ≤ (q - 1) * y := Int.mul_le_mul_of_nonneg_right (by omega) (by omega)
       omega
     exact hA ⟨q1, hlt32, hle, by rw [eq4]; exact hb⟩ q1 (by omega)
   · rw [decide_eq_false hc, cbr_false]
     exact hB ⟨hy, h1, h0, hn, by rw [eq3]; omega, ⟨q1, by omega⟩, ⟨by omega, by omega⟩, hlt, by rw [eq4]; exact hb⟩
 by_cases ha : q ≥ 4294967296
 · rw [decide_eq_true ha, cbr_true]
   refine big ?_
   have : 4294967296 * y ≤ q * y := Int.mul_le_mul_of_nonneg_right (by omega) (by omega)
   omega
 · rw [decide_eq_false ha, cbr_false]
   have hp : q * yn0 ≤ 4294967295 * 4294967295 := Int.mul_le_mul (by omega) h0.2 h0.1 (by omega)
   have hp0 : 0 ≤ q * yn0 := Int.mul_nonneg hq.1 h0.1
   have w1 : IntKind.u64.wrap (q * yn0) = q * yn0 := wu64 ⟨hp0, by omega⟩
   have w2 : IntKind.u64.wrap ((4294967296 : Int) * r) = 4294967296 * r := wu64 ⟨by omega, by omega⟩
   have w3 : IntKind.u64.wrap ((4294967296 : Int) * r + un) = 4294967296 * r + un := wu64 ⟨by omega, by omega⟩
   rw [w1, w2, w3]
   by_cases hb : q * yn0 > 4294967296 * r + un
   · rw [decide_eq_true hb, cbr_true]
     exact big (by omega)
   · rw [decide_eq_false hb, cbr_false]
     exact hC ⟨hq.1, by omega, by omega, hU⟩
theorem L0_of (W : Int → (Int → Prop) → Prop) {y yn1 yn0 u un : Int} (s v un0 : Int) {x0 x1 : Int → Int → Int → Int → Int → Int → Int → Int → Int → Bool → Prop}
   (hx : ∀ q r b, DG y u un q → x0 y s yn1 yn0 v un un0 q r b) (hx1 : ∀ q r b, DG y u un q → x1 y s yn1 yn0 v un un0 q r b) :
   ∀ (n : Nat) (q r : Int) (b : Bool), DI y yn1 yn0 u un q r → 4294967296 ≤ r + n * 2147483648 → L_m_Div64_0_1 W x0 x1 (n + 1) y s yn1 yn0 v un un0 q r b := by
 intro n
 induction n with
 | zero =>
   intro q r b h hn
   have := h.hr.2
   exact absurd hn (by omega)
 | succ n ih =>
   intro q r b h hn
   unfold L_m_Div64_0_1
   refine h.step (fun g a1 a2 => ?_) (fun g => ?_) (fun g => hx1 _ _ _ g)
   · rw [wu64 (n := q - 1) ⟨by omega, by omega⟩]
     exact hx _ _ _ g
   · have e1 : IntKind.u64.wrap (q - 1) = q - 1 := wu64 ⟨g.hq.1, by have := g.hq.2; omega⟩
     have e2 : IntKind.u64.wrap (r + yn1) = r + yn1 := wu64 ⟨g.hr.1, by have := g.hr.2; omega⟩
     rw [e1, e2]
     exact ih _ _ _ g (by have := h.h1.1; omega)
theorem L1_of (W : Int → (Int → Prop) → Prop) {y yn1 yn0 u un : Int} (s q1 v : Int) {x0 x1 : Int → Int → Int → Int → Int → Int → Int → Int → Int → Bool → Prop}
   (hx : ∀ q r b, DG y u un q → x0 y s yn1 yn0 un q1 r v q b) (hx1 : ∀ q r b, DG y u un q → x1 y s yn1 yn0 un q1 r v q b) :
   ∀ (n : Nat) (q r : Int) (b : Bool), DI y yn1 yn0 u un q r → 4294967296 ≤ r + n * 2147483648 → L_m_Div64_1_1 W x0 x1 (n + 1) y s yn1 yn0 un q1 r v q b := by
 intro n
 induction n with
 | zero =>
   intro q r b h hn
   have := h.hr.2
   exact absurd hn (by omega)
 | succ n ih =>
   intro q r b h hn
   unfold L_m_Div64_1_1
   refine h.step (fun g a1 a2 => ?_) (fun g => ?_) (fun g => hx1 _ _ _ g)
   · rw [wu64 (n := q - 1) ⟨by omega, by omega⟩]
     exact hx _ _ _ g
   · have e1 : IntKind.u64.wrap (q - 1) = q - 1 := wu64 ⟨g.hq.1, by have := g.hq.2; omega⟩
     have e2 : IntKind.u64.wrap (r + yn1) = r + yn1 := wu64 ⟨g.hr.1, by have := g.hr.2; omega⟩
     rw [e1, e2]
     exact ih _ _ _ g (by have := h.h1.1; omega)
theorem L0_of' (W : Int → (Int → Prop) → Prop) {y yn1 yn0 u un : Int} (s v un0 : Int) {x0 x1 : Int → Int → Int → Int → Int → Int → Int → Int → Int → Bool → Prop}
   (hx : ∀ q r b, DG y u un q → x0 y s yn1 yn0 v un un0 q r b) (hx1 : ∀ q r b, DG y u un q → x1 y s yn1 yn0 v un un0 q r b) (q r : Int) (h : DI y yn1 yn0 u un q r) : L_m_Div64_0_0 W x0 x1 3 y s yn1 yn0 v un un0 q r := by
 have := L0_of W s v un0 hx hx1 2 q r true h (by have := h.hr.1; omega)
 unfold L_m_Div64_0_1 at this
 unfold L_m_Div64_0_0
 exact this
theorem L1_of' (W : Int → (Int → Prop) → Prop) {y yn1 yn0 u un : Int} (s q1 v : Int) {x0 x1 : Int → Int → Int → Int → Int → Int → Int → Int → Int → Bool → Prop}
   (hx : ∀ q r b, DG y u un q → x0 y s yn1 yn0 un q1 r v q b) (hx1 : ∀ q r b, DG y u un q → x1 y s yn1 yn0 un q1 r v q b) (q r : Int) (h : DI y yn1 yn0 u un q r) : L_m_Div64_1_0 W x0 x1 3 y s yn1 yn0 un q1 r v q := by
 have := L1_of W s q1 v hx hx1 2 q r true h (by have := h.hr.1; omega)
 unfold L_m_Div64_1_1 at this
 unfold L_m_Div64_1_0
 exact this
end Go.Pf.Vc
namespace Go.Pf.Vc
open Go Go.Pf
theorem DI.init {y yn1 yn0 u un : Int} (hy : y = yn1 * 4294967296 + yn0) (h1 : 2147483648 ≤ yn1 ∧ yn1 ≤ 4294967295) (h0 : 0 ≤ yn0 ∧ yn0 ≤ 4294967295) (hn : 0 ≤ un ∧ un ≤ 4294967295)
   (hu : 0 ≤ u) (hlt : u < y) : DI y yn1 yn0 u un (u / yn1) (u - u / yn1 * yn1) := by
 have a1 := Int.mul_ediv_add_emod u yn1
 have a2 := Int.emod_nonneg u (show yn1 ≠ 0 by omega)
 have a3 := Int.emod_lt_of_pos u (show 0 < yn1 by omega)
 have a4 : u / yn1 * yn1 = yn1 * (u / yn1) := Int.mul_comm _ _
 have a5 : 0 ≤ u / yn1 := Int.ediv_nonneg hu (by omega)
 have a6 : u / yn1 ≤ 4294967297 := by
   refine Int.not_lt.1 fun hc => ?_
   have : yn1 * 4294967298 ≤ yn1 * (u / yn1) := Int.mul_le_mul_of_nonneg_left (by omega) (by omega)
   omega
 refine ⟨hy, h1, h0, hn, by omega, ⟨a5, a6⟩, ⟨by omega, by omega⟩, hlt, ?_⟩
 have e : (u / yn1 + 1) * y = yn1 * (u / yn1) * 4294967296 + yn1 * 4294967296 + (u / yn1 + 1) * yn0 := by
   obtain ⟨t, ht⟩ : ∃ t, t = u / yn1 := ⟨_, rfl⟩
   rw [← ht, hy]; grind
 have : 0 ≤ (u / yn1 + 1) * yn0 := Int.mul_nonneg (by omega) h0.1
 omega
theorem or_eq {a b : Int} {k : Nat} (ha : 0 ≤ a) (hb : 0 ≤ b ∧ b < 2 ^ k) (hab : a * 2 ^ k ≤ 18446744073709551615 ∧ b ≤ 18446744073709551615) (hs : a * 2 ^ k + b ≤ 18446744073709551615) :
   IntKind.u64.wrap (BitVec.ofInt IntKind.u64.bits (a * 2 ^ k) ||| BitVec.ofInt IntKind.u64.bits b).toNat = a * 2 ^ k + b := by
 obtain ⟨x, rfl⟩ : ∃ x : Nat, a = x := ⟨a.toNat, by omega⟩
 obtain ⟨z, rfl⟩ : ∃ z : Nat, b = z := ⟨b.toNat, by omega⟩
 have ec : ((x : Int) * 2 ^ k) = ((2 ^ k * x : Nat) : Int) := by push_cast; exact Int.mul_comm _ _
 rw [ec] at hab hs ⊢
 have hz : z < 2 ^ k := by have := hb.2; exact_mod_cast this
 have e : (BitVec.ofInt IntKind.u64.bits ((2 ^ k * x : Nat) : Int) ||| BitVec.ofInt IntKind.u64.bits (z : Int)).toNat = 2 ^ k * x + z := by
   show (BitVec.ofInt 64 ((2 ^ k * x : Nat) : Int) ||| BitVec.ofInt 64 (z : Int)).toNat = _
   rw [BitVec.toNat_or, BitVec.toNat_ofInt, BitVec.toNat_ofInt]
   have e1 : (((2 ^ k * x : Nat) : Int) % (2 ^ 64 : Nat)).toNat = 2 ^ k * x := by omega
   have e2 : ((z : Int) % (2 ^ 64 : Nat)).toNat = z := by omega
   rw [e1, e2, Nat.two_pow_add_eq_or_of_lt hz]
 rw [e, wu64 ⟨by omega, by omega⟩]
 push_cast; rfl
theorem rest_eq {u un q y : Int} (h0 : 0 ≤ u * 4294967296 + un - q * y) (h1 : u * 4294967296 + un - q * y ≤ 18446744073709551615) :
   IntKind.u64.wrap (IntKind.u64.wrap (IntKind.u64.wrap (u * 4294967296) + un) - IntKind.u64.wrap (q * y)) = u * 4294967296 + un - q * y := by
 simp only [wu64']
 omega
theorem tdivn {a b : Int} (h : 0 ≤ a) : Int.tdiv a b = a / b := Int.tdiv_eq_ediv_of_nonneg h
theorem tmodn {a b : Int} (h : 0 ≤ a) : Int.tmod a b = a % b := Int.tmod_eq_emod_of_nonneg h
theorem Div64_of {h l y : Int} (hh : U64 h) (hl : U64 l) (hy : U64 y) (hlt : h < y) {K : Int → Int → Prop}
   (k : K ((h * 18446744073709551616 + l) / y) ((h * 18446744073709551616 + l) % y)) : w_m_Div64 h l y K := by
 unfold U64 at hh hl hy
 unfold w_m_Div64 wv_m_Div64
 have b1 : (y == (0 : Int)) = false := beq_eq_false_iff_ne.2 (by omega)
 have b2 : decide (y ≤ h) = false := decide_eq_false (by omega)
 have b3 : (!(decide (y = (0 : Int)))) = true := by rw [decide_eq_false (by omega)]; rfl
 rw [b1, cbr_false, b2, cbr_false, b3]
 by_cases h0 : h = 0
 · subst h0
   have : ((0 : Int) == 0) = true := rfl
   rw [this, cbr_true, asr_true, asr_true, tdivn hl.1, tmodn hl.1]
   have e : (0 : Int) * 18446744073709551616 + l = l := by omega
   rw [e] at k
   have b4 : l / y ≤ l := Int.ediv_le_self _ hl.1
   rw [wu64 ⟨Int.ediv_nonneg hl.1 (by omega), by omega⟩]
   exact k
 · have b4 : (h == (0 : Int)) = false := beq_eq_false_iff_ne.2 h0
   rw [b4, cbr_false]
   refine LeadingZeros64_of ⟨by omega, by omega⟩ ?_
   have hyn : y.toNat ≠ 0 := by omega
   have c1 := blen_lt y.toNat
   have c2 := blen_le hyn
   have c3 : blen y.toNat ≤ 64 := by
     refine Nat.le_of_not_lt fun hc => ?_
     have := Nat.pow_le_pow_right (show 0 < 2 by omega) (show 64 ≤ blen y.toNat - 1 by omega)
     omega
   have c4 : 1 ≤ blen y.toNat := by
     refine Nat.le_of_not_lt fun hc => ?_
     have : blen y.toNat = 0 := by omega
     rw [this] at c1
     omega
   obtain ⟨m, hm⟩ : ∃ m, m = 64 - blen y.toNat := ⟨_, rfl⟩
   have es : (64 - (blen y.toNat : Int)) = (m : Int) := by omega
   rw [es]
   have m63 : m ≤ 63 := by omega
   have e1 : IntKind.u64.wrap (m : Int) = m := wu64 ⟨by omega, by omega⟩
   have e2 : IntKind.u64.wrap ((64 : Int) - m) = ((64 - m : Nat) : Int) := by
     rw [wu64 ⟨by omega, by omega⟩]; omega
   have e3 : min ((m : Int)).toNat IntKind.u64.bits = m := by
     show min ((m : Int)).toNat 64 = m
     rw [Int.toNat_natCast]; omega
   have e4 : min (((64 - m : Nat) : Int)).toNat IntKind.u64.bits = 64 - m := by
     show min (((64 - m : Nat) : Int)).toNat 64 = 64 - m
     rw [Int.toNat_natCast]; omega
   simp only [e1]
   rw [e2, e3, e4]
   have p64 : (2 : Int) ^ (64 - m) * 2 ^ m = 18446744073709551616 := by
     rw [← Int.pow_add, show 64 - m + m = 64 by omega]; rfl
   have p63 : (2 : Int) ^ (63 - m) * 2 ^ m = 9223372036854775808 := by
     rw [← Int.pow_add, show 63 - m + m = 63 by omega]; rfl
   have tp : (0 : Int) < 2 ^ m := Int.pow_pos (by omega)
   have tp' : (0 : Int) < 2 ^ (64 - m) := Int.pow_pos (by omega)
   have y1 : y < (2 : Int) ^ (64 - m) := by
     have : blen y.toNat = 64 - m := by omega
     rw [this] at c1
     have c1' : ((y.toNat : Nat) : Int) < ((2 ^ (64 - m) : Nat) : Int) := by exact_mod_cast c1
     push_cast at c1'
     omega
   have y2 : (2 : Int) ^ (63 - m) ≤ y := by
     have : blen y.toNat - 1 = 63 - m := by omega
     rw [this] at c2
     have c2' : ((2 ^ (63 - m) : Nat) : Int) ≤ ((y.toNat : Nat) : Int) := by exact_mod_cast c2
     push_cast at c2'
     omega
   have Y1 : y * 2 ^ m < 18446744073709551616 := by
     have := Int.mul_lt_mul_of_pos_right y1 tp
     omega
   have Y2 : 9223372036854775808 ≤ y * 2 ^ m := by
     have := Int.mul_le_mul_of_nonneg_right y2 (show (0 : Int) ≤ 2 ^ m by omega)
     omega
   have H1 : (h + 1) * 2 ^ m ≤ y * 2 ^ m := Int.mul_le_mul_of_nonneg_right (by omega) (by omega)
   have H2 : (h + 1) * 2 ^ m = h * 2 ^ m + 2 ^ m := by grind
   have H0 : 0 ≤ h * 2 ^ m := Int.mul_nonneg hh.1 (by omega)
   have fd : Int.fdiv l (2 ^ (64 - m)) = l / 2 ^ (64 - m) := fdivn _ _ (by omega)
   have L1 := Int.mul_ediv_add_emod l (2 ^ (64 - m))
   have L2 := Int.emod_nonneg l (show (2 : Int) ^ (64 - m) ≠ 0 by omega)
   have L3 := Int.emod_lt_of_pos l tp'
   have L4 : 0 ≤ l / 2 ^ (64 - m) := Int.ediv_nonneg hl.1 (by omega)
   have L5 : l / 2 ^ (64 - m) < 2 ^ m := by
     refine Int.ediv_lt_of_lt_mul tp' ?_
     rw [Int.mul_comm, p64]; omega
   have w1 : IntKind.u64.wrap (y * 2 ^ m) = y * 2 ^ m := wu64 ⟨by omega, by omega⟩
   have w2 : IntKind.u64.wrap (h * 2 ^ m) = h * 2 ^ m := wu64 ⟨by omega, by omega⟩
   have w3 : IntKind.u64.wrap (BitVec.ofInt IntKind.u64.bits (h * 2 ^ m) ||| BitVec.ofInt IntKind.u64.bits (l / 2 ^ (64 - m))).toNat = h * 2 ^ m + l / 2 ^ (64 - m) :=
     or_eq hh.1 ⟨L4, L5⟩ ⟨by omega, by omega⟩ (by omega)
   have w4 : IntKind.u64.wrap (l * 2 ^ m) = l % 2 ^ (64 - m) * 2 ^ m := by
     have e : l * 2 ^ m = (l / 2 ^ (64 - m)) * 18446744073709551616 + l % 2 ^ (64 - m) * 2 ^ m := by
       rw [← p64]
       obtain ⟨a, ha⟩ : ∃ a, a = l / 2 ^ (64 - m) := ⟨_, rfl⟩
       obtain ⟨b, hb⟩ : ∃ b, b = l % 2 ^ (64 - m) := ⟨_, rfl⟩
       obtain ⟨t, ht⟩ : ∃ t, t = (2 : Int) ^ m := ⟨_, rfl⟩
       obtain ⟨t', ht'⟩ : ∃ t, t = (2 : Int) ^ (64 - m) := ⟨_, rfl⟩
       rw [← ha, ← hb, ← ht'] at L1
       rw [← ha, ← hb, ← ht, ← ht']
       rw [← L1]; grind
     have e5 : l % 2 ^ (64 - m) * 2 ^ m < 18446744073709551616 := by
       rw [← p64]; exact Int.mul_lt_mul_of_pos_right L3 tp
     have e6 : 0 ≤ l % 2 ^ (64 - m) * 2 ^ m := Int.mul_nonneg L2 (by omega)
     rw [e, wu64']; omega
   have e5 : l % 2 ^ (64 - m) * 2 ^ m < 18446744073709551616 := by
     rw [← p64]; exact Int.mul_lt_mul_of_pos_right L3 tp
   have e6 : 0 ≤ l % 2 ^ (64 - m) * 2 ^ m := Int.mul_nonneg L2 (by omega)
   have eN : (h * 18446744073709551616 + l) * 2 ^ m = (h * 2 ^ m + l / 2 ^ (64 - m)) * 18446744073709551616 + l % 2 ^ (64 - m) * 2 ^ m := by
     rw [← p64]
     obtain ⟨a, ha⟩ : ∃ a, a = l / 2 ^ (64 - m) := ⟨_, rfl⟩
     obtain ⟨b, hb⟩ : ∃ b, b = l % 2 ^ (64 - m) := ⟨_, rfl⟩
     obtain ⟨t, ht⟩ : ∃ t, t = (2 : Int) ^ m := ⟨_, rfl⟩
     obtain ⟨t', ht'⟩ : ∃ t, t = (2 : Int) ^ (64 - m) := ⟨_, rfl⟩
     rw [← ha, ← hb, ← ht'] at L1
     rw [← ha, ← hb, ← ht, ← ht']
     rw [← L1]; grind
   have U1 : h * 2 ^ m + l / 2 ^ (64 - m) < y * 2 ^ m := by omega
   have U0 : 0 ≤ h * 2 ^ m + l / 2 ^ (64 - m) := by omega
   rw [fd, w1, w2, w3, w4]
   have b5 : (!(decide ((m : Int) < 0))) = true := by rw [decide_eq_false (by omega)]; rfl
   have b6 : (!(decide (((64 - m : Nat) : Int) < 0))) = true := by rw [decide_eq_false (by omega)]; rfl
   rw [b5, b6, asr_true, asr_true, asr_true, asr_true]
   generalize h * 2 ^ m + l / 2 ^ (64 - m) = u at *
   generalize hl0 : l % 2 ^ (64 - m) * 2 ^ m = v at *
   generalize hY : y * 2 ^ m = Y at *
   rw [fdivn Y _ (by omega), fdivn v _ (by omega), mask32 ⟨by omega, by omega⟩, mask32 ⟨by omega, by omega⟩, tdivn U0]
   have b7 : (!(decide (Y / 4294967296 = (0 : Int)))) = true := by rw [decide_eq_false (by omega)]; rfl
   rw [b7, asr_true]
   obtain ⟨yn1, hyn1⟩ : ∃ a, a = Y / 4294967296 := ⟨_, rfl⟩
   obtain ⟨yn0, hyn0⟩ : ∃ a, a = Y % 4294967296 := ⟨_, rfl⟩
   obtain ⟨un1, hun1⟩ : ∃ a, a = v / 4294967296 := ⟨_, rfl⟩
   obtain ⟨un0, hun0⟩ : ∃ a, a = v % 4294967296 := ⟨_, rfl⟩
   rw [← hyn1, ← hyn0, ← hun1, ← hun0]
   have d1 : 2147483648 ≤ yn1 ∧ yn1 ≤ 4294967295 := by omega
   have d0 : 0 ≤ yn0 ∧ yn0 ≤ 4294967295 := by omega
   have dn1 : 0 ≤ un1 ∧ un1 ≤ 4294967295 := by omega
   have dn0 : 0 ≤ un0 ∧ un0 ≤ 4294967295 := by omega
   have dY : Y = yn1 * 4294967296 + yn0 := by omega
   have g1 := DI.init dY d1 d0 dn1 U0 U1
   have x1 : IntKind.u64.wrap (u / yn1) = u / yn1 := wu64 ⟨g1.hq.1, by have := g1.hq.2; omega⟩
   have x2 : IntKind.u64.wrap (u - IntKind.u64.wrap (u / yn1 * yn1)) = u - u / yn1 * yn1 := by
     have r1 := g1.hr.1
     have r2 : 0 ≤ u / yn1 * yn1 := Int.mul_nonneg g1.hq.1 (by omega)
     have r3 := g1.hr.2
     rw [wu64 (n := u / yn1 * yn1) ⟨r2, by omega⟩, wu64 ⟨r1, by omega⟩]
   rw [x1, x2]
   have fin : ∀ q1 : Int, DG Y u un1 q1 → ∀ (un21 : Int), un21 = u * 4294967296 + un1 - q1 * Y → ∀ q0, DG Y un21 un0 q0 →
       K (IntKind.u64.wrap ((IntKind.u64.wrap (q1 * (4294967296 : Int))) + q0)) (Int.fdiv (IntKind.u64.wrap ((IntKind.u64.wrap ((IntKind.u64.wrap (un21 * (4294967296 : Int))) + un0)) - (IntKind.u64.wrap (q0 * Y)))) (2 ^ (min ((m : Int)).toNat IntKind.u64.bits))) := by
     intro q1 G1 un21 e21 q0 G0
     obtain ⟨a1, a2, a3, a4⟩ := G1
     obtain ⟨c1, c2, c3, c4⟩ := G0
     have s1 : (q1 + 1) * Y = q1 * Y + Y := by grind
     have s0 : (q0 + 1) * Y = q0 * Y + Y := by grind
     have w5 : IntKind.u64.wrap (q1 * 4294967296) = q1 * 4294967296 := wu64 ⟨by omega, by omega⟩
     have w6 : IntKind.u64.wrap (q1 * 4294967296 + q0) = q1 * 4294967296 + q0 := wu64 ⟨by omega, by omega⟩
     rw [rest_eq (by omega) (by omega), w5, w6, e3, fdivn _ _ (by omega)]
     have eT : un21 * 4294967296 + un0 - q0 * Y = (h * 18446744073709551616 + l - (q1 * 4294967296 + q0) * y) * 2 ^ m := by
       have f1 : (q1 * 4294967296 + q0) * Y = q1 * Y * 4294967296 + q0 * Y := by grind
       have f2 : (h * 18446744073709551616 + l - (q1 * 4294967296 + q0) * y) * 2 ^ m = (h * 18446744073709551616 + l) * 2 ^ m - (q1 * 4294967296 + q0) * Y := by
         rw [← hY, Int.sub_mul, Int.mul_assoc (q1 * 4294967296 + q0)]
       rw [f2, f1, eN]
       omega
     rw [eT, Int.mul_ediv_cancel _ (by omega)]
     have r0 : 0 ≤ h * 18446744073709551616 + l - (q1 * 4294967296 + q0) * y := by
       refine Int.not_lt.1 fun hc => ?_
       have := Int.mul_neg_of_neg_of_pos hc tp
       omega
     have r1 : h * 18446744073709551616 + l - (q1 * 4294967296 + q0) * y < y := by
       refine Int.not_le.1 fun hc => ?_
       have := Int.mul_le_mul_of_nonneg_right hc (show (0 : Int) ≤ 2 ^ m by omega)
       omega
     obtain ⟨Q, hQ⟩ : ∃ Q, Q = q1 * 4294967296 + q0 := ⟨_, rfl⟩
     rw [← hQ] at r0 r1 ⊢
     have z1 : (h * 18446744073709551616 + l) / y = Q := by
       have : h * 18446744073709551616 + l = (h * 18446744073709551616 + l - Q * y) + Q * y := by omega
       rw [this, Int.add_mul_ediv_right _ _ (by omega), Int.ediv_eq_zero_of_lt r0 r1]; omega
     have z2 : (h * 18446744073709551616 + l) % y = h * 18446744073709551616 + l - Q * y := by
       have := Int.mul_ediv_add_emod (h * 18446744073709551616 + l) y
       rw [z1, Int.mul_comm] at this
       omega
     rw [z1, z2] at k
     exact k
   have mid : ∀ q : Int, DG Y u un1 q → ∀ (X : Int → Int → Int → Int → Int → Int → Int → Int → Int → Bool → Prop), (∀ q0 r0 b0, DG Y (u * 4294967296 + un1 - q * Y) un0 q0 → X Y m yn1 yn0 un0 q r0 (u * 4294967296 + un1 - q * Y) q0 b0) →
       asr (!(decide (yn1 = (0 : Int)))) (∃ n : Nat, L_m_Div64_1_0 w_m_LeadingZeros64 X X n Y m yn1 yn0 un0 q ((IntKind.u64.wrap ((IntKind.u64.wrap ((IntKind.u64.wrap ((IntKind.u64.wrap (u * (4294967296 : Int))) + un1)) - (IntKind.u64.wrap (q * Y)))) - (IntKind.u64.wrap ((IntKind.u64.wrap (Int.tdiv (IntKind.u64.wrap ((IntKind.u64.wrap ((IntKind.u64.wrap (u * (4294967296 : Int))) + un1)) - (IntKind.u64.wrap (q * Y)))) yn1)) * yn1))))) (IntKind.u64.wrap ((IntKind.u64.wrap ((IntKind.u64.wrap (u * (4294967296 : Int))) + un1)) - (IntKind.u64.wrap (q * Y)))) (IntKind.u64.wrap (Int.tdiv (IntKind.u64.wrap ((IntKind.u64.wrap ((IntKind.u64.wrap (u * (4294967296 : Int))) + un1)) - (IntKind.u64.wrap (q * Y)))) yn1))) := by
     intro q G X hX
     obtain ⟨a1, a2, a3, a4⟩ := G
     have s1 : (q + 1) * Y = q * Y + Y := by grind
     have b8 : (!(decide (yn1 = (0 : Int)))) = true := by rw [decide_eq_false (by omega)]; rfl
     rw [b8, asr_true, rest_eq (by omega) (by omega), tdivn (by omega)]
     have g0 := DI.init dY d1 d0 dn0 (u := u * 4294967296 + un1 - q * Y) (by omega) (by omega)
     generalize u * 4294967296 + un1 - q * Y = u2 at *
     have x1 : IntKind.u64.wrap (u2 / yn1) = u2 / yn1 := wu64 ⟨g0.hq.1, by have := g0.hq.2; omega⟩
     have x2 : IntKind.u64.wrap (u2 - IntKind.u64.wrap (u2 / yn1 * yn1)) = u2 - u2 / yn1 * yn1 := by
       have r1 := g0.hr.1
       have r2 : 0 ≤ u2 / yn1 * yn1 := Int.mul_nonneg g0.hq.1 (by omega)
       have r3 := g0.hr.2
       have r4 := g0.hlt
       rw [wu64 (n := u2 / yn1 * yn1) ⟨r2, by omega⟩, wu64 ⟨r1, by omega⟩]
     rw [x1, x2]
     exact ⟨3, L1_of' _ _ _ _ (fun q0 r0 b0 g => hX q0 r0 b0 g) (fun q0 r0 b0 g => hX q0 r0 b0 g) _ _ g0⟩
   have leaf : ∀ {P : Prop}, P → asr (!(decide ((m : Int) < 0))) P := fun p => by rw [b5, asr_true]; exact p
   refine ⟨3, L0_of' _ _ _ _ (fun q r b G => ?_) (fun q r b G => ?_) _ _ g1⟩
   · exact mid q G _ (fun q0 r0 b0 G0 => leaf (fin q G _ rfl q0 G0))
   · exact mid q G _ (fun q0 r0 b0 G0 => leaf (fin q G _ rfl q0 G0))
end Go.Pf.Vc
namespace Go.Pf.Vc
open Go Go.Pf
theorem Rem64_of {h l y : Int} (hh : U64 h) (hl : U64 l) (hy : U64 y) (h0 : 0 < y) {K : Int → Prop}
   (k : K ((h * 18446744073709551616 + l) % y)) : w_m_Rem64 h l y K := by
 unfold w_m_Rem64 wv_m_Rem64
 have b3 : (!(decide (y = (0 : Int)))) = true := by rw [decide_eq_false (by omega)]; rfl
 have a1 := Int.emod_nonneg h (show y ≠ 0 by omega)
 have a2 := Int.emod_lt_of_pos h h0
 have hh' := hh
 unfold U64 at hh hy
 rw [b3, asr_true, tmodn hh.1]
 refine Div64_of ⟨a1, by omega⟩ hl ⟨by omega, by omega⟩ a2 ?_
 have e : (h % y * 18446744073709551616 + l) % y = (h * 18446744073709551616 + l) % y := by
   rw [Int.add_emod, Int.mul_emod, Int.emod_emod, ← Int.mul_emod, ← Int.add_emod]
 rw [e]
 exact k
def outS (s : Bool) (a b : Int) (K : Int → Int → Int → Prop) : Prop :=
 if a ≤ 1000000000000000000 ∧ b ≤ 1000000000000000000 then K (if s then -a else a) b 0 else K 0 0 16
theorem signed_eq {s : Bool} {a b : Int} (ha : 0 ≤ a) (hb : 0 ≤ b) (K : Int → Int → Int → Prop) : w_ratio_signed s a b K = outS s a b K := by
 unfold w_ratio_signed wv_ratio_signed outS
 by_cases h : a ≤ 1000000000000000000 ∧ b ≤ 1000000000000000000
 · have e : decide ((if b > a then b else a) > (1000000000000000000 : Int)) = false := by
     refine decide_eq_false ?_
     split <;> omega
   have w1 : IntKind.i64.wrap a = a := wi64 ⟨by omega, by omega⟩
   have w2 : IntKind.i64.wrap b = b := wi64 ⟨by omega, by omega⟩
   have w3 : IntKind.i64.wrap (0 - a) = -a := by rw [wi64 ⟨by omega, by omega⟩]; omega
   rw [e, cbr_false, if_pos h, w1, w2, w3]
   cases s
   · rfl
   · rfl
 · have e : decide ((if b > a then b else a) > (1000000000000000000 : Int)) = true := by
     refine decide_eq_true ?_
     split <;> omega
   rw [e, cbr_true, if_neg h]
end Go.Pf.Vc
namespace Go.Pf.Vc
open Go Go.Pf
def numM (a c : Int) (b d : Int) : Nat := (a.natAbs / Nat.gcd a.natAbs d.natAbs) * (c.natAbs / Nat.gcd c.natAbs b.natAbs)
def denM (a c : Int) (b d : Int) : Nat := (b.natAbs / Nat.gcd c.natAbs b.natAbs) * (d.natAbs / Nat.gcd a.natAbs d.natAbs)
theorem Mul_of {a b c d : Int} (ha : I64 a) (hb : I64 b) (hc : I64 c) (hd : I64 d) {K : Int → Int → Int → Prop}
   (k : if chk2 a b c d = 0 then outS (decide (a < 0) != decide (c < 0)) (numM a c b d) (denM a c b d) K else K 0 0 (chk2 a b c d)) : w_ratio_Mul a b c d K := by
 unfold w_ratio_Mul wv_ratio_Mul
 refine check_of ha hb hc hd ?_
 by_cases h : chk2 a b c d = 0
 · rw [if_pos h] at k
   have : (chk2 a b c d != (0 : Int)) = false := by rw [h]; rfl
   rw [this, cbr_false, size_eq ha, size_eq hc]
   obtain ⟨⟨b1, b2, a1, a2, _⟩, d1, d2, c1, c2, _⟩ := chk2_zero.1 h
   have wb : IntKind.u64.wrap b = ((b.natAbs : Nat) : Int) := by rw [wu64 ⟨by omega, by omega⟩]; omega
   have wd : IntKind.u64.wrap d = ((d.natAbs : Nat) : Int) := by rw [wu64 ⟨by omega, by omega⟩]; omega
   rw [wb, wd]
   refine gcd_of _ _ _ (gcd_of _ _ _ ?_)
   unfold numM denM at k
   have g1 : 0 < Nat.gcd a.natAbs d.natAbs := Nat.gcd_pos_of_pos_right _ (by omega)
   have g2 : 0 < Nat.gcd c.natAbs b.natAbs := Nat.gcd_pos_of_pos_right _ (by omega)
   obtain ⟨g3, h3⟩ : ∃ g, g = Nat.gcd a.natAbs d.natAbs := ⟨_, rfl⟩
   obtain ⟨g4, h4⟩ : ∃ g, g = Nat.gcd c.natAbs b.natAbs := ⟨_, rfl⟩
   rw [← h3, ← h4] at k ⊢
   rw [← h3] at g1; rw [← h4] at g2
   have n3 : (!(decide ((g3 : Int) = (0 : Int)))) = true := by rw [decide_eq_false (by omega)]; rfl
   have n4 : (!(decide ((g4 : Int) = (0 : Int)))) = true := by rw [decide_eq_false (by omega)]; rfl
   rw [n3, n4, asr_true, asr_true, tdivn (by omega), tdivn (by omega), tdivn (by omega), tdivn (by omega), ← Int.natCast_ediv, ← Int.natCast_ediv, ← Int.natCast_ediv, ← Int.natCast_ediv]
   have q1 : a.natAbs / g3 ≤ a.natAbs := Nat.div_le_self _ _
   have q2 : c.natAbs / g4 ≤ c.natAbs := Nat.div_le_self _ _
   have q3 : b.natAbs / g4 ≤ b.natAbs := Nat.div_le_self _ _
   have q4 : d.natAbs / g3 ≤ d.natAbs := Nat.div_le_self _ _
   generalize a.natAbs / g3 = A at *
   generalize c.natAbs / g4 = C at *
   generalize b.natAbs / g4 = B at *
   generalize d.natAbs / g3 = D at *
   rw [wu64 (n := (A : Int)) ⟨by omega, by omega⟩, wu64 (n := (C : Int)) ⟨by omega, by omega⟩, wu64 (n := (B : Int)) ⟨by omega, by omega⟩, wu64 (n := (D : Int)) ⟨by omega, by omega⟩,
     Mul64_eq ⟨by omega, by omega⟩ ⟨by omega, by omega⟩, asr_true, asr_true, Mul64_eq ⟨by omega, by omega⟩ ⟨by omega, by omega⟩]
   have m1 : A * C ≤ 1000000000000000000 * 1000000000000000000 := Nat.mul_le_mul (by omega) (by omega)
   have m2 : B * D ≤ 1000000000000000000 * 1000000000000000000 := Nat.mul_le_mul (by omega) (by omega)
   rw [← Int.natCast_mul, ← Int.natCast_mul]
   generalize A * C = M at *
   generalize B * D = N at *
   have wm : IntKind.u64.wrap ((M : Int) / 18446744073709551616 + (N : Int) / 18446744073709551616) = (M : Int) / 18446744073709551616 + (N : Int) / 18446744073709551616 := wu64 ⟨by omega, by omega⟩
   rw [wm]
   by_cases hb : (M : Int) / 18446744073709551616 + (N : Int) / 18446744073709551616 > 0
   · rw [decide_eq_true hb, cbr_true]
     unfold outS at k
     rw [if_neg (by omega)] at k
     exact k
   · rw [decide_eq_false hb, cbr_false]
     have eM : (M : Int) % 18446744073709551616 = M := by omega
     have eN : (N : Int) % 18446744073709551616 = N := by omega
     rw [eM, eN]
     by_cases h0 : (M : Int) > 0
     · rw [decide_eq_true h0, cbr_true, signed_eq (by omega) (by omega)]
       exact k
     · rw [decide_eq_false h0, cbr_false, signed_eq (by omega) (by omega)]
       have hz : M = 0 := by omega
       subst hz
       unfold outS at k ⊢
       by_cases hN : (N : Int) ≤ 1000000000000000000
       · rw [if_pos ⟨by omega, hN⟩] at k ⊢
         have e : (if (decide (a < 0) != decide (c < 0)) = true then -((0 : Nat) : Int) else ((0 : Nat) : Int)) = 0 := by split <;> rfl
         rw [e] at k
         exact k
       · rw [if_neg (by omega)] at k ⊢
         exact k
 · rw [if_neg h] at k
   have : (chk2 a b c d != (0 : Int)) = true := by rw [bne_iff_ne]; exact h
   rw [this, cbr_true]
   exact k
end Go.Pf.Vc
namespace Go.Pf.Vc
open Go Go.Pf
theorem tail_of {s : Bool} {hi lo p1 p3 : Int} {g : Nat} (hh : U64 hi) (hl : U64 lo) (hg : 0 < g) (g1 : (g : Int) ≤ 1000000000000000000)
    (h1 : 0 ≤ p1 ∧ p1 ≤ 1000000000000000000) (h3 : 0 ≤ p3 ∧ p3 ≤ 1000000000000000000) {K : Int → Int → Int → Prop}
    (k : outS s (((hi * 18446744073709551616 + lo).toNat / Nat.gcd (hi * 18446744073709551616 + lo).toNat g : Nat) : Int)
      (((p1.toNat / g) * (p3.toNat / Nat.gcd (hi * 18446744073709551616 + lo).toNat g) : Nat) : Int) K) :
    (w_m_Rem64 hi lo (g : Int) (fun (yi12 : Int) => 
 (w_ratio_gcd yi12 (g : Int) (fun (yi13 : Int) => 
 (cbr (decide (hi ≥ yi13))
 (K (0 : Int) (0 : Int) (16 : Int))
 (w_m_Div64 hi lo yi13 (fun (yi14 : Int) (_ : Int) => 
 (asr (!(decide ((g : Int) = (0 : Int))))
 (asr (!(decide (yi13 = (0 : Int))))
 (w_m_Mul64 (IntKind.u64.wrap (Int.tdiv (IntKind.u64.wrap p1) (g : Int))) (IntKind.u64.wrap (Int.tdiv (IntKind.u64.wrap p3) yi13)) (fun (yi16 : Int) (yi17 : Int) => 
 (cbr (decide (yi16 > (0 : Int)))
 (K (0 : Int) (0 : Int) (16 : Int))
 (w_ratio_signed s yi14 yi17 (fun (yi18 : Int) (yi19 : Int) (yi20 : Int) => 
 (K yi18 yi19 yi20))))))))))))))) := by
  unfold U64 at hh hl
  obtain ⟨X, hX⟩ : ∃ X : Nat, X = (hi * 18446744073709551616 + lo).toNat := ⟨_, rfl⟩
  have eX : hi * 18446744073709551616 + lo = (X : Int) := by omega
  rw [← hX] at k
  refine Rem64_of hh hl ⟨by omega, by omega⟩ (by omega) ?_
  rw [eX, ← Int.natCast_emod]
  refine gcd_of _ _ _ ?_
  have eg : Nat.gcd (X % g) g = Nat.gcd X g := by rw [Nat.gcd_comm, Nat.gcd_comm X, Nat.gcd_rec g X, Nat.gcd_comm]
  rw [eg]
  have gp : 0 < Nat.gcd X g := Nat.gcd_pos_of_pos_right _ hg
  have gl : Nat.gcd X g ≤ g := Nat.le_of_dvd hg (Nat.gcd_dvd_right _ _)
  generalize Nat.gcd X g = G at *
  by_cases hb : hi ≥ (G : Int)
  · rw [decide_eq_true hb, cbr_true]
    unfold outS at k
    have : 18446744073709551616 ≤ X / G := by
      rw [Nat.le_div_iff_mul_le gp]
      omega
    rw [if_neg (by omega)] at k
    exact k
  · rw [decide_eq_false hb, cbr_false]
    refine Div64_of hh hl ⟨by omega, by omega⟩ (by omega) ?_
    rw [eX]
    have n3 : (!(decide ((g : Int) = (0 : Int)))) = true := by rw [decide_eq_false (by omega)]; rfl
    have n4 : (!(decide ((G : Int) = (0 : Int)))) = true := by rw [decide_eq_false (by omega)]; rfl
    have e1 : IntKind.u64.wrap p1 = (p1.toNat : Int) := by rw [wu64 ⟨by omega, by omega⟩]; omega
    have e3 : IntKind.u64.wrap p3 = (p3.toNat : Int) := by rw [wu64 ⟨by omega, by omega⟩]; omega
    rw [n3, n4, asr_true, asr_true, e1, e3, tdivn (by omega), tdivn (by omega), ← Int.natCast_ediv, ← Int.natCast_ediv, ← Int.natCast_ediv]
    have q1 : p1.toNat / g ≤ p1.toNat := Nat.div_le_self _ _
    have q3 : p3.toNat / G ≤ p3.toNat := Nat.div_le_self _ _
    generalize p1.toNat / g = A at *
    generalize p3.toNat / G = B at *
    generalize X / G = N at *
    rw [wu64 (n := (A : Int)) ⟨by omega, by omega⟩, wu64 (n := (B : Int)) ⟨by omega, by omega⟩, Mul64_eq ⟨by omega, by omega⟩ ⟨by omega, by omega⟩, ← Int.natCast_mul]
    generalize A * B = D at *
    by_cases hd : ((D : Int) / 18446744073709551616) > 0
    · rw [decide_eq_true hd, cbr_true]
      unfold outS at k
      rw [if_neg (by omega)] at k
      exact k
    · rw [decide_eq_false hd, cbr_false]
      have eD : (D : Int) % 18446744073709551616 = D := by omega
      rw [eD, signed_eq (by omega) (by omega)]
      exact k
end Go.Pf.Vc
namespace Go.Pf.Vc
open Go Go.Pf
theorem Add64_of {p q c : Int} {K : Int → Int → Prop} (hc : c.toNat ≤ 1) (k : K (((p.toNat + q.toNat + c.toNat) % 18446744073709551616 : Nat) : Int) (((p.toNat + q.toNat + c.toNat) / 18446744073709551616 : Nat) : Int)) : w_m_Add64 p q c K := by
 unfold w_m_Add64
 rw [decide_eq_true hc, asr_true]
 exact k
theorem Sub64_of {p q c : Int} {K : Int → Int → Prop} (hc : c.toNat ≤ 1) (k : K (((p.toNat + 18446744073709551616 - q.toNat - c.toNat) % 18446744073709551616 : Nat) : Int) ((if q.toNat + c.toNat ≤ p.toNat then 0 else 1 : Nat) : Int)) : w_m_Sub64 p q c K := by
 unfold w_m_Sub64
 rw [decide_eq_true hc, asr_true]
 have e : (bif Nat.ble (q.toNat + c.toNat) p.toNat then 0 else 1 : Nat) = (if q.toNat + c.toNat ≤ p.toNat then 0 else 1 : Nat) := by
   by_cases h : q.toNat + c.toNat ≤ p.toNat
   · rw [if_pos h, show Nat.ble (q.toNat + c.toNat) p.toNat = true from Nat.ble_eq_true_of_le h]; rfl
   · rw [if_neg h]
     cases hb : Nat.ble (q.toNat + c.toNat) p.toNat
     · rfl
     · exact absurd (Nat.le_of_ble_eq_true hb) h
 rw [e]
 exact k
theorem add_wide {X Y : Int} (hx : 0 ≤ X) (hy : 0 ≤ Y) (hs : X + Y < 340282366920938463463374607431768211456) {F : Int → Int → Int → Int → Prop}
   (h : ∀ c1 c2, F ((X + Y) % 18446744073709551616) c1 ((X + Y) / 18446744073709551616) c2) :
   w_m_Add64 (X % 18446744073709551616) (Y % 18446744073709551616) 0 (fun lo c1 => w_m_Add64 (X / 18446744073709551616) (Y / 18446744073709551616) c1 (fun hi c2 => F lo c1 hi c2)) := by
 obtain ⟨x, rfl⟩ : ∃ x : Nat, X = x := ⟨X.toNat, by omega⟩
 obtain ⟨y, rfl⟩ : ∃ y : Nat, Y = y := ⟨Y.toNat, by omega⟩
 refine Add64_of (by decide) (Add64_of (by omega) ?_)
 have e1 : (((((x : Int) % 18446744073709551616).toNat + ((y : Int) % 18446744073709551616).toNat + (0 : Int).toNat) % 18446744073709551616 : Nat) : Int) = ((x : Int) + y) % 18446744073709551616 := by omega
 have e2 : (((((x : Int) / 18446744073709551616).toNat + ((y : Int) / 18446744073709551616).toNat + (((((x : Int) % 18446744073709551616).toNat + ((y : Int) % 18446744073709551616).toNat + (0 : Int).toNat) / 18446744073709551616 : Nat) : Int).toNat) % 18446744073709551616 : Nat) : Int) = ((x : Int) + y) / 18446744073709551616 := by omega
 rw [e1, e2]
 exact h _ _
theorem sub_wide {X Y : Int} (hy : 0 ≤ Y) (hxy : Y ≤ X) (hs : X < 340282366920938463463374607431768211456) {F : Int → Int → Int → Int → Prop}
   (h : ∀ c1 c2, F ((X - Y) % 18446744073709551616) c1 ((X - Y) / 18446744073709551616) c2) :
   w_m_Sub64 (X % 18446744073709551616) (Y % 18446744073709551616) 0 (fun lo c1 => w_m_Sub64 (X / 18446744073709551616) (Y / 18446744073709551616) c1 (fun hi c2 => F lo c1 hi c2)) := by
 obtain ⟨x, rfl⟩ : ∃ x : Nat, X = x := ⟨X.toNat, by omega⟩
 obtain ⟨y, rfl⟩ : ∃ y : Nat, Y = y := ⟨Y.toNat, by omega⟩
 refine Sub64_of (by decide) (Sub64_of (by split <;> omega) ?_)
 have e1 : (((((x : Int) % 18446744073709551616).toNat + 18446744073709551616 - ((y : Int) % 18446744073709551616).toNat - (0 : Int).toNat) % 18446744073709551616 : Nat) : Int) = ((x : Int) - y) % 18446744073709551616 := by omega
 rw [e1]
 by_cases hb : ((y : Int) % 18446744073709551616).toNat + (0 : Int).toNat ≤ ((x : Int) % 18446744073709551616).toNat
 · rw [if_pos hb]
   have e2 : (((((x : Int) / 18446744073709551616).toNat + 18446744073709551616 - ((y : Int) / 18446744073709551616).toNat - ((0 : Nat) : Int).toNat) % 18446744073709551616 : Nat) : Int) = ((x : Int) - y) / 18446744073709551616 := by omega
   rw [e2]
   exact h _ _
 · rw [if_neg hb]
   have e2 : (((((x : Int) / 18446744073709551616).toNat + 18446744073709551616 - ((y : Int) / 18446744073709551616).toNat - ((1 : Nat) : Int).toNat) % 18446744073709551616 : Nat) : Int) = ((x : Int) - y) / 18446744073709551616 := by omega
   rw [e2]
   exact h _ _
end Go.Pf.Vc
namespace Go.Pf.Vc
open Go Go.Pf
def outA (s : Bool) (Z p1 p3 : Int) (g : Nat) (K : Int → Int → Int → Prop) : Prop :=
 if Z = 0 then K 0 1 0 else outS s ((Z.toNat / Nat.gcd Z.toNat g : Nat) : Int) (((p1.toNat / g) * (p3.toNat / Nat.gcd Z.toNat g) : Nat) : Int) K
theorem fin_of {s : Bool} {Z p1 p3 : Int} {g : Nat} (hz : 0 ≤ Z) (hz2 : Z < 340282366920938463463374607431768211456) (hg : 0 < g) (g1 : (g : Int) ≤ 1000000000000000000)
    (h1 : 0 ≤ p1 ∧ p1 ≤ 1000000000000000000) (h3 : 0 ≤ p3 ∧ p3 ≤ 1000000000000000000) {K : Int → Int → Int → Prop}
    (k : outA s Z p1 p3 g K) :
    cbr (Z / 18446744073709551616 == (0 : Int)) (cbr (Z % 18446744073709551616 == (0 : Int)) (K 0 1 0) (w_m_Rem64 (Z / 18446744073709551616) (Z % 18446744073709551616) (g : Int) (fun (yi12 : Int) => 
 (w_ratio_gcd yi12 (g : Int) (fun (yi13 : Int) => 
 (cbr (decide ((Z / 18446744073709551616) ≥ yi13))
 (K (0 : Int) (0 : Int) (16 : Int))
 (w_m_Div64 (Z / 18446744073709551616) (Z % 18446744073709551616) yi13 (fun (yi14 : Int) (_ : Int) => 
 (asr (!(decide ((g : Int) = (0 : Int))))
 (asr (!(decide (yi13 = (0 : Int))))
 (w_m_Mul64 (IntKind.u64.wrap (Int.tdiv (IntKind.u64.wrap p1) (g : Int))) (IntKind.u64.wrap (Int.tdiv (IntKind.u64.wrap p3) yi13)) (fun (yi16 : Int) (yi17 : Int) => 
 (cbr (decide (yi16 > (0 : Int)))
 (K (0 : Int) (0 : Int) (16 : Int))
 (w_ratio_signed s yi14 yi17 (fun (yi18 : Int) (yi19 : Int) (yi20 : Int) => 
 (K yi18 yi19 yi20)))))))))))))))) (w_m_Rem64 (Z / 18446744073709551616) (Z % 18446744073709551616) (g : Int) (fun (yi12 : Int) => 
 (w_ratio_gcd yi12 (g : Int) (fun (yi13 : Int) => 
 (cbr (decide ((Z / 18446744073709551616) ≥ yi13))
 (K (0 : Int) (0 : Int) (16 : Int))
 (w_m_Div64 (Z / 18446744073709551616) (Z % 18446744073709551616) yi13 (fun (yi14 : Int) (_ : Int) => 
 (asr (!(decide ((g : Int) = (0 : Int))))
 (asr (!(decide (yi13 = (0 : Int))))
 (w_m_Mul64 (IntKind.u64.wrap (Int.tdiv (IntKind.u64.wrap p1) (g : Int))) (IntKind.u64.wrap (Int.tdiv (IntKind.u64.wrap p3) yi13)) (fun (yi16 : Int) (yi17 : Int) => 
 (cbr (decide (yi16 > (0 : Int)))
 (K (0 : Int) (0 : Int) (16 : Int))
 (w_ratio_signed s yi14 yi17 (fun (yi18 : Int) (yi19 : Int) (yi20 : Int) => 
 (K yi18 yi19 yi20))))))))))))))) := by
  unfold outA at k
  have eZ : Z / 18446744073709551616 * 18446744073709551616 + Z % 18446744073709551616 = Z := by omega
  by_cases h0 : Z = 0
  · rw [if_pos h0] at k
    subst h0
    have e1 : ((0 : Int) / 18446744073709551616 == (0 : Int)) = true := by decide
    have e2 : ((0 : Int) % 18446744073709551616 == (0 : Int)) = true := by decide
    rw [e1, cbr_true, e2, cbr_true]
    exact k
  · rw [if_neg h0] at k
    have t := tail_of (s := s) (hi := Z / 18446744073709551616) (lo := Z % 18446744073709551616) (p1 := p1) (p3 := p3) (g := g) (K := K) ⟨by omega, by omega⟩ ⟨by omega, by omega⟩ hg g1 h1 h3 (by rw [eZ]; exact k)
    cases h4 : (Z / 18446744073709551616 == (0 : Int))
    · rw [cbr_false]; exact t
    · rw [cbr_true]
      cases h2 : (Z % 18446744073709551616 == (0 : Int))
      · rw [cbr_false]; exact t
      · have := beq_iff_eq.1 h2
        have := beq_iff_eq.1 h4
        exact absurd (show Z = 0 by omega) h0
theorem outA_congr {s s' : Bool} {Z Z' p1 p3 : Int} {g : Nat} {K : Int → Int → Int → Prop} (k : outA s' Z' p1 p3 g K) (hz : Z = Z') (hs : Z ≠ 0 → s = s') : outA s Z p1 p3 g K := by
 subst hz
 unfold outA at k ⊢
 by_cases h : Z = 0
 · rw [if_pos h] at k ⊢; exact k
 · rw [if_neg h] at k ⊢; rw [hs h]; exact k
end Go.Pf.Vc
