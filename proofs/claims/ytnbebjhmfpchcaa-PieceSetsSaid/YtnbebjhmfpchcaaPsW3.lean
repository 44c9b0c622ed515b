/- Part 3 of what the statement rests on: a verified evaluator over pure values, the conditions of the program's functions, and their plain laws. -/
import Derived.Test.YtnbebjhmfpchcaaPsW2
namespace Go.Pf.Vc
open Go Go.Pf
set_option maxRecDepth 100000
theorem se1_r03_ends (e : List (Nat × EffF)) (he : EG e) : SEOk (S1_r03_ends e w_r01_Less) := seOk_of ⟨(ok_r01_Less e he), trivial⟩ ⟨⟨by kernel_rfl, by kernel_rfl, rfl, fun as => baseS_none (by kernel_rfl) as, he.num _ (by kernel_rfl), (LpOk_by (l := [(33442700, b_33442700), (33442701, b_33442701)]) ⟨loop_r03_ends_1 e he, loop_r03_ends_2 e he, trivial⟩ (by kernel_rfl))⟩, trivial⟩ he.ok
theorem body_r03_ends_3_0 (e : List (Nat × EffF)) (a0 Q n l0 i1) : WC (E e) (callW (S1_r03_ends e a0) 5) (lp_r03_ends a0) b_95913401 [(1, .v (.data l0)), (5, .v .nils), (7, .v (.int .i64 i1))] [] (fun x F' H' => match x with | .norm => R_r03_ends_3 a0 Q n F' H' | .exit i => Q (.exit i) F' H' | .ret => Q .ret F' H') = L_r03_ends_3_0 a0 (X_r03_ends_3_0 Q) (X_r03_ends_3_1 Q) (n + 1) l0 i1 := by kernel_rfl
theorem body_r03_ends_3_1 (e : List (Nat × EffF)) (a0 Q n l0 l1 i4) : WC (E e) (callW (S1_r03_ends e a0) 5) (lp_r03_ends a0) b_95913401 [(1, .v (.data l1)), (5, .v (.own 0 0 (List.length l0) (List.length l0) none)), (7, .v (.int .i64 i4))] [⟨false, true, 2, l0⟩] (fun x F' H' => match x with | .norm => R_r03_ends_3 a0 Q n F' H' | .exit i => Q (.exit i) F' H' | .ret => Q .ret F' H') = L_r03_ends_3_1 a0 (X_r03_ends_3_0 Q) (X_r03_ends_3_1 Q) (n + 1) l0 l1 i4 := by kernel_rfl
theorem lpb_r03_ends_3 (e : List (Nat × EffF)) (_ : EG e) : LpOk (E e) (lp_r03_ends w_r01_Less) b_95913401 := (LpOk_no (by kernel_rfl))
theorem loop_r03_ends_3 (e : List (Nat × EffF)) (he : EG e) : ∀ F H Q, lp_r03_ends w_r01_Less 95913401 F H Q → LoopT (E e) b_95913401 F H Q := by
 intro F H Q h
 have go := LoopT.intro (callW_ok (se1_r03_ends e he) 5) (lpb_r03_ends_3 e he) (R_r03_ends_3 w_r01_Less Q) (by
   intro F H h
   unfold R_r03_ends_3 D_r03_ends_3 at h
   split at h
   · exact h
   · obtain ⟨hg, k⟩ := asr_iff.1 h
     clear h
     have h := k
     clear k
     try simp only [Bool.and_eq_true, decide_eq_true_eq] at hg
     obtain ⟨g0, g1⟩ := hg; subst g0; subst g1; exact h
   · exact h) (by
   intro n F H h
   unfold R_r03_ends_3 D_r03_ends_3 at h
   split at h
   · exact (body_r03_ends_3_0 ..).mpr h
   · obtain ⟨hg, k⟩ := asr_iff.1 h
     clear h
     have h := k
     clear k
     try simp only [Bool.and_eq_true, decide_eq_true_eq] at hg
     obtain ⟨g0, g1⟩ := hg; subst g0; subst g1; exact (body_r03_ends_3_1 ..).mpr h
   · exact h.elim)
 have h : D_r03_ends_3 F H _ _ := h
 unfold D_r03_ends_3 at h
 split at h
 · obtain ⟨n, h⟩ := h; exact go n _ _ h
 · obtain ⟨hg, n, h⟩ := asr_iff.1 h; exact go n _ _ (asr_iff.2 ⟨hg, h⟩)
 · exact h.elim
theorem body_r03_ends_0_0 (e : List (Nat × EffF)) (a0 Q n l0 l1 i2) : WC (E e) (callW (S1_r03_ends e a0) 5) (lp_r03_ends a0) b_95913400 [(0, .v (.data l0)), (1, .v (.data l1)), (5, .v .nils), (6, .v (.int .i64 i2))] [] (fun x F' H' => match x with | .norm => R_r03_ends_0 a0 Q n F' H' | .exit i => Q (.exit i) F' H' | .ret => Q .ret F' H') = L_r03_ends_0_0 a0 (X_r03_ends_0_0 Q) (X_r03_ends_0_1 Q) (n + 1) l0 l1 i2 := by kernel_rfl
theorem body_r03_ends_0_1 (e : List (Nat × EffF)) (a0 Q n l0 l1 l2 i5) : WC (E e) (callW (S1_r03_ends e a0) 5) (lp_r03_ends a0) b_95913400 [(0, .v (.data l1)), (1, .v (.data l2)), (5, .v (.own 0 0 (List.length l0) (List.length l0) none)), (6, .v (.int .i64 i5))] [⟨false, true, 2, l0⟩] (fun x F' H' => match x with | .norm => R_r03_ends_0 a0 Q n F' H' | .exit i => Q (.exit i) F' H' | .ret => Q .ret F' H') = L_r03_ends_0_1 a0 (X_r03_ends_0_0 Q) (X_r03_ends_0_1 Q) (n + 1) l0 l1 l2 i5 := by kernel_rfl
theorem lpb_r03_ends_0 (e : List (Nat × EffF)) (_ : EG e) : LpOk (E e) (lp_r03_ends w_r01_Less) b_95913400 := (LpOk_no (by kernel_rfl))
theorem loop_r03_ends_0 (e : List (Nat × EffF)) (he : EG e) : ∀ F H Q, lp_r03_ends w_r01_Less 95913400 F H Q → LoopT (E e) b_95913400 F H Q := by
 intro F H Q h
 have go := LoopT.intro (callW_ok (se1_r03_ends e he) 5) (lpb_r03_ends_0 e he) (R_r03_ends_0 w_r01_Less Q) (by
   intro F H h
   unfold R_r03_ends_0 D_r03_ends_0 at h
   split at h
   · exact h
   · obtain ⟨hg, k⟩ := asr_iff.1 h
     clear h
     have h := k
     clear k
     try simp only [Bool.and_eq_true, decide_eq_true_eq] at hg
     obtain ⟨g0, g1⟩ := hg; subst g0; subst g1; exact h
   · exact h) (by
   intro n F H h
   unfold R_r03_ends_0 D_r03_ends_0 at h
   split at h
   · exact (body_r03_ends_0_0 ..).mpr h
   · obtain ⟨hg, k⟩ := asr_iff.1 h
     clear h
     have h := k
     clear k
     try simp only [Bool.and_eq_true, decide_eq_true_eq] at hg
     obtain ⟨g0, g1⟩ := hg; subst g0; subst g1; exact (body_r03_ends_0_1 ..).mpr h
   · exact h.elim)
 have h : D_r03_ends_0 F H _ _ := h
 unfold D_r03_ends_0 at h
 split at h
 · obtain ⟨n, h⟩ := h; exact go n _ _ h
 · obtain ⟨hg, n, h⟩ := asr_iff.1 h; exact go n _ _ (asr_iff.2 ⟨hg, h⟩)
 · exact h.elim
theorem eq_r03_ends (e : List (Nat × EffF)) (a0 p0 p1 K) : WP (S1_r03_ends e a0) 6 t_r03_ends [(.data p0), (.data p1)] K = wv_r03_ends a0 p0 p1 (fun r0 => K (.data r0)) := by kernel_rfl
theorem ok_r03_ends (e : List (Nat × EffF)) (he : EG e) : OkF (E e) wp_r03_ends n_r03_ends := by
 intro as K h
 unfold wp_r03_ends pw_r03_ends at h
 split at h
 · exact WP_ok (se1_r03_ends e he) (LpOk_by (l := [(95913400, b_95913400), (95913401, b_95913401)]) ⟨loop_r03_ends_0 e he, loop_r03_ends_3 e he, trivial⟩ (by kernel_rfl)) (by kernel_rfl) (by kernel_rfl) (fun _ => baseS_none (by kernel_rfl) _) (he.num _ (by kernel_rfl)) ((eq_r03_ends ..).mpr h)
 · exact h.elim
abbrev T_r03_in : Type := List PV → Int → Int → (Bool → Prop) → Prop
def L_r03_in_0_0 (a0 : T_r01_Less) (x0 : List PV → Int → Int → Int → Bool → Prop) (x1 : Bool → Prop) : Nat → List PV → Int → Int → Int → Prop
 | 0, _, _, _, _ => False
 | n + 1, l0, i1, i2, i3 =>
 (cbr (decide (i3 < (((List.length l0) : Nat) : Int)))
 (jn (fun (yj15 : Bool → Prop) =>
 (asr (decide ((0 : Int) ≤ i3))
 (asr (decide (i3 < (((List.length l0) : Nat) : Int)))
 (lt (List.getD l0 (i3.toNat) .nils) (fun yr17 =>
 (asr (conf (.agg [.i .i64, .i .i64, .i .i64, .i .i64]) yr17)
 (a0 i1 i2 (intOfV (cellAt yr17 0)) (intOfV (cellAt yr17 1)) (fun yb18 => 
 (cbr (!yb18)
 (asr (decide ((0 : Int) ≤ i3))
 (asr (decide (i3 < (((List.length l0) : Nat) : Int)))
 (lt (List.getD l0 (i3.toNat) .nils) (fun yr19 =>
 (asr (conf (.agg [.i .i64, .i .i64, .i .i64, .i .i64]) yr19)
 (a0 i1 i2 (intOfV (cellAt yr19 2)) (intOfV (cellAt yr19 3)) (fun yb20 => 
 (yj15 yb20))))))))
 (yj15 false))))))))))
 (fun yb14 => (cbr yb14
 (x1 true)
 (lt (IntKind.i64.wrap (i3 + (1 : Int))) (fun yi16 =>
 (L_r03_in_0_0 a0 x0 x1 n l0 i1 i2 yi16))))))
 (x0 l0 i1 i2 i3 false))
def wv_r03_in (a0 : T_r01_Less) (p0 : List PV) (p1 p2 : Int) (K : Bool → Prop) : Prop :=
 (∃ n : Nat, L_r03_in_0_0 a0
 (fun _ _ _ _ _ => (K false))
 (fun yb32 => (K yb32))
 n p0 p1 p2 (0 : Int))
def w_r03_in (p0 : List PV) (p1 p2 : Int) (K : Bool → Prop) : Prop := wv_r03_in w_r01_Less p0 p1 p2 K
def pw_r03_in (w : T_r03_in) (as : List PV) (K : PV → Prop) : Prop :=
 match as with
 | [(.data p0), (.agg [(.int .i64 p1), (.int .i64 p2)])] => w p0 p1 p2 (fun r0 => K (.bool r0))
 | _ => False
def wp_r03_in (as : List PV) (K : PV → Prop) : Prop := pw_r03_in w_r03_in as K
def D_r03_in_0 (F : Frm) (H : Hp) (A0 : List PV → Int → Int → Int → Prop) : Prop :=
 match F, H with
 | [(0, .v (.data l0)), (3, .box (.agg [(.int .i64 i1), (.int .i64 i2)])), (5, .v (.int .i64 i3))], [] => (A0 l0 i1 i2 i3)
 | _, _ => False
def X_r03_in_0_0 (Q : Ex → Frm → Hp → Prop) : List PV → Int → Int → Int → Bool → Prop := (fun l0 i1 i2 i3 b4 => Q (.exit 0) [(0, .v (.data l0)), (3, .box (.agg [(.int .i64 i1), (.int .i64 i2)])), (5, .v (.int .i64 i3)), (9, .v (.bool b4))] [])
def X_r03_in_0_1 (Q : Ex → Frm → Hp → Prop) : Bool → Prop := (fun b0 => Q .ret [(4, .v (.bool b0))] [])
def R_r03_in_0 (a0 : T_r01_Less) (Q : Ex → Frm → Hp → Prop) (n : Nat) (F : Frm) (H : Hp) : Prop := D_r03_in_0 F H (fun l0 i1 i2 i3 => L_r03_in_0_0 a0 (X_r03_in_0_0 Q) (X_r03_in_0_1 Q) n l0 i1 i2 i3)
def lp_r03_in (a0 : T_r01_Less) : LP := fun id F H Q =>
 bif Nat.beq id 81840800 then D_r03_in_0 F H (fun l0 i1 i2 i3 => ∃ n : Nat, L_r03_in_0_0 a0 (X_r03_in_0_0 Q) (X_r03_in_0_1 Q) n l0 i1 i2 i3) else
 False
def S0_r03_in (e : List (Nat × EffF)) (a0 : T_r01_Less) : SE := ⟨(E e), lookS [(n_r01_Less, pw_r01_Less a0)], lookI [], lp_r03_in a0⟩
theorem se0_r03_in (e : List (Nat × EffF)) (he : EG e) : SEOk (S0_r03_in e w_r01_Less) := seOk_of ⟨(ok_r01_Less e he), trivial⟩ trivial he.ok
theorem body_r03_in_0_0 (e : List (Nat × EffF)) (a0 Q n l0 i1 i2 i3) : WC (E e) (callW (S0_r03_in e a0) 5) (lp_r03_in a0) b_81840800 [(0, .v (.data l0)), (3, .box (.agg [(.int .i64 i1), (.int .i64 i2)])), (5, .v (.int .i64 i3))] [] (fun x F' H' => match x with | .norm => R_r03_in_0 a0 Q n F' H' | .exit i => Q (.exit i) F' H' | .ret => Q .ret F' H') = L_r03_in_0_0 a0 (X_r03_in_0_0 Q) (X_r03_in_0_1 Q) (n + 1) l0 i1 i2 i3 := by kernel_rfl
theorem lpb_r03_in_0 (e : List (Nat × EffF)) (_ : EG e) : LpOk (E e) (lp_r03_in w_r01_Less) b_81840800 := (LpOk_no (by kernel_rfl))
theorem loop_r03_in_0 (e : List (Nat × EffF)) (he : EG e) : ∀ F H Q, lp_r03_in w_r01_Less 81840800 F H Q → LoopT (E e) b_81840800 F H Q := by
 intro F H Q h
 have go := LoopT.intro (callW_ok (se0_r03_in e he) 5) (lpb_r03_in_0 e he) (R_r03_in_0 w_r01_Less Q) (by
   intro F H h
   unfold R_r03_in_0 D_r03_in_0 at h
   split at h
   · exact h
   · exact h) (by
   intro n F H h
   unfold R_r03_in_0 D_r03_in_0 at h
   split at h
   · exact (body_r03_in_0_0 ..).mpr h
   · exact h.elim)
 have h : D_r03_in_0 F H _ := h
 unfold D_r03_in_0 at h
 split at h
 · obtain ⟨n, h⟩ := h; exact go n _ _ h
 · exact h.elim
theorem eq_r03_in (e : List (Nat × EffF)) (a0 p0 p1 p2 K) : WP (S0_r03_in e a0) 6 t_r03_in [(.data p0), (.agg [(.int .i64 p1), (.int .i64 p2)])] K = wv_r03_in a0 p0 p1 p2 (fun r0 => K (.bool r0)) := by kernel_rfl
theorem ok_r03_in (e : List (Nat × EffF)) (he : EG e) : OkF (E e) wp_r03_in n_r03_in := by
 intro as K h
 unfold wp_r03_in pw_r03_in at h
 split at h
 · exact WP_ok (se0_r03_in e he) (LpOk_by (l := [(81840800, b_81840800)]) ⟨loop_r03_in_0 e he, trivial⟩ (by kernel_rfl)) (by kernel_rfl) (by kernel_rfl) (fun _ => baseS_none (by kernel_rfl) _) (he.num _ (by kernel_rfl)) ((eq_r03_in ..).mpr h)
 · exact h.elim
abbrev T_r03_joined : Type := List PV → List PV → Int → (List PV → Prop) → Prop
mutual
def L_r03_joined_0_0 (a0 : T_r03_ends) (a1 : T_r03_in) (x0 : List PV → List PV → Int → List PV → Int → Bool → Prop) (x1 : List PV → List PV → List PV → Int → List PV → Int → Bool → Prop) : Nat → List PV → List PV → Int → List PV → Int → Prop
 | 0, _, _, _, _, _ => False
 | n + 1, l0, l1, i2, l3, i4 =>
 (lt (IntKind.i64.wrap (i4 + (1 : Int))) (fun yi5 =>
 (cbr (decide (yi5 < (((List.length l3) : Nat) : Int)))
 (asr (decide ((0 : Int) ≤ i4))
 (asr (decide (i4 < (((List.length l3) : Nat) : Int)))
 (lt (List.getD l3 (i4.toNat) .nils) (fun yr28 =>
 (asr (conf (.agg [.i .i64, .i .i64]) yr28)
 (a1 l0 (intOfV (cellAt yr28 0)) (intOfV (cellAt yr28 1)) (fun yb29 => 
 (asr (decide ((0 : Int) ≤ i4))
 (asr (decide (i4 < (((List.length l3) : Nat) : Int)))
 (lt (List.getD l3 (i4.toNat) .nils) (fun yr30 =>
 (asr (conf (.agg [.i .i64, .i .i64]) yr30)
 (a1 l1 (intOfV (cellAt yr30 0)) (intOfV (cellAt yr30 1)) (fun yb31 => 
 (jn (fun (yj33 : Bool → Prop) =>
 (cbr yb29
 (yj33 true)
 (yj33 yb31)))
 (fun yb32 => (jn (fun (yj35 : Bool → Prop) =>
 (cbr (i2 == (1 : Int))
 (cbr yb29
 (yj35 yb31)
 (yj35 false))
 (yj35 yb32)))
 (fun yb34 => (jn (fun (yj37 : Bool → Prop) =>
 (cbr (i2 == (2 : Int))
 (cbr yb29
 (yj37 (!yb31))
 (yj37 false))
 (yj37 yb34)))
 (fun yb36 => (cbr (!yb36)
 (lt (IntKind.i64.wrap (i4 + (1 : Int))) (fun yi39 =>
 (L_r03_joined_0_0 a0 a1 x0 x1 n l0 l1 i2 l3 yi39)))
 (asr (decide ((0 : Int) ≤ i4))
 (asr (decide (i4 < (((List.length l3) : Nat) : Int)))
 (lt (List.getD l3 (i4.toNat) .nils) (fun yr40 =>
 (asr (conf (.agg [.i .i64, .i .i64]) yr40)
 (lt (IntKind.i64.wrap (i4 + (1 : Int))) (fun yi41 =>
 (asr (decide ((0 : Int) ≤ yi41))
 (asr (decide (yi41 < (((List.length l3) : Nat) : Int)))
 (lt (List.getD l3 (yi41.toNat) .nils) (fun yr42 =>
 (asr (conf (.agg [.i .i64, .i .i64]) yr42)
 (lt (IntKind.i64.wrap (i4 + (1 : Int))) (fun yi43 =>
 (asr (decide (1 = List.length ([(.agg [(.int .i64 (intOfV (cellAt yr40 0))), (.int .i64 (intOfV (cellAt yr40 1))), (.int .i64 (intOfV (cellAt yr42 0))), (.int .i64 (intOfV (cellAt yr42 1)))])] : List PV)) && decide (1 = List.length ([(.agg [(.int .i64 (intOfV (cellAt yr40 0))), (.int .i64 (intOfV (cellAt yr40 1))), (.int .i64 (intOfV (cellAt yr42 0))), (.int .i64 (intOfV (cellAt yr42 1)))])] : List PV)))
 (L_r03_joined_0_1 a0 a1 x0 x1 n ([(.agg [(.int .i64 (intOfV (cellAt yr40 0))), (.int .i64 (intOfV (cellAt yr40 1))), (.int .i64 (intOfV (cellAt yr42 0))), (.int .i64 (intOfV (cellAt yr42 1)))])] : List PV) l0 l1 i2 l3 yi43)))))))))))))))))))))))))))))))))))))
 (x0 l0 l1 i2 l3 i4 false))))
def L_r03_joined_0_1 (a0 : T_r03_ends) (a1 : T_r03_in) (x0 : List PV → List PV → Int → List PV → Int → Bool → Prop) (x1 : List PV → List PV → List PV → Int → List PV → Int → Bool → Prop) : Nat → List PV → List PV → List PV → Int → List PV → Int → Prop
 | 0, _, _, _, _, _, _ => False
 | n + 1, l0, l1, l2, i3, l4, i7 =>
 (lt (IntKind.i64.wrap (i7 + (1 : Int))) (fun yi47 =>
 (cbr (decide (yi47 < (((List.length l4) : Nat) : Int)))
 (jn (fun (yj79 : List PV → Prop) =>
 (asr (decide ((0 : Int) ≤ i7))
 (asr (decide (i7 < (((List.length l4) : Nat) : Int)))
 (lt (List.getD l4 (i7.toNat) .nils) (fun yr85 =>
 (asr (conf (.agg [.i .i64, .i .i64]) yr85)
 (a1 l1 (intOfV (cellAt yr85 0)) (intOfV (cellAt yr85 1)) (fun yb86 => 
 (asr (decide ((0 : Int) ≤ i7))
 (asr (decide (i7 < (((List.length l4) : Nat) : Int)))
 (lt (List.getD l4 (i7.toNat) .nils) (fun yr87 =>
 (asr (conf (.agg [.i .i64, .i .i64]) yr87)
 (a1 l2 (intOfV (cellAt yr87 0)) (intOfV (cellAt yr87 1)) (fun yb88 => 
 (jn (fun (yj90 : Bool → Prop) =>
 (cbr yb86
 (yj90 true)
 (yj90 yb88)))
 (fun yb89 => (jn (fun (yj92 : Bool → Prop) =>
 (cbr (i3 == (1 : Int))
 (cbr yb86
 (yj92 yb88)
 (yj92 false))
 (yj92 yb89)))
 (fun yb91 => (jn (fun (yj94 : Bool → Prop) =>
 (cbr (i3 == (2 : Int))
 (cbr yb86
 (yj94 (!yb88))
 (yj94 false))
 (yj94 yb91)))
 (fun yb93 => (cbr (!yb93)
 (yj79 l0)
 (jn (fun (yj99 : Bool → Prop) =>
 (cbr (decide ((((List.length l0) : Nat) : Int) > (0 : Int)))
 (lt (IntKind.i64.wrap ((((List.length l0) : Nat) : Int) - (1 : Int))) (fun yi108 =>
 (asr (decide ((0 : Int) ≤ yi108))
 (asr (decide (yi108 < (((List.length l0) : Nat) : Int)))
 (asr (decide ((List.length l0) = (List.length l0)))
 (asr (decide ((0 + (yi108.toNat)) < (List.length l0)))
 (lt (List.getD l0 (0 + (yi108.toNat)) .nils) (fun yr109 =>
 (asr (conf (.agg [.i .i64, .i .i64, .i .i64, .i .i64]) yr109)
 (asr (decide ((0 : Int) ≤ i7))
 (asr (decide (i7 < (((List.length l4) : Nat) : Int)))
 (lt (List.getD l4 (i7.toNat) .nils) (fun yr110 =>
 (asr (conf (.agg [.i .i64, .i .i64]) yr110)
 (yj99 (((intOfV (cellAt yr109 2)) == (intOfV (cellAt yr110 0))) && (((intOfV (cellAt yr109 3)) == (intOfV (cellAt yr110 1))) && true)))))))))))))))))
 (yj99 false)))
 (fun yb98 => (cbr yb98
 (lt (IntKind.i64.wrap ((((List.length l0) : Nat) : Int) - (1 : Int))) (fun yi100 =>
 (lt (IntKind.i64.wrap (i7 + (1 : Int))) (fun yi101 =>
 (asr (decide ((0 : Int) ≤ yi101))
 (asr (decide (yi101 < (((List.length l4) : Nat) : Int)))
 (lt (List.getD l4 (yi101.toNat) .nils) (fun yr102 =>
 (asr (conf (.agg [.i .i64, .i .i64]) yr102)
 (asr (decide ((0 : Int) ≤ yi100))
 (asr (decide (yi100 < (((List.length l0) : Nat) : Int)))
 (asr (decide ((List.length l0) = (List.length l0)))
 (asr (decide ((0 + (yi100.toNat)) < (List.length l0)))
 (lt (List.getD l0 (0 + (yi100.toNat)) .nils) (fun yr103 =>
 (asr (conf (.agg [.i .i64, .i .i64, .i .i64, .i .i64]) yr103)
 (lt (IntKind.i64.wrap (i7 + (1 : Int))) (fun yi104 =>
 (asr (decide ((List.length l0) = List.length (List.set l0 (0 + (yi100.toNat)) (.agg [(.int .i64 (intOfV (cellAt yr103 0))), (.int .i64 (intOfV (cellAt yr103 1))), (.int .i64 (intOfV (cellAt yr102 0))), (.int .i64 (intOfV (cellAt yr102 1)))]))) && decide ((List.length l0) = List.length (List.set l0 (0 + (yi100.toNat)) (.agg [(.int .i64 (intOfV (cellAt yr103 0))), (.int .i64 (intOfV (cellAt yr103 1))), (.int .i64 (intOfV (cellAt yr102 0))), (.int .i64 (intOfV (cellAt yr102 1)))]))))
 (L_r03_joined_0_1 a0 a1 x0 x1 n (List.set l0 (0 + (yi100.toNat)) (.agg [(.int .i64 (intOfV (cellAt yr103 0))), (.int .i64 (intOfV (cellAt yr103 1))), (.int .i64 (intOfV (cellAt yr102 0))), (.int .i64 (intOfV (cellAt yr102 1)))])) l1 l2 i3 l4 yi104))))))))))))))))))))
 (asr (decide ((0 : Int) ≤ i7))
 (asr (decide (i7 < (((List.length l4) : Nat) : Int)))
 (lt (List.getD l4 (i7.toNat) .nils) (fun yr105 =>
 (asr (conf (.agg [.i .i64, .i .i64]) yr105)
 (lt (IntKind.i64.wrap (i7 + (1 : Int))) (fun yi106 =>
 (asr (decide ((0 : Int) ≤ yi106))
 (asr (decide (yi106 < (((List.length l4) : Nat) : Int)))
 (lt (List.getD l4 (yi106.toNat) .nils) (fun yr107 =>
 (asr (conf (.agg [.i .i64, .i .i64]) yr107)
 (asr (decide ((List.length l0) = (List.length l0)))
 (asr (decide ((0 + (List.length l0)) ≤ (List.length l0)))
 (asr (!(decide (((0 + (List.length l0)) + 1) ≤ (List.length l0))))
 (asr (decide ((List.length l0) = (List.length l0)))
 (asr (decide ((((List.length l0) + 1) + 64) * (32 + 1) ≤ room))
 (yj79 (l0 ++ ([(.agg [(.int .i64 (intOfV (cellAt yr105 0))), (.int .i64 (intOfV (cellAt yr105 1))), (.int .i64 (intOfV (cellAt yr107 0))), (.int .i64 (intOfV (cellAt yr107 1)))])] : List PV)))))))))))))))))))))))))))))))))))))))))))))
 (fun yl78 => (lt (IntKind.i64.wrap (i7 + (1 : Int))) (fun yi80 =>
 (asr (decide ((List.length yl78) = List.length yl78) && decide ((List.length yl78) = List.length yl78))
 (L_r03_joined_0_1 a0 a1 x0 x1 n yl78 l1 l2 i3 l4 yi80))))))
 (x1 l0 l1 l2 i3 l4 i7 false))))
end
def wv_r03_joined (a0 : T_r03_ends) (a1 : T_r03_in) (p0 p1 : List PV) (p2 : Int) (K : List PV → Prop) : Prop :=
 (a0 p0 p1 (fun yl1 => 
 (∃ n : Nat, L_r03_joined_0_0 a0 a1
 (fun _ _ _ _ _ _ => (K ([] : List PV)))
 (fun yl130 _ _ _ _ _ _ => (asr (decide ((List.length yl130) = (List.length yl130)))
 (asr (decide ((0 + (List.length yl130)) ≤ (List.length yl130)))
 (K (List.take (List.length yl130) yl130)))))
 n p0 p1 p2 yl1 (0 : Int))))
def w_r03_joined (p0 p1 : List PV) (p2 : Int) (K : List PV → Prop) : Prop := wv_r03_joined w_r03_ends w_r03_in p0 p1 p2 K
def pw_r03_joined (w : T_r03_joined) (as : List PV) (K : PV → Prop) : Prop :=
 match as with
 | [(.data p0), (.data p1), (.int .i64 p2)] => w p0 p1 p2 (fun r0 => K (.data r0))
 | _ => False
def wp_r03_joined (as : List PV) (K : PV → Prop) : Prop := pw_r03_joined w_r03_joined as K
def D_r03_joined_0 (F : Frm) (H : Hp) (A0 : List PV → List PV → Int → List PV → Int → Prop) (A1 : List PV → List PV → List PV → Int → List PV → Int → Prop) : Prop :=
 match F, H with
 | [(0, .v (.data l0)), (1, .v (.data l1)), (2, .v (.int .i64 i2)), (7, .v (.data l3)), (8, .v .nils), (9, .v (.int .i64 i4))], [] => (A0 l0 l1 i2 l3 i4)
 | [(0, .v (.data l1)), (1, .v (.data l2)), (2, .v (.int .i64 i3)), (7, .v (.data l4)), (8, .v (.own 0 0 t5 t6 none)), (9, .v (.int .i64 i7))], [⟨false, true, 4, l0⟩] => asr (decide (t5 = List.length l0) && decide (t6 = List.length l0)) (A1 l0 l1 l2 i3 l4 i7)
 | _, _ => False
def X_r03_joined_0_0 (Q : Ex → Frm → Hp → Prop) : List PV → List PV → Int → List PV → Int → Bool → Prop := (fun l0 l1 i2 l3 i4 b5 => Q (.exit 0) [(0, .v (.data l0)), (1, .v (.data l1)), (2, .v (.int .i64 i2)), (7, .v (.data l3)), (8, .v .nils), (9, .v (.int .i64 i4)), (20, .v (.bool b5))] [])
def X_r03_joined_0_1 (Q : Ex → Frm → Hp → Prop) : List PV → List PV → List PV → Int → List PV → Int → Bool → Prop := (fun l0 l1 l2 i3 l4 i7 b8 => Q (.exit 0) [(0, .v (.data l1)), (1, .v (.data l2)), (2, .v (.int .i64 i3)), (7, .v (.data l4)), (8, .v (.own 0 0 (List.length l0) (List.length l0) none)), (9, .v (.int .i64 i7)), (20, .v (.bool b8))] [⟨false, true, 4, l0⟩])
def R_r03_joined_0 (a0 : T_r03_ends) (a1 : T_r03_in) (Q : Ex → Frm → Hp → Prop) (n : Nat) (F : Frm) (H : Hp) : Prop := D_r03_joined_0 F H (fun l0 l1 i2 l3 i4 => L_r03_joined_0_0 a0 a1 (X_r03_joined_0_0 Q) (X_r03_joined_0_1 Q) n l0 l1 i2 l3 i4) (fun l0 l1 l2 i3 l4 i7 => L_r03_joined_0_1 a0 a1 (X_r03_joined_0_0 Q) (X_r03_joined_0_1 Q) n l0 l1 l2 i3 l4 i7)
def lp_r03_joined (a0 : T_r03_ends) (a1 : T_r03_in) : LP := fun id F H Q =>
 bif Nat.beq id 37905300 then D_r03_joined_0 F H (fun l0 l1 i2 l3 i4 => ∃ n : Nat, L_r03_joined_0_0 a0 a1 (X_r03_joined_0_0 Q) (X_r03_joined_0_1 Q) n l0 l1 i2 l3 i4) (fun l0 l1 l2 i3 l4 i7 => ∃ n : Nat, L_r03_joined_0_1 a0 a1 (X_r03_joined_0_0 Q) (X_r03_joined_0_1 Q) n l0 l1 l2 i3 l4 i7) else
 False
def S0_r03_joined (e : List (Nat × EffF)) (a0 : T_r03_ends) (a1 : T_r03_in) : SE := ⟨(E e), lookS [(n_r03_ends, pw_r03_ends a0), (n_r03_in, pw_r03_in a1)], lookI [], lp_r03_joined a0 a1⟩
theorem se0_r03_joined (e : List (Nat × EffF)) (he : EG e) : SEOk (S0_r03_joined e w_r03_ends w_r03_in) := seOk_of ⟨(ok_r03_ends e he), (ok_r03_in e he), trivial⟩ trivial he.ok
theorem body_r03_joined_0_0 (e : List (Nat × EffF)) (a0 a1 Q n l0 l1 i2 l3 i4) : WC (E e) (callW (S0_r03_joined e a0 a1) 5) (lp_r03_joined a0 a1) b_37905300 [(0, .v (.data l0)), (1, .v (.data l1)), (2, .v (.int .i64 i2)), (7, .v (.data l3)), (8, .v .nils), (9, .v (.int .i64 i4))] [] (fun x F' H' => match x with | .norm => R_r03_joined_0 a0 a1 Q n F' H' | .exit i => Q (.exit i) F' H' | .ret => Q .ret F' H') = L_r03_joined_0_0 a0 a1 (X_r03_joined_0_0 Q) (X_r03_joined_0_1 Q) (n + 1) l0 l1 i2 l3 i4 := by kernel_rfl
theorem body_r03_joined_0_1 (e : List (Nat × EffF)) (a0 a1 Q n l0 l1 l2 i3 l4 i7) : WC (E e) (callW (S0_r03_joined e a0 a1) 5) (lp_r03_joined a0 a1) b_37905300 [(0, .v (.data l1)), (1, .v (.data l2)), (2, .v (.int .i64 i3)), (7, .v (.data l4)), (8, .v (.own 0 0 (List.length l0) (List.length l0) none)), (9, .v (.int .i64 i7))] [⟨false, true, 4, l0⟩] (fun x F' H' => match x with | .norm => R_r03_joined_0 a0 a1 Q n F' H' | .exit i => Q (.exit i) F' H' | .ret => Q .ret F' H') = L_r03_joined_0_1 a0 a1 (X_r03_joined_0_0 Q) (X_r03_joined_0_1 Q) (n + 1) l0 l1 l2 i3 l4 i7 := by kernel_rfl
theorem lpb_r03_joined_0 (e : List (Nat × EffF)) (_ : EG e) : LpOk (E e) (lp_r03_joined w_r03_ends w_r03_in) b_37905300 := (LpOk_no (by kernel_rfl))
theorem loop_r03_joined_0 (e : List (Nat × EffF)) (he : EG e) : ∀ F H Q, lp_r03_joined w_r03_ends w_r03_in 37905300 F H Q → LoopT (E e) b_37905300 F H Q := by
 intro F H Q h
 have go := LoopT.intro (callW_ok (se0_r03_joined e he) 5) (lpb_r03_joined_0 e he) (R_r03_joined_0 w_r03_ends w_r03_in Q) (by
   intro F H h
   unfold R_r03_joined_0 D_r03_joined_0 at h
   split at h
   · exact h
   · obtain ⟨hg, k⟩ := asr_iff.1 h
     clear h
     have h := k
     clear k
     try simp only [Bool.and_eq_true, decide_eq_true_eq] at hg
     obtain ⟨g0, g1⟩ := hg; subst g0; subst g1; exact h
   · exact h) (by
   intro n F H h
   unfold R_r03_joined_0 D_r03_joined_0 at h
   split at h
   · exact (body_r03_joined_0_0 ..).mpr h
   · obtain ⟨hg, k⟩ := asr_iff.1 h
     clear h
     have h := k
     clear k
     try simp only [Bool.and_eq_true, decide_eq_true_eq] at hg
     obtain ⟨g0, g1⟩ := hg; subst g0; subst g1; exact (body_r03_joined_0_1 ..).mpr h
   · exact h.elim)
 have h : D_r03_joined_0 F H _ _ := h
 unfold D_r03_joined_0 at h
 split at h
 · obtain ⟨n, h⟩ := h; exact go n _ _ h
 · obtain ⟨hg, n, h⟩ := asr_iff.1 h; exact go n _ _ (asr_iff.2 ⟨hg, h⟩)
 · exact h.elim
theorem eq_r03_joined (e : List (Nat × EffF)) (a0 a1 p0 p1 p2 K) : WP (S0_r03_joined e a0 a1) 6 t_r03_joined [(.data p0), (.data p1), (.int .i64 p2)] K = wv_r03_joined a0 a1 p0 p1 p2 (fun r0 => K (.data r0)) := by kernel_rfl
theorem ok_r03_joined (e : List (Nat × EffF)) (he : EG e) : OkF (E e) wp_r03_joined n_r03_joined := by
 intro as K h
 unfold wp_r03_joined pw_r03_joined at h
 split at h
 · exact WP_ok (se0_r03_joined e he) (LpOk_by (l := [(37905300, b_37905300)]) ⟨loop_r03_joined_0 e he, trivial⟩ (by kernel_rfl)) (by kernel_rfl) (by kernel_rfl) (fun _ => baseS_none (by kernel_rfl) _) (he.num _ (by kernel_rfl)) ((eq_r03_joined ..).mpr h)
 · exact h.elim
abbrev T_r03_set : Type := List PV → List PV → Int → (List PV → Int → Prop) → Prop
def wv_r03_set (a0 : T_r03_Both) (a1 : T_r03_joined) (p0 p1 : List PV) (p2 : Int) (K : List PV → Int → Prop) : Prop :=
 (a0 p0 p1 (fun yi5 => 
 (cbr (yi5 != (0 : Int))
 (a0 p0 p1 (fun yi7 => 
 (K ([] : List PV) yi7)))
 (a1 p0 p1 p2 (fun yl9 => 
 (cbr (decide ((((List.length yl9) : Nat) : Int) > (60 : Int)))
 (K ([] : List PV) (4 : Int))
 (K yl9 (0 : Int))))))))
def w_r03_set (p0 p1 : List PV) (p2 : Int) (K : List PV → Int → Prop) : Prop := wv_r03_set w_r03_Both w_r03_joined p0 p1 p2 K
def pw_r03_set (w : T_r03_set) (as : List PV) (K : PV → Prop) : Prop :=
 match as with
 | [(.data p0), (.data p1), (.int .i64 p2)] => w p0 p1 p2 (fun r0 r1 => K (.tup [(.data r0), (.int .i64 r1)]))
 | _ => False
def wp_r03_set (as : List PV) (K : PV → Prop) : Prop := pw_r03_set w_r03_set as K
def lp_r03_set (_ : T_r03_Both) (_ : T_r03_joined) : LP := fun _ _ _ _ =>
 False
def S0_r03_set (e : List (Nat × EffF)) (a0 : T_r03_Both) (a1 : T_r03_joined) : SE := ⟨(E e), lookS [(n_r03_Both, pw_r03_Both a0), (n_r03_joined, pw_r03_joined a1)], lookI [], lp_r03_set a0 a1⟩
theorem se0_r03_set (e : List (Nat × EffF)) (he : EG e) : SEOk (S0_r03_set e w_r03_Both w_r03_joined) := seOk_of ⟨(ok_r03_Both e he), (ok_r03_joined e he), trivial⟩ trivial he.ok
theorem eq_r03_set (e : List (Nat × EffF)) (a0 a1 p0 p1 p2 K) : WP (S0_r03_set e a0 a1) 6 t_r03_set [(.data p0), (.data p1), (.int .i64 p2)] K = wv_r03_set a0 a1 p0 p1 p2 (fun r0 r1 => K (.tup [(.data r0), (.int .i64 r1)])) := by kernel_rfl
theorem ok_r03_set (e : List (Nat × EffF)) (he : EG e) : OkF (E e) wp_r03_set n_r03_set := by
 intro as K h
 unfold wp_r03_set pw_r03_set at h
 split at h
 · exact WP_ok (se0_r03_set e he) (LpOk_no (by kernel_rfl)) (by kernel_rfl) (by kernel_rfl) (fun _ => baseS_none (by kernel_rfl) _) (he.num _ (by kernel_rfl)) ((eq_r03_set ..).mpr h)
 · exact h.elim
abbrev T_r03_Union : Type := List PV → List PV → (List PV → Int → Prop) → Prop
def wv_r03_Union (a0 : T_r03_set) (p0 p1 : List PV) (K : List PV → Int → Prop) : Prop :=
 (a0 p0 p1 (0 : Int) (fun yl2 yi3 => 
 (K yl2 yi3)))
def w_r03_Union (p0 p1 : List PV) (K : List PV → Int → Prop) : Prop := wv_r03_Union w_r03_set p0 p1 K
def pw_r03_Union (w : T_r03_Union) (as : List PV) (K : PV → Prop) : Prop :=
 match as with
 | [(.data p0), (.data p1)] => w p0 p1 (fun r0 r1 => K (.tup [(.data r0), (.int .i64 r1)]))
 | _ => False
def wp_r03_Union (as : List PV) (K : PV → Prop) : Prop := pw_r03_Union w_r03_Union as K
def lp_r03_Union (_ : T_r03_set) : LP := fun _ _ _ _ =>
 False
def S0_r03_Union (e : List (Nat × EffF)) (a0 : T_r03_set) : SE := ⟨(E e), lookS [(n_r03_set, pw_r03_set a0)], lookI [], lp_r03_Union a0⟩
theorem se0_r03_Union (e : List (Nat × EffF)) (he : EG e) : SEOk (S0_r03_Union e w_r03_set) := seOk_of ⟨(ok_r03_set e he), trivial⟩ trivial he.ok
theorem eq_r03_Union (e : List (Nat × EffF)) (a0 p0 p1 K) : WP (S0_r03_Union e a0) 6 t_r03_Union [(.data p0), (.data p1)] K = wv_r03_Union a0 p0 p1 (fun r0 r1 => K (.tup [(.data r0), (.int .i64 r1)])) := by kernel_rfl
theorem ok_r03_Union (e : List (Nat × EffF)) (he : EG e) : OkF (E e) wp_r03_Union n_r03_Union := by
 intro as K h
 unfold wp_r03_Union pw_r03_Union at h
 split at h
 · exact WP_ok (se0_r03_Union e he) (LpOk_no (by kernel_rfl)) (by kernel_rfl) (by kernel_rfl) (fun _ => baseS_none (by kernel_rfl) _) (he.num _ (by kernel_rfl)) ((eq_r03_Union ..).mpr h)
 · exact h.elim
abbrev T_r03_Meet : Type := List PV → List PV → (List PV → Int → Prop) → Prop
def wv_r03_Meet (a0 : T_r03_set) (p0 p1 : List PV) (K : List PV → Int → Prop) : Prop :=
 (a0 p0 p1 (1 : Int) (fun yl2 yi3 => 
 (K yl2 yi3)))
def w_r03_Meet (p0 p1 : List PV) (K : List PV → Int → Prop) : Prop := wv_r03_Meet w_r03_set p0 p1 K
def pw_r03_Meet (w : T_r03_Meet) (as : List PV) (K : PV → Prop) : Prop :=
 match as with
 | [(.data p0), (.data p1)] => w p0 p1 (fun r0 r1 => K (.tup [(.data r0), (.int .i64 r1)]))
 | _ => False
def wp_r03_Meet (as : List PV) (K : PV → Prop) : Prop := pw_r03_Meet w_r03_Meet as K
def lp_r03_Meet (_ : T_r03_set) : LP := fun _ _ _ _ =>
 False
def S0_r03_Meet (e : List (Nat × EffF)) (a0 : T_r03_set) : SE := ⟨(E e), lookS [(n_r03_set, pw_r03_set a0)], lookI [], lp_r03_Meet a0⟩
theorem se0_r03_Meet (e : List (Nat × EffF)) (he : EG e) : SEOk (S0_r03_Meet e w_r03_set) := seOk_of ⟨(ok_r03_set e he), trivial⟩ trivial he.ok
theorem eq_r03_Meet (e : List (Nat × EffF)) (a0 p0 p1 K) : WP (S0_r03_Meet e a0) 6 t_r03_Meet [(.data p0), (.data p1)] K = wv_r03_Meet a0 p0 p1 (fun r0 r1 => K (.tup [(.data r0), (.int .i64 r1)])) := by kernel_rfl
theorem ok_r03_Meet (e : List (Nat × EffF)) (he : EG e) : OkF (E e) wp_r03_Meet n_r03_Meet := by
 intro as K h
 unfold wp_r03_Meet pw_r03_Meet at h
 split at h
 · exact WP_ok (se0_r03_Meet e he) (LpOk_no (by kernel_rfl)) (by kernel_rfl) (by kernel_rfl) (fun _ => baseS_none (by kernel_rfl) _) (he.num _ (by kernel_rfl)) ((eq_r03_Meet ..).mpr h)
 · exact h.elim
abbrev T_r03_Minus : Type := List PV → List PV → (List PV → Int → Prop) → Prop
def wv_r03_Minus (a0 : T_r03_set) (p0 p1 : List PV) (K : List PV → Int → Prop) : Prop :=
 (a0 p0 p1 (2 : Int) (fun yl2 yi3 => 
 (K yl2 yi3)))
def w_r03_Minus (p0 p1 : List PV) (K : List PV → Int → Prop) : Prop := wv_r03_Minus w_r03_set p0 p1 K
def pw_r03_Minus (w : T_r03_Minus) (as : List PV) (K : PV → Prop) : Prop :=
 match as with
 | [(.data p0), (.data p1)] => w p0 p1 (fun r0 r1 => K (.tup [(.data r0), (.int .i64 r1)]))
 | _ => False
def wp_r03_Minus (as : List PV) (K : PV → Prop) : Prop := pw_r03_Minus w_r03_Minus as K
def lp_r03_Minus (_ : T_r03_set) : LP := fun _ _ _ _ =>
 False
def S0_r03_Minus (e : List (Nat × EffF)) (a0 : T_r03_set) : SE := ⟨(E e), lookS [(n_r03_set, pw_r03_set a0)], lookI [], lp_r03_Minus a0⟩
theorem se0_r03_Minus (e : List (Nat × EffF)) (he : EG e) : SEOk (S0_r03_Minus e w_r03_set) := seOk_of ⟨(ok_r03_set e he), trivial⟩ trivial he.ok
theorem eq_r03_Minus (e : List (Nat × EffF)) (a0 p0 p1 K) : WP (S0_r03_Minus e a0) 6 t_r03_Minus [(.data p0), (.data p1)] K = wv_r03_Minus a0 p0 p1 (fun r0 r1 => K (.tup [(.data r0), (.int .i64 r1)])) := by kernel_rfl
theorem ok_r03_Minus (e : List (Nat × EffF)) (he : EG e) : OkF (E e) wp_r03_Minus n_r03_Minus := by
 intro as K h
 unfold wp_r03_Minus pw_r03_Minus at h
 split at h
 · exact WP_ok (se0_r03_Minus e he) (LpOk_no (by kernel_rfl)) (by kernel_rfl) (by kernel_rfl) (fun _ => baseS_none (by kernel_rfl) _) (he.num _ (by kernel_rfl)) ((eq_r03_Minus ..).mpr h)
 · exact h.elim
abbrev T_r03_Same : Type := List PV → List PV → (Bool → Prop) → Prop
def L_r03_Same_0_0 (x0 : Bool → Prop) (x1 : List PV → List PV → Int → Bool → Prop) : Nat → List PV → List PV → Int → Prop
 | 0, _, _, _ => False
 | n + 1, l0, l1, i2 =>
 (cbr (decide (i2 < (((List.length l0) : Nat) : Int)))
 (asr (decide ((0 : Int) ≤ i2))
 (asr (decide (i2 < (((List.length l0) : Nat) : Int)))
 (asr (conf (.agg [.i .i64, .i .i64, .i .i64, .i .i64]) (List.getD l0 (i2.toNat) .nils))
 (asr (decide ((0 : Int) ≤ i2))
 (asr (decide (i2 < (((List.length l1) : Nat) : Int)))
 (asr (conf (.agg [.i .i64, .i .i64, .i .i64, .i .i64]) (List.getD l1 (i2.toNat) .nils))
 (cbr (!(((intOfV (cellAt (List.getD l0 (i2.toNat) .nils) 0)) == (intOfV (cellAt (List.getD l1 (i2.toNat) .nils) 0))) && (((intOfV (cellAt (List.getD l0 (i2.toNat) .nils) 1)) == (intOfV (cellAt (List.getD l1 (i2.toNat) .nils) 1))) && (((intOfV (cellAt (List.getD l0 (i2.toNat) .nils) 2)) == (intOfV (cellAt (List.getD l1 (i2.toNat) .nils) 2))) && (((intOfV (cellAt (List.getD l0 (i2.toNat) .nils) 3)) == (intOfV (cellAt (List.getD l1 (i2.toNat) .nils) 3))) && true)))))
 (x0 false)
 (L_r03_Same_0_0 x0 x1 n l0 l1 (IntKind.i64.wrap (i2 + (1 : Int)))))))))))
 (x1 l0 l1 i2 false))
def wv_r03_Same (p0 p1 : List PV) (K : Bool → Prop) : Prop :=
 (cbr ((((List.length p0) : Nat) : Int) != (((List.length p1) : Nat) : Int))
 (K false)
 (∃ n : Nat, L_r03_Same_0_0
 (fun yb0 => (K yb0))
 (fun _ _ _ _ => (K true))
 n p0 p1 (0 : Int)))
def w_r03_Same (p0 p1 : List PV) (K : Bool → Prop) : Prop := wv_r03_Same p0 p1 K
def pw_r03_Same (w : T_r03_Same) (as : List PV) (K : PV → Prop) : Prop :=
 match as with
 | [(.data p0), (.data p1)] => w p0 p1 (fun r0 => K (.bool r0))
 | _ => False
def wp_r03_Same (as : List PV) (K : PV → Prop) : Prop := pw_r03_Same w_r03_Same as K
def D_r03_Same_0 (F : Frm) (H : Hp) (A0 : List PV → List PV → Int → Prop) : Prop :=
 match F, H with
 | [(0, .v (.data l0)), (1, .v (.data l1)), (5, .v (.int .i64 i2))], [] => (A0 l0 l1 i2)
 | _, _ => False
def X_r03_Same_0_0 (Q : Ex → Frm → Hp → Prop) : Bool → Prop := (fun b0 => Q .ret [(4, .v (.bool b0))] [])
def X_r03_Same_0_1 (Q : Ex → Frm → Hp → Prop) : List PV → List PV → Int → Bool → Prop := (fun l0 l1 i2 b3 => Q (.exit 0) [(0, .v (.data l0)), (1, .v (.data l1)), (5, .v (.int .i64 i2)), (14, .v (.bool b3))] [])
def R_r03_Same_0 (Q : Ex → Frm → Hp → Prop) (n : Nat) (F : Frm) (H : Hp) : Prop := D_r03_Same_0 F H (fun l0 l1 i2 => L_r03_Same_0_0 (X_r03_Same_0_0 Q) (X_r03_Same_0_1 Q) n l0 l1 i2)
def lp_r03_Same : LP := fun id F H Q =>
 bif Nat.beq id 27088800 then D_r03_Same_0 F H (fun l0 l1 i2 => ∃ n : Nat, L_r03_Same_0_0 (X_r03_Same_0_0 Q) (X_r03_Same_0_1 Q) n l0 l1 i2) else
 False
def S0_r03_Same (e : List (Nat × EffF)) : SE := ⟨(E e), lookS [], lookI [], lp_r03_Same⟩
theorem se0_r03_Same (e : List (Nat × EffF)) (he : EG e) : SEOk (S0_r03_Same e) := seOk_of trivial trivial he.ok
theorem body_r03_Same_0_0 (e : List (Nat × EffF)) ( Q n l0 l1 i2) : WC (E e) (callW (S0_r03_Same e) 5) (lp_r03_Same) b_27088800 [(0, .v (.data l0)), (1, .v (.data l1)), (5, .v (.int .i64 i2))] [] (fun x F' H' => match x with | .norm => R_r03_Same_0 Q n F' H' | .exit i => Q (.exit i) F' H' | .ret => Q .ret F' H') = L_r03_Same_0_0 (X_r03_Same_0_0 Q) (X_r03_Same_0_1 Q) (n + 1) l0 l1 i2 := by kernel_rfl
theorem lpb_r03_Same_0 (e : List (Nat × EffF)) (_ : EG e) : LpOk (E e) (lp_r03_Same) b_27088800 := (LpOk_no (by kernel_rfl))
theorem loop_r03_Same_0 (e : List (Nat × EffF)) (he : EG e) : ∀ F H Q, lp_r03_Same 27088800 F H Q → LoopT (E e) b_27088800 F H Q := by
 intro F H Q h
 have go := LoopT.intro (callW_ok (se0_r03_Same e he) 5) (lpb_r03_Same_0 e he) (R_r03_Same_0 Q) (by
   intro F H h
   unfold R_r03_Same_0 D_r03_Same_0 at h
   split at h
   · exact h
   · exact h) (by
   intro n F H h
   unfold R_r03_Same_0 D_r03_Same_0 at h
   split at h
   · exact (body_r03_Same_0_0 ..).mpr h
   · exact h.elim)
 have h : D_r03_Same_0 F H _ := h
 unfold D_r03_Same_0 at h
 split at h
 · obtain ⟨n, h⟩ := h; exact go n _ _ h
 · exact h.elim
theorem eq_r03_Same (e : List (Nat × EffF)) ( p0 p1 K) : WP (S0_r03_Same e) 6 t_r03_Same [(.data p0), (.data p1)] K = wv_r03_Same p0 p1 (fun r0 => K (.bool r0)) := by kernel_rfl
theorem ok_r03_Same (e : List (Nat × EffF)) (he : EG e) : OkF (E e) wp_r03_Same n_r03_Same := by
 intro as K h
 unfold wp_r03_Same pw_r03_Same at h
 split at h
 · exact WP_ok (se0_r03_Same e he) (LpOk_by (l := [(27088800, b_27088800)]) ⟨loop_r03_Same_0 e he, trivial⟩ (by kernel_rfl)) (by kernel_rfl) (by kernel_rfl) (fun _ => baseS_none (by kernel_rfl) _) (he.num _ (by kernel_rfl)) ((eq_r03_Same ..).mpr h)
 · exact h.elim
end Go.Pf.Vc
namespace Go.Pf.Vc
open Go Go.Pf
set_option linter.unusedVariables false
theorem det_r03_Check (p0 : List PV) (r0 : Int) (h : ∀ K : Int → Prop, K r0 → w_r03_Check p0 K) (K : Int → Prop) : w_r03_Check p0 K = K r0 :=
 propext ⟨fun k => detC (ok_r03_Check [] effG_nil) (as := [(.data p0)]) (x := (.int .i64 r0)) (fun K' k' => h (fun r0 => K' (.int .i64 r0)) k') (K := fun x => match x with | (.int .i64 r0) => K r0 | _ => False) k, h K⟩
theorem det_r03_ends (p0 : List PV) (p1 : List PV) (r0 : List PV) (h : ∀ K : List PV → Prop, K r0 → w_r03_ends p0 p1 K) (K : List PV → Prop) : w_r03_ends p0 p1 K = K r0 :=
 propext ⟨fun k => detC (ok_r03_ends [] effG_nil) (as := [(.data p0), (.data p1)]) (x := (.data r0)) (fun K' k' => h (fun r0 => K' (.data r0)) k') (K := fun x => match x with | (.data r0) => K r0 | _ => False) k, h K⟩
theorem det_r03_in (p0 : List PV) (p1 : Int) (p2 : Int) (r0 : Bool) (h : ∀ K : Bool → Prop, K r0 → w_r03_in p0 p1 p2 K) (K : Bool → Prop) : w_r03_in p0 p1 p2 K = K r0 :=
 propext ⟨fun k => detC (ok_r03_in [] effG_nil) (as := [(.data p0), (.agg [(.int .i64 p1), (.int .i64 p2)])]) (x := (.bool r0)) (fun K' k' => h (fun r0 => K' (.bool r0)) k') (K := fun x => match x with | (.bool r0) => K r0 | _ => False) k, h K⟩
theorem det_r03_joined (p0 : List PV) (p1 : List PV) (p2 : Int) (r0 : List PV) (h : ∀ K : List PV → Prop, K r0 → w_r03_joined p0 p1 p2 K) (K : List PV → Prop) : w_r03_joined p0 p1 p2 K = K r0 :=
 propext ⟨fun k => detC (ok_r03_joined [] effG_nil) (as := [(.data p0), (.data p1), (.int .i64 p2)]) (x := (.data r0)) (fun K' k' => h (fun r0 => K' (.data r0)) k') (K := fun x => match x with | (.data r0) => K r0 | _ => False) k, h K⟩
theorem det_r03_Same (p0 : List PV) (p1 : List PV) (r0 : Bool) (h : ∀ K : Bool → Prop, K r0 → w_r03_Same p0 p1 K) (K : Bool → Prop) : w_r03_Same p0 p1 K = K r0 :=
 propext ⟨fun k => detC (ok_r03_Same [] effG_nil) (as := [(.data p0), (.data p1)]) (x := (.bool r0)) (fun K' k' => h (fun r0 => K' (.bool r0)) k') (K := fun x => match x with | (.bool r0) => K r0 | _ => False) k, h K⟩
end Go.Pf.Vc
namespace Go.Pf.Vc
open Go Go.Pf
set_option maxRecDepth 100000
abbrev T_l03_PieceSets : Type := List PV → List PV → (Bool → Prop) → Prop
def wv_l03_PieceSets (a0 : T_r03_Great) (a1 : T_piece_Union) (a2 : T_r03_Union) (a3 : T_piece_Meet) (a4 : T_r03_Meet) (a5 : T_piece_Minus) (a6 : T_r03_Minus) (a7 : T_r03_Same) (p0 p1 : List PV) (K : Bool → Prop) : Prop :=
 (jn (fun (yj9 : Bool → Prop) =>
 (a0 p0 (fun yb42 => 
 (cbr yb42
 (yj9 true)
 (a0 p1 (fun yb43 => 
 (yj9 yb43)))))))
 (fun yb8 => (cbr yb8
 (K true)
 (a1 p0 p1 (fun yl12 yi13 => 
 (a2 p0 p1 (fun yl16 yi17 => 
 (a3 p0 p1 (fun yl20 yi21 => 
 (a4 p0 p1 (fun yl24 yi25 => 
 (a5 p0 p1 (fun yl28 yi29 => 
 (a6 p0 p1 (fun yl32 yi33 => 
 (jn (fun (yj38 : Bool → Prop) =>
 (a7 yl12 yl16 (fun yb39 => 
 (cbr yb39
 (cbr (yi13 == yi17)
 (a7 yl20 yl24 (fun yb40 => 
 (cbr yb40
 (cbr (yi21 == yi25)
 (a7 yl28 yl32 (fun yb41 => 
 (cbr yb41
 (yj38 (yi29 == yi33))
 (yj38 false))))
 (yj38 false))
 (yj38 false))))
 (yj38 false))
 (yj38 false)))))
 (fun yb37 => (K yb37))))))))))))))))))
def w_l03_PieceSets (p0 p1 : List PV) (K : Bool → Prop) : Prop := wv_l03_PieceSets w_r03_Great w_piece_Union w_r03_Union w_piece_Meet w_r03_Meet w_piece_Minus w_r03_Minus w_r03_Same p0 p1 K
def pw_l03_PieceSets (w : T_l03_PieceSets) (as : List PV) (K : PV → Prop) : Prop :=
 match as with
 | [(.data p0), (.data p1)] => w p0 p1 (fun r0 => K (.bool r0))
 | _ => False
def wp_l03_PieceSets (as : List PV) (K : PV → Prop) : Prop := pw_l03_PieceSets w_l03_PieceSets as K
def lp_l03_PieceSets (_ : T_r03_Great) (_ : T_piece_Union) (_ : T_r03_Union) (_ : T_piece_Meet) (_ : T_r03_Meet) (_ : T_piece_Minus) (_ : T_r03_Minus) (_ : T_r03_Same) : LP := fun _ _ _ _ =>
 False
def S0_l03_PieceSets (a0 : T_r03_Great) (a1 : T_piece_Union) (a2 : T_r03_Union) (a3 : T_piece_Meet) (a4 : T_r03_Meet) (a5 : T_piece_Minus) (a6 : T_r03_Minus) (a7 : T_r03_Same) : SE := ⟨(E ef0), lookS [(n_r03_Great, pw_r03_Great a0), (n_piece_Union, pw_piece_Union a1), (n_r03_Union, pw_r03_Union a2), (n_piece_Meet, pw_piece_Meet a3), (n_r03_Meet, pw_r03_Meet a4), (n_piece_Minus, pw_piece_Minus a5), (n_r03_Minus, pw_r03_Minus a6), (n_r03_Same, pw_r03_Same a7)], lookI [], lp_l03_PieceSets a0 a1 a2 a3 a4 a5 a6 a7⟩
theorem se0_l03_PieceSets : SEOk (S0_l03_PieceSets w_r03_Great w_piece_Union w_r03_Union w_piece_Meet w_r03_Meet w_piece_Minus w_r03_Minus w_r03_Same) := seOk_of ⟨(ok_r03_Great ef0 effG0), ok_piece_Union, (ok_r03_Union ef0 effG0), (ok_piece_Meet ef0 effG0), (ok_r03_Meet ef0 effG0), (ok_piece_Minus ef0 effG0), (ok_r03_Minus ef0 effG0), (ok_r03_Same ef0 effG0), trivial⟩ trivial effG0.ok
theorem eq_l03_PieceSets (a0 a1 a2 a3 a4 a5 a6 a7 p0 p1 K) : WP (S0_l03_PieceSets a0 a1 a2 a3 a4 a5 a6 a7) 6 t_l03_PieceSets [(.data p0), (.data p1)] K = wv_l03_PieceSets a0 a1 a2 a3 a4 a5 a6 a7 p0 p1 (fun r0 => K (.bool r0)) := by kernel_rfl
theorem ok_l03_PieceSets : OkF (E ef0) wp_l03_PieceSets n_l03_PieceSets := by
 intro as K h
 unfold wp_l03_PieceSets pw_l03_PieceSets at h
 split at h
 · exact WP_ok (se0_l03_PieceSets) (LpOk_no (by kernel_rfl)) (by kernel_rfl) (by kernel_rfl) (fun _ => baseS_none (by kernel_rfl) _) (effG0.num _ (by kernel_rfl)) ((eq_l03_PieceSets ..).mpr h)
 · exact h.elim
end Go.Pf.Vc
namespace Go.Pf.Vc
open Go Go.Pf
def I64 (n : Int) : Prop := -9223372036854775808 ≤ n ∧ n ≤ 9223372036854775807
def U64 (n : Int) : Prop := 0 ≤ n ∧ n ≤ 18446744073709551615
theorem wu64' (n : Int) : IntKind.u64.wrap n = n % 18446744073709551616 := by
 simp only [IntKind.wrap, IntKind.signed, IntKind.bits, Bool.false_and, Bool.false_eq_true, if_false]
 rfl
theorem wi64' (n : Int) : IntKind.i64.wrap n = if n % 18446744073709551616 ≥ 9223372036854775808 then n % 18446744073709551616 - 18446744073709551616 else n % 18446744073709551616 := by
 have e1 : (2 : Int) ^ 64 = 18446744073709551616 := rfl
 have e2 : (2 : Int) ^ (64 - 1) = 9223372036854775808 := rfl
 simp only [IntKind.wrap, IntKind.signed, IntKind.bits, Bool.true_and, e1, e2]
 by_cases h : n % 18446744073709551616 ≥ 9223372036854775808 <;> simp [h]
theorem wu64 {n : Int} (h : U64 n) : IntKind.u64.wrap n = n := by
 unfold U64 at h
 rw [wu64']
 omega
theorem wi64 {n : Int} (h : I64 n) : IntKind.i64.wrap n = n := by
 unfold I64 at h
 rw [wi64']
 split <;> omega
theorem cbr_true {x y : Prop} : cbr true x y = x := rfl
theorem cbr_false {x y : Prop} : cbr false x y = y := rfl
theorem asr_true {x : Prop} : asr true x = x := rfl
theorem size_eq {p : Int} (h : I64 p) (K : Int → Prop) : w_ratio_size p K = K (p.natAbs : Int) := by
 unfold I64 at h
 unfold w_ratio_size wv_ratio_size
 by_cases hp : p < 0
 · have e : IntKind.u64.wrap ((0 : Int) - IntKind.u64.wrap p) = (p.natAbs : Int) := by
     rw [wu64', wu64']
     omega
   rw [decide_eq_true hp, cbr_true, e]
 · rw [decide_eq_false hp, cbr_false, wu64 ⟨by omega, by omega⟩]
   congr 1
   omega
theorem gcd_loop (x : Int → Int → Bool → Prop) : ∀ (n a b : Nat), b < n → L_ratio_gcd_0_0 x n (a : Int) (b : Int) = x ((Nat.gcd a b : Nat) : Int) 0 false
 | 0, a, b, h => by omega
 | n + 1, a, b, h => by
   unfold L_ratio_gcd_0_0
   by_cases hb : b = 0
   · subst hb
     simp [cbr]
   · have h1 : (b : Int) > 0 := by omega
     have h2 : ¬ ((b : Int) = 0) := by omega
     rw [decide_eq_true h1, cbr_true, decide_eq_false h2, Bool.not_false, asr_true]
     have e : Int.tmod (a : Int) (b : Int) = ((a % b : Nat) : Int) := by rw [Int.tmod_eq_emod_of_nonneg (by omega)]; omega
     rw [e, gcd_loop x n b (a % b) (by have := Nat.mod_lt a (show b > 0 by omega); omega)]
     rw [Nat.gcd_comm a b, Nat.gcd_rec b a, Nat.gcd_comm]
theorem gcd_of (a b : Nat) (K : Int → Prop) (h : K ((Nat.gcd a b : Nat) : Int)) : w_ratio_gcd (a : Int) (b : Int) K := by
 unfold w_ratio_gcd wv_ratio_gcd
 exact ⟨b + 1, by rw [gcd_loop _ (b + 1) a b (by omega)]; exact h⟩
def RV (n d : Int) : Prop := 1 ≤ d ∧ d ≤ 1000000000000000000 ∧ -1000000000000000000 ≤ n ∧ n ≤ 1000000000000000000 ∧ Nat.gcd n.natAbs d.natAbs = 1
instance (n d : Int) : Decidable (RV n d) := by unfold RV; infer_instance
def chk (n d : Int) : Int := if RV n d then 0 else 8
theorem Check_of {n d : Int} (hn : I64 n) (hd : I64 d) {K : Int → Prop} (h : K (chk n d)) : w_ratio_Check n d K := by
 unfold w_ratio_Check wv_ratio_Check
 by_cases h1 : d < 1
 · have e : chk n d = 8 := if_neg fun h => by have := h.1; omega
   rw [decide_eq_true h1, cbr_true, ← e]; exact h
 · have hd' := hd; have hn' := hn
   unfold I64 at hd' hn'
   have ed : IntKind.u64.wrap d = ((d.natAbs : Nat) : Int) := by rw [wu64 ⟨by omega, by omega⟩]; omega
   rw [decide_eq_false h1, cbr_false, size_eq hn, ed]
   by_cases h2 : ((if ((d.natAbs : Nat) : Int) > ((n.natAbs : Nat) : Int) then ((d.natAbs : Nat) : Int) else ((n.natAbs : Nat) : Int)) > 1000000000000000000)
   · have e : chk n d = 8 := if_neg fun h => by
       obtain ⟨a1, a2, a3, a4, _⟩ := h
       revert h2; split <;> omega
     rw [decide_eq_true h2, cbr_true, ← e]; exact h
   · rw [decide_eq_false h2, cbr_false, size_eq hn]
     refine gcd_of _ _ _ ?_
     have h3 : 0 < Nat.gcd n.natAbs d.natAbs := Nat.gcd_pos_of_pos_right _ (by omega)
     have h4 : d ≤ 1000000000000000000 ∧ -1000000000000000000 ≤ n ∧ n ≤ 1000000000000000000 := by
       revert h2; split <;> omega
     by_cases h5 : ((Nat.gcd n.natAbs d.natAbs : Nat) : Int) > 1
     · have e : chk n d = 8 := if_neg fun h => by have := h.2.2.2.2; omega
       rw [decide_eq_true h5, cbr_true, ← e]; exact h
     · have e : chk n d = 0 := if_pos ⟨by omega, h4.1, h4.2.1, h4.2.2, by omega⟩
       rw [decide_eq_false h5, cbr_false, ← e]; exact h
end Go.Pf.Vc
namespace Go.Pf.Vc
open Go Go.Pf
theorem mask32 {p : Int} (h : U64 p) : IntKind.u64.wrap (BitVec.ofInt IntKind.u64.bits p &&& BitVec.ofInt IntKind.u64.bits (4294967295 : Int)).toNat = p % 4294967296 := by
 unfold U64 at h
 have e1 : (BitVec.ofInt 64 p).toNat = p.toNat := by
   rw [BitVec.toNat_ofInt]; omega
 have e2 : (BitVec.ofInt 64 (4294967295 : Int)).toNat = 4294967295 := rfl
 have e3 : (BitVec.ofInt IntKind.u64.bits p &&& BitVec.ofInt IntKind.u64.bits (4294967295 : Int)).toNat = p.toNat % 4294967296 := by
   show (BitVec.ofInt 64 p &&& BitVec.ofInt 64 (4294967295 : Int)).toNat = _
   rw [BitVec.toNat_and, e1, e2]
   exact Nat.and_two_pow_sub_one_eq_mod p.toNat 32
 rw [e3, wu64']
 omega
theorem fdiv32 (p : Int) : Int.fdiv p 4294967296 = p / 4294967296 := by
 rw [Int.fdiv_eq_ediv_of_nonneg _ (by omega)]
theorem Mul64_eq {a b : Int} (ha : U64 a) (hb : U64 b) (K : Int → Int → Prop) : w_m_Mul64 a b K = K (a * b / 18446744073709551616) (a * b % 18446744073709551616) := by
 unfold w_m_Mul64 wv_m_Mul64
 simp only [fdiv32]
 rw [mask32 ha, mask32 hb]
 unfold U64 at ha hb
 have ha' := ha; have hb' := hb
 obtain ⟨x1, hx1⟩ : ∃ x, x = a / 4294967296 := ⟨_, rfl⟩
 obtain ⟨x0, hx0⟩ : ∃ x, x = a % 4294967296 := ⟨_, rfl⟩
 obtain ⟨y1, hy1⟩ : ∃ x, x = b / 4294967296 := ⟨_, rfl⟩
 obtain ⟨y0, hy0⟩ : ∃ x, x = b % 4294967296 := ⟨_, rfl⟩
 rw [← hx1, ← hx0, ← hy1, ← hy0]
 have b1 : 0 ≤ x1 ∧ x1 ≤ 4294967295 := by omega
 have b2 : 0 ≤ x0 ∧ x0 ≤ 4294967295 := by omega
 have b3 : 0 ≤ y1 ∧ y1 ≤ 4294967295 := by omega
 have b4 : 0 ≤ y0 ∧ y0 ≤ 4294967295 := by omega
 have pb : ∀ x y : Int, 0 ≤ x ∧ x ≤ 4294967295 → 0 ≤ y ∧ y ≤ 4294967295 → 0 ≤ x * y ∧ x * y ≤ 18446744065119617025 := by
   intro x y hx hy
   refine ⟨Int.mul_nonneg hx.1 hy.1, ?_⟩
   have := Int.mul_le_mul hx.2 hy.2 hy.1 (by omega : (0 : Int) ≤ 4294967295)
   omega
 have p1 := pb x1 y1 b1 b3
 have p2 := pb x1 y0 b1 b4
 have p3 := pb x0 y1 b2 b3
 have p4 := pb x0 y0 b2 b4
 have ea : a = x1 * 4294967296 + x0 := by omega
 have eb : b = y1 * 4294967296 + y0 := by omega
 have eab : a * b = x1 * y1 * 18446744073709551616 + x1 * y0 * 4294967296 + x0 * y1 * 4294967296 + x0 * y0 := by
   rw [ea, eb]; grind
 obtain ⟨P, hP⟩ : ∃ x, x = x1 * y1 := ⟨_, rfl⟩
 obtain ⟨Q, hQ⟩ : ∃ x, x = x1 * y0 := ⟨_, rfl⟩
 obtain ⟨R, hR⟩ : ∃ x, x = x0 * y1 := ⟨_, rfl⟩
 obtain ⟨S, hS⟩ : ∃ x, x = x0 * y0 := ⟨_, rfl⟩
 rw [← hP] at p1; rw [← hQ] at p2; rw [← hR] at p3; rw [← hS] at p4
 rw [← hP, ← hQ, ← hR, ← hS] at eab ⊢
 have w1 : IntKind.u64.wrap S = S := wu64 ⟨by omega, by omega⟩
 have w2 : IntKind.u64.wrap Q = Q := wu64 ⟨by omega, by omega⟩
 have w3 : IntKind.u64.wrap R = R := wu64 ⟨by omega, by omega⟩
 have w4 : IntKind.u64.wrap P = P := wu64 ⟨by omega, by omega⟩
 rw [w1, w2, w3, w4]
 have w5 : IntKind.u64.wrap (Q + S / 4294967296) = Q + S / 4294967296 := wu64 ⟨by omega, by omega⟩
 rw [w5, mask32 ⟨by omega, by omega⟩]
 have w6 : IntKind.u64.wrap ((Q + S / 4294967296) % 4294967296 + R) = (Q + S / 4294967296) % 4294967296 + R := wu64 ⟨by omega, by omega⟩
 rw [w6]
 have w7 : IntKind.u64.wrap (P + (Q + S / 4294967296) / 4294967296) = P + (Q + S / 4294967296) / 4294967296 := by
   have : a * b / 18446744073709551616 ≤ 18446744073709551615 := by
     have h1 : a * b ≤ 18446744073709551615 * 18446744073709551615 := by
       have := Int.mul_le_mul ha'.2 hb'.2 hb'.1 (by omega : (0 : Int) ≤ 18446744073709551615)
       exact this
     omega
   exact wu64 ⟨by omega, by omega⟩
 rw [w7]
 have hab : a * b ≤ 18446744073709551615 * 18446744073709551615 := Int.mul_le_mul ha'.2 hb'.2 hb'.1 (by omega : (0 : Int) ≤ 18446744073709551615)
 rw [eab] at hab ⊢
 rw [wu64', wu64']
 congr 1
 omega
theorem Or2_of {a b : Int} {K : Int → Prop} (h : K (if a = 0 then b else a)) : w_cmp_Or_api_Errno [.int .i64 a, .int .i64 b] K := by
 unfold w_cmp_Or_api_Errno wv_cmp_Or_api_Errno
 refine ⟨3, ?_⟩
 have e1 : IntKind.i64.wrap 1 = 1 := by decide
 have e2 : IntKind.i64.wrap 2 = 2 := by decide
 by_cases ha : a = 0
 · by_cases hb : b = 0
   · simp [L_cmp_Or_api_Errno_0_0, cbr_true, cbr_false, asr_true, conf, confC, intOfV, e1, e2, ha, hb] at h ⊢; exact h
   · have e3 : (b != 0) = true := by simpa using hb
     simp [L_cmp_Or_api_Errno_0_0, cbr_true, cbr_false, asr_true, conf, confC, intOfV, e1, e2, ha, e3] at h ⊢; exact h
 · have e3 : (a != 0) = true := by simpa using ha
   simp [L_cmp_Or_api_Errno_0_0, cbr_true, cbr_false, asr_true, conf, confC, intOfV, e1, e2, ha, e3] at h ⊢; exact h
def chk2 (a b c d : Int) : Int := if chk a b = 0 then chk c d else chk a b
theorem check_of {a b c d : Int} (ha : I64 a) (hb : I64 b) (hc : I64 c) (hd : I64 d) {K : Int → Prop} (h : K (chk2 a b c d)) : w_ratio_check a b c d K := by
 unfold w_ratio_check wv_ratio_check
 exact Check_of ha hb (Check_of hc hd (Or2_of h))
end Go.Pf.Vc
namespace Go.Pf.Vc
open Go Go.Pf
def cmp3 (a b : Int) : Int := if a < b then -1 else if a > b then 1 else 0
theorem Compare_i_eq (a b : Int) (K : Int → Prop) : w_cmp_Compare_int64 a b K = K (cmp3 a b) := by
 unfold w_cmp_Compare_int64 wv_cmp_Compare_int64
 simp only [w_cmp_isNaN_int64, wv_cmp_isNaN_int64, bne_self_eq_false, cbr_false, cmp3]
 by_cases h : a < b
 · simp [h, cbr_true]
 · by_cases h2 : a > b
   · simp [h, h2, cbr_true, cbr_false]
   · simp [h, h2, cbr_false]
theorem Compare_u_eq (a b : Int) (K : Int → Prop) : w_cmp_Compare_uint64 a b K = K (cmp3 a b) := by
 unfold w_cmp_Compare_uint64 wv_cmp_Compare_uint64
 simp only [w_cmp_isNaN_uint64, wv_cmp_isNaN_uint64, bne_self_eq_false, cbr_false, cmp3]
 by_cases h : a < b
 · simp [h, cbr_true]
 · by_cases h2 : a > b
   · simp [h, h2, cbr_true, cbr_false]
   · simp [h, h2, cbr_false]
theorem Or2i_of {a b : Int} {K : Int → Prop} (h : K (if a = 0 then b else a)) : w_cmp_Or_int [.int .i64 a, .int .i64 b] K := by
 unfold w_cmp_Or_int wv_cmp_Or_int
 refine ⟨3, ?_⟩
 have e1 : IntKind.i64.wrap 1 = 1 := by decide
 have e2 : IntKind.i64.wrap 2 = 2 := by decide
 by_cases ha : a = 0
 · by_cases hb : b = 0
   · simp [L_cmp_Or_int_0_0, cbr_true, cbr_false, asr_true, conf, confC, intOfV, e1, e2, ha, hb] at h ⊢; exact h
   · have e3 : (b != 0) = true := by simpa using hb
     simp [L_cmp_Or_int_0_0, cbr_true, cbr_false, asr_true, conf, confC, intOfV, e1, e2, ha, e3] at h ⊢; exact h
 · have e3 : (a != 0) = true := by simpa using ha
   simp [L_cmp_Or_int_0_0, cbr_true, cbr_false, asr_true, conf, confC, intOfV, e1, e2, ha, e3] at h ⊢; exact h
theorem I64.of {n : Int} (h1 : -1000000000000000000 ≤ n) (h2 : n ≤ 1000000000000000000) : I64 n := ⟨by omega, by omega⟩
theorem chk2_zero {a b c d : Int} : chk2 a b c d = 0 ↔ RV a b ∧ RV c d := by
 unfold chk2 chk
 by_cases h1 : RV a b <;> by_cases h2 : RV c d <;> simp [h1, h2]
def cmpR (a b c d : Int) : Int := cmp3 (a * d) (c * b)
theorem cmp3_wide {x y : Int} (_ : 0 ≤ x) (_ : 0 ≤ y) : (if cmp3 (x / 18446744073709551616) (y / 18446744073709551616) = 0 then cmp3 (x % 18446744073709551616) (y % 18446744073709551616) else cmp3 (x / 18446744073709551616) (y / 18446744073709551616)) = cmp3 x y := by
 unfold cmp3
 split <;> rename_i h <;> revert h <;> repeat' split <;> intro h <;> omega
theorem U64.abs {n : Int} (h : I64 n) : U64 ((n.natAbs : Nat) : Int) := by unfold I64 at h; unfold U64; omega
theorem Cmp_of {a b c d : Int} (ha : I64 a) (hb : I64 b) (hc : I64 c) (hd : I64 d) {K : Int → Int → Prop} (h : K (if chk2 a b c d = 0 then cmpR a b c d else 0) (chk2 a b c d)) : w_ratio_Cmp a b c d K := by
 unfold w_ratio_Cmp wv_ratio_Cmp
 refine check_of ha hb hc hd ?_
 by_cases hk : chk2 a b c d = 0
 · rw [if_pos hk] at h
   rw [hk] at h ⊢
   obtain ⟨⟨b1, b2, a1, a2, _⟩, d1, d2, c1, c2, _⟩ := chk2_zero.1 hk
   simp only [bne_self_eq_false, cbr_false]
   by_cases hs : decide (a < 0) = decide (c < 0)
   · have e : (decide (a < 0) != decide (c < 0)) = false := by rw [hs]; simp
     rw [e, cbr_false, size_eq ha, wu64 ⟨by omega, by omega⟩, Mul64_eq (U64.abs ha) ⟨by omega, by omega⟩, size_eq hc, wu64 ⟨by omega, by omega⟩, Mul64_eq (U64.abs hc) ⟨by omega, by omega⟩, Compare_u_eq, Compare_u_eq]
     refine Or2i_of ?_
     have p1 : 0 ≤ ((a.natAbs : Nat) : Int) * d := Int.mul_nonneg (by omega) (by omega)
     have p2 : 0 ≤ ((c.natAbs : Nat) : Int) * b := Int.mul_nonneg (by omega) (by omega)
     rw [cmp3_wide p1 p2]
     by_cases hneg : a < 0
     · have hcn : c < 0 := by simpa [hneg] using hs.symm
       rw [decide_eq_true hneg, cbr_true]
       have e1 : ((a.natAbs : Nat) : Int) * d = -(a * d) := by
         rw [show ((a.natAbs : Nat) : Int) = -a by omega, Int.neg_mul]
       have e2 : ((c.natAbs : Nat) : Int) * b = -(c * b) := by
         rw [show ((c.natAbs : Nat) : Int) = -c by omega, Int.neg_mul]
       have e3 : IntKind.i64.wrap (0 - cmp3 (((a.natAbs : Nat) : Int) * d) (((c.natAbs : Nat) : Int) * b)) = cmpR a b c d := by
         rw [e1, e2]
         unfold cmpR cmp3
         rw [wi64 (by unfold I64; repeat' split <;> omega)]
         repeat' split <;> omega
       rw [e3]; exact h
     · have hcn : ¬ c < 0 := by simpa [hneg] using hs.symm
       rw [decide_eq_false hneg, cbr_false, show ((a.natAbs : Nat) : Int) = a by omega, show ((c.natAbs : Nat) : Int) = c by omega]
       exact h
   · have e : (decide (a < 0) != decide (c < 0)) = true := by simpa using hs
     rw [e, cbr_true, Compare_i_eq]
     have e2 : cmp3 a c = cmpR a b c d := by
       unfold cmpR cmp3
       by_cases hneg : a < 0
       · have hcn : ¬ c < 0 := by intro hcn; simp [hneg, hcn] at hs
         have q1 : a * d < 0 := Int.mul_neg_of_neg_of_pos hneg (by omega)
         have q2 : 0 ≤ c * b := Int.mul_nonneg (by omega) (by omega)
         rw [if_pos (by omega), if_pos (by omega)]
       · have hcn : c < 0 := by
           by_cases hcn : c < 0
           · exact hcn
           · simp [hneg, hcn] at hs
         have q1 : c * b < 0 := Int.mul_neg_of_neg_of_pos hcn (by omega)
         have q2 : 0 ≤ a * d := Int.mul_nonneg (by omega) (by omega)
         rw [if_neg (by omega), if_pos (by omega), if_neg (by omega), if_pos (by omega)]
     rw [e2]; exact h
 · rw [if_neg hk] at h
   have e : (chk2 a b c d != 0) = true := by simpa using hk
   rw [e, cbr_true]; exact h
end Go.Pf.Vc
namespace Go.Pf.Vc
open Go Go.Pf
structure DI (y yn1 yn0 u un q r : Int) : Prop where
 hy : y = yn1 * 4294967296 + yn0
 h1 : 2147483648 ≤ yn1 ∧ yn1 ≤ 4294967295
 h0 : 0 ≤ yn0 ∧ yn0 ≤ 4294967295
 hn : 0 ≤ un ∧ un ≤ 4294967295
 hu : q * yn1 + r = u
 hq : 0 ≤ q ∧ q ≤ 4294967297
 hr : 0 ≤ r ∧ r ≤ 4294967295
 hlt : u < y
 hU : u * 4294967296 + un < (q + 1) * y
def DG (y u un q : Int) : Prop := 0 ≤ q ∧ q ≤ 4294967295 ∧ q * y ≤ u * 4294967296 + un ∧ u * 4294967296 + un < (q + 1) * y
theorem DI.step {y yn1 yn0 u un q r : Int} (h : DI y yn1 yn0 u un q r) {A B C : Prop}
   (hA : DG y u un (q - 1) → 0 ≤ q - 1 → q - 1 ≤ 4294967296 → A)
   (hB : DI y yn1 yn0 u un (q - 1) (r + yn1) → B)
   (hC : DG y u un q → C) :
   cbr (decide (q ≥ (4294967296 : Int)))
     (cbr (decide ((IntKind.u64.wrap (r + yn1)) ≥ (4294967296 : Int))) A B)
     (cbr (decide ((IntKind.u64.wrap (q * yn0)) > (IntKind.u64.wrap ((IntKind.u64.wrap ((4294967296 : Int) * r)) + un))))
       (cbr (decide ((IntKind.u64.wrap (r + yn1)) ≥ (4294967296 : Int))) A B) C) := by
 have h' := h
 obtain ⟨hy, h1, h0, hn, hu, hq, hr, hlt, hU⟩ := h
 have e1 : IntKind.u64.wrap (r + yn1) = r + yn1 := wu64 ⟨by omega, by omega⟩
 have eq1 : q * y = q * yn1 * 4294967296 + q * yn0 := by rw [hy]; grind
 have eq2 : (q - 1) * y = q * y - y := by grind
 have eq3 : (q - 1) * yn1 = q * yn1 - yn1 := by grind
 have eq4 : (q - 1 + 1) * y = q * y := by grind
 have eq5 : (q - 1) * yn0 = q * yn0 - yn0 := by grind
 have big : u * 4294967296 + un < q * y → cbr (decide ((IntKind.u64.wrap (r + yn1)) ≥ (4294967296 : Int))) A B := by
   intro hb
   have q1 : 0 ≤ q - 1 := by
     refine Int.not_lt.1 fun hc => ?_
     have hq0 : q = 0 := by omega
     subst hq0
     simp at hb hu
     omega
   rw [e1]
   by_cases hc : r + yn1 ≥ 4294967296
   · rw [decide_eq_true hc, cbr_true]
     have hp : (q - 1) * yn0 ≤ 4294967296 * 4294967295 := Int.mul_le_mul (by omega) h0.2 h0.1 (by omega)
     have hle : (q - 1) * y ≤ u * 4294967296 + un := by
       have : (q - 1) * y = (q - 1) * yn1 * 4294967296 + (q - 1) * yn0 := by rw [hy]; grind
       omega
     have hlt32 : q - 1 ≤ 4294967295 := by
       refine Int.not_lt.1 fun hc => ?_
       have : 4294967296 * y ≤ (q - 1) * y := Int.mul_le_mul_of_nonneg_right (by omega) (by omega)
       omega
     exact hA ⟨q1, hlt32, hle, by rw [eq4]; exact hb⟩ q1 (by omega)
   · rw [decide_eq_false hc, cbr_false]
     exact hB ⟨hy, h1, h0, hn, by rw [eq3]; omega, ⟨q1, by omega⟩, ⟨by omega, by omega⟩, hlt, by rw [eq4]; exact hb⟩
 by_cases ha : q ≥ 4294967296
 · rw [decide_eq_true ha, cbr_true]
   refine big ?_
   have : 4294967296 * y ≤ q * y := Int.mul_le_mul_of_nonneg_right (by omega) (by omega)
   omega
 · rw [decide_eq_false ha, cbr_false]
   have hp : q * yn0 ≤ 4294967295 * 4294967295 := Int.mul_le_mul (by omega) h0.2 h0.1 (by omega)
   have hp0 : 0 ≤ q * yn0 := Int.mul_nonneg hq.1 h0.1
   have w1 : IntKind.u64.wrap (q * yn0) = q * yn0 := wu64 ⟨hp0, by omega⟩
   have w2 : IntKind.u64.wrap ((4294967296 : Int) * r) = 4294967296 * r := wu64 ⟨by omega, by omega⟩
   have w3 : IntKind.u64.wrap ((4294967296 : Int) * r + un) = 4294967296 * r + un := wu64 ⟨by omega, by omega⟩
   rw [w1, w2, w3]
   by_cases hb : q * yn0 > 4294967296 * r + un
   · rw [decide_eq_true hb, cbr_true]
     exact big (by omega)
   · rw [decide_eq_false hb, cbr_false]
     exact hC ⟨hq.1, by omega, by omega, hU⟩
end Go.Pf.Vc
namespace Go.Pf.Vc
open Go Go.Pf
theorem or_eq {a b : Int} {k : Nat} (ha : 0 ≤ a) (hb : 0 ≤ b ∧ b < 2 ^ k) (hab : a * 2 ^ k ≤ 18446744073709551615 ∧ b ≤ 18446744073709551615) (hs : a * 2 ^ k + b ≤ 18446744073709551615) :
   IntKind.u64.wrap (BitVec.ofInt IntKind.u64.bits (a * 2 ^ k) ||| BitVec.ofInt IntKind.u64.bits b).toNat = a * 2 ^ k + b := by
 obtain ⟨x, rfl⟩ : ∃ x : Nat, a = x := ⟨a.toNat, by omega⟩
 obtain ⟨z, rfl⟩ : ∃ z : Nat, b = z := ⟨b.toNat, by omega⟩
 have ec : ((x : Int) * 2 ^ k) = ((2 ^ k * x : Nat) : Int) := by push_cast; exact Int.mul_comm _ _
 rw [ec] at hab hs ⊢
 have hz : z < 2 ^ k := by have := hb.2; exact_mod_cast this
 have e : (BitVec.ofInt IntKind.u64.bits ((2 ^ k * x : Nat) : Int) ||| BitVec.ofInt IntKind.u64.bits (z : Int)).toNat = 2 ^ k * x + z := by
   show (BitVec.ofInt 64 ((2 ^ k * x : Nat) : Int) ||| BitVec.ofInt 64 (z : Int)).toNat = _
   rw [BitVec.toNat_or, BitVec.toNat_ofInt, BitVec.toNat_ofInt]
   have e1 : (((2 ^ k * x : Nat) : Int) % (2 ^ 64 : Nat)).toNat = 2 ^ k * x := by omega
   have e2 : ((z : Int) % (2 ^ 64 : Nat)).toNat = z := by omega
   rw [e1, e2, Nat.two_pow_add_eq_or_of_lt hz]
 rw [e, wu64 ⟨by omega, by omega⟩]
 push_cast; rfl
end Go.Pf.Vc
namespace Go.Pf.Vc
open Go Go.Pf
theorem RV.neg {c d : Int} (h : RV c d) : RV (-c) d := by
 obtain ⟨d1, d2, c1, c2, g⟩ := h
 exact ⟨d1, d2, by omega, by omega, by rw [Int.natAbs_neg]; exact g⟩
end Go.Pf.Vc
namespace Go.Pf.Vc
open Go Go.Pf
def incr (l : List Int) (i : Nat) : Prop := ∀ j, i ≤ j → j + 1 < l.length → l.getD j 0 < l.getD (j + 1) 0
end Go.Pf.Vc
namespace Go.Pf.Vc
open Go Go.Pf
def small (q : Rat) : Prop := -1000000000000000000 ≤ q.num ∧ q.num ≤ 1000000000000000000 ∧ (q.den : Int) ≤ 1000000000000000000
instance (q : Rat) : Decidable (small q) := by unfold small; infer_instance
theorem small.rv {q : Rat} (h : small q) : RV q.num q.den := by
 obtain ⟨h1, h2, h3⟩ := h
 have := q.den_pos
 exact ⟨by omega, h3, h1, h2, q.reduced⟩
theorem rv_rat {n d : Int} (h : RV n d) : ∃ q : Rat, small q ∧ q.num = n ∧ (q.den : Int) = d := by
 obtain ⟨h1, h2, h3, h4, h5⟩ := h
 refine ⟨⟨n, d.toNat, by omega, ?_⟩, ⟨h3, h4, by show ((d.toNat : Nat) : Int) ≤ _; omega⟩, rfl, by show ((d.toNat : Nat) : Int) = _; omega⟩
 have : d.natAbs = d.toNat := by omega
 rw [this] at h5
 exact h5
theorem small.i1 {q : Rat} (h : small q) : I64 q.num := ⟨by have := h.1; omega, by have := h.2.1; omega⟩
theorem small.i2 {q : Rat} (h : small q) : I64 (q.den : Int) := ⟨by omega, by have := h.2.2; omega⟩
theorem small_chk2 {q r : Rat} (h : small q) (k : small r) : chk2 q.num q.den r.num r.den = 0 := chk2_zero.2 ⟨h.rv, k.rv⟩
end Go.Pf.Vc
namespace Go.Pf.Vc
open Go Go.Pf
def cmpQ (q r : Rat) : Int := if q < r then -1 else if r < q then 1 else 0
theorem cmpR_eq (q r : Rat) : cmpR q.num q.den r.num r.den = cmpQ q r := by
 unfold cmpR cmp3 cmpQ
 simp only [Rat.lt_iff]
theorem rCmp_eq {q r : Rat} (hq : small q) (hr : small r) (K : Int → Int → Prop) : w_ratio_Cmp q.num q.den r.num r.den K = K (cmpQ q r) 0 :=
 det_ratio_Cmp _ _ _ _ _ _ (fun K k => Cmp_of hq.i1 hq.i2 hr.i1 hr.i2 (by rw [small_chk2 hq hr, if_pos rfl, cmpR_eq]; exact k)) K
end Go.Pf.Vc
namespace Go.Pf.Vc
open Go Go.Pf
theorem sAbs_eq {p : Int} (h : I64 p) (K : Int → Prop) : w_r01_abs p K = K (p.natAbs : Int) := by
 unfold I64 at h
 unfold w_r01_abs wv_r01_abs
 by_cases hp : p < 0
 · have e0 : IntKind.i64.wrap (p + 1) = p + 1 := wi64 ⟨by omega, by omega⟩
   have e1 : IntKind.i64.wrap ((0 : Int) - (p + 1)) = -(p + 1) := by rw [wi64 ⟨by omega, by omega⟩]; omega
   have e2 : IntKind.u64.wrap (-(p + 1)) = -(p + 1) := wu64 ⟨by omega, by omega⟩
   have e3 : IntKind.u64.wrap (-(p + 1) + 1) = (p.natAbs : Int) := by rw [wu64 ⟨by omega, by omega⟩]; omega
   rw [decide_eq_true hp, cbr_true, e0, e1, e2, e3]
 · rw [decide_eq_false hp, cbr_false, wu64 ⟨by omega, by omega⟩]
   congr 1
   omega
theorem sgcd_loop (x : Int → Int → Bool → Prop) : ∀ (n a b : Nat), b < n → L_r01_gcd_0_0 x n (a : Int) (b : Int) = x ((Nat.gcd a b : Nat) : Int) 0 false
 | 0, a, b, h => by omega
 | n + 1, a, b, h => by
   unfold L_r01_gcd_0_0
   by_cases hb : b = 0
   · subst hb
     simp [cbr]
   · have h1 : ((b : Int) != 0) = true := by simp; omega
     have h2 : ¬ ((b : Int) = 0) := by omega
     rw [h1, cbr_true, decide_eq_false h2, Bool.not_false, asr_true]
     have e : Int.tmod (a : Int) (b : Int) = ((a % b : Nat) : Int) := by rw [Int.tmod_eq_emod_of_nonneg (by omega)]; omega
     rw [e, sgcd_loop x n b (a % b) (by have := Nat.mod_lt a (show b > 0 by omega); omega)]
     rw [Nat.gcd_comm a b, Nat.gcd_rec b a, Nat.gcd_comm]
theorem sgcd_eq (a b : Nat) (K : Int → Prop) : w_r01_gcd (a : Int) (b : Int) K = K ((Nat.gcd a b : Nat) : Int) := by
 refine det_r01_gcd _ _ _ (fun K h => ?_) K
 unfold w_r01_gcd wv_r01_gcd
 exact ⟨b + 1, by rw [sgcd_loop _ (b + 1) a b (by omega)]; exact h⟩
theorem bne_f {a b : Int} (h : a = b) : (a != b) = false := by simp [h]
theorem bne_t {a b : Int} (h : a ≠ b) : (a != b) = true := by simp [h]
theorem beq_f {a b : Int} (h : a ≠ b) : (a == b) = false := by simp [h]
theorem beq_t {a b : Int} (h : a = b) : (a == b) = true := by simp [h]
theorem sCheck_eq {n d : Int} (hn : I64 n) (_ : I64 d) (K : Int → Prop) : w_r01_Check n d K = K (chk n d) := by
 unfold w_r01_Check wv_r01_Check
 by_cases h1 : d < 1
 · rw [decide_eq_true h1, cbr_true, chk, if_neg (fun h => by have := h.1; omega)]
 · rw [decide_eq_false h1, cbr_false]
   by_cases h2 : d > 1000000000000000000
   · rw [decide_eq_true h2, cbr_true, chk, if_neg (fun h => by have := h.2.1; omega)]
   · rw [decide_eq_false h2, cbr_false]
     by_cases h3 : n < -1000000000000000000
     · rw [decide_eq_true h3, cbr_true, chk, if_neg (fun h => by have := h.2.2.1; omega)]
     · rw [decide_eq_false h3, cbr_false]
       by_cases h4 : n > 1000000000000000000
       · rw [decide_eq_true h4, cbr_true, chk, if_neg (fun h => by have := h.2.2.2.1; omega)]
       · have ed : IntKind.u64.wrap d = ((d.natAbs : Nat) : Int) := by rw [wu64 ⟨by omega, by omega⟩]; omega
         rw [decide_eq_false h4, cbr_false, sAbs_eq hn, ed, sgcd_eq]
         by_cases h5 : Nat.gcd n.natAbs d.natAbs = 1
         · rw [h5, bne_f (by rfl), cbr_false, chk, if_pos ⟨by omega, by omega, by omega, by omega, h5⟩]
         · rw [bne_t (by omega), cbr_true, chk, if_neg (fun h => h5 h.2.2.2.2)]
theorem sBoth_eq {a b c d : Int} (ha : I64 a) (hb : I64 b) (hc : I64 c) (hd : I64 d) (K : Int → Prop) : w_r01_Both a b c d K = K (chk2 a b c d) := by
 unfold w_r01_Both wv_r01_Both
 rw [sCheck_eq ha hb, sCheck_eq ha hb, sCheck_eq hc hd, chk2]
 by_cases h : chk a b = 0
 · rw [bne_f h, cbr_false, if_pos h]
 · rw [bne_t h, cbr_true, if_neg h]
theorem or32 {m s : Int} (_ : 0 ≤ m) (hs : 0 ≤ s ∧ s < 4294967296) : IntKind.u64.wrap (BitVec.ofInt IntKind.u64.bits (IntKind.u64.wrap (m * 4294967296)) ||| BitVec.ofInt IntKind.u64.bits s).toNat = m % 4294967296 * 4294967296 + s := by
 have e : IntKind.u64.wrap (m * 4294967296) = m % 4294967296 * 2 ^ 32 := by rw [wu64']; omega
 rw [e, or_eq (k := 32) (by omega) ⟨hs.1, by omega⟩ ⟨by omega, by omega⟩ (by omega)]
 omega
theorem times_eq {a b : Int} (ha : U64 a) (hb : U64 b) (K : Int → Int → Prop) : w_r01_times a b K = K (a * b / 18446744073709551616) (a * b % 18446744073709551616) := by
 unfold w_r01_times wv_r01_times
 simp only [fdiv32]
 rw [mask32 ha, mask32 hb]
 unfold U64 at ha hb
 have ha' := ha; have hb' := hb
 obtain ⟨x1, hx1⟩ : ∃ x, x = a / 4294967296 := ⟨_, rfl⟩
 obtain ⟨x0, hx0⟩ : ∃ x, x = a % 4294967296 := ⟨_, rfl⟩
 obtain ⟨y1, hy1⟩ : ∃ x, x = b / 4294967296 := ⟨_, rfl⟩
 obtain ⟨y0, hy0⟩ : ∃ x, x = b % 4294967296 := ⟨_, rfl⟩
 rw [← hx1, ← hx0, ← hy1, ← hy0]
 have b1 : 0 ≤ x1 ∧ x1 ≤ 4294967295 := by omega
 have b2 : 0 ≤ x0 ∧ x0 ≤ 4294967295 := by omega
 have b3 : 0 ≤ y1 ∧ y1 ≤ 4294967295 := by omega
 have b4 : 0 ≤ y0 ∧ y0 ≤ 4294967295 := by omega
 have pb : ∀ x y : Int, 0 ≤ x ∧ x ≤ 4294967295 → 0 ≤ y ∧ y ≤ 4294967295 → 0 ≤ x * y ∧ x * y ≤ 18446744065119617025 := by
   intro x y hx hy
   refine ⟨Int.mul_nonneg hx.1 hy.1, ?_⟩
   have := Int.mul_le_mul hx.2 hy.2 hy.1 (by omega : (0 : Int) ≤ 4294967295)
   omega
 have p1 := pb x1 y1 b1 b3
 have p2 := pb x1 y0 b1 b4
 have p3 := pb x0 y1 b2 b3
 have p4 := pb x0 y0 b2 b4
 have ea : a = x1 * 4294967296 + x0 := by omega
 have eb : b = y1 * 4294967296 + y0 := by omega
 have eab : a * b = x1 * y1 * 18446744073709551616 + x1 * y0 * 4294967296 + x0 * y1 * 4294967296 + x0 * y0 := by
   rw [ea, eb]; grind
 obtain ⟨P, hP⟩ : ∃ x, x = x1 * y1 := ⟨_, rfl⟩
 obtain ⟨Q, hQ⟩ : ∃ x, x = x1 * y0 := ⟨_, rfl⟩
 obtain ⟨R, hR⟩ : ∃ x, x = x0 * y1 := ⟨_, rfl⟩
 obtain ⟨S, hS⟩ : ∃ x, x = x0 * y0 := ⟨_, rfl⟩
 rw [← hP] at p1; rw [← hQ] at p2; rw [← hR] at p3; rw [← hS] at p4
 rw [← hP, ← hQ, ← hR, ← hS] at eab ⊢
 have w1 : IntKind.u64.wrap S = S := wu64 ⟨by omega, by omega⟩
 have w2 : IntKind.u64.wrap Q = Q := wu64 ⟨by omega, by omega⟩
 have w3 : IntKind.u64.wrap R = R := wu64 ⟨by omega, by omega⟩
 have w4 : IntKind.u64.wrap P = P := wu64 ⟨by omega, by omega⟩
 rw [w1, w2, w3, w4, mask32 (p := Q) ⟨by omega, by omega⟩, mask32 (p := S) ⟨by omega, by omega⟩]
 have w5 : IntKind.u64.wrap (Q % 4294967296 + R) = Q % 4294967296 + R := wu64 ⟨by omega, by omega⟩
 rw [w5]
 have w6 : IntKind.u64.wrap (Q % 4294967296 + R + S / 4294967296) = Q % 4294967296 + R + S / 4294967296 := wu64 ⟨by omega, by omega⟩
 rw [w6, or32 (by omega) ⟨by omega, by omega⟩]
 have hab : a * b ≤ 18446744073709551615 * 18446744073709551615 := Int.mul_le_mul ha'.2 hb'.2 hb'.1 (by omega : (0 : Int) ≤ 18446744073709551615)
 rw [eab] at hab ⊢
 have w7 : IntKind.u64.wrap (P + Q / 4294967296) = P + Q / 4294967296 := wu64 ⟨by omega, by omega⟩
 rw [w7, wu64 ⟨by omega, by omega⟩]
 congr 1 <;> omega
theorem lessW_eq {X Y : Int} (_ : 0 ≤ X) (_ : 0 ≤ Y) (K : Bool → Prop) :
   w_r01_less (X / 18446744073709551616) (X % 18446744073709551616) (Y / 18446744073709551616) (Y % 18446744073709551616) K = K (decide (X < Y)) := by
 unfold w_r01_less wv_r01_less
 by_cases h : X / 18446744073709551616 < Y / 18446744073709551616
 · rw [decide_eq_true h, cbr_true, decide_eq_true (by omega)]
 · rw [decide_eq_false h, cbr_false]
   by_cases h2 : X / 18446744073709551616 = Y / 18446744073709551616
   · rw [beq_t h2, cbr_true]
     congr 1
     rw [decide_eq_decide]; omega
   · rw [beq_f h2, cbr_false, decide_eq_false (by omega)]
end Go.Pf.Vc
namespace Go.Pf.Vc
open Go Go.Pf
theorem wuN {n : Nat} (h : (n : Int) ≤ 18446744073709551615) : IntKind.u64.wrap (n : Int) = n := wu64 ⟨by omega, h⟩
theorem times_nat {a b : Nat} (ha : a ≤ 18446744073709551615) (hb : b ≤ 18446744073709551615) (K : Int → Int → Prop) :
   w_r01_times (a : Int) (b : Int) K = K (((a * b : Nat) : Int) / 18446744073709551616) (((a * b : Nat) : Int) % 18446744073709551616) := by
 rw [times_eq ⟨by omega, by omega⟩ ⟨by omega, by omega⟩, Int.natCast_mul]
theorem small.neg {q : Rat} (hq : small q) : small (-q) := by
 obtain ⟨a1, a2, a3⟩ := hq
 unfold small
 rw [Rat.neg_num, Rat.neg_den]
 omega
theorem sLess_eq {q r : Rat} (hq : small q) (hr : small r) (K : Bool → Prop) : w_r01_Less q.num q.den r.num r.den K = K (decide (q < r)) := by
 unfold w_r01_Less wv_r01_Less
 have hq' := hq; have hr' := hr
 obtain ⟨a1, a2, a3⟩ := hq
 obtain ⟨b1, b2, b3⟩ := hr
 have dq := q.den_pos
 have dr := r.den_pos
 have e : decide (q < r) = decide (q.num * r.den < r.num * q.den) := by rw [decide_eq_decide]; exact Rat.lt_iff q r
 rw [e]
 by_cases hs : (decide (q.num < 0) != decide (r.num < 0)) = true
 · rw [hs, cbr_true]
   by_cases h1 : q.num < 0
   · have h2 : ¬ r.num < 0 := by simpa [h1] using hs
     have p1 : q.num * r.den < 0 := Int.mul_neg_of_neg_of_pos h1 (by omega)
     have p2 : 0 ≤ r.num * q.den := Int.mul_nonneg (by omega) (by omega)
     rw [decide_eq_true h1, decide_eq_true (by omega)]
   · have h2 : r.num < 0 := by simpa [h1] using hs
     have p1 : r.num * q.den < 0 := Int.mul_neg_of_neg_of_pos h2 (by omega)
     have p2 : 0 ≤ q.num * r.den := Int.mul_nonneg (by omega) (by omega)
     rw [decide_eq_false h1, decide_eq_false (by omega)]
 · have hs' : (decide (q.num < 0) != decide (r.num < 0)) = false := by simpa using hs
   rw [hs', cbr_false, sAbs_eq hq'.i1, wuN (by omega), times_nat (by omega) (by omega), sAbs_eq hr'.i1, wuN (by omega), times_nat (by omega) (by omega), lessW_eq (Int.natCast_nonneg _) (Int.natCast_nonneg _), lessW_eq (Int.natCast_nonneg _) (Int.natCast_nonneg _), Int.natCast_mul, Int.natCast_mul]
   by_cases h1 : q.num < 0
   · have h2 : r.num < 0 := by simpa [h1] using hs'
     rw [decide_eq_true h1, cbr_true, show ((q.num.natAbs : Nat) : Int) = -q.num by omega, show ((r.num.natAbs : Nat) : Int) = -r.num by omega, Int.neg_mul, Int.neg_mul]
     congr 1
     rw [decide_eq_decide]; omega
   · have h2 : ¬ r.num < 0 := by simpa [h1] using hs'
     rw [decide_eq_false h1, cbr_false, show ((q.num.natAbs : Nat) : Int) = q.num by omega, show ((r.num.natAbs : Nat) : Int) = r.num by omega]
end Go.Pf.Vc
namespace Go.Pf.Vc
open Go Go.Pf
theorem cbT {c : Prop} [Decidable c] {P Q : Prop} (h : c) : cbr (decide c) P Q = P := by rw [decide_eq_true h, cbr_true]
theorem cbF {c : Prop} [Decidable c] {P Q : Prop} (h : ¬ c) : cbr (decide c) P Q = Q := by rw [decide_eq_false h, cbr_false]
theorem cnT {a b : Int} {P Q : Prop} (h : a ≠ b) : cbr (a != b) P Q = P := by rw [bne_t h, cbr_true]
theorem cnF {a b : Int} {P Q : Prop} (h : a = b) : cbr (a != b) P Q = Q := by rw [bne_f h, cbr_false]
theorem ceT {a b : Int} {P Q : Prop} (h : a = b) : cbr (a == b) P Q = P := by rw [beq_t h, cbr_true]
theorem ceF {a b : Int} {P Q : Prop} (h : a ≠ b) : cbr (a == b) P Q = Q := by rw [beq_f h, cbr_false]
theorem asT {c : Prop} [Decidable c] {P : Prop} (h : c) : asr (decide c) P = P := by rw [decide_eq_true h, asr_true]
theorem wib {n : Int} (h1 : -9223372036854775808 ≤ n) (h2 : n ≤ 9223372036854775807) : IntKind.i64.wrap n = n := wi64 ⟨h1, h2⟩
theorem cast1 (i : Nat) : (i : Int) + 1 = ((i + 1 : Nat) : Int) := by omega
def allD (dens : List Int) : Prop := ∀ d ∈ dens, 0 ≤ d ∧ d ≤ 12
def someD (dens : List Int) : Prop := ∃ d ∈ dens, 0 < d
instance (l : List Int) : Decidable (allD l) := by unfold allD; infer_instance
instance (l : List Int) : Decidable (someD l) := by unfold someD; infer_instance
def VC (len : Int) (cuts dens : List Int) : Prop :=
 1 ≤ len ∧ len ≤ 1000 ∧ 2 ≤ cuts.length ∧ cuts.length ≤ 40 ∧ dens.length + 1 = cuts.length ∧ cuts.getD 0 0 = 0 ∧ cuts.getD (cuts.length - 1) 0 = len ∧ incr cuts 0 ∧ allD dens ∧ someD dens
theorem incr_iff (l : List Int) : incr l 0 ↔ ∀ j, j < l.length → j + 1 < l.length → l.getD j 0 < l.getD (j + 1) 0 := ⟨fun h j _ h2 => h j (by omega) h2, fun h j _ h2 => h j (by omega) h2⟩
instance (l : List Int) : Decidable (incr l 0) := decidable_of_iff _ (incr_iff l).symm
instance (len : Int) (cuts dens : List Int) : Decidable (VC len cuts dens) := by unfold VC; infer_instance
def ckC (len : Int) (cuts dens : List Int) : Int := if len > 1000 ∨ cuts.length > 40 then 4 else if VC len cuts dens then 0 else 8
def PT (len : Int) (n d : Int) : Prop := RV n d ∧ 0 ≤ n ∧ n ≤ len * d
instance (len n d : Int) : Decidable (PT len n d) := by unfold PT; infer_instance
end Go.Pf.Vc
namespace Go.Pf.Vc
open Go Go.Pf
section
variable {len : Int} {cuts dens : List Int}
theorem VC.step (h : VC len cuts dens) {i : Nat} (hi : i + 1 < cuts.length) : cuts.getD i 0 < cuts.getD (i + 1) 0 := h.2.2.2.2.2.2.2.1 i (Nat.zero_le _) hi
theorem VC.mono (h : VC len cuts dens) {i : Nat} : ∀ {j : Nat}, i ≤ j → j < cuts.length → cuts.getD i 0 ≤ cuts.getD j 0
 | 0, hij, _ => by have : i = 0 := by omega
                   subst this; exact Int.le_refl _
 | j + 1, hij, hj => by
   by_cases e : i = j + 1
   · subst e; exact Int.le_refl _
   · have h1 := h.mono (i := i) (j := j) (by omega) (by omega)
     have h2 := h.step (i := j) hj
     omega
theorem VC.lo (h : VC len cuts dens) {i : Nat} (hi : i < cuts.length) : 0 ≤ cuts.getD i 0 := by
 have := h.mono (Nat.zero_le i) hi
 rw [h.2.2.2.2.2.1] at this; exact this
theorem VC.hi (h : VC len cuts dens) {i : Nat} (hi : i < cuts.length) : cuts.getD i 0 ≤ len := by
 have := h.mono (i := i) (j := cuts.length - 1) (by omega) (by omega)
 rw [h.2.2.2.2.2.2.1] at this; exact this
theorem VC.den (h : VC len cuts dens) {i : Nat} (hi : i < dens.length) : 0 ≤ dens.getD i 0 ∧ dens.getD i 0 ≤ 12 := by
 rw [List.getD_eq_getElem?_getD, List.getElem?_eq_getElem hi]
 exact h.2.2.2.2.2.2.2.2.1 _ (List.getElem_mem hi)
theorem VC.l1 (h : VC len cuts dens) : dens.length + 1 = cuts.length := h.2.2.2.2.1
theorem VC.l2 (h : VC len cuts dens) : cuts.length ≤ 40 := h.2.2.2.1
def totS (cuts dens : List Int) : Nat → Nat → Int → Int
 | 0, _, s => s
 | r + 1, i, s => totS cuts dens r (i + 1) (s + dens.getD i 0 * (cuts.getD (i + 1) 0 - cuts.getD i 0))
def totC (cuts dens : List Int) : Int := totS cuts dens dens.length 0 0
def fit {α : Type} (q : Rat) (k : Rat → Except Int α) : Except Int α := if small q then k q else .error 16
def valS (cuts dens : List Int) (b : Rat) : Nat → Nat → Rat → Rat → Except Int Rat
 | 0, _, _, sum => .ok sum
 | r + 1, i, p, sum =>
   let en : Rat := if b < (cuts.getD (i + 1) 0 : Int) then b else (cuts.getD (i + 1) 0 : Int)
   if dens.getD i 0 = 0 ∨ ¬ p < en then valS cuts dens b r (i + 1) (if p < en then en else p) sum
   else fit (en - p) fun l => fit (l * (dens.getD i 0 : Int)) fun w => fit (sum + w) fun s => valS cuts dens b r (i + 1) en s
def valC (cuts dens : List Int) (a b : Rat) : Except Int Rat := valS cuts dens b dens.length 0 a 0
end
end Go.Pf.Vc
namespace Go.Pf.Vc
open Go Go.Pf
def rt (n d : Int) : Rat := mkRat n d.toNat
theorem rt_self (q : Rat) : rt q.num q.den = q := by unfold rt; rw [Int.toNat_natCast, Rat.mkRat_self]
theorem rt_of {n d : Int} (h : RV n d) : small (rt n d) ∧ (rt n d).num = n ∧ ((rt n d).den : Int) = d := by
 obtain ⟨q, h1, h2, h3⟩ := rv_rat h
 subst h2 h3
 rw [rt_self]; exact ⟨h1, rfl, rfl⟩
section
variable {len : Int} {cuts dens : List Int}
def valR (len : Int) (cuts dens : List Int) (an ad bn bd : Int) : Except Int Rat :=
 if ckC len cuts dens = 0 then (if PT len an ad ∧ PT len bn bd ∧ ¬ rt bn bd < rt an ad then valC cuts dens (rt an ad) (rt bn bd) else .error 2) else .error (ckC len cuts dens)
end
end Go.Pf.Vc
namespace Go.Pf.Vc
open Go Go.Pf
section
variable {len : Int} {cuts dens : List Int}
theorem add_zero (q : Rat) : q + 0 = q := by grind
end
end Go.Pf.Vc
namespace Go.Pf.Vc
open Go Go.Pf
structure Ck where
 len : Int
 cuts : List Int
 dens : List Int
instance : Inhabited Ck := ⟨⟨0, [], []⟩⟩
def Ck.fin (c : Ck) : Prop := c.cuts.length < 4611686018427387904 ∧ c.dens.length < 4611686018427387904
def Ck.ok (c : Ck) : Prop := VC c.len c.cuts c.dens
instance (c : Ck) : Decidable c.ok := by unfold Ck.ok; infer_instance
theorem drop_cons {α : Type} {l : List α} {i : Nat} (d : α) (h : i < l.length) : l.drop i = l.getD i d :: l.drop (i + 1) := by
 rw [List.drop_eq_getElem_cons h, List.getD_eq_getElem?_getD, List.getElem?_eq_getElem h]; rfl
section
variable {l : List Ck}
def finC (l : List Ck) : Prop := ∀ i, i < l.length → (l.getD i default).fin
theorem asTT {c : Bool} {P : Prop} (h : c = true) : asr c P = P := by rw [h, asr_true]
end
end Go.Pf.Vc
namespace Go.Pf.Vc
open Go Go.Pf
section
variable {l : List Ck}
structure DK (l : List Ck) : Prop where
 n6 : l.length ≤ 6
 n0 : 1 ≤ l.length
 ok : ∀ i, i < l.length → (l.getD i default).ok
 len : ∀ i, i < l.length → (l.getD i default).len = (l.getD 0 default).len
theorem DK.fin {l : List Ck} (h : DK l) : finC l := fun i hi => by
 have h1 := (h.ok i hi).l1; have h2 := (h.ok i hi).l2
 exact ⟨by omega, by omega⟩
def Ck.value (an ad bn bd : Int) (c : Ck) : Except Int Rat := valR c.len c.cuts c.dens an ad bn bd
end
end Go.Pf.Vc
namespace Go.Pf.Vc
open Go Go.Pf
section
variable {l : List Ck}
def shr (c : Ck) (n : Int) : Rat := (totC c.cuts c.dens : Rat) / (n : Rat)
theorem small_div {n d : Int} (hn : -1000000000000000000 ≤ n ∧ n ≤ 1000000000000000000) (hd : 1 ≤ d ∧ d ≤ 1000000000000000000) : small ((n : Rat) / (d : Rat)) := by
 have e : (n : Rat) / (d : Rat) = mkRat n d.toNat := by
   rw [Rat.mkRat_eq_div]
   have h1 : ((d.toNat : Nat) : Int) = d := by omega
   have h2 : ((d.toNat : Nat) : Rat) = (d : Rat) := by rw [← Rat.intCast_natCast, h1]
   rw [h2]
 rw [e]
 unfold small
 rw [Rat.num_mkRat, Rat.den_mkRat, if_neg (by omega), if_neg (by omega)]
 have g0 : 0 < d.toNat.gcd n.natAbs := Nat.gcd_pos_of_pos_left _ (by omega)
 have h1 : (n / (d.toNat.gcd n.natAbs : Nat)).natAbs ≤ n.natAbs := by
   rw [Int.natAbs_ediv_of_dvd, Int.natAbs_natCast]
   · exact Nat.div_le_self _ _
   · rw [← Int.dvd_natAbs, Int.ofNat_dvd]; exact Nat.gcd_dvd_right _ _
 have h2 : d.toNat / d.toNat.gcd n.natAbs ≤ d.toNat := Nat.div_le_self _ _
 generalize n / (d.toNat.gcd n.natAbs : Nat) = x at *
 generalize d.toNat / d.toNat.gcd n.natAbs = y at *
 omega
end
end Go.Pf.Vc
namespace Go.Pf.Vc
open Go Go.Pf
def Fr (D B : Int) (q : Rat) : Prop := ∃ n : Int, -B ≤ n ∧ n ≤ B ∧ q = (n : Rat) / (D : Rat)
theorem Fr.small {D B : Int} {q : Rat} (h : Fr D B q) (hD : 1 ≤ D ∧ D ≤ 1000000000000000000) (hB : B ≤ 1000000000000000000) : small q := by
 obtain ⟨n, h1, h2, rfl⟩ := h
 exact small_div ⟨by omega, by omega⟩ hD
theorem Fr.add {D B1 B2 : Int} {q r : Rat} (h : Fr D B1 q) (k : Fr D B2 r) : Fr D (B1 + B2) (q + r) := by
 obtain ⟨n, h1, h2, rfl⟩ := h
 obtain ⟨m, k1, k2, rfl⟩ := k
 exact ⟨n + m, by omega, by omega, by rw [Rat.intCast_add]; grind⟩
theorem Fr.sub {D B1 B2 : Int} {q r : Rat} (h : Fr D B1 q) (k : Fr D B2 r) : Fr D (B1 + B2) (q - r) := by
 obtain ⟨n, h1, h2, rfl⟩ := h
 obtain ⟨m, k1, k2, rfl⟩ := k
 exact ⟨n - m, by omega, by omega, by rw [Rat.intCast_sub]; grind⟩
theorem Fr.mono {D B1 B2 : Int} {q : Rat} (h : Fr D B1 q) (hb : B1 ≤ B2) : Fr D B2 q := by
 obtain ⟨n, h1, h2, e⟩ := h
 exact ⟨n, by omega, by omega, e⟩
section
variable {len : Int} {cuts dens : List Int}
def rem (cuts dens : List Int) : Nat → Nat → Int
 | 0, _ => 0
 | r + 1, i => dens.getD i 0 * (cuts.getD (i + 1) 0 - cuts.getD i 0) + rem cuts dens r (i + 1)
end
end Go.Pf.Vc
namespace Go.Pf.Vc
open Go Go.Pf
structure Qy where
 agent : Int
 kind : Int
 an : Int
 ad : Int
 bn : Int
 bd : Int
 cn : Int
 cd : Int
 deriving DecidableEq
instance : Inhabited Qy := ⟨⟨0, 0, 0, 0, 0, 0, 0, 0⟩⟩
structure Sp where
 a : Int
 b : Int
 c : Int
 d : Int
 deriving DecidableEq
instance : Inhabited Sp := ⟨⟨0, 0, 0, 0⟩⟩
def encS (s : Sp) : PV := .agg [.int .i64 s.a, .int .i64 s.b, .int .i64 s.c, .int .i64 s.d]
def spans (l : List Sp) : List PV := l.map encS
theorem spans_len (l : List Sp) : (spans l).length = l.length := List.length_map ..
theorem spans_at {l : List Sp} {i : Nat} (h : i < l.length) : List.getD (spans l) i .nils = encS (l.getD i default) := by
 unfold spans
 rw [List.getD_eq_getElem?_getD, List.getD_eq_getElem?_getD, List.getElem?_map, List.getElem?_eq_getElem h]
 rfl
theorem asS {s : Sp} {P : Prop} : asr (conf (.agg [.i .i64, .i .i64, .i .i64, .i .i64]) (encS s)) P = P := rfl
theorem cSame_loop {s : List Sp} (hl : s.length < 4611686018427387904) (K : Bool → Prop) :
   ∀ (r i n : Nat), i + r = s.length → r < n → L_r03_Same_0_0 (fun yb0 => (K yb0)) (fun _ _ _ _ => (K true)) n (spans s) (spans s) i = K true
 | 0, i, n + 1, hi, hn => by
   unfold L_r03_Same_0_0
   rw [spans_len, cbF (by omega)]
 | r + 1, i, n + 1, hi, hn => by
   unfold L_r03_Same_0_0
   have e1 := wib (n := (i : Int) + 1) (by omega) (by omega)
   rw [spans_len, cbT (by omega), Int.toNat_natCast, spans_at (by omega), asT (by omega), asT (by omega), asS, asT (by omega), asT (by omega), asS, e1, cast1]
   simp only [beq_self_eq_true, Bool.and_self, Bool.not_true, cbr_false]
   exact cSame_loop hl K r (i + 1) n (by omega) (by omega)
theorem cSame_self {s : List Sp} (hl : s.length < 4611686018427387904) (K : Bool → Prop) : w_r03_Same (spans s) (spans s) K = K true := by
 refine det_r03_Same _ _ _ (fun K k => ?_) K
 unfold w_r03_Same wv_r03_Same
 rw [cnF rfl]
 refine ⟨s.length + 1, ?_⟩
 exact (cSame_loop hl K s.length 0 (s.length + 1) (by omega) (by omega)).mpr k
end Go.Pf.Vc
namespace Go.Pf.Vc
open Go Go.Pf
section
variable {l : List Ck}
theorem cmpQ_ge (x y : Rat) : decide (cmpQ x y ≥ 0) = !decide (x < y) := by
 unfold cmpQ
 by_cases h : x < y
 · simp [h]
 · by_cases h2 : y < x <;> simp [h, h2]
end
end Go.Pf.Vc
namespace Go.Pf.Vc
open Go Go.Pf
def dsR : DS := .a [.i .i64, .i .i64]
theorem inK_i64 {n : Int} (h : inK .i64 n) : I64 n := by
 have e1 : IntKind.i64.min = -9223372036854775808 := by decide
 have e2 : IntKind.i64.max = 9223372036854775807 := by decide
 unfold inK at h
 rw [e1, e2] at h
 exact h
def Ck.i64 (c : Ck) : Prop := I64 c.len ∧ (∀ n ∈ c.cuts, I64 n) ∧ ∀ n ∈ c.dens, I64 n
theorem agg_of {x : PV} {l : List DS} (h : x.isAgg = (DS.a l).isA) : x = .agg x.cells := by
 cases x <;> first | rfl | cases h
theorem single_of {x y : PV} (h : x.isAgg = false) (e : x.cells = [y]) : x = y := by
 cases x <;> first | (simp only [PV.cells, List.cons.injEq, and_true] at e; exact e) | cases h
end Go.Pf.Vc
namespace Go.Pf.Vc
abbrev RS : Type := Rat × Rat
def inS (s : RS) (p : Rat) : Prop := s.1 ≤ p ∧ p < s.2
def memP (l : List RS) (p : Rat) : Prop := ∃ s ∈ l, inS s p
def canon : List RS → Prop
 | [] => True
 | s :: r => s.1 < s.2 ∧ (∀ t ∈ r, s.2 < t.1) ∧ canon r
theorem memP_nil {p : Rat} : ¬ memP [] p := fun ⟨s, h, _⟩ => by cases h
theorem memP_cons {s : RS} {r : List RS} {p : Rat} : memP (s :: r) p ↔ inS s p ∨ memP r p := by
 constructor
 · rintro ⟨t, h, hp⟩
   rcases List.mem_cons.1 h with rfl | h
   · exact .inl hp
   · exact .inr ⟨t, h, hp⟩
 · rintro (h | ⟨t, h, hp⟩)
   · exact ⟨s, List.mem_cons_self, h⟩
   · exact ⟨t, List.mem_cons_of_mem _ h, hp⟩
theorem canon_low {s : RS} {r : List RS} (h : canon (s :: r)) {p : Rat} (hp : memP (s :: r) p) : s.1 ≤ p := by
 obtain ⟨h1, h2, _⟩ := h
 rcases memP_cons.1 hp with h | ⟨t, h, hp, _⟩
 · exact h.1
 · have := h2 t h
   grind
theorem canon_tail {s : RS} {r : List RS} (h : canon (s :: r)) {p : Rat} (hp : memP r p) : s.2 < p := by
 obtain ⟨t, ht, h1, _⟩ := hp
 have := h.2.1 t ht
 grind
theorem canon_self {s : RS} {r : List RS} (h : canon (s :: r)) : memP (s :: r) s.1 := memP_cons.2 (.inl ⟨Rat.le_refl, h.1⟩)
theorem canon_unique : ∀ (a b : List RS), canon a → canon b → (∀ p, memP a p ↔ memP b p) → a = b
 | [], [], _, _, _ => rfl
 | [], t :: b, _, hb, h => (memP_nil ((h t.1).2 (canon_self hb))).elim
 | s :: a, [], ha, _, h => (memP_nil ((h s.1).1 (canon_self ha))).elim
 | s :: a, t :: b, ha, hb, h => by
   have e1 : s.1 = t.1 := by
     have h1 := canon_low hb ((h s.1).1 (canon_self ha))
     have h2 := canon_low ha ((h t.1).2 (canon_self hb))
     grind
   have key : ∀ (s t : RS) (a b : List RS), canon (s :: a) → canon (t :: b) → s.1 = t.1 → (∀ p, memP (s :: a) p ↔ memP (t :: b) p) → ¬ s.2 < t.2 := by
     intro s t a b ha hb e h hlt
     have h1 := (h s.2).2 (memP_cons.2 (.inl ⟨by have := ha.1; grind, hlt⟩))
     rcases memP_cons.1 h1 with h2 | h2
     · have := h2.2; grind
     · have := canon_tail ha h2; grind
   have e2 : s.2 = t.2 := by
     have h1 := key s t a b ha hb e1 h
     have h2 := key t s b a hb ha e1.symm fun p => (h p).symm
     grind
   have e : s = t := Prod.ext e1 e2
   subst e
   have hab : a = b := by
     refine canon_unique a b ha.2.2 hb.2.2 fun p => ⟨fun hp => ?_, fun hp => ?_⟩
     · have h1 := canon_tail ha hp
       rcases memP_cons.1 ((h p).1 (memP_cons.2 (.inr hp))) with h2 | h2
       · have := h2.2; grind
       · exact h2
     · have h1 := canon_tail hb hp
       rcases memP_cons.1 ((h p).2 (memP_cons.2 (.inr hp))) with h2 | h2
       · have := h2.2; grind
       · exact h2
   rw [hab]
end Go.Pf.Vc
namespace Go.Pf.Vc
def maxR (a b : Rat) : Rat := if a < b then b else a
def mrg : List RS → RS → List RS
 | [], c => [c]
 | s :: r, c => if c.2 < s.1 then c :: mrg r s else mrg r (c.1, maxR c.2 s.2)
def mergeS : List RS → List RS
 | [] => []
 | s :: r => mrg r s
def byFrom : List RS → Prop
 | [] => True
 | s :: r => (∀ t ∈ r, s.1 ≤ t.1) ∧ byFrom r
theorem mrg_ok : ∀ (r : List RS) (c : RS), c.1 < c.2 → (∀ s ∈ r, s.1 < s.2) → (∀ s ∈ r, c.1 ≤ s.1) → byFrom r → canon (mrg r c) ∧ (∀ t ∈ mrg r c, c.1 ≤ t.1) ∧ ∀ p, memP (mrg r c) p ↔ memP (c :: r) p
 | [], c, hc, _, _, _ => by
   unfold mrg
   refine ⟨⟨hc, by simp, trivial⟩, fun t h => ?_, fun p => Iff.rfl⟩
   rw [List.mem_singleton] at h
   rw [h]; exact Rat.le_refl
 | s :: r, c, hc, hv, hl, hs => by
   unfold mrg
   have hsv := hv s List.mem_cons_self
   have hsl := hl s List.mem_cons_self
   by_cases h : c.2 < s.1
   · rw [if_pos h]
     obtain ⟨i1, i2, i3⟩ := mrg_ok r s hsv (fun t ht => hv t (List.mem_cons_of_mem _ ht)) hs.1 hs.2
     refine ⟨⟨hc, fun t ht => by have := i2 t ht; grind, i1⟩, fun t ht => ?_, fun p => ?_⟩
     · rcases List.mem_cons.1 ht with rfl | ht
       · exact Rat.le_refl
       · have := i2 t ht; grind
     · rw [memP_cons, i3 p, memP_cons, memP_cons, memP_cons]
   · rw [if_neg h]
     have hm : c.2 ≤ maxR c.2 s.2 ∧ s.2 ≤ maxR c.2 s.2 ∧ (maxR c.2 s.2 = c.2 ∨ maxR c.2 s.2 = s.2) := by unfold maxR; split <;> grind
     obtain ⟨i1, i2, i3⟩ := mrg_ok r (c.1, maxR c.2 s.2) (by show c.1 < maxR c.2 s.2; grind) (fun t ht => hv t (List.mem_cons_of_mem _ ht)) (fun t ht => hl t (List.mem_cons_of_mem _ ht)) hs.2
     refine ⟨i1, i2, fun p => ?_⟩
     rw [i3 p, memP_cons, memP_cons, memP_cons]
     have hin : inS (c.1, maxR c.2 s.2) p ↔ inS c p ∨ inS s p := by
       unfold inS
       constructor
       · rintro ⟨h1, h2⟩
         have h2 : p < maxR c.2 s.2 := h2
         have h1 : c.1 ≤ p := h1
         by_cases h3 : p < c.2
         · exact .inl ⟨h1, h3⟩
         · exact .inr ⟨by grind, by grind⟩
       · rintro (⟨h1, h2⟩ | ⟨h1, h2⟩)
         · exact ⟨h1, by show p < maxR c.2 s.2; grind⟩
         · exact ⟨by show c.1 ≤ p; grind, by show p < maxR c.2 s.2; grind⟩
     rw [hin, or_assoc]
theorem mergeS_ok {l : List RS} (hv : ∀ s ∈ l, s.1 < s.2) (hs : byFrom l) : canon (mergeS l) ∧ ∀ p, memP (mergeS l) p ↔ memP l p := by
 cases l with
 | nil => exact ⟨trivial, fun p => Iff.rfl⟩
 | cons s r =>
   obtain ⟨i1, _, i3⟩ := mrg_ok r s (hv s List.mem_cons_self) (fun t ht => hv t (List.mem_cons_of_mem _ ht)) hs.1 hs.2
   exact ⟨i1, i3⟩
end Go.Pf.Vc
namespace Go.Pf.Vc
def incrR : List Rat → Prop
 | [] => True
 | x :: r => (∀ y ∈ r, x < y) ∧ incrR r
def jn (f : Rat → Bool) : List Rat → Option RS → List RS
 | x :: y :: r, none => if f x then jn f (y :: r) (some (x, y)) else jn f (y :: r) none
 | x :: y :: r, some c => if f x then (if c.2 = x then jn f (y :: r) (some (c.1, y)) else c :: jn f (y :: r) (some (x, y))) else jn f (y :: r) (some c)
 | _, none => []
 | _, some c => [c]
def segP (f : Rat → Bool) : List Rat → Rat → Prop
 | x :: y :: r, p => (f x = true ∧ x ≤ p ∧ p < y) ∨ segP f (y :: r) p
 | _, _ => False
def curP : Option RS → Rat → Prop
 | none, _ => False
 | some c, p => inS c p
def curOk (pts : List Rat) : Option RS → Prop
 | none => True
 | some c => c.1 < c.2 ∧ ∀ x ∈ pts, c.2 ≤ x
def lowOk (pts : List Rat) : Option RS → Rat → Prop
 | none, q => ∃ x ∈ pts, x ≤ q
 | some c, q => c.1 ≤ q
theorem jn_ok (f : Rat → Bool) : ∀ (pts : List Rat) (cur : Option RS), incrR pts → curOk pts cur →
   canon (jn f pts cur) ∧ (∀ t ∈ jn f pts cur, lowOk pts cur t.1) ∧ ∀ p, memP (jn f pts cur) p ↔ (curP cur p ∨ segP f pts p)
 | [], none, _, _ => by
   unfold jn
   refine ⟨trivial, fun t h => (by cases h), fun p => ?_⟩
   simp only [curP, segP]
   exact ⟨fun h => (memP_nil h).elim, fun h => h.elim (fun h => h.elim) (fun h => h.elim)⟩
 | [], some c, _, hc => by
   unfold jn
   refine ⟨⟨hc.1, by simp, trivial⟩, fun t h => ?_, fun p => ?_⟩
   · rw [List.mem_singleton] at h; rw [h]; exact Rat.le_refl
   · rw [memP_cons]
     simp only [curP, segP]
     exact ⟨fun h => h.elim .inl (fun h => (memP_nil h).elim), fun h => h.elim .inl (fun h => h.elim)⟩
 | [x], none, _, _ => by
   unfold jn
   refine ⟨trivial, fun t h => (by cases h), fun p => ?_⟩
   simp only [curP, segP]
   exact ⟨fun h => (memP_nil h).elim, fun h => h.elim (fun h => h.elim) (fun h => h.elim)⟩
 | [x], some c, _, hc => by
   unfold jn
   refine ⟨⟨hc.1, by simp, trivial⟩, fun t h => ?_, fun p => ?_⟩
   · rw [List.mem_singleton] at h; rw [h]; exact Rat.le_refl
   · rw [memP_cons]
     simp only [curP, segP]
     exact ⟨fun h => h.elim .inl (fun h => (memP_nil h).elim), fun h => h.elim .inl (fun h => h.elim)⟩
 | x :: y :: r, none, hi, _ => by
   have hxy := hi.1 y List.mem_cons_self
   unfold jn
   cases hf : f x with
   | true =>
     rw [if_pos rfl]
     obtain ⟨i1, i2, i3⟩ := jn_ok f (y :: r) (some (x, y)) hi.2 ⟨hxy, fun z hz => by
       rcases List.mem_cons.1 hz with rfl | hz
       · exact Rat.le_refl
       · have := hi.2.1 z hz; show y ≤ z; grind⟩
     refine ⟨i1, fun t ht => ⟨x, List.mem_cons_self, i2 t ht⟩, fun p => ?_⟩
     rw [i3 p]
     simp only [curP, segP, inS, hf, true_and, false_or]
   | false =>
     rw [if_neg (by decide)]
     obtain ⟨i1, i2, i3⟩ := jn_ok f (y :: r) none hi.2 trivial
     refine ⟨i1, fun t ht => ?_, fun p => ?_⟩
     · obtain ⟨z, hz, hzt⟩ := i2 t ht
       exact ⟨z, List.mem_cons_of_mem _ hz, hzt⟩
     · rw [i3 p]
       simp [curP, segP, hf]
 | x :: y :: r, some c, hi, hc => by
   have hxy := hi.1 y List.mem_cons_self
   have hcx := hc.2 x List.mem_cons_self
   have hyr : ∀ z ∈ y :: r, y ≤ z := fun z hz => by
     rcases List.mem_cons.1 hz with rfl | hz
     · exact Rat.le_refl
     · have := hi.2.1 z hz; grind
   unfold jn
   cases hf : f x with
   | true =>
     rw [if_pos rfl]
     by_cases he : c.2 = x
     · rw [if_pos he]
       obtain ⟨i1, i2, i3⟩ := jn_ok f (y :: r) (some (c.1, y)) hi.2 ⟨by have := hc.1; show c.1 < y; grind, hyr⟩
       refine ⟨i1, i2, fun p => ?_⟩
       rw [i3 p]
       simp only [curP, segP, inS, hf, true_and]
       have := hc.1
       constructor
       · rintro (⟨h1, h2⟩ | h)
         · by_cases h3 : p < c.2
           · exact .inl ⟨h1, h3⟩
           · exact .inr (.inl ⟨by grind, h2⟩)
         · exact .inr (.inr h)
       · rintro (⟨h1, h2⟩ | ⟨h1, h2⟩ | h)
         · exact .inl ⟨h1, by grind⟩
         · exact .inl ⟨by grind, h2⟩
         · exact .inr h
     · rw [if_neg he]
       obtain ⟨i1, i2, i3⟩ := jn_ok f (y :: r) (some (x, y)) hi.2 ⟨hxy, hyr⟩
       refine ⟨⟨hc.1, fun t ht => ?_, i1⟩, fun t ht => ?_, fun p => ?_⟩
       · have : x ≤ t.1 := i2 t ht
         grind
       · rcases List.mem_cons.1 ht with rfl | ht
         · exact Rat.le_refl
         · have : x ≤ t.1 := i2 t ht
           have := hc.1
           show c.1 ≤ t.1
           grind
       · rw [memP_cons, i3 p]
         simp only [curP, segP, inS, hf, true_and]
   | false =>
     rw [if_neg (by decide)]
     obtain ⟨i1, i2, i3⟩ := jn_ok f (y :: r) (some c) hi.2 ⟨hc.1, fun z hz => by have := hyr z hz; grind⟩
     refine ⟨i1, i2, fun p => ?_⟩
     rw [i3 p]
     simp [curP, segP, hf]
end Go.Pf.Vc
namespace Go.Pf.Vc
def minR (a b : Rat) : Rat := if a < b then a else b
theorem maxR_is (a b : Rat) : a ≤ maxR a b ∧ b ≤ maxR a b ∧ (maxR a b = a ∨ maxR a b = b) := by unfold maxR; split <;> grind
theorem minR_is (a b : Rat) : minR a b ≤ a ∧ minR a b ≤ b ∧ (minR a b = a ∨ minR a b = b) := by unfold minR; split <;> grind
def meetS : List RS → List RS → List RS
 | s :: a, t :: b =>
   (if maxR s.1 t.1 < minR s.2 t.2 then [(maxR s.1 t.1, minR s.2 t.2)] else []) ++ (if s.2 ≤ t.2 then meetS a (t :: b) else meetS (s :: a) b)
 | _, _ => []
termination_by a b => a.length + b.length
def lowS : List RS → Rat → Prop
 | [], _ => False
 | s :: _, q => s.1 ≤ q
theorem canon_app {h : Rat} : ∀ {a b : List RS}, canon a → canon b → (∀ u ∈ a, u.2 ≤ h) → (∀ v ∈ b, h < v.1) → canon (a ++ b)
 | [], _, _, hb, _, _ => hb
 | s :: a, b, ha, hb, h1, h2 => by
   refine ⟨ha.1, fun t ht => ?_, canon_app ha.2.2 hb (fun u hu => h1 u (List.mem_cons_of_mem _ hu)) h2⟩
   rcases List.mem_append.1 ht with ht | ht
   · exact ha.2.1 t ht
   · have := h1 s List.mem_cons_self
     have := h2 t ht
     grind
theorem memP_app {a b : List RS} {p : Rat} : memP (a ++ b) p ↔ memP a p ∨ memP b p := by
 constructor
 · rintro ⟨s, h, hp⟩
   rcases List.mem_append.1 h with h | h
   · exact .inl ⟨s, h, hp⟩
   · exact .inr ⟨s, h, hp⟩
 · rintro (⟨s, h, hp⟩ | ⟨s, h, hp⟩)
   · exact ⟨s, List.mem_append_left _ h, hp⟩
   · exact ⟨s, List.mem_append_right _ h, hp⟩
theorem memP_if {c : Prop} [Decidable c] {s : RS} {p : Rat} : memP (if c then [s] else []) p ↔ (c ∧ inS s p) := by
 by_cases h : c
 · rw [if_pos h, memP_cons]
   exact ⟨fun k => k.elim (fun k => ⟨h, k⟩) (fun k => (memP_nil k).elim), fun k => .inl k.2⟩
 · rw [if_neg h]
   exact ⟨fun k => (memP_nil k).elim, fun k => (h k.1).elim⟩
def min1 (hi : Rat) : Rat → List RS → List RS
 | x, [] => if x < hi then [(x, hi)] else []
 | x, t :: b => if t.2 ≤ x ∨ hi ≤ t.1 then min1 hi x b else (if x < t.1 then [(x, t.1)] else []) ++ min1 hi t.2 b
def minusS (a b : List RS) : List RS := a.flatMap fun s => min1 s.2 s.1 b
theorem min1_ok (hi : Rat) : ∀ (b : List RS) (x : Rat), canon b → canon (min1 hi x b) ∧ (∀ u ∈ min1 hi x b, x ≤ u.1 ∧ u.2 ≤ hi) ∧ ∀ p, memP (min1 hi x b) p ↔ (x ≤ p ∧ p < hi ∧ ¬ memP b p)
 | [], x, _ => by
   unfold min1
   by_cases h : x < hi
   · rw [if_pos h]
     refine ⟨⟨h, by simp, trivial⟩, fun u hu => ?_, fun p => ?_⟩
     · rw [List.mem_singleton] at hu
       rw [hu]
       exact ⟨Rat.le_refl, Rat.le_refl⟩
     · rw [memP_cons]
       exact ⟨fun k => k.elim (fun k => ⟨k.1, k.2, memP_nil⟩) (fun k => (memP_nil k).elim), fun k => .inl ⟨k.1, k.2.1⟩⟩
   · rw [if_neg h]
     refine ⟨trivial, by simp, fun p => ⟨fun k => (memP_nil k).elim, fun k => ?_⟩⟩
     have := k.1; have := k.2.1
     grind
 | t :: b, x, hb => by
   unfold min1
   by_cases h : t.2 ≤ x ∨ hi ≤ t.1
   · rw [if_pos h]
     obtain ⟨i1, i2, i3⟩ := min1_ok hi b x hb.2.2
     refine ⟨i1, i2, fun p => ?_⟩
     rw [i3 p, memP_cons]
     constructor
     · rintro ⟨h1, h2, h3⟩
       refine ⟨h1, h2, fun k => k.elim (fun k => ?_) h3⟩
       have := k.1; have := k.2
       grind
     · rintro ⟨h1, h2, h3⟩
       exact ⟨h1, h2, fun k => h3 (.inr k)⟩
   · rw [if_neg h]
     have g1 : x < t.2 := by grind
     have g2 : t.1 < hi := by grind
     obtain ⟨i1, i2, i3⟩ := min1_ok hi b t.2 hb.2.2
     have ht := hb.1
     refine ⟨?_, fun u hu => ?_, fun p => ?_⟩
     · refine canon_app (h := t.1) ?_ i1 ?_ ?_
       · by_cases hx : x < t.1
         · rw [if_pos hx]; exact ⟨hx, by simp, trivial⟩
         · rw [if_neg hx]; trivial
       · intro u hu
         by_cases hx : x < t.1
         · rw [if_pos hx, List.mem_singleton] at hu
           rw [hu]; exact Rat.le_refl
         · rw [if_neg hx] at hu; cases hu
       · intro v hv
         have := (i2 v hv).1
         grind
     · rcases List.mem_append.1 hu with hu | hu
       · by_cases hx : x < t.1
         · rw [if_pos hx, List.mem_singleton] at hu
           rw [hu]; exact ⟨Rat.le_refl, by show t.1 ≤ hi; grind⟩
         · rw [if_neg hx] at hu; cases hu
       · have := i2 u hu
         exact ⟨by grind, this.2⟩
     · rw [memP_app, memP_if, i3 p, memP_cons]
       unfold inS
       constructor
       · rintro (⟨h1, h2, h3⟩ | ⟨h1, h2, h3⟩)
         · have h3 : p < t.1 := h3
           have h2 : x ≤ p := h2
           refine ⟨h2, by grind, fun k => k.elim (fun k => by have := k.1; grind) (fun k => ?_)⟩
           have := canon_tail hb k
           grind
         · exact ⟨by grind, h2, fun k => k.elim (fun k => by have := k.2; grind) h3⟩
       · rintro ⟨h1, h2, h3⟩
         by_cases hp : p < t.1
         · exact .inl ⟨by grind, h1, hp⟩
         · refine .inr ⟨?_, h2, fun k => h3 (.inr k)⟩
           by_cases hq : p < t.2
           · exact (h3 (.inl ⟨by grind, hq⟩)).elim
           · grind
theorem minusS_ok {b : List RS} (hb : canon b) : ∀ {a : List RS}, canon a → canon (minusS a b) ∧ (∀ u ∈ minusS a b, lowS a u.1) ∧ ∀ p, memP (minusS a b) p ↔ (memP a p ∧ ¬ memP b p)
 | [], _ => ⟨trivial, by simp [minusS], fun p => ⟨fun k => (memP_nil k).elim, fun k => (memP_nil k.1).elim⟩⟩
 | s :: a, ha => by
   obtain ⟨i1, i2, i3⟩ := minusS_ok hb ha.2.2
   obtain ⟨m1, m2, m3⟩ := min1_ok s.2 b s.1 hb
   have e : minusS (s :: a) b = min1 s.2 s.1 b ++ minusS a b := by unfold minusS; rw [List.flatMap_cons]
   have hlow : ∀ v ∈ minusS a b, s.2 < v.1 := by
     intro v hv
     have := i2 v hv
     cases a with
     | nil => exact this.elim
     | cons s2 a2 =>
       have h2 := ha.2.1 s2 List.mem_cons_self
       have h3 : s2.1 ≤ v.1 := this
       grind
   rw [e]
   refine ⟨canon_app m1 i1 (fun u hu => (m2 u hu).2) hlow, fun u hu => ?_, fun p => ?_⟩
   · rcases List.mem_append.1 hu with hu | hu
     · exact (m2 u hu).1
     · have := hlow u hu
       have := ha.1
       show s.1 ≤ u.1
       grind
   · rw [memP_app, m3 p, i3 p, memP_cons]
     unfold inS
     constructor
     · rintro (⟨h1, h2, h3⟩ | ⟨h1, h2⟩)
       · exact ⟨.inl ⟨h1, h2⟩, h3⟩
       · exact ⟨.inr h1, h2⟩
     · rintro ⟨h1 | h1, h2⟩
       · exact .inl ⟨h1.1, h1.2, h2⟩
       · exact .inr ⟨h1, h2⟩
end Go.Pf.Vc
namespace Go.Pf.Vc
theorem meetS_ok : ∀ (n : Nat) (a b : List RS), a.length + b.length ≤ n → canon a → canon b → canon (meetS a b) ∧ (∀ u ∈ meetS a b, lowS a u.1 ∧ lowS b u.1) ∧ ∀ p, memP (meetS a b) p ↔ (memP a p ∧ memP b p)
 | _, [], b, _, _, _ => by
   unfold meetS
   exact ⟨trivial, by simp, fun p => ⟨fun k => (memP_nil k).elim, fun k => (memP_nil k.1).elim⟩⟩
 | _, s :: a, [], _, _, _ => by
   unfold meetS
   exact ⟨trivial, by simp, fun p => ⟨fun k => (memP_nil k).elim, fun k => (memP_nil k.2).elim⟩⟩
 | 0, s :: a, t :: b, h, _, _ => by simp at h
 | n + 1, s :: a, t :: b, hn, ha, hb => by
   rw [List.length_cons, List.length_cons] at hn
   obtain ⟨x1, x2, x3⟩ := maxR_is s.1 t.1
   obtain ⟨y1, y2, y3⟩ := minR_is s.2 t.2
   have hs := ha.1
   have ht := hb.1
   unfold meetS
   have hin : ∀ p, (maxR s.1 t.1 < minR s.2 t.2 ∧ inS (maxR s.1 t.1, minR s.2 t.2) p) ↔ (inS s p ∧ inS t p) := by
     intro p
     unfold inS
     constructor
     · rintro ⟨_, h1, h2⟩
       have h1 : maxR s.1 t.1 ≤ p := h1
       have h2 : p < minR s.2 t.2 := h2
       exact ⟨⟨by grind, by grind⟩, ⟨by grind, by grind⟩⟩
     · rintro ⟨⟨h1, h2⟩, ⟨h3, h4⟩⟩
       have k1 : maxR s.1 t.1 ≤ p := by rcases x3 with e | e <;> rw [e] <;> assumption
       have k2 : p < minR s.2 t.2 := by rcases y3 with e | e <;> rw [e] <;> assumption
       exact ⟨by grind, k1, k2⟩
   have hfst : canon (if maxR s.1 t.1 < minR s.2 t.2 then [(maxR s.1 t.1, minR s.2 t.2)] else []) := by
     by_cases h : maxR s.1 t.1 < minR s.2 t.2
     · rw [if_pos h]; exact ⟨h, by simp, trivial⟩
     · rw [if_neg h]; trivial
   have hfm : ∀ u ∈ (if maxR s.1 t.1 < minR s.2 t.2 then [(maxR s.1 t.1, minR s.2 t.2)] else [] : List RS), u.1 = maxR s.1 t.1 ∧ u.2 = minR s.2 t.2 := by
     intro u hu
     by_cases h : maxR s.1 t.1 < minR s.2 t.2
     · rw [if_pos h, List.mem_singleton] at hu; rw [hu]; exact ⟨rfl, rfl⟩
     · rw [if_neg h] at hu; cases hu
   by_cases hle : s.2 ≤ t.2
   · rw [if_pos hle]
     obtain ⟨i1, i2, i3⟩ := meetS_ok n a (t :: b) (by rw [List.length_cons]; omega) ha.2.2 hb
     have hlow : ∀ v ∈ meetS a (t :: b), s.2 < v.1 := by
       intro v hv
       obtain ⟨h1, _⟩ := i2 v hv
       cases a with
       | nil => exact h1.elim
       | cons s2 a2 =>
         have h2 := ha.2.1 s2 List.mem_cons_self
         have h3 : s2.1 ≤ v.1 := h1
         grind
     refine ⟨canon_app (h := s.2) hfst i1 (fun u hu => by have := (hfm u hu).2; grind) hlow, fun u hu => ?_, fun p => ?_⟩
     · rcases List.mem_append.1 hu with hu | hu
       · have := (hfm u hu).1
         exact ⟨by show s.1 ≤ u.1; grind, by show t.1 ≤ u.1; grind⟩
       · have h1 := hlow u hu
         have h2 : t.1 ≤ u.1 := (i2 u hu).2
         exact ⟨by show s.1 ≤ u.1; grind, h2⟩
     · rw [memP_app, memP_if, hin p, i3 p, memP_cons, memP_cons]
       constructor
       · rintro (⟨h1, h2⟩ | ⟨h1, h2⟩)
         · exact ⟨.inl h1, .inl h2⟩
         · exact ⟨.inr h1, h2⟩
       · rintro ⟨h1 | h1, h2⟩
         · rcases h2 with h2 | h2
           · exact .inl ⟨h1, h2⟩
           · have := canon_tail hb h2
             have := h1.2
             grind
         · exact .inr ⟨h1, h2⟩
   · rw [if_neg hle]
     obtain ⟨i1, i2, i3⟩ := meetS_ok n (s :: a) b (by rw [List.length_cons]; omega) ha hb.2.2
     have hlow : ∀ v ∈ meetS (s :: a) b, t.2 < v.1 := by
       intro v hv
       obtain ⟨_, h1⟩ := i2 v hv
       cases b with
       | nil => exact h1.elim
       | cons s2 a2 =>
         have h2 := hb.2.1 s2 List.mem_cons_self
         have h3 : s2.1 ≤ v.1 := h1
         grind
     refine ⟨canon_app (h := t.2) hfst i1 (fun u hu => by have := (hfm u hu).2; grind) hlow, fun u hu => ?_, fun p => ?_⟩
     · rcases List.mem_append.1 hu with hu | hu
       · have := (hfm u hu).1
         exact ⟨by show s.1 ≤ u.1; grind, by show t.1 ≤ u.1; grind⟩
       · have h1 := hlow u hu
         have h2 : s.1 ≤ u.1 := (i2 u hu).1
         exact ⟨h2, by show t.1 ≤ u.1; grind⟩
     · rw [memP_app, memP_if, hin p, i3 p, memP_cons, memP_cons]
       constructor
       · rintro (⟨h1, h2⟩ | ⟨h1, h2⟩)
         · exact ⟨.inl h1, .inl h2⟩
         · exact ⟨h1, .inr h2⟩
       · rintro ⟨h1, h2 | h2⟩
         · rcases h1 with h1 | h1
           · exact .inl ⟨h1, h2⟩
           · have := canon_tail ha h1
             have := h2.2
             grind
         · exact .inr ⟨h1, h2⟩
end Go.Pf.Vc
namespace Go.Pf.Vc
def gapOk (full : List Rat) : List Rat → Prop
 | x :: y :: r => (∀ z ∈ full, z ≤ x ∨ y ≤ z) ∧ gapOk full (y :: r)
 | _ => True
theorem gap_of (full : List Rat) : ∀ (pts : List Rat), incrR pts → (∀ z ∈ full, z ∈ pts ∨ ∀ w ∈ pts, z < w) → gapOk full pts
 | [], _, _ => trivial
 | [_], _, _ => trivial
 | x :: y :: r, hi, h => by
   refine ⟨fun z hz => ?_, gap_of full (y :: r) hi.2 fun z hz => ?_⟩
   · rcases h z hz with k | k
     · rcases List.mem_cons.1 k with rfl | k
       · exact .inl Rat.le_refl
       · rcases List.mem_cons.1 k with rfl | k
         · exact .inr Rat.le_refl
         · have := hi.2.1 z k
           exact .inr (by grind)
     · have := k x List.mem_cons_self
       exact .inl (by grind)
   · rcases h z hz with k | k
     · rcases List.mem_cons.1 k with rfl | k
       · exact .inr fun w hw => hi.1 w hw
       · exact .inl k
     · exact .inr fun w hw => k w (List.mem_cons_of_mem _ hw)
def endsIn (pts : List Rat) (a : List RS) : Prop := ∀ s ∈ a, s.1 ∈ pts ∧ s.2 ∈ pts
theorem mem_const {full : List Rat} {a : List RS} (h : endsIn full a) {x y p : Rat} (hg : ∀ z ∈ full, z ≤ x ∨ y ≤ z) (h1 : x ≤ p) (h2 : p < y) : memP a p ↔ memP a x := by
 constructor
 · rintro ⟨s, hs, k1, k2⟩
   obtain ⟨e1, e2⟩ := h s hs
   have := hg _ e1
   exact ⟨s, hs, by grind, by grind⟩
 · rintro ⟨s, hs, k1, k2⟩
   obtain ⟨e1, e2⟩ := h s hs
   have := hg _ e2
   exact ⟨s, hs, by grind, by grind⟩
def inHull (pts : List Rat) (p : Rat) : Prop := (∃ x ∈ pts, x ≤ p) ∧ ∃ y ∈ pts, p < y
theorem hull_of {pts : List Rat} {a : List RS} (h : endsIn pts a) {p : Rat} (hp : memP a p) : inHull pts p := by
 obtain ⟨s, hs, k1, k2⟩ := hp
 obtain ⟨e1, e2⟩ := h s hs
 exact ⟨⟨_, e1, k1⟩, ⟨_, e2, k2⟩⟩
theorem seg_iff {full : List Rat} {f : Rat → Bool} {P : Rat → Prop} (hc : ∀ x y p, (∀ z ∈ full, z ≤ x ∨ y ≤ z) → x ≤ p → p < y → (P p ↔ P x)) : ∀ (pts : List Rat), incrR pts → gapOk full pts → (∀ x ∈ pts, f x = true ↔ P x) → ∀ p, segP f pts p ↔ (P p ∧ inHull pts p)
 | [], _, _, _, p => by
   simp only [segP]
   exact ⟨fun h => h.elim, fun h => by obtain ⟨x, hx, _⟩ := h.2.1; cases hx⟩
 | [x], _, _, _, p => by
   simp only [segP]
   refine ⟨fun h => h.elim, fun h => ?_⟩
   obtain ⟨u, hu, k1⟩ := h.2.1
   obtain ⟨v, hv, k2⟩ := h.2.2
   rw [List.mem_singleton] at hu hv
   grind
 | x :: y :: r, hi, hg, hf, p => by
   have ih := seg_iff hc (y :: r) hi.2 hg.2 (fun z hz => hf z (List.mem_cons_of_mem _ hz)) p
   have hxy := hi.1 y List.mem_cons_self
   simp only [segP]
   rw [ih, hf x List.mem_cons_self]
   constructor
   · rintro (⟨h1, h2, h3⟩ | ⟨h1, ⟨u, hu, k1⟩, ⟨v, hv, k2⟩⟩)
     · exact ⟨(hc x y p hg.1 h2 h3).2 h1, ⟨x, List.mem_cons_self, h2⟩, ⟨y, List.mem_cons_of_mem _ List.mem_cons_self, h3⟩⟩
     · exact ⟨h1, ⟨u, List.mem_cons_of_mem _ hu, k1⟩, ⟨v, List.mem_cons_of_mem _ hv, k2⟩⟩
   · rintro ⟨h1, ⟨u, hu, k1⟩, ⟨v, hv, k2⟩⟩
     have hxp : x ≤ p := by
       rcases List.mem_cons.1 hu with rfl | hu
       · exact k1
       · have := hi.1 u hu; grind
     by_cases hpy : p < y
     · exact .inl ⟨(hc x y p hg.1 hxp hpy).1 h1, hxp, hpy⟩
     · refine .inr ⟨h1, ⟨y, List.mem_cons_self, by grind⟩, ?_⟩
       rcases List.mem_cons.1 hv with rfl | hv
       · exact absurd k2 (by grind)
       · exact ⟨v, hv, k2⟩
theorem jn_set {pts : List Rat} {f : Rat → Bool} {P : Rat → Prop} (hi : incrR pts) (hc : ∀ x y p, (∀ z ∈ pts, z ≤ x ∨ y ≤ z) → x ≤ p → p < y → (P p ↔ P x)) (hf : ∀ x ∈ pts, f x = true ↔ P x) (hh : ∀ p, P p → inHull pts p) :
   canon (jn f pts none) ∧ ∀ p, memP (jn f pts none) p ↔ P p := by
 obtain ⟨i1, _, i3⟩ := jn_ok f pts none hi trivial
 refine ⟨i1, fun p => ?_⟩
 rw [i3 p, seg_iff hc pts hi (gap_of pts pts hi fun z hz => .inl hz) hf p]
 simp only [curP, false_or]
 exact ⟨fun h => h.1, fun h => ⟨h, hh p h⟩⟩
end Go.Pf.Vc
namespace Go.Pf.Vc
def insR (p : Rat) : List Rat → List Rat
 | [] => [p]
 | x :: r => if p = x then x :: r else if p < x then p :: x :: r else x :: insR p r
theorem insR_mem {p z : Rat} : ∀ (l : List Rat), z ∈ insR p l ↔ (z = p ∨ z ∈ l)
 | [] => by unfold insR; simp
 | x :: r => by
   unfold insR
   by_cases h : p = x
   · rw [if_pos h]
     subst h
     simp
   · rw [if_neg h]
     by_cases h2 : p < x
     · rw [if_pos h2]; simp
     · rw [if_neg h2, List.mem_cons, insR_mem r, List.mem_cons]
       constructor
       · rintro (h | h | h)
         · exact .inr (.inl h)
         · exact .inl h
         · exact .inr (.inr h)
       · rintro (h | h | h)
         · exact .inr (.inl h)
         · exact .inl h
         · exact .inr (.inr h)
theorem insR_incr {p : Rat} : ∀ (l : List Rat), incrR l → incrR (insR p l)
 | [], _ => ⟨by simp, trivial⟩
 | x :: r, h => by
   unfold insR
   by_cases h1 : p = x
   · rw [if_pos h1]; exact h
   · rw [if_neg h1]
     by_cases h2 : p < x
     · rw [if_pos h2]
       refine ⟨fun y hy => ?_, h⟩
       rcases List.mem_cons.1 hy with rfl | hy
       · exact h2
       · have := h.1 y hy; grind
     · rw [if_neg h2]
       refine ⟨fun y hy => ?_, insR_incr r h.2⟩
       rcases (insR_mem r).1 hy with rfl | hy
       · grind
       · exact h.1 y hy
def endsR : List RS → List Rat → List Rat
 | [], out => out
 | s :: a, out => endsR a (insR s.2 (insR s.1 out))
theorem endsR_incr : ∀ (a : List RS) (out : List Rat), incrR out → incrR (endsR a out)
 | [], _, h => h
 | _ :: a, _, h => endsR_incr a _ (insR_incr _ (insR_incr _ h))
theorem endsR_keep : ∀ (a : List RS) (out : List Rat) (z : Rat), z ∈ out → z ∈ endsR a out
 | [], _, _, h => h
 | _ :: a, _, z, h => endsR_keep a _ z ((insR_mem _).2 (.inr ((insR_mem _).2 (.inr h))))
theorem endsR_has : ∀ (a : List RS) (out : List Rat), endsIn (endsR a out) a
 | [], _ => fun s h => by cases h
 | t :: a, out => by
   intro s hs
   rcases List.mem_cons.1 hs with rfl | hs
   · exact ⟨endsR_keep a _ _ ((insR_mem _).2 (.inr ((insR_mem _).2 (.inl rfl)))), endsR_keep a _ _ ((insR_mem _).2 (.inl rfl))⟩
   · exact endsR_has a _ s hs
def joinR (f : Rat → Bool) (a b : List RS) : List RS := jn f (endsR b (endsR a [])) none
theorem joinR_ok {a b : List RS} {f : Rat → Bool} {c : Prop → Prop → Prop} (hf : ∀ x, f x = true ↔ c (memP a x) (memP b x)) (h0 : ¬ c False False) :
   canon (joinR f a b) ∧ ∀ p, memP (joinR f a b) p ↔ c (memP a p) (memP b p) := by
 have ea : endsIn (endsR b (endsR a [])) a := fun s hs => ⟨endsR_keep b _ _ (endsR_has a [] s hs).1, endsR_keep b _ _ (endsR_has a [] s hs).2⟩
 have eb : endsIn (endsR b (endsR a [])) b := endsR_has b _
 refine jn_set (endsR_incr b _ (endsR_incr a _ trivial)) (fun x y p hg h1 h2 => ?_) (fun x _ => hf x) (fun p hp => ?_)
 · rw [mem_const ea hg h1 h2, mem_const eb hg h1 h2]
 · by_cases h1 : memP a p
   · exact hull_of ea h1
   · by_cases h2 : memP b p
     · exact hull_of eb h2
     · rw [eq_false h1, eq_false h2] at hp
       exact (h0 hp).elim
theorem either_eq {a b l : List RS} (_ : canon a) (_ : canon b) (hv : ∀ s ∈ l, s.1 < s.2) (hl : ∀ s, s ∈ l ↔ s ∈ a ++ b) (hs : byFrom l) {f : Rat → Bool} (hf : ∀ x, f x = true ↔ (memP a x ∨ memP b x)) : mergeS l = joinR f a b := by
 obtain ⟨i1, i2⟩ := mergeS_ok hv hs
 obtain ⟨j1, j2⟩ := joinR_ok (c := Or) hf (by simp)
 refine canon_unique _ _ i1 j1 fun p => ?_
 rw [i2 p, j2 p, ← memP_app]
 constructor
 · rintro ⟨s, h, hp⟩; exact ⟨s, (hl s).1 h, hp⟩
 · rintro ⟨s, h, hp⟩; exact ⟨s, (hl s).2 h, hp⟩
theorem common_eq {a b : List RS} (ha : canon a) (hb : canon b) {f : Rat → Bool} (hf : ∀ x, f x = true ↔ (memP a x ∧ memP b x)) : meetS a b = joinR f a b := by
 obtain ⟨i1, _, i2⟩ := meetS_ok _ a b (Nat.le_refl _) ha hb
 obtain ⟨j1, j2⟩ := joinR_ok (c := And) hf (by simp)
 exact canon_unique _ _ i1 j1 fun p => by rw [i2 p, j2 p]
theorem without_eq {a b : List RS} (ha : canon a) (hb : canon b) {f : Rat → Bool} (hf : ∀ x, f x = true ↔ (memP a x ∧ ¬ memP b x)) : minusS a b = joinR f a b := by
 obtain ⟨i1, _, i2⟩ := minusS_ok hb ha
 obtain ⟨j1, j2⟩ := joinR_ok (c := fun x y => x ∧ ¬ y) hf (by simp)
 exact canon_unique _ _ i1 j1 fun p => by rw [i2 p, j2 p]
end Go.Pf.Vc
namespace Go.Pf.Vc
open Go Go.Pf
def Sp.rs (s : Sp) : RS := (rt s.a s.b, rt s.c s.d)
def Sp.ok (s : Sp) : Prop := RV s.a s.b ∧ RV s.c s.d ∧ rt s.a s.b < rt s.c s.d
instance (s : Sp) : Decidable s.ok := by unfold Sp.ok; infer_instance
def Sp.i64 (s : Sp) : Prop := I64 s.a ∧ I64 s.b ∧ I64 s.c ∧ I64 s.d
theorem order_eq {q r : Rat} (hq : small q) (hr : small r) (K : Int → Prop) : w_piece_order q.num q.den r.num r.den K = K (cmpQ q r) := by
 unfold w_piece_order wv_piece_order
 rw [rCmp_eq hq hr]
theorem order_rv {a b c d : Int} (h : RV a b) (k : RV c d) (K : Int → Prop) : w_piece_order a b c d K = K (cmpQ (rt a b) (rt c d)) := by
 obtain ⟨h1, h2, h3⟩ := rt_of h
 obtain ⟨k1, k2, k3⟩ := rt_of k
 have := order_eq h1 k1 K
 rw [h2, h3, k2, k3] at this
 exact this
theorem cmpQ_neg (q r : Rat) : decide (cmpQ q r < 0) = decide (q < r) := by
 unfold cmpQ
 by_cases h : q < r
 · rw [if_pos h]; simp [h]
 · rw [if_neg h]
   split <;> simp [h]
theorem cmpQ_le (q r : Rat) : decide (cmpQ q r ≤ 0) = !decide (r < q) := by
 unfold cmpQ
 by_cases h : q < r
 · have : ¬ r < q := by grind
   rw [if_pos h]; simp [this]
 · rw [if_neg h]
   by_cases h2 : r < q
   · rw [if_pos h2]; simp [h2]
   · rw [if_neg h2]; simp [h2]
theorem valid_eq {s : Sp} (h : s.i64) (K : Bool → Prop) : w_piece_valid s.a s.b s.c s.d K = K (decide s.ok) := by
 refine det_piece_valid _ _ _ _ _ (fun K k => ?_) K
 unfold w_piece_valid wv_piece_valid
 refine Cmp_of h.1 h.2.1 h.2.2.1 h.2.2.2 ?_
 by_cases h1 : RV s.a s.b
 · by_cases h2 : RV s.c s.d
   · have e : chk2 s.a s.b s.c s.d = 0 := chk2_zero.2 ⟨h1, h2⟩
     obtain ⟨_, n1, n2⟩ := rt_of h1
     obtain ⟨_, n3, n4⟩ := rt_of h2
     have e2 := cmpR_eq (rt s.a s.b) (rt s.c s.d)
     rw [n1, n2, n3, n4] at e2
     rw [e, if_pos rfl, ceT rfl, e2, cmpQ_neg]
     have e3 : decide s.ok = decide (rt s.a s.b < rt s.c s.d) := by rw [decide_eq_decide]; exact ⟨fun k => k.2.2, fun k => ⟨h1, h2, k⟩⟩
     rw [← e3]; exact k
   · have e : chk2 s.a s.b s.c s.d ≠ 0 := fun e => h2 (chk2_zero.1 e).2
     rw [ceF e]
     have e3 : decide s.ok = false := decide_eq_false fun k => h2 k.2.1
     rw [← e3]; exact k
 · have e : chk2 s.a s.b s.c s.d ≠ 0 := fun e => h1 (chk2_zero.1 e).1
   rw [ceF e]
   have e3 : decide s.ok = false := decide_eq_false fun k => h1 k.1
   rw [← e3]; exact k
end Go.Pf.Vc
namespace Go.Pf.Vc
open Go Go.Pf
theorem asSp {s : Sp} {P : Prop} : asr (conf (.agg [.i .i64, .i .i64, .i .i64, .i .i64]) (encS s)) P = P := rfl
def allOkB (l : List Sp) : Bool := l.all fun s => decide s.ok
theorem all_loop {l : List Sp} (h64 : ∀ s ∈ l, s.i64) (hl : l.length < 4611686018427387904) :
   ∀ x0 x1, ∀ (r i n : Nat), i + r = l.length → r < n → L_piece_all_0_0 w_piece_valid x0 x1 n (spans l) l.length i = if allOkB (l.drop i) then x1 (spans l) l.length l.length false else x0 8 := by
 intro x0 x1 r
 induction r with
 | zero =>
   intro i n hi hn
   obtain ⟨n, rfl⟩ : ∃ m, n = m + 1 := ⟨n - 1, by omega⟩
   obtain rfl : i = l.length := by omega
   rw [L_piece_all_0_0, cbF (by omega), List.drop_length]
   rfl
 | succ r ih =>
   intro i n hi hn
   obtain ⟨n, rfl⟩ : ∃ m, n = m + 1 := ⟨n - 1, by omega⟩
   have hil : i < l.length := by omega
   have e1 := wib (n := (i : Int) + 1) (by omega) (by omega)
   have hm : l.getD i default ∈ l := by
     rw [List.getD_eq_getElem?_getD, List.getElem?_eq_getElem hil]
     exact List.getElem_mem hil
   have hd : allOkB (l.drop i) = (decide (l.getD i default).ok && allOkB (l.drop (i + 1))) := by
     rw [drop_cons default hil]; rfl
   rw [L_piece_all_0_0, cbT (by omega), asT (by omega), spans_len, asT (by omega), Int.toNat_natCast, spans_at hil, asSp, e1, cast1]
   change w_piece_valid (l.getD i default).a (l.getD i default).b (l.getD i default).c (l.getD i default).d _ = _
   rw [valid_eq (h64 _ hm), hd]
   cases hv : decide (l.getD i default).ok with
   | true =>
     rw [show (!true) = false from rfl, cbr_false, Bool.true_and]
     exact ih (i + 1) n (by omega) (by omega)
   | false =>
     rw [show (!false) = true from rfl, cbr_true, Bool.false_and]
     rfl
def allE (l : List Sp) : Int := if l.length > 60 then 4 else if allOkB l then 0 else 8
theorem all_eq {l : List Sp} (h64 : ∀ s ∈ l, s.i64) (hl : l.length < 4611686018427387904) (K : Int → Prop) : w_piece_all (spans l) K = K (allE l) := by
 refine det_piece_all _ _ (fun K k => ?_) K
 unfold w_piece_all wv_piece_all
 unfold allE at k
 rw [spans_len]
 by_cases h : l.length > 60
 · rw [cbT (by omega)]; rw [if_pos h] at k; exact k
 · rw [cbF (by omega)]
   rw [if_neg h] at k
   refine ⟨l.length + 1, ?_⟩
   refine (all_loop h64 hl _ _ l.length 0 (l.length + 1) (by omega) (by omega)).mpr ?_
   rw [List.drop_zero]
   split
   · rename_i h2; rw [if_pos h2] at k; exact k
   · rename_i h2; rw [if_neg h2] at k; exact k
end Go.Pf.Vc
namespace Go.Pf.Vc
open Go Go.Pf
def gapB : Sp → List Sp → Bool
 | _, [] => true
 | s, t :: r => decide (s.rs.2 < t.rs.1) && gapB t r
theorem check_loop {l : List Sp} (hok : ∀ s ∈ l, s.ok) (hl : l.length < 4611686018427387904) :
   ∀ x0 x1, ∀ (r i n : Nat), i + 1 + r = l.length → r < n → L_piece_Check_0_0 w_piece_all w_piece_order x0 x1 n (spans l) ((i + 1 : Nat) : Int) = if gapB (l.getD i default) (l.drop (i + 1)) then x1 (spans l) l.length false else x0 8 := by
 intro x0 x1 r
 induction r with
 | zero =>
   intro i n hi hn
   obtain ⟨n, rfl⟩ : ∃ m, n = m + 1 := ⟨n - 1, by omega⟩
   rw [L_piece_Check_0_0, spans_len, cbF (by omega), List.drop_eq_nil_of_le (by omega), show i + 1 = l.length by omega]
   rfl
 | succ r ih =>
   intro i n hi hn
   obtain ⟨n, rfl⟩ : ∃ m, n = m + 1 := ⟨n - 1, by omega⟩
   have e0 := wib (n := ((i + 1 : Nat) : Int) - 1) (by omega) (by omega)
   have e2 : ((i + 1 : Nat) : Int) - 1 = (i : Int) := by omega
   have e1 := wib (n := ((i + 1 : Nat) : Int) + 1) (by omega) (by omega)
   have hm1 : l.getD i default ∈ l := by
     rw [List.getD_eq_getElem?_getD, List.getElem?_eq_getElem (by omega)]
     exact List.getElem_mem (by omega)
   have hm2 : l.getD (i + 1) default ∈ l := by
     rw [List.getD_eq_getElem?_getD, List.getElem?_eq_getElem (by omega)]
     exact List.getElem_mem (by omega)
   rw [L_piece_Check_0_0, spans_len, cbT (by omega), e0, e2, asT (by omega), asT (by omega), Int.toNat_natCast, spans_at (by omega), asSp, asT (by omega), asT (by omega), Int.toNat_natCast, spans_at (by omega), asSp]
   change w_piece_order (l.getD i default).c (l.getD i default).d (l.getD (i + 1) default).a (l.getD (i + 1) default).b _ = _
   rw [order_rv (hok _ hm1).2.1 (hok _ hm2).1, e1, cast1, drop_cons default (by omega)]
   unfold gapB
   have e3 : decide (cmpQ (rt (l.getD i default).c (l.getD i default).d) (rt (l.getD (i + 1) default).a (l.getD (i + 1) default).b) ≥ 0) = !decide ((l.getD i default).rs.2 < (l.getD (i + 1) default).rs.1) := cmpQ_ge _ _
   rw [e3]
   cases decide ((l.getD i default).rs.2 < (l.getD (i + 1) default).rs.1) with
   | true =>
     rw [show (!true) = false from rfl, cbr_false, Bool.true_and]
     exact ih (i + 1) n (by omega) (by omega)
   | false =>
     rw [show (!false) = true from rfl, cbr_true, Bool.false_and]
     rfl
def rsL (l : List Sp) : List RS := l.map Sp.rs
def pieceE (l : List Sp) : Int := if allE l = 0 then (match l with | [] => 0 | s :: r => if gapB s r then 0 else 8) else allE l
theorem allE_zero {l : List Sp} (h : allE l = 0) : l.length ≤ 60 ∧ ∀ s ∈ l, s.ok := by
 unfold allE at h
 split at h
 · cases h
 · split at h
   · rename_i h1 h2
     exact ⟨by omega, fun s hs => by simpa using List.all_eq_true.1 h2 s hs⟩
   · cases h
theorem pCheck_eq {l : List Sp} (h64 : ∀ s ∈ l, s.i64) (hl : l.length < 4611686018427387904) (K : Int → Prop) : w_piece_Check (spans l) K = K (pieceE l) := by
 refine det_piece_Check _ _ (fun K k => ?_) K
 unfold w_piece_Check wv_piece_Check
 unfold pieceE at k
 rw [all_eq h64 hl]
 by_cases h : allE l = 0
 · rw [if_pos h] at k
   rw [cnF h]
   obtain ⟨h1, h2⟩ := allE_zero h
   cases l with
   | nil =>
     refine ⟨1, ?_⟩
     rw [L_piece_Check_0_0, spans_len, cbF (by simp)]
     exact k
   | cons s r =>
     refine ⟨r.length + 1, ?_⟩
     refine (check_loop h2 hl _ _ r.length 0 (r.length + 1) (by simp; omega) (by omega)).mpr ?_
     dsimp only at k
     show if gapB s r then _ else _
     split
     · rename_i hg; rw [if_pos hg] at k; exact k
     · rename_i hg; rw [if_neg hg] at k; exact k
 · rw [if_neg h] at k
   rw [cnT h]; exact k
end Go.Pf.Vc
namespace Go.Pf.Vc
open Go Go.Pf
theorem gap_canon : ∀ (r : List Sp) (s : Sp), s.ok → (∀ t ∈ r, t.ok) → (gapB s r = true ↔ canon (rsL (s :: r)))
 | [], s, hs, _ => ⟨fun _ => ⟨hs.2.2, by simp, trivial⟩, fun _ => rfl⟩
 | t :: r, s, hs, h => by
   have ht := h t List.mem_cons_self
   have ih := gap_canon r t ht fun u hu => h u (List.mem_cons_of_mem _ hu)
   unfold gapB
   rw [Bool.and_eq_true, decide_eq_true_eq, ih]
   constructor
   · rintro ⟨h1, h2⟩
     refine ⟨hs.2.2, fun u hu => ?_, h2⟩
     rcases List.mem_cons.1 hu with rfl | hu
     · exact h1
     · have := h2.2.1 u hu
       have := h2.1
       show s.rs.2 < u.1
       grind
   · rintro ⟨_, h2, h3⟩
     exact ⟨h2 _ List.mem_cons_self, h3⟩
theorem pieceE_zero {l : List Sp} (h : pieceE l = 0) : l.length ≤ 60 ∧ (∀ s ∈ l, s.ok) ∧ canon (rsL l) := by
 unfold pieceE at h
 split at h
 · rename_i h0
   obtain ⟨h1, h2⟩ := allE_zero h0
   refine ⟨h1, h2, ?_⟩
   cases l with
   | nil => trivial
   | cons s r =>
     dsimp only at h
     split at h
     · rename_i hg
       exact (gap_canon r s (h2 s List.mem_cons_self) fun t ht => h2 t (List.mem_cons_of_mem _ ht)).1 hg
     · cases h
 · rename_i h0; exact absurd h h0
end Go.Pf.Vc
namespace Go.Pf.Vc
open Go Go.Pf
theorem small_max {q r : Rat} (hq : small q) (hr : small r) : small (maxR q r) := by unfold maxR; split <;> assumption
theorem small_min {q r : Rat} (hq : small q) (hr : small r) : small (minR q r) := by unfold minR; split <;> assumption
theorem later_eq {q r : Rat} (hq : small q) (hr : small r) (K : Int → Int → Prop) : w_piece_later q.num q.den r.num r.den K = K (maxR q r).num (maxR q r).den := by
 unfold w_piece_later wv_piece_later
 rw [order_eq hq hr, cmpQ_neg]
 unfold maxR
 by_cases h : q < r
 · rw [cbT h, if_pos h]
 · rw [cbF h, if_neg h]
theorem sooner_eq {q r : Rat} (hq : small q) (hr : small r) (K : Int → Int → Prop) : w_piece_sooner q.num q.den r.num r.den K = K (minR q r).num (minR q r).den := by
 unfold w_piece_sooner wv_piece_sooner
 rw [order_eq hq hr, cmpQ_neg]
 unfold minR
 by_cases h : q < r
 · rw [cbT h, if_pos h]
 · rw [cbF h, if_neg h]
theorem few_eq {l : List Sp} (K : List PV → Int → Prop) : w_piece_few (spans l) K = if l.length > 60 then K [] 4 else K (spans l) 0 := by
 unfold w_piece_few wv_piece_few
 rw [spans_len]
 by_cases h : l.length > 60
 · rw [cbT (by omega), if_pos h]
 · rw [cbF (by omega), if_neg h]
def bothE (a b : List Sp) : Int := if pieceE a = 0 then pieceE b else pieceE a
theorem both_eq {a b : List Sp} (ha : ∀ s ∈ a, s.i64) (hb : ∀ s ∈ b, s.i64) (hla : a.length < 4611686018427387904) (hlb : b.length < 4611686018427387904) (K : Int → Prop) : w_piece_both (spans a) (spans b) K = K (bothE a b) := by
 unfold w_piece_both wv_piece_both bothE
 rw [pCheck_eq ha hla]
 by_cases h : pieceE a = 0
 · rw [cnF h, if_pos h, pCheck_eq hb hlb]
 · rw [cnT h, if_neg h]
end Go.Pf.Vc
namespace Go.Pf.Vc
open Go Go.Pf Go.Sort
theorem rvB_iff {n d : Int} : rvB n d = true ↔ RV n d := by
 unfold rvB RV
 simp only [Bool.and_eq_true, decide_eq_true_eq]
theorem cmpI_lt {a b c d : Int} (h : RV a b) (k : RV c d) : cmpI a b c d < 0 ↔ rt a b < rt c d := by
 obtain ⟨_, h2, h3⟩ := rt_of h
 obtain ⟨_, k2, k3⟩ := rt_of k
 rw [Rat.lt_iff, h2, h3, k2, k3]
 unfold cmpI
 by_cases h : a * d < c * b
 · rw [if_pos h]; simp [h]
 · rw [if_neg h]
   split <;> simp [h]
def ratOf : PV → Rat
 | .agg (.int _ a :: .int _ b :: _) => rt a b
 | _ => 0
theorem spCmp_lt {x y : PV} (hx : spGood x = true) (hy : spGood y = true) : spCmp x y < 0 ↔ ratOf x < ratOf y := by
 unfold spGood at hx hy
 split at hx
 · split at hy
   · simp only [spCmp, ratOf]
     exact cmpI_lt (rvB_iff.1 hx) (rvB_iff.1 hy)
   · cases hy
 · cases hx
theorem El_good {n g : Nat} (x : (spSrt n g).s.El) : spGood x.1 = true := by
 have := x.2
 simp only [Srt.gd, Bool.and_eq_true] at this
 exact this.2
theorem sp_swo (n g : Nat) : SWO (fun x y : (spSrt n g).s.El => decide ((spSrt n g).cf x y < 0)) where
 irrefl x := by
   have := spCmp_lt (El_good x) (El_good x)
   show decide (spCmp x.1 x.1 < 0) = false
   rw [decide_eq_false_iff_not, this]
   exact Rat.lt_irrefl
 trans x y z h1 h2 := by
   have h1 : decide (spCmp x.1 y.1 < 0) = true := h1
   have h2 : decide (spCmp y.1 z.1 < 0) = true := h2
   show decide (spCmp x.1 z.1 < 0) = true
   rw [decide_eq_true_eq, spCmp_lt (El_good _) (El_good _)] at *
   grind
 ntrans x y z h1 h2 := by
   have h1 : decide (spCmp x.1 y.1 < 0) = false := h1
   have h2 : decide (spCmp y.1 z.1 < 0) = false := h2
   show decide (spCmp x.1 z.1 < 0) = false
   rw [decide_eq_false_iff_not, spCmp_lt (El_good _) (El_good _)] at *
   grind
theorem rows_some {s : Srt} : ∀ {l : List PV}, (∀ x ∈ l, s.gd x = true) → ∃ d, s.rows? l = some d
 | [], _ => ⟨[], rfl⟩
 | x :: r, h => by
   obtain ⟨d, hd⟩ := rows_some (s := s) (l := r) fun y hy => h y (List.mem_cons_of_mem _ hy)
   refine ⟨⟨x, h x List.mem_cons_self⟩ :: d, ?_⟩
   simp only [Srt.rows?]
   rw [dif_pos (h x List.mem_cons_self), hd]
theorem RV.i1 {n d : Int} (h : RV n d) : I64 n := by obtain ⟨h1, h2, h3, h4, _⟩ := h; exact ⟨by omega, by omega⟩
theorem RV.i2 {n d : Int} (h : RV n d) : I64 d := by obtain ⟨h1, h2, h3, h4, _⟩ := h; exact ⟨by omega, by omega⟩
theorem Sp.ok.i64 {s : Sp} (h : s.ok) : s.i64 := ⟨h.1.i1, h.1.i2, h.2.1.i1, h.2.1.i2⟩
theorem gd_enc (n g : Nat) {s : Sp} (h : s.ok) : (spSrt n g).s.gd (encS s) = true := by
 obtain ⟨h1, h2, h3, h4⟩ := h.i64
 have e1 : IntKind.i64.min = -9223372036854775808 := by decide
 have e2 : IntKind.i64.max = 9223372036854775807 := by decide
 simp only [Srt.gd, spSrt, okI, encS, okL, spGood, Bool.and_eq_true, decide_eq_true_eq, e1, e2]
 unfold I64 at h1 h2 h3 h4
 exact ⟨⟨trivial, h1.1, h1.2, trivial, h2.1, h2.2, trivial, h3.1, h3.2, trivial, h4.1, h4.2, trivial⟩, rvB_iff.2 h.1⟩
def decS : PV → Sp
 | .agg [.int _ a, .int _ b, .int _ c, .int _ d] => ⟨a, b, c, d⟩
 | _ => default
theorem decS_enc (s : Sp) : decS (encS s) = s := rfl
theorem sorted_sp (n g : Nat) {l : List Sp} (h : ∀ s ∈ l, s.ok) : ∃ l' : List Sp, l'.Perm l ∧ l'.Pairwise (fun s t => ¬ t.rs.1 < s.rs.1) ∧ Srt.sorted (spSrt n g).s (spSrt n g).srt (spans l) = spans l' := by
 obtain ⟨d, hd⟩ := rows_some (s := (spSrt n g).s) (l := spans l) fun x hx => by
   obtain ⟨s, hs, rfl⟩ := List.mem_map.1 hx
   exact gd_enc n g (h s hs)
 obtain ⟨d', h1, h2, h3⟩ := (spSrt n g).sorted_is (sp_swo n g) hd
 have hv := Srt.rows?_val hd
 have hp : (d'.map (·.1)).Perm (spans l) := by rw [← hv]; exact h1.map _
 have hm : ∀ x ∈ d'.map (·.1), ∃ s ∈ l, encS s = x := fun x hx => List.mem_map.1 (hp.mem_iff.1 hx)
 refine ⟨(d'.map (·.1)).map decS, ?_, ?_, ?_⟩
 · have this : (List.map decS (d'.map (·.1))).Perm (List.map decS (l.map encS)) := hp.map decS
   have e : List.map decS (l.map encS) = l := by rw [List.map_map, show decS ∘ encS = id from funext decS_enc, List.map_id]
   rw [e] at this
   exact this
 · rw [List.map_map, List.pairwise_map]
   refine h2.imp_of_mem fun {x y} hx hy hxy => ?_
   have hxy : ¬ spCmp y.1 x.1 < 0 := hxy
   rw [spCmp_lt (El_good _) (El_good _)] at hxy
   obtain ⟨s, _, es⟩ := hm x.1 (List.mem_map_of_mem hx)
   obtain ⟨t, _, et⟩ := hm y.1 (List.mem_map_of_mem hy)
   show ¬ (decS y.1).rs.1 < (decS x.1).rs.1
   rw [← es, ← et] at hxy ⊢
   exact hxy
 · rw [h3]
   have key : ∀ (xs : List PV), (∀ x ∈ xs, ∃ s ∈ l, encS s = x) → (xs.map decS).map encS = xs := by
     intro xs
     induction xs with
     | nil => intro _; rfl
     | cons x r ih =>
       intro h
       obtain ⟨s, _, es⟩ := h x List.mem_cons_self
       rw [List.map_cons, List.map_cons, ih fun y hy => h y (List.mem_cons_of_mem _ hy), ← es, decS_enc]
   exact (key _ hm).symm
end Go.Pf.Vc
namespace Go.Pf.Vc
open Go Go.Pf
def spOf (r : RS) : Sp := ⟨r.1.num, r.1.den, r.2.num, r.2.den⟩
def rsp (l : List RS) : List PV := spans (l.map spOf)
def smallS (r : RS) : Prop := small r.1 ∧ small r.2
theorem rsp_len (l : List RS) : (rsp l).length = l.length := by unfold rsp; rw [spans_len, List.length_map]
def encR (r : RS) : PV := encS (spOf r)
theorem rsp_at {l : List RS} {i : Nat} (h : i < l.length) : List.getD (rsp l) i .nils = encR (l.getD i default) := by
 unfold rsp
 rw [spans_at (by rw [List.length_map]; exact h)]
 unfold encR
 congr 1
 rw [List.getD_eq_getElem?_getD, List.getD_eq_getElem?_getD, List.getElem?_map, List.getElem?_eq_getElem h]
 rfl
theorem encR0 (r : RS) : intOfV (cellAt (encR r) 0) = r.1.num := rfl
theorem encR1 (r : RS) : intOfV (cellAt (encR r) 1) = r.1.den := rfl
theorem encR2 (r : RS) : intOfV (cellAt (encR r) 2) = r.2.num := rfl
theorem encR3 (r : RS) : intOfV (cellAt (encR r) 3) = r.2.den := rfl
theorem asR (r : RS) (P : Prop) : asr (conf (.agg [.i .i64, .i .i64, .i .i64, .i .i64]) (encR r)) P = P := rfl
theorem rsp_one (r : RS) : ([.agg [.int .i64 r.1.num, .int .i64 r.1.den, .int .i64 r.2.num, .int .i64 r.2.den]] : List PV) = rsp [r] := rfl
theorem rsp_app (a b : List RS) : rsp a ++ rsp b = rsp (a ++ b) := by unfold rsp spans; rw [List.map_append, List.map_append]
theorem rsp_set (l : List RS) (i : Nat) (r : RS) : List.set (rsp l) i (.agg [.int .i64 r.1.num, .int .i64 r.1.den, .int .i64 r.2.num, .int .i64 r.2.den]) = rsp (l.set i r) := by
 unfold rsp spans
 rw [List.map_set, List.map_set]
 rfl
theorem asE {α : Type} [DecidableEq α] (a : α) (P : Prop) : asr (decide (a = a)) P = P := by rw [decide_eq_true rfl, asr_true]
theorem asEE {α : Type} [DecidableEq α] (a : α) (b : Bool) (P : Prop) : asr (decide (a = a) && b) P = asr b P := by rw [decide_eq_true rfl, Bool.true_and]
theorem asNo {c : Prop} [Decidable c] {P : Prop} (h : ¬ c) : asr (!decide c) P = P := by rw [decide_eq_false h]; rfl
theorem asTr (P : Prop) : asr (decide True) P = P := by rw [decide_true]; rfl
theorem asTd {c : Prop} [Decidable c] {b : Bool} {P : Prop} (h : c) : asr (decide c && b) P = asr b P := by rw [decide_eq_true h, Bool.true_and]
theorem last_at {α : Type} {acc : List α} {c d : α} {i : Nat} (h : i = acc.length) : (acc ++ [c]).getD i d = c := by
 subst h
 rw [List.getD_eq_getElem?_getD, List.getElem?_append_right (Nat.le_refl _), Nat.sub_self]
 rfl
theorem last_set {α : Type} {acc : List α} {c d : α} {i : Nat} (h : i = acc.length) : (acc ++ [c]).set i d = acc ++ [d] := by
 subst h
 rw [List.set_append_right _ _ (Nat.le_refl _), Nat.sub_self]
 rfl
theorem smallS_mem {l : List RS} (h : ∀ s ∈ l, smallS s) {i : Nat} (hi : i < l.length) : smallS (l.getD i default) := by
 rw [List.getD_eq_getElem?_getD, List.getElem?_eq_getElem hi]
 exact h _ (List.getElem_mem hi)
theorem merged_loop {l : List RS} (hs : ∀ s ∈ l, smallS s) (hl : l.length < 1000000) {x0 : Int → Int → Bool → Prop} {x1 : List PV → Int → Int → Bool → Prop} {x2 : List PV → List PV → Int → Int → Bool → Prop} :
   ∀ (r i n : Nat) (acc : List RS) (c : RS), i + r = l.length → r < n → acc.length < i → smallS c →
     L_piece_merged_0_2 w_piece_order x0 x1 x2 n (rsp l) (rsp (acc ++ [c])) (l.length : Int) (i : Int) = x2 (rsp l) (rsp (acc ++ mrg (l.drop i) c)) (l.length : Int) (l.length : Int) false := by
 intro r
 induction r with
 | zero =>
   intro i n acc c hi hn ha hc
   obtain ⟨n, rfl⟩ : ∃ m, n = m + 1 := ⟨n - 1, by omega⟩
   obtain rfl : i = l.length := by omega
   rw [L_piece_merged_0_2, cbF (by omega), List.drop_length]
   rfl
 | succ r ih =>
   intro i n acc c hi hn ha hc
   obtain ⟨n, rfl⟩ : ∃ m, n = m + 1 := ⟨n - 1, by omega⟩
   have hil : i < l.length := by omega
   have e1 := wib (n := (i : Int) + 1) (by omega) (by omega)
   have hal : (acc ++ [c]).length = acc.length + 1 := by simp
   have e2 := wib (n := ((acc.length + 1 : Nat) : Int) - 1) (by omega) (by omega)
   have e3 : ((acc.length + 1 : Nat) : Int) - 1 = (acc.length : Int) := by omega
   rw [e3] at e2
   have hsi := smallS_mem hs hil
   have hd : l.drop i = l.getD i default :: l.drop (i + 1) := drop_cons default hil
   generalize hx : l.getD i default = x at hd hsi
   rw [L_piece_merged_0_2, cbT (by omega)]
   dsimp only [lt, Go.Pf.jn]
   simp (discharger := omega) only [rsp_len, hal, Int.toNat_natCast, Nat.zero_add, asT, rsp_at, hx, asR, encR0, encR1, encR2, encR3, cbT, e3, e2, e1, last_at, asNo, decide_true, Bool.true_and, asr_true]
   rw [order_eq hsi.1 hc.2, cmpQ_le, hd]
   unfold mrg
   by_cases h : c.2 < x.1
   · rw [decide_eq_true h, if_pos h, Bool.not_true, cbr_false, asT (by show _ ≤ 35184372088832; omega), rsp_one x, rsp_app, cast1]
     have := ih (i + 1) n (acc ++ [c]) x (by omega) (by omega) (by simp; omega) hsi
     rw [this, List.append_assoc]
     rfl
   · rw [decide_eq_false h, if_neg h, Bool.not_false, cbr_true, order_eq hsi.2 hc.2]
     have e4 : decide (cmpQ x.2 c.2 > 0) = decide (c.2 < x.2) := by
       have := cmpQ_le x.2 c.2
       rw [show decide (cmpQ x.2 c.2 > 0) = !decide (cmpQ x.2 c.2 ≤ 0) by rw [← decide_not]; simp, this, Bool.not_not]
     rw [e4]
     unfold maxR
     by_cases h2 : c.2 < x.2
     · have e5 : List.set (rsp (acc ++ [c])) acc.length (.agg [.int .i64 c.1.num, .int .i64 c.1.den, .int .i64 x.2.num, .int .i64 x.2.den]) = rsp (acc ++ [(c.1, x.2)]) := by
         rw [rsp_set _ _ (c.1, x.2), last_set rfl]
       rw [decide_eq_true h2, if_pos h2, cbr_true, e5, rsp_len, show (acc ++ [(c.1, x.2)]).length = acc.length + 1 by simp]
       simp only [decide_true, Bool.true_and, asr_true, cast1]
       exact ih (i + 1) n acc (c.1, x.2) (by omega) (by omega) (by omega) ⟨hc.1, hsi.2⟩
     · rw [decide_eq_false h2, if_neg h2, cbr_false, cast1]
       exact ih (i + 1) n acc c (by omega) (by omega) (by omega) hc
theorem spOf_rs {s : Sp} (h : s.ok) : spOf s.rs = s := by
 obtain ⟨_, h2, h3⟩ := rt_of h.1
 obtain ⟨_, k2, k3⟩ := rt_of h.2.1
 unfold spOf Sp.rs
 cases s
 simp only at h2 h3 k2 k3 ⊢
 rw [h2, h3, k2, k3]
theorem rs_spOf {r : RS} (_ : smallS r) : (spOf r).rs = r := by
 show (rt r.1.num r.1.den, rt r.2.num r.2.den) = r
 rw [rt_self, rt_self]
theorem spOf_ok {r : RS} (h : smallS r) (hv : r.1 < r.2) : (spOf r).ok := ⟨h.1.rv, h.2.rv, by
 show rt r.1.num r.1.den < rt r.2.num r.2.den
 rw [rt_self, rt_self]; exact hv⟩
theorem rs_small {s : Sp} (h : s.ok) : smallS s.rs := ⟨(rt_of h.1).1, (rt_of h.2.1).1⟩
theorem spans_rsL {l : List Sp} (h : ∀ s ∈ l, s.ok) : spans l = rsp (rsL l) := by
 unfold rsp rsL
 rw [List.map_map]
 congr 1
 conv => lhs; rw [← List.map_id l]
 exact List.map_congr_left fun s hs => (spOf_rs (h s hs)).symm
theorem byFrom_of : ∀ {l : List RS}, l.Pairwise (fun s t => ¬ t.1 < s.1) → byFrom l
 | [], _ => trivial
 | s :: r, h => by
   rw [List.pairwise_cons] at h
   exact ⟨fun t ht => by have := h.1 t ht; grind, byFrom_of h.2⟩
theorem merged_eq {l : List RS} (hs : ∀ s ∈ l, smallS s) (hv : ∀ s ∈ l, s.1 < s.2) (hl : l.length < 100000) : ∃ l' : List RS, l'.Perm l ∧ byFrom l' ∧ ∀ K, w_piece_merged (rsp l) K = K (rsp (mergeS l')) := by
 obtain ⟨m, h1, h2, h3⟩ := sorted_sp n_s_SortFunc_api_Span_api_Span n_piece_merged_1 (l := l.map spOf) (fun s h => by
   obtain ⟨r, hr, rfl⟩ := List.mem_map.1 h
   exact spOf_ok (hs r hr) (hv r hr))
 have hm : ∀ s ∈ m, s.ok := fun s h => by
   obtain ⟨r, hr, rfl⟩ := List.mem_map.1 (h1.mem_iff.1 h)
   exact spOf_ok (hs r hr) (hv r hr)
 have hp : (rsL m).Perm l := by
   have := h1.map Sp.rs
   rw [List.map_map] at this
   have e : l.map (Sp.rs ∘ spOf) = l := by
     conv => rhs; rw [← List.map_id l]
     exact List.map_congr_left fun r hr => rs_spOf (hs r hr)
   rw [e] at this
   exact this
 have hb : byFrom (rsL m) := byFrom_of (List.pairwise_map.2 h2)
 refine ⟨rsL m, hp, hb, fun K => ?_⟩
 refine det_piece_merged _ _ (fun K k => ?_) K
 unfold w_piece_merged wv_piece_merged
 have hlen : (rsL m).length = l.length := hp.length_eq
 have hc : cloneOk 4 32 (rsp l) = true := by
   unfold cloneOk
   rw [Bool.and_eq_true, decide_eq_true_eq, rsp_len]
   refine ⟨?_, by show _ ≤ 35184372088832; omega⟩
   cases l <;> rfl
 rw [hc, asr_true]
 cases l with
 | nil =>
   have e : rsL m = [] := List.eq_nil_of_length_eq_zero (by rw [hlen]; rfl)
   rw [e] at k
   exact ⟨1, k⟩
 | cons x r =>
   rw [show List.isEmpty (rsp (x :: r)) = false from rfl, cbr_false]
   have hsm : smallS x := hs x List.mem_cons_self
   have hd : ∃ d, (srt_piece_merged_1).s.rows? (rsp (x :: r)) = some d := rows_some fun y hy => by
     obtain ⟨s, h4, rfl⟩ := List.mem_map.1 hy
     obtain ⟨q, hq, rfl⟩ := List.mem_map.1 h4
     exact gd_enc _ _ (spOf_ok (hs q hq) (hv q hq))
   obtain ⟨d, hd⟩ := hd
   have hcond : Srt.cond srt_piece_merged_1.s (rsp (x :: r)) 0 (rsp (x :: r)).length (rsp (x :: r)).length 4 false = true := by
     unfold Srt.cond
     rw [List.drop_zero, List.take_length, hd, rsp_len]
     simp only [decide_true, Bool.true_and, Bool.not_false, Option.isSome_some, Bool.and_true, Bool.and_eq_true, decide_eq_true_eq, Nat.zero_add, Nat.le_refl]
     exact ⟨by simp, rfl, by omega⟩
   rw [hcond, asr_true]
   have hsrt : Srt.sorted srt_piece_merged_1.s srt_piece_merged_1.srt (rsp (x :: r)) = rsp (rsL m) := by
     rw [show rsp (x :: r) = spans ((x :: r).map spOf) from rfl, ← spans_rsL hm]
     exact h3
   rw [List.take_zero, List.drop_zero, List.take_length, hsrt, List.nil_append, Nat.zero_add, List.drop_length, List.append_nil, rsp_len, rsp_len, hlen]
   simp only [decide_true, Bool.true_and, asr_true]
   have hms : ∀ s ∈ rsL m, smallS s := fun s h => hs s (hp.mem_iff.1 h)
   cases hq : rsL m with
   | nil => rw [hq] at hlen; cases hlen
   | cons y t =>
     rw [hq] at k hms hlen
     refine ⟨(y :: t).length + 2, ?_⟩
     have hy : smallS y := hms y List.mem_cons_self
     rw [L_piece_merged_0_1, cbT (by simp only [List.length_cons]; omega)]
     dsimp only [lt, Go.Pf.jn]
     have e1 : IntKind.i64.wrap ((0 : Int) + 1) = ((1 : Nat) : Int) := by decide
     have e2 : (rsp (y :: t)).length = (x :: r).length := by rw [rsp_len, hlen]
     have e3 : List.getD (rsp (y :: t)) (0 + (0 : Int).toNat) .nils = encR y := rfl
     rw [asT (by omega), asT (by rw [e2]; simp only [List.length_cons]; omega), asE, asT (by rw [e2]; simp), e3, asR, encR0, encR1, encR2, encR3, e1, rsp_one, ← hlen]
     rw [show (rsp [y]).length = 1 from rfl]
     simp only [decide_true, Bool.true_and, asr_true]
     have := merged_loop hms (by rw [hlen]; omega) (x0 := fun yi147 yi148 yb149 => K ([] : List PV)) (x1 := fun yi150 yi151 yi152 yb153 => K ([] : List PV))
       (x2 := fun yl154 yl155 yi156 yi157 yb158 => asr (decide ((0 + (List.length yl155)) ≤ (List.length yl155))) (K (List.take (List.length yl155) yl155)))
       t.length 1 ((y :: t).length + 1) [] y (by simp only [List.length_cons]; omega) (by simp only [List.length_cons]; omega) (by simp) hy
     rw [List.nil_append] at this
     refine this.mpr ?_
     rw [asT (by omega), List.take_length]
     exact k
end Go.Pf.Vc
namespace Go.Pf.Vc
open Go Go.Pf
theorem sLess_rv {a b c d : Int} (h : RV a b) (k : RV c d) (K : Bool → Prop) : w_r01_Less a b c d K = K (decide (rt a b < rt c d)) := by
 obtain ⟨h1, h2, h3⟩ := rt_of h
 obtain ⟨k1, k2, k3⟩ := rt_of k
 have := sLess_eq h1 k1 K
 rw [h2, h3, k2, k3] at this
 exact this
theorem rValid_eq {s : Sp} (h : s.i64) (K : Bool → Prop) : w_r03_Valid s.a s.b s.c s.d K = K (decide s.ok) := by
 unfold w_r03_Valid wv_r03_Valid
 dsimp only [Go.Pf.jn]
 rw [sBoth_eq h.1 h.2.1 h.2.2.1 h.2.2.2]
 by_cases h1 : RV s.a s.b ∧ RV s.c s.d
 · rw [ceT (chk2_zero.2 h1), sLess_rv h1.1 h1.2]
   have e3 : decide s.ok = decide (rt s.a s.b < rt s.c s.d) := by rw [decide_eq_decide]; exact ⟨fun k => k.2.2, fun k => ⟨h1.1, h1.2, k⟩⟩
   rw [e3]
 · rw [ceF fun e => h1 (chk2_zero.1 e)]
   have e3 : decide s.ok = false := decide_eq_false fun k => h1 ⟨k.1, k.2.1⟩
   rw [e3]
theorem Sp.getD_mem {l : List Sp} {i : Nat} (h : i < l.length) : l.getD i default ∈ l := by
 rw [List.getD_eq_getElem?_getD, List.getElem?_eq_getElem h]
 exact List.getElem_mem h
def chkB : Option Sp → List Sp → Bool
 | _, [] => true
 | none, t :: r => decide t.ok && chkB (some t) r
 | some s, t :: r => decide t.ok && (decide (s.rs.2 < t.rs.1) && chkB (some t) r)
theorem chkB_none (t : Sp) (r : List Sp) : chkB none (t :: r) = (decide t.ok && chkB (some t) r) := rfl
theorem chkB_some (s t : Sp) (r : List Sp) : chkB (some s) (t :: r) = (decide t.ok && (decide (s.rs.2 < t.rs.1) && chkB (some t) r)) := rfl
theorem rcheck_loop {l : List Sp} (h64 : ∀ s ∈ l, s.i64) (hl : l.length < 4611686018427387904) {x0 : List PV → Int → Bool → Prop} {x1 : Int → Prop} :
   ∀ (r i n : Nat) (p : Option Sp), i + r = l.length → r < n → (p = if i = 0 then none else some (l.getD (i - 1) default)) → (∀ s, p = some s → s.ok) →
     L_r03_Check_0_0 w_r03_Valid w_r01_Less x0 x1 n (spans l) (i : Int) = if chkB p (l.drop i) then x0 (spans l) (l.length : Int) false else x1 8 := by
 intro r
 induction r with
 | zero =>
   intro i n p hi hn _ _
   obtain ⟨n, rfl⟩ : ∃ m, n = m + 1 := ⟨n - 1, by omega⟩
   obtain rfl : i = l.length := by omega
   rw [L_r03_Check_0_0, spans_len, cbF (by omega), List.drop_length]
   unfold chkB
   rfl
 | succ r ih =>
   intro i n p hi hn hp hpo
   obtain ⟨n, rfl⟩ : ∃ m, n = m + 1 := ⟨n - 1, by omega⟩
   have hil : i < l.length := by omega
   have e1 := wib (n := (i : Int) + 1) (by omega) (by omega)
   have hd : l.drop i = l.getD i default :: l.drop (i + 1) := drop_cons default hil
   have hx := h64 _ (Sp.getD_mem hil)
   have IH := fun (ho : (l.getD i default).ok) => ih (i + 1) n (some (l.getD i default)) (by omega) (by omega) (by rw [if_neg (by omega)]; rfl) (fun s hs => by cases hs; exact ho)
   rw [L_r03_Check_0_0, spans_len, cbT (by omega)]
   dsimp only [lt, Go.Pf.jn]
   rw [asT (by omega), asT (by omega), Int.toNat_natCast, spans_at hil, asSp, e1, hd]
   change w_r03_Valid (l.getD i default).a (l.getD i default).b (l.getD i default).c (l.getD i default).d _ = _
   rw [rValid_eq hx]
   by_cases ho : (l.getD i default).ok
   · rw [decide_eq_true ho, show (!true) = false from rfl, cbr_false]
     by_cases h0 : i = 0
     · subst h0
       rw [if_pos rfl] at hp
       subst hp
       rw [cbF (by omega), cbr_false, cast1]
       have := IH ho
       rw [this, chkB_none, decide_eq_true ho, Bool.true_and]
     · rw [if_neg h0] at hp
       have e2 := wib (n := (i : Int) - 1) (by omega) (by omega)
       have e3 : ((i : Int) - 1).toNat = i - 1 := by omega
       rw [cbT (by omega), e2, asT (by omega), asT (by omega), e3, spans_at (by omega), asSp, asT (by omega), asT (by omega), asSp]
       subst hp
       have hpo := hpo _ rfl
       change w_r01_Less (l.getD (i - 1) default).c (l.getD (i - 1) default).d (l.getD i default).a (l.getD i default).b _ = _
       rw [sLess_rv hpo.2.1 ho.1]
       rw [chkB_some, decide_eq_true ho, Bool.true_and]
       show cbr (!decide ((l.getD (i - 1) default).rs.2 < (l.getD i default).rs.1)) _ _ = _
       cases decide ((l.getD (i - 1) default).rs.2 < (l.getD i default).rs.1) with
       | true =>
         rw [show (!true) = false from rfl, cbr_false, cast1, Bool.true_and]
         exact IH ho
       | false =>
         rw [show (!false) = true from rfl, cbr_true, Bool.false_and]
         rfl
   · rw [decide_eq_false ho, show (!false) = true from rfl, cbr_true, cbr_true]
     cases p with
     | none => rw [chkB_none, decide_eq_false ho, Bool.false_and]; rfl
     | some s => rw [chkB_some, decide_eq_false ho, Bool.false_and]; rfl
theorem chkB_gap : ∀ (r : List Sp) (s : Sp), chkB (some s) r = (allOkB r && gapB s r)
 | [], s => rfl
 | t :: r, s => by
   rw [chkB_some, chkB_gap r t]
   rw [show gapB s (t :: r) = (decide (s.rs.2 < t.rs.1) && gapB t r) from rfl]
   show _ = ((decide t.ok && allOkB r) && _)
   cases decide t.ok <;> cases decide (s.rs.2 < t.rs.1) <;> cases allOkB r <;> cases gapB t r <;> rfl
theorem rCheck3_eq {l : List Sp} (h64 : ∀ s ∈ l, s.i64) (hl : l.length < 4611686018427387904) (K : Int → Prop) : w_r03_Check (spans l) K = K (pieceE l) := by
 refine det_r03_Check _ _ (fun K k => ?_) K
 unfold w_r03_Check wv_r03_Check
 rw [spans_len]
 unfold pieceE allE at k
 by_cases h : l.length > 60
 · rw [cbT (by omega)]
   rw [if_pos h, if_neg (by omega)] at k
   exact k
 · rw [cbF (by omega)]
   rw [if_neg h] at k
   refine ⟨l.length + 1, ?_⟩
   refine (rcheck_loop h64 hl l.length 0 (l.length + 1) none (by omega) (by omega) rfl (fun s h => by cases h)).mpr ?_
   rw [List.drop_zero]
   cases l with
   | nil => exact k
   | cons s r =>
     have e : chkB none (s :: r) = (allOkB (s :: r) && gapB s r) := by
       show (decide s.ok && chkB (some s) r) = _
       rw [chkB_gap]
       show _ = ((decide s.ok && allOkB r) && _)
       rw [Bool.and_assoc]
     rw [e]
     dsimp only at k
     cases h1 : allOkB (s :: r) with
     | true =>
       rw [h1, if_pos rfl, if_pos rfl] at k
       rw [Bool.true_and]
       split
       · rename_i h2; rw [if_pos h2] at k; exact k
       · rename_i h2; rw [if_neg h2] at k; exact k
     | false =>
       rw [h1, if_neg (by simp)] at k
       rw [Bool.false_and, if_neg (by simp)]
       rw [if_neg (by decide)] at k
       exact k
theorem rBoth3_eq {a b : List Sp} (ha : ∀ s ∈ a, s.i64) (hb : ∀ s ∈ b, s.i64) (hla : a.length < 4611686018427387904) (hlb : b.length < 4611686018427387904) (K : Int → Prop) : w_r03_Both (spans a) (spans b) K = K (bothE a b) := by
 unfold w_r03_Both wv_r03_Both bothE
 rw [rCheck3_eq ha hla]
 by_cases h : pieceE a = 0
 · rw [cnF h, if_pos h, rCheck3_eq hb hlb]
 · rw [cnT h, if_neg h, rCheck3_eq ha hla]
def inB (l : List RS) (p : Rat) : Bool := l.any fun s => !decide (p < s.1) && decide (p < s.2)
theorem inB_iff {l : List RS} {p : Rat} : inB l p = true ↔ memP l p := by
 unfold inB memP inS
 rw [List.any_eq_true]
 constructor
 · rintro ⟨s, h1, h2⟩
   simp only [Bool.and_eq_true, Bool.not_eq_true', decide_eq_false_iff_not, decide_eq_true_eq] at h2
   exact ⟨s, h1, by grind, h2.2⟩
 · rintro ⟨s, h1, h2, h3⟩
   refine ⟨s, h1, ?_⟩
   simp only [Bool.and_eq_true, Bool.not_eq_true', decide_eq_false_iff_not, decide_eq_true_eq]
   exact ⟨by grind, h3⟩
theorem in_loop {l : List RS} (hs : ∀ s ∈ l, smallS s) (hl : l.length < 4611686018427387904) {p : Rat} (hp : small p) {x0 : List PV → Int → Int → Int → Bool → Prop} {x1 : Bool → Prop} :
   ∀ (r i n : Nat), i + r = l.length → r < n → L_r03_in_0_0 w_r01_Less x0 x1 n (rsp l) p.num p.den (i : Int) = if inB (l.drop i) p then x1 true else x0 (rsp l) p.num p.den (l.length : Int) false := by
 intro r
 induction r with
 | zero =>
   intro i n hi hn
   obtain ⟨n, rfl⟩ : ∃ m, n = m + 1 := ⟨n - 1, by omega⟩
   obtain rfl : i = l.length := by omega
   rw [L_r03_in_0_0, rsp_len, cbF (by omega), List.drop_length]
   rfl
 | succ r ih =>
   intro i n hi hn
   obtain ⟨n, rfl⟩ : ∃ m, n = m + 1 := ⟨n - 1, by omega⟩
   have hil : i < l.length := by omega
   have e1 := wib (n := (i : Int) + 1) (by omega) (by omega)
   have hd : l.drop i = l.getD i default :: l.drop (i + 1) := drop_cons default hil
   have hx := smallS_mem hs hil
   rw [L_r03_in_0_0, rsp_len, cbT (by omega)]
   dsimp only [lt, Go.Pf.jn]
   rw [asT (by omega), asT (by omega), Int.toNat_natCast, rsp_at hil, asR, encR0, encR1, encR2, encR3, sLess_eq hp hx.1, e1, cast1, asT (by omega), asT (by omega), asR, sLess_eq hp hx.2, hd]
   have e : inB (l.getD i default :: l.drop (i + 1)) p = ((!decide (p < (l.getD i default).1) && decide (p < (l.getD i default).2)) || inB (l.drop (i + 1)) p) := rfl
   rw [e]
   cases decide (p < (l.getD i default).1) with
   | true =>
     rw [show (!true) = false from rfl, cbr_false, cbr_false, Bool.false_and, Bool.false_or]
     exact ih (i + 1) n (by omega) (by omega)
   | false =>
     rw [show (!false) = true from rfl, cbr_true, Bool.true_and]
     cases decide (p < (l.getD i default).2) with
     | true => rfl
     | false =>
       rw [cbr_false, Bool.false_or]
       exact ih (i + 1) n (by omega) (by omega)
theorem rIn_eq {l : List RS} (hs : ∀ s ∈ l, smallS s) (hl : l.length < 4611686018427387904) {p : Rat} (hp : small p) (K : Bool → Prop) : w_r03_in (rsp l) p.num p.den K = K (inB l p) := by
 refine det_r03_in _ _ _ _ (fun K k => ?_) K
 unfold w_r03_in wv_r03_in
 refine ⟨l.length + 1, ?_⟩
 refine (in_loop hs hl hp l.length 0 (l.length + 1) (by omega) (by omega)).mpr ?_
 rw [List.drop_zero]
 cases h : inB l p with
 | true => rw [h] at k; exact k
 | false => rw [h] at k; exact k
end Go.Pf.Vc
namespace Go.Pf.Vc
open Go Go.Pf
def encW (q : Rat) : PV := .agg [.int .i64 q.num, .int .i64 q.den]
def rts (l : List Rat) : List PV := l.map encW
theorem rts_len (l : List Rat) : (rts l).length = l.length := List.length_map ..
theorem rts_at {l : List Rat} {i : Nat} (h : i < l.length) : List.getD (rts l) i .nils = encW (l.getD i 0) := by
 unfold rts
 rw [List.getD_eq_getElem?_getD, List.getD_eq_getElem?_getD, List.getElem?_map, List.getElem?_eq_getElem h]
 rfl
theorem encW0 (q : Rat) : intOfV (cellAt (encW q) 0) = q.num := rfl
theorem encW1 (q : Rat) : intOfV (cellAt (encW q) 1) = q.den := rfl
theorem asW (q : Rat) (P : Prop) : asr (conf (.agg [.i .i64, .i .i64]) (encW q)) P = P := rfl
theorem rts_one (q : Rat) : ([.agg [.int .i64 q.num, .int .i64 q.den]] : List PV) = rts [q] := rfl
theorem encW_is (q : Rat) : (.agg [.int .i64 q.num, .int .i64 q.den] : PV) = encW q := rfl
theorem rts_app (a b : List Rat) : rts a ++ rts b = rts (a ++ b) := by unfold rts; rw [List.map_append]
theorem rts_set (l : List Rat) (i : Nat) (q : Rat) : List.set (rts l) i (encW q) = rts (l.set i q) := by unfold rts; rw [List.map_set]
theorem ratEq (a b : Rat) : ((a.num == b.num) && (((a.den : Int) == (b.den : Int)) && true)) = decide (a = b) := by
 rw [Bool.and_true, Bool.eq_iff_iff]
 simp only [Bool.and_eq_true, beq_iff_eq, decide_eq_true_eq]
 constructor
 · rintro ⟨h1, h2⟩; exact Rat.ext h1 (by omega)
 · rintro rfl; exact ⟨rfl, rfl⟩
theorem getD_ratMem {l : List Rat} {i : Nat} (h : i < l.length) : l.getD i 0 ∈ l := by
 rw [List.getD_eq_getElem?_getD, List.getElem?_eq_getElem h]
 exact List.getElem_mem h
theorem put_find {out : List Rat} (hl : out.length < 4611686018427387904) {q : Rat} {x0 : Int → Int → Int → Bool → Prop} {x1 : List PV → Int → Int → Int → Bool → Prop} {x2 : List PV → Prop} :
   ∀ (r i n : Nat), i + r = out.length → r < n → L_r03_ends_1_1 w_r01_Less x0 x1 x2 n (rts out) q.num q.den (i : Int) = if q ∈ out.drop i then x2 (rts out) else x1 (rts out) q.num q.den (out.length : Int) false := by
 intro r
 induction r with
 | zero =>
   intro i n hi hn
   obtain ⟨n, rfl⟩ : ∃ m, n = m + 1 := ⟨n - 1, by omega⟩
   obtain rfl : i = out.length := by omega
   rw [L_r03_ends_1_1, rts_len, cbF (by omega), List.drop_length, if_neg (by simp)]
 | succ r ih =>
   intro i n hi hn
   obtain ⟨n, rfl⟩ : ∃ m, n = m + 1 := ⟨n - 1, by omega⟩
   have hil : i < out.length := by omega
   have e1 := wib (n := (i : Int) + 1) (by omega) (by omega)
   have hd : out.drop i = out.getD i 0 :: out.drop (i + 1) := drop_cons 0 hil
   rw [L_r03_ends_1_1, rts_len, cbT (by omega)]
   dsimp only [lt, Go.Pf.jn]
   rw [asT (by omega), asT (by omega), asE, Int.toNat_natCast, Nat.zero_add, asT (by omega), rts_at hil, asW, encW0, encW1, ratEq, e1, cast1, asEE, asE, ih (i + 1) n (by omega) (by omega), hd]
   by_cases h : out.getD i 0 = q
   · rw [cbT h, if_pos (by rw [h]; exact List.mem_cons_self)]
   · rw [cbF h]
     by_cases h2 : q ∈ out.drop (i + 1)
     · rw [if_pos h2, if_pos (List.mem_cons_of_mem _ h2)]
     · rw [if_neg h2, if_neg (by rw [List.mem_cons]; rintro (h3 | h3); exact h h3.symm; exact h2 h3)]
theorem insR_last {q x : Rat} : ∀ {pre : List Rat}, incrR (pre ++ [x]) → q ∉ pre ++ [x] → insR q (pre ++ [x]) = if q < x then insR q pre ++ [x] else pre ++ [x, q]
 | [], h, hn => by
   have hne : q ≠ x := fun e => hn (by simp [e])
   show insR q [x] = _
   unfold insR
   rw [if_neg hne]
   split <;> rfl
 | y :: pre, h, hn => by
   have h2 : incrR (pre ++ [x]) := h.2
   have hy : q ≠ y := fun e => hn (by simp [e])
   have hx : y < x := h.1 x (by simp)
   have ih := insR_last (q := q) h2 (fun hm => hn (List.mem_cons_of_mem _ hm))
   show insR q (y :: (pre ++ [x])) = _
   unfold insR
   rw [if_neg hy, if_neg hy]
   by_cases h3 : q < y
   · rw [if_pos h3, if_pos h3, if_pos (by grind)]
     rfl
   · rw [if_neg h3, if_neg h3, ih]
     split <;> rfl
theorem incrR_left : ∀ {a b : List Rat}, incrR (a ++ b) → incrR a
 | [], _, _ => trivial
 | _ :: _, _, h => ⟨fun z hz => h.1 z (List.mem_append_left _ hz), incrR_left h.2⟩
theorem put_swap {x0 : List PV → Int → Bool → Prop} {K : List PV → Prop} (hx : ∀ L i b, x0 L i b = K L) {q : Rat} (hq : small q) :
   ∀ (j n : Nat) (pre suf : List Rat), pre.length = j → j < n → pre.length + suf.length < 1000000 → (∀ z ∈ pre, small z) → incrR pre → q ∉ pre →
     L_r03_ends_2_0 w_r01_Less x0 n (rts (pre ++ q :: suf)) (j : Int) = K (rts (insR q pre ++ suf)) := by
 intro j
 induction j with
 | zero =>
   intro n pre suf hj hn hl hs hi hm
   obtain ⟨n, rfl⟩ : ∃ m, n = m + 1 := ⟨n - 1, by omega⟩
   have : pre = [] := List.eq_nil_of_length_eq_zero hj
   subst this
   rw [L_r03_ends_2_0]
   dsimp only [lt, Go.Pf.jn]
   rw [cbF (by omega), cbr_false, hx]
   rfl
 | succ j ih =>
   intro n pre suf hj hn hl hs hi hm
   obtain ⟨n, rfl⟩ : ∃ m, n = m + 1 := ⟨n - 1, by omega⟩
   obtain ⟨pre, x, rfl⟩ : ∃ p x, pre = p ++ [x] := ⟨pre.dropLast, pre.getLast (by intro h; rw [h] at hj; cases hj), (List.dropLast_concat_getLast _).symm⟩
   have hj2 : pre.length = j := by simpa using hj
   have hl2 : (pre ++ [x] ++ q :: suf).length = j + 2 + suf.length := by simp; omega
   have e1 := wib (n := ((j + 1 : Nat) : Int) - 1) (by omega) (by omega)
   have e2 : ((j + 1 : Nat) : Int) - 1 = (j : Int) := by omega
   rw [e2] at e1
   have g1 : (pre ++ [x] ++ q :: suf).getD (j + 1) 0 = q := by
     rw [List.getD_eq_getElem?_getD, List.getElem?_append_right (by simp; omega)]
     simp [hj2]
   have g2 : (pre ++ [x] ++ q :: suf).getD j 0 = x := by
     rw [List.append_assoc, List.getD_eq_getElem?_getD, List.getElem?_append_right (by omega)]
     simp [hj2]
   have s1 : (pre ++ [x] ++ q :: suf).set j q = pre ++ [q] ++ q :: suf := by
     rw [List.append_assoc, List.set_append_right _ _ (by omega), hj2, Nat.sub_self, List.append_assoc]
     rfl
   have s2 : (pre ++ [q] ++ q :: suf).set (j + 1) x = pre ++ q :: (x :: suf) := by
     rw [List.set_append_right _ _ (by simp; omega)]
     simp [hj2]
   have g3 : (pre ++ [q] ++ q :: suf).getD (j + 1) 0 = q := by
     rw [List.getD_eq_getElem?_getD, List.getElem?_append_right (by simp; omega)]
     simp [hj2]
   have hl3 : (pre ++ [q] ++ q :: suf).length = j + 2 + suf.length := by simp; omega
   have hxs : small x := hs x (by simp)
   rw [L_r03_ends_2_0]
   dsimp only [lt, Go.Pf.jn]
   rw [cbT (by omega)]
   simp (discharger := omega) only [e2, e1, rts_len, hl2, asT, Int.toNat_natCast, Nat.zero_add, rts_at, g1, g2, asW, encW0, encW1, encW_is, rts_set, s1, g3, hl3, s2, sLess_eq hq hxs]
   rw [insR_last hi hm]
   by_cases h : q < x
   · rw [cbT h, if_pos h]
     rw [show (pre ++ q :: x :: suf).length = j + 2 + suf.length by simp; omega, asTd rfl, asT rfl]
     have := ih n pre (x :: suf) hj2 (by omega) (by simp at hl ⊢; omega) (fun z hz => hs z (by simp [hz])) (incrR_left hi) (fun hm2 => hm (by simp [hm2]))
     rw [this, List.append_assoc]
     rfl
   · rw [cbF h, if_neg h, hx, List.append_assoc, List.append_assoc]
     rfl
end Go.Pf.Vc
namespace Go.Pf.Vc
open Go Go.Pf
theorem insR_small {q : Rat} (hq : small q) {out : List Rat} (hs : ∀ z ∈ out, small z) : ∀ z ∈ insR q out, small z := fun z hz => by
 rcases (insR_mem out).1 hz with rfl | h
 · exact hq
 · exact hs z h
theorem insR_len {q : Rat} : ∀ (out : List Rat), (insR q out).length ≤ out.length + 1
 | [] => Nat.le_refl _
 | x :: r => by
   unfold insR
   split
   · simp
   · split
     · simp
     · have := insR_len (q := q) r
       simp only [List.length_cons]; omega
theorem insR_in {q : Rat} : ∀ {out : List Rat}, incrR out → q ∈ out → insR q out = out
 | [], _, h => by cases h
 | x :: r, hi, h => by
   unfold insR
   by_cases h1 : q = x
   · rw [if_pos h1]
   · rw [if_neg h1]
     have h2 : q ∈ r := by
       rcases List.mem_cons.1 h with h3 | h3
       · exact absurd h3 h1
       · exact h3
     have := hi.1 q h2
     rw [if_neg (by grind), insR_in hi.2 h2]
theorem put_own {out : List Rat} {q : Rat} (hs : ∀ z ∈ out, small z) (hi : incrR out) (hq : small q) (hl : out.length < 100000) {x0 : Int → Int → Int → Bool → Prop} {K : List PV → Prop} (k : K (rts (insR q out))) :
   ∃ n : Nat, L_r03_ends_1_1 w_r01_Less x0
    (fun yl i1 i2 _ _ => (asr (decide ((List.length yl) = (List.length yl)))
    (asr (decide ((0 + (List.length yl)) ≤ (List.length yl)))
    (asr (!(decide (((0 + (List.length yl)) + 1) ≤ (List.length yl))))
    (asr (decide ((List.length yl) = (List.length yl)))
    (asr (decide ((((List.length yl) + 1) + 64) * (16 + 1) ≤ room))
    (lt (IntKind.i64.wrap ((((List.length (yl ++ ([(.agg [(.int .i64 i1), (.int .i64 i2)])] : List PV))) : Nat) : Int) - (1 : Int))) (fun yi =>
    (asr (decide ((List.length (yl ++ ([(.agg [(.int .i64 i1), (.int .i64 i2)])] : List PV))) = List.length (yl ++ ([(.agg [(.int .i64 i1), (.int .i64 i2)])] : List PV))) && decide ((List.length (yl ++ ([(.agg [(.int .i64 i1), (.int .i64 i2)])] : List PV))) = List.length (yl ++ ([(.agg [(.int .i64 i1), (.int .i64 i2)])] : List PV))))
    (∃ n : Nat, L_r03_ends_2_0 w_r01_Less (fun yl _ _ => K yl) n (yl ++ ([(.agg [(.int .i64 i1), (.int .i64 i2)])] : List PV)) yi))))))))))
    (fun yl => K yl) n (rts out) q.num q.den (0 : Int) := by
 refine ⟨out.length + 1, ?_⟩
 refine (put_find (by omega) out.length 0 (out.length + 1) (by omega) (by omega)).mpr ?_
 rw [List.drop_zero]
 by_cases h : q ∈ out
 · rw [if_pos h]
   rw [insR_in hi h] at k
   exact k
 · rw [if_neg h]
   have e1 := wib (n := ((out.length + 1 : Nat) : Int) - 1) (by omega) (by omega)
   have e2 : ((out.length + 1 : Nat) : Int) - 1 = (out.length : Int) := by omega
   rw [e2] at e1
   have e3 : (rts out ++ ([(.agg [(.int .i64 q.num), (.int .i64 q.den)])] : List PV)) = rts (out ++ [q]) := by rw [rts_one, rts_app]
   have e4 : (rts (out ++ [q])).length = out.length + 1 := by rw [rts_len]; simp
   dsimp only [lt]
   rw [e3, e4, e2, e1, rts_len, asE, asT (by omega), asNo (by omega), asE, asT (by show _ ≤ 35184372088832; omega), asEE, asE]
   refine ⟨out.length + 1, ?_⟩
   refine (put_swap (x0 := fun yl _ _ => K yl) (K := K) (fun _ _ _ => rfl) hq out.length (out.length + 1) out [] rfl (by omega) (by simp; omega) hs hi h).mpr ?_
   rw [List.append_nil]
   exact k
theorem put_nil {q : Rat} (hq : small q) {x1 : List PV → Int → Int → Int → Bool → Prop} {x2 : List PV → Prop} {K : List PV → Prop} (k : K (rts [q])) :
   ∃ n : Nat, L_r03_ends_1_0 w_r01_Less
    (fun i1 i2 _ _ => (asr (decide (1 = List.length ([(.agg [(.int .i64 i1), (.int .i64 i2)])] : List PV)) && decide (1 = List.length ([(.agg [(.int .i64 i1), (.int .i64 i2)])] : List PV)))
    (∃ n : Nat, L_r03_ends_2_0 w_r01_Less (fun yl _ _ => K yl) n ([(.agg [(.int .i64 i1), (.int .i64 i2)])] : List PV) (0 : Int))))
    x1 x2 n q.num q.den (0 : Int) := by
 refine ⟨1, ?_⟩
 rw [L_r03_ends_1_0, cbF (by omega)]
 refine asr_iff.2 ⟨rfl, 1, ?_⟩
 exact (put_swap (x0 := fun yl _ _ => K yl) (K := K) (fun _ _ _ => rfl) hq 0 1 [] [] rfl (by omega) (by simp) (by simp) trivial (by simp)).mpr k
theorem endsR_small : ∀ {l : List RS} {out : List Rat}, (∀ s ∈ l, smallS s) → (∀ z ∈ out, small z) → ∀ z ∈ endsR l out, small z
 | [], _, _, h => h
 | s :: a, _, hl, h => endsR_small (l := a) (fun t ht => hl t (List.mem_cons_of_mem _ ht)) (insR_small (hl s List.mem_cons_self).2 (insR_small (hl s List.mem_cons_self).1 h))
theorem endsR_len : ∀ (l : List RS) (out : List Rat), (endsR l out).length ≤ out.length + 2 * l.length
 | [], _ => Nat.le_refl _
 | s :: a, out => by
   have h1 := endsR_len a (insR s.2 (insR s.1 out))
   have h2 := insR_len (q := s.2) (insR s.1 out)
   have h3 := insR_len (q := s.1) out
   show (endsR a _).length ≤ _
   simp only [List.length_cons]; omega
theorem ends3_loop {l : List RS} (hs : ∀ s ∈ l, smallS s) (hl : l.length < 10000) {x0 : List PV → Int → Bool → Prop} {x1 : List PV → List PV → Int → Bool → Prop} :
   ∀ (r i n : Nat) (out : List Rat), i + r = l.length → r < n → (∀ z ∈ out, small z) → incrR out → out.length ≤ 40000 + 2 * i →
     x1 (rts (endsR (l.drop i) out)) (rsp l) (l.length : Int) false → L_r03_ends_3_1 w_r01_Less x0 x1 n (rts out) (rsp l) (i : Int) := by
 intro r
 induction r with
 | zero =>
   intro i n out hi hn ho hc hb k
   obtain ⟨n, rfl⟩ : ∃ m, n = m + 1 := ⟨n - 1, by omega⟩
   obtain rfl : i = l.length := by omega
   rw [L_r03_ends_3_1, rsp_len, cbF (by omega)]
   rw [List.drop_length] at k
   exact k
 | succ r ih =>
   intro i n out hi hn ho hc hb k
   obtain ⟨n, rfl⟩ : ∃ m, n = m + 1 := ⟨n - 1, by omega⟩
   have hil : i < l.length := by omega
   have e1 := wib (n := (i : Int) + 1) (by omega) (by omega)
   have hd : l.drop i = l.getD i default :: l.drop (i + 1) := drop_cons default hil
   have hx := smallS_mem hs hil
   rw [hd] at k
   have h1 := insR_len (q := (l.getD i default).1) out
   have h2 := insR_len (q := (l.getD i default).2) (insR (l.getD i default).1 out)
   rw [L_r03_ends_3_1, rsp_len, cbT (by omega)]
   dsimp only [Go.Pf.jn]
   rw [asT (by omega), asT (by omega), Int.toNat_natCast, rsp_at hil]
   show asr (conf (.agg [.i .i64, .i .i64, .i .i64, .i .i64]) (encR (l.getD i default))) _
   rw [asR, encR0, encR1, asEE, asE]
   refine put_own ho hc hx.1 (by omega) ?_
   rw [asT (by omega), asT (by omega)]
   show asr (conf (.agg [.i .i64, .i .i64, .i .i64, .i .i64]) (encR (l.getD i default))) _
   rw [asR, encR2, encR3, asEE, asE]
   refine put_own (insR_small hx.1 ho) (insR_incr _ hc) hx.2 (by omega) ?_
   show asr _ (L_r03_ends_3_1 w_r01_Less x0 x1 n _ _ (IntKind.i64.wrap ((i : Int) + 1)))
   rw [asEE, asE, e1, cast1]
   exact ih (i + 1) n _ (by omega) (by omega) (insR_small hx.2 (insR_small hx.1 ho)) (insR_incr _ (insR_incr _ hc)) (by omega) k
theorem ends3_nil {l : List RS} (hs : ∀ s ∈ l, smallS s) (hl : l.length < 10000) {x0 : List PV → Int → Bool → Prop} {x1 : List PV → List PV → Int → Bool → Prop} (h0 : l = [] → x0 (rsp l) 0 false)
   (h1 : l ≠ [] → x1 (rts (endsR l [])) (rsp l) (l.length : Int) false) : L_r03_ends_3_0 w_r01_Less x0 x1 (l.length + 2) (rsp l) (0 : Int) := by
 cases l with
 | nil =>
   rw [L_r03_ends_3_0, cbF (by rw [rsp_len]; simp)]
   exact h0 rfl
 | cons s r =>
   have hx := hs s List.mem_cons_self
   have e3 : List.getD (rsp (s :: r)) (0 : Int).toNat .nils = encR s := rfl
   rw [L_r03_ends_3_0, rsp_len, cbT (by simp only [List.length_cons]; omega)]
   dsimp only [Go.Pf.jn]
   rw [asT (by omega), asT (by simp only [List.length_cons]; omega), e3]
   show asr (conf (.agg [.i .i64, .i .i64, .i .i64, .i .i64]) (encR s)) _
   rw [asR, encR0, encR1]
   refine put_nil hx.1 ?_
   rw [asT (by omega), asT (by simp only [List.length_cons]; omega)]
   show asr (conf (.agg [.i .i64, .i .i64, .i .i64, .i .i64]) (encR s)) _
   rw [asR, encR2, encR3, asEE, asE]
   have hs1 : ∀ z ∈ [s.1], small z := fun z hz => by rw [List.mem_singleton] at hz; rw [hz]; exact hx.1
   have hi1 : incrR [s.1] := ⟨by simp, trivial⟩
   refine put_own (out := [s.1]) hs1 hi1 hx.2 (by simp) ?_
   show asr _ (L_r03_ends_3_1 w_r01_Less x0 x1 _ _ _ ((1 : Nat) : Int))
   rw [asEE, asE]
   refine ends3_loop hs hl r.length 1 _ _ (by simp only [List.length_cons]; omega) (by simp only [List.length_cons]; omega) (insR_small hx.2 hs1) (insR_incr _ hi1) ?_ (h1 (by simp))
   have h2 := insR_len (q := s.2) (insR s.1 [])
   have h3 := insR_len (q := s.1) []
   simp only [List.length_nil] at h3
   show (insR s.2 [s.1]).length ≤ _
   have : insR s.1 [] = [s.1] := rfl
   rw [this] at h2
   simp only [List.length_cons, List.length_nil] at h2
   omega
theorem ends0_loop {l : List RS} (hs : ∀ s ∈ l, smallS s) (hl : l.length < 10000) {b : List PV} {x0 : List PV → List PV → Int → Bool → Prop} {x1 : List PV → List PV → List PV → Int → Bool → Prop} :
   ∀ (r i n : Nat) (out : List Rat), i + r = l.length → r < n → (∀ z ∈ out, small z) → incrR out → out.length ≤ 40000 + 2 * i →
     x1 (rts (endsR (l.drop i) out)) (rsp l) b (l.length : Int) false → L_r03_ends_0_1 w_r01_Less x0 x1 n (rts out) (rsp l) b (i : Int) := by
 intro r
 induction r with
 | zero =>
   intro i n out hi hn ho hc hb k
   obtain ⟨n, rfl⟩ : ∃ m, n = m + 1 := ⟨n - 1, by omega⟩
   obtain rfl : i = l.length := by omega
   rw [L_r03_ends_0_1, rsp_len, cbF (by omega)]
   rw [List.drop_length] at k
   exact k
 | succ r ih =>
   intro i n out hi hn ho hc hb k
   obtain ⟨n, rfl⟩ : ∃ m, n = m + 1 := ⟨n - 1, by omega⟩
   have hil : i < l.length := by omega
   have e1 := wib (n := (i : Int) + 1) (by omega) (by omega)
   have hd : l.drop i = l.getD i default :: l.drop (i + 1) := drop_cons default hil
   have hx := smallS_mem hs hil
   rw [hd] at k
   have h1 := insR_len (q := (l.getD i default).1) out
   have h2 := insR_len (q := (l.getD i default).2) (insR (l.getD i default).1 out)
   rw [L_r03_ends_0_1, rsp_len, cbT (by omega)]
   dsimp only [Go.Pf.jn]
   rw [asT (by omega), asT (by omega), Int.toNat_natCast, rsp_at hil]
   show asr (conf (.agg [.i .i64, .i .i64, .i .i64, .i .i64]) (encR (l.getD i default))) _
   rw [asR, encR0, encR1, asEE, asE]
   refine put_own ho hc hx.1 (by omega) ?_
   rw [asT (by omega), asT (by omega)]
   show asr (conf (.agg [.i .i64, .i .i64, .i .i64, .i .i64]) (encR (l.getD i default))) _
   rw [asR, encR2, encR3, asEE, asE]
   refine put_own (insR_small hx.1 ho) (insR_incr _ hc) hx.2 (by omega) ?_
   show asr _ (L_r03_ends_0_1 w_r01_Less x0 x1 n _ _ _ (IntKind.i64.wrap ((i : Int) + 1)))
   rw [asEE, asE, e1, cast1]
   exact ih (i + 1) n _ (by omega) (by omega) (insR_small hx.2 (insR_small hx.1 ho)) (insR_incr _ (insR_incr _ hc)) (by omega) k
theorem ends0_nil {l : List RS} (hs : ∀ s ∈ l, smallS s) (hl : l.length < 10000) {b : List PV} {x0 : List PV → List PV → Int → Bool → Prop} {x1 : List PV → List PV → List PV → Int → Bool → Prop} (h0 : l = [] → x0 (rsp l) b 0 false)
   (h1 : l ≠ [] → x1 (rts (endsR l [])) (rsp l) b (l.length : Int) false) : L_r03_ends_0_0 w_r01_Less x0 x1 (l.length + 2) (rsp l) b (0 : Int) := by
 cases l with
 | nil =>
   rw [L_r03_ends_0_0, cbF (by rw [rsp_len]; simp)]
   exact h0 rfl
 | cons s r =>
   have hx := hs s List.mem_cons_self
   have e3 : List.getD (rsp (s :: r)) (0 : Int).toNat .nils = encR s := rfl
   rw [L_r03_ends_0_0, rsp_len, cbT (by simp only [List.length_cons]; omega)]
   dsimp only [Go.Pf.jn]
   rw [asT (by omega), asT (by simp only [List.length_cons]; omega), e3]
   show asr (conf (.agg [.i .i64, .i .i64, .i .i64, .i .i64]) (encR s)) _
   rw [asR, encR0, encR1]
   refine put_nil hx.1 ?_
   rw [asT (by omega), asT (by simp only [List.length_cons]; omega)]
   show asr (conf (.agg [.i .i64, .i .i64, .i .i64, .i .i64]) (encR s)) _
   rw [asR, encR2, encR3, asEE, asE]
   have hs1 : ∀ z ∈ [s.1], small z := fun z hz => by rw [List.mem_singleton] at hz; rw [hz]; exact hx.1
   have hi1 : incrR [s.1] := ⟨by simp, trivial⟩
   refine put_own (out := [s.1]) hs1 hi1 hx.2 (by simp) ?_
   show asr _ (L_r03_ends_0_1 w_r01_Less x0 x1 _ _ _ _ ((1 : Nat) : Int))
   rw [asEE, asE]
   refine ends0_loop hs hl r.length 1 _ _ (by simp only [List.length_cons]; omega) (by simp only [List.length_cons]; omega) (insR_small hx.2 hs1) (insR_incr _ hi1) ?_ (h1 (by simp))
   have h2 := insR_len (q := s.2) (insR s.1 [])
   have h3 := insR_len (q := s.1) []
   simp only [List.length_nil] at h3
   show (insR s.2 [s.1]).length ≤ _
   have : insR s.1 [] = [s.1] := rfl
   rw [this] at h2
   simp only [List.length_cons, List.length_nil] at h2
   omega
theorem rEnds_eq {a b : List RS} (ha : ∀ s ∈ a, smallS s) (hb : ∀ s ∈ b, smallS s) (hla : a.length < 10000) (hlb : b.length < 10000) (K : List PV → Prop) : w_r03_ends (rsp a) (rsp b) K = K (rts (endsR b (endsR a []))) := by
 refine det_r03_ends _ _ _ (fun K k => ?_) K
 unfold w_r03_ends wv_r03_ends
 refine ⟨a.length + 2, ?_⟩
 have hea := endsR_small ha (out := []) (fun z hz => by cases hz)
 refine ends0_nil ha hla (fun h => ?_) (fun h => ?_)
 · subst h
   refine ⟨b.length + 2, ?_⟩
   refine ends3_nil hb hlb (fun h => ?_) (fun h => ?_)
   · subst h; exact k
   · rw [asE, asT (by omega), List.take_length]
     exact k
 · rw [asEE, asE]
   refine ⟨b.length + 1, ?_⟩
   have := endsR_len a []
   refine ends3_loop hb hlb b.length 0 (b.length + 1) _ (by omega) (by omega) hea (endsR_incr a _ trivial) (by simp only [List.length_nil] at this; omega) ?_
   rw [asE, asT (by omega), List.take_length]
   exact k
end Go.Pf.Vc
namespace Go.Pf.Vc
open Go Go.Pf
theorem jn_or {b c : Bool} {k : Bool → Prop} : Go.Pf.jn (fun j => cbr b (j true) (j c)) k = k (b || c) := by cases b <;> rfl
theorem jn_sel {d b c t : Bool} {k : Bool → Prop} : Go.Pf.jn (fun j => cbr d (cbr b (j c) (j false)) (j t)) k = k (bif d then (b && c) else t) := by cases d <;> cases b <;> rfl
def selB (how : Int) (x y : Bool) : Bool := bif how == 2 then (x && !y) else (bif how == 1 then (x && y) else (x || y))
section
variable {a b : List RS} {pts : List Rat} {how : Int}
def selF (a b : List RS) (how : Int) (q : Rat) : Bool := selB how (inB a q) (inB b q)
theorem rat_getD {i : Nat} (hs : ∀ z ∈ pts, small z) (h : i < pts.length) : small (pts.getD i 0) := hs _ (getD_ratMem h)
theorem joined_loop (ha : ∀ s ∈ a, smallS s) (hb : ∀ s ∈ b, smallS s) (hla : a.length < 10000) (hlb : b.length < 10000) (hp : ∀ z ∈ pts, small z) (hl : pts.length < 100000)
   {x0 : List PV → List PV → Int → List PV → Int → Bool → Prop} {x1 : List PV → List PV → List PV → Int → List PV → Int → Bool → Prop} {K : List PV → Prop} (hx : ∀ L i q, x1 L (rsp a) (rsp b) how (rts pts) i q = K L) :
   ∀ (r i n : Nat) (acc : List RS) (c : RS), i + r + 1 = pts.length → r < n → acc.length ≤ i → smallS c →
     L_r03_joined_0_1 w_r03_ends w_r03_in x0 x1 n (rsp (acc ++ [c])) (rsp a) (rsp b) how (rts pts) (i : Int) = K (rsp (acc ++ jn (selF a b how) (pts.drop i) (some c))) := by
 intro r
 induction r with
 | zero =>
   intro i n acc c hi hn hac hc
   obtain ⟨n, rfl⟩ : ∃ m, n = m + 1 := ⟨n - 1, by omega⟩
   have e1 := wib (n := (i : Int) + 1) (by omega) (by omega)
   have hd : pts.drop i = [pts.getD i 0] := by
     rw [drop_cons 0 (by omega), List.drop_eq_nil_of_le (by omega)]
   rw [L_r03_joined_0_1]
   dsimp only [lt]
   rw [e1, rts_len, cbF (by omega), hx, hd]
   rfl
 | succ r ih =>
   intro i n acc c hi hn hac hc
   obtain ⟨n, rfl⟩ : ∃ m, n = m + 1 := ⟨n - 1, by omega⟩
   have e1 := wib (n := (i : Int) + 1) (by omega) (by omega)
   have e5 : ((i : Int) + 1).toNat = i + 1 := by omega
   have hd : pts.drop i = pts.getD i 0 :: pts.getD (i + 1) 0 :: pts.drop (i + 2) := by
     rw [drop_cons 0 (by omega), drop_cons 0 (by omega)]
   have hd1 : pts.drop (i + 1) = pts.getD (i + 1) 0 :: pts.drop (i + 2) := drop_cons 0 (by omega)
   have hx1 := rat_getD hp (i := i) (by omega)
   have hx2 := rat_getD hp (i := i + 1) (by omega)
   have hal : (acc ++ [c]).length = acc.length + 1 := by simp
   have e2 := wib (n := ((acc.length + 1 : Nat) : Int) - 1) (by omega) (by omega)
   have e3 : ((acc.length + 1 : Nat) : Int) - 1 = (acc.length : Int) := by omega
   rw [e3] at e2
   have IH := fun acc c h1 h2 => ih (i + 1) n acc c (by omega) (by omega) h1 h2
   rw [hd1] at IH
   rw [hd]
   generalize hq1 : pts.getD i 0 = x at hx1
   generalize hq2 : pts.getD (i + 1) 0 = y at hx2 IH
   rw [L_r03_joined_0_1]
   dsimp only [lt]
   simp (discharger := omega) only [jn_or, jn_sel, e1, rts_len, cbT, asT, Int.toNat_natCast, rts_at, hq1, asW, encW0, encW1, rIn_eq ha _ hx1, rIn_eq hb _ hx1, decide_true, asr_true]
   rw [show (bif how == 2 then (inB a x && !inB b x) else (bif how == 1 then (inB a x && inB b x) else (inB a x || inB b x))) = selF a b how x from rfl]
   dsimp only [Go.Pf.jn]
   unfold jn
   cases hs : selF a b how x with
   | false =>
     rw [Bool.not_false, cbr_true, if_neg (by simp), Bool.true_and, asr_true, cast1]
     exact IH acc c (by omega) hc
   | true =>
     rw [Bool.not_true, cbr_false, if_pos rfl]
     simp (discharger := omega) only [rsp_len, hal, e3, e2, e5, Int.toNat_natCast, Nat.zero_add, asT, rsp_at, hq2, last_at, asR, encR0, encR1, encR2, encR3, ratEq, cbT, asNo]
     by_cases h2 : c.2 = x
     · have e6 : List.set (rsp (acc ++ [c])) acc.length (.agg [.int .i64 c.1.num, .int .i64 c.1.den, .int .i64 y.num, .int .i64 y.den]) = rsp (acc ++ [(c.1, y)]) := by
         rw [rsp_set _ _ (c.1, y), last_set rfl]
       rw [cbT h2, if_pos h2, e6, rsp_len, show (acc ++ [(c.1, y)]).length = acc.length + 1 by simp, asEE, asE, cast1]
       exact IH acc (c.1, y) (by omega) ⟨hc.1, hx2⟩
     · rw [cbF h2, if_neg h2, asT (by show _ ≤ 35184372088832; omega), rsp_one (x, y), rsp_app, Bool.true_and, asr_true, cast1]
       have := IH (acc ++ [c]) (x, y) (by simp; omega) ⟨hx1, hx2⟩
       rw [this, List.append_assoc]
       rfl
theorem joined_nil (ha : ∀ s ∈ a, smallS s) (hb : ∀ s ∈ b, smallS s) (hla : a.length < 10000) (hlb : b.length < 10000) (hp : ∀ z ∈ pts, small z) (hl : pts.length < 100000)
   {x0 : List PV → List PV → Int → List PV → Int → Bool → Prop} {x1 : List PV → List PV → List PV → Int → List PV → Int → Bool → Prop} {K : List PV → Prop} (hx0 : ∀ i q, x0 (rsp a) (rsp b) how (rts pts) i q = K []) (hx : ∀ L i q, x1 L (rsp a) (rsp b) how (rts pts) i q = K L) :
   ∀ (r i n : Nat), i + r = pts.length → r < n →
     L_r03_joined_0_0 w_r03_ends w_r03_in x0 x1 n (rsp a) (rsp b) how (rts pts) (i : Int) = K (rsp (jn (selF a b how) (pts.drop i) none)) := by
 intro r
 induction r with
 | zero =>
   intro i n hi hn
   obtain ⟨n, rfl⟩ : ∃ m, n = m + 1 := ⟨n - 1, by omega⟩
   have e1 := wib (n := (i : Int) + 1) (by omega) (by omega)
   have hd : pts.drop i = [] := List.drop_eq_nil_of_le (by omega)
   rw [L_r03_joined_0_0]
   dsimp only [lt]
   rw [e1, rts_len, cbF (by omega), hx0, hd]
   rfl
 | succ r ih =>
   intro i n hi hn
   obtain ⟨n, rfl⟩ : ∃ m, n = m + 1 := ⟨n - 1, by omega⟩
   have e1 := wib (n := (i : Int) + 1) (by omega) (by omega)
   by_cases h1 : i + 1 = pts.length
   · have hd : pts.drop i = [pts.getD i 0] := by
       rw [drop_cons 0 (by omega), List.drop_eq_nil_of_le (by omega)]
     rw [L_r03_joined_0_0]
     dsimp only [lt]
     rw [e1, rts_len, cbF (by omega), hx0, hd]
     rfl
   · have e5 : ((i : Int) + 1).toNat = i + 1 := by omega
     have hd : pts.drop i = pts.getD i 0 :: pts.getD (i + 1) 0 :: pts.drop (i + 2) := by
       rw [drop_cons 0 (by omega), drop_cons 0 (by omega)]
     have hd1 : pts.drop (i + 1) = pts.getD (i + 1) 0 :: pts.drop (i + 2) := drop_cons 0 (by omega)
     have hx1 := rat_getD hp (i := i) (by omega)
     have hx2 := rat_getD hp (i := i + 1) (by omega)
     have IH := ih (i + 1) n (by omega) (by omega)
     have IH2 := joined_loop ha hb hla hlb hp hl (x0 := x0) hx (r - 1) (i + 1) n []
     rw [hd1] at IH
     simp only [hd1] at IH2
     rw [hd]
     generalize hq1 : pts.getD i 0 = x at hx1
     generalize hq2 : pts.getD (i + 1) 0 = y at hx2 IH IH2
     rw [L_r03_joined_0_0]
     dsimp only [lt]
     simp (discharger := omega) only [jn_or, jn_sel, e1, rts_len, cbT, asT, Int.toNat_natCast, rts_at, hq1, asW, encW0, encW1, rIn_eq ha _ hx1, rIn_eq hb _ hx1]
     rw [show (bif how == 2 then (inB a x && !inB b x) else (bif how == 1 then (inB a x && inB b x) else (inB a x || inB b x))) = selF a b how x from rfl]
     unfold jn
     cases hs : selF a b how x with
     | false =>
       rw [Bool.not_false, cbr_true, if_neg (by simp), cast1]
       exact IH
     | true =>
       rw [Bool.not_true, cbr_false, if_pos rfl]
       simp (discharger := omega) only [e5, hq2]
       rw [rsp_one (x, y), show (rsp [(x, y)]).length = 1 from rfl, asEE, asE, cast1]
       have := IH2 (x, y) (by omega) (by omega) (by simp) ⟨hx1, hx2⟩
       exact this
end
theorem rJoined_eq {a b : List RS} (ha : ∀ s ∈ a, smallS s) (hb : ∀ s ∈ b, smallS s) (hla : a.length < 10000) (hlb : b.length < 10000) (how : Int) (K : List PV → Prop) : w_r03_joined (rsp a) (rsp b) how K = K (rsp (joinR (selF a b how) a b)) := by
 refine det_r03_joined _ _ _ _ (fun K k => ?_) K
 unfold w_r03_joined wv_r03_joined
 rw [rEnds_eq ha hb hla hlb]
 have h1 := endsR_small hb (endsR_small ha (out := []) (fun z hz => by cases hz))
 have h2 := endsR_len a []
 have h3 := endsR_len b (endsR a [])
 simp only [List.length_nil] at h2
 refine ⟨(endsR b (endsR a [])).length + 1, ?_⟩
 refine (joined_nil ha hb hla hlb h1 (by omega) (K := K) (fun _ _ => rfl) (fun L i q => ?_) (endsR b (endsR a [])).length 0 ((endsR b (endsR a [])).length + 1) (by omega) (by omega)).mpr ?_
 · rw [asE, asT (by omega), List.take_length]
 · rw [List.drop_zero]
   exact k
end Go.Pf.Vc
namespace Go.Pf.Vc
open Go Go.Pf
theorem validQ {q r : Rat} (hq : small q) (hr : small r) (K : Bool → Prop) : w_piece_valid q.num q.den r.num r.den K = K (decide (q < r)) := by
 have h := valid_eq (s := spOf (q, r)) ⟨hq.rv.i1, hq.rv.i2, hr.rv.i1, hr.rv.i2⟩ K
 have e : decide (spOf (q, r)).ok = decide (q < r) := by
   rw [decide_eq_decide]
   constructor
   · intro h
     have h3 : rt q.num q.den < rt r.num r.den := h.2.2
     rw [rt_self, rt_self] at h3
     exact h3
   · intro h
     exact spOf_ok (r := (q, r)) ⟨hq, hr⟩ h
 rw [e] at h
 exact h
theorem meetS_nil (b : List RS) : meetS [] b = [] := by unfold meetS; rfl
theorem meetS_nil2 (a : List RS) : meetS a [] = [] := by cases a <;> (unfold meetS; rfl)
theorem notLt (a b : Rat) : (!decide (b < a)) = decide (a ≤ b) := by
 rw [← decide_not]
 exact decide_eq_decide.2 ⟨fun h => by grind, fun h => by grind⟩
section
variable {a b : List RS}
theorem meet1_loop (ha : ∀ s ∈ a, smallS s) (hb : ∀ s ∈ b, smallS s) (hla : a.length < 10000) (hlb : b.length < 10000)
   {x0 : List PV → List PV → Int → Int → Bool → Prop} {x1 : List PV → List PV → List PV → Int → Int → Bool → Prop} {K : List PV → Prop} (hx : ∀ L i k q, x1 L (rsp a) (rsp b) i k q = K L) :
   ∀ (m i k n : Nat) (acc : List RS), i ≤ a.length → k ≤ b.length → (a.length - i) + (b.length - k) = m → m < n → acc.length ≤ i + k →
     L_piece_Meet_0_1 w_piece_both w_piece_later w_piece_sooner w_piece_valid w_piece_order w_piece_few x0 x1 n (rsp acc) (rsp a) (rsp b) (i : Int) (k : Int) = K (rsp (acc ++ meetS (a.drop i) (b.drop k))) := by
 intro m
 induction m with
 | zero =>
   intro i k n acc hi hk hm hn hac
   obtain ⟨n, rfl⟩ : ∃ m, n = m + 1 := ⟨n - 1, by omega⟩
   rw [L_piece_Meet_0_1]
   dsimp only [Go.Pf.jn]
   rw [rsp_len, cbF (by omega), cbr_false, hx, List.drop_eq_nil_of_le (by omega), meetS_nil, List.append_nil]
 | succ m ih =>
   intro i k n acc hi hk hm hn hac
   obtain ⟨n, rfl⟩ : ∃ m, n = m + 1 := ⟨n - 1, by omega⟩
   by_cases h1 : i < a.length
   case neg =>
     rw [L_piece_Meet_0_1]
     dsimp only [Go.Pf.jn]
     rw [rsp_len, cbF (by omega), cbr_false, hx, List.drop_eq_nil_of_le (by omega), meetS_nil, List.append_nil]
   by_cases h2 : k < b.length
   case neg =>
     rw [L_piece_Meet_0_1]
     dsimp only [Go.Pf.jn]
     rw [rsp_len, rsp_len, cbT (by omega), decide_eq_false (by omega), cbr_false, hx, List.drop_eq_nil_of_le (as := b) (by omega), meetS_nil2, List.append_nil]
   have e1 := wib (n := (i : Int) + 1) (by omega) (by omega)
   have e2 := wib (n := (k : Int) + 1) (by omega) (by omega)
   have hd1 : a.drop i = a.getD i default :: a.drop (i + 1) := drop_cons default h1
   have hd2 : b.drop k = b.getD k default :: b.drop (k + 1) := drop_cons default h2
   have hx1 := smallS_mem ha h1
   have hx2 := smallS_mem hb h2
   have IH1 := fun acc' h => ih (i + 1) k n acc' (by omega) hk (by omega) (by omega) h
   have IH2 := fun acc' h => ih i (k + 1) n acc' hi (by omega) (by omega) (by omega) h
   rw [hd2] at IH1
   rw [hd1] at IH2
   rw [hd1, hd2]
   generalize hq1 : a.getD i default = s at hx1 IH2
   generalize hq2 : b.getD k default = t at hx2 IH1
   have em : meetS (s :: a.drop (i + 1)) (t :: b.drop (k + 1)) = (if maxR s.1 t.1 < minR s.2 t.2 then [(maxR s.1 t.1, minR s.2 t.2)] else []) ++ (if s.2 ≤ t.2 then meetS (a.drop (i + 1)) (t :: b.drop (k + 1)) else meetS (s :: a.drop (i + 1)) (b.drop (k + 1))) := by rw [meetS]
   have hmx := small_max hx1.1 hx2.1
   have hmn := small_min hx1.2 hx2.2
   rw [L_piece_Meet_0_1, em]
   dsimp only [lt, Go.Pf.jn]
   simp (discharger := omega) only [e1, e2, rsp_len, cbT, asT, Int.toNat_natCast, rsp_at, hq1, hq2, asR, encR0, encR1, encR2, encR3, later_eq hx1.1 hx2.1, sooner_eq hx1.2 hx2.2, validQ hmx hmn, order_eq hx1.2 hx2.2, cmpQ_le, notLt, decide_true, asr_true, Nat.zero_add, asNo, Bool.true_and]
   by_cases hv : maxR s.1 t.1 < minR s.2 t.2
   · rw [cbT hv, if_pos hv, asT (by show _ ≤ 35184372088832; omega), rsp_one (maxR s.1 t.1, minR s.2 t.2), rsp_app]
     by_cases hle : s.2 ≤ t.2
     · rw [cbT hle, if_pos hle, cast1, IH1 _ (by simp; omega), List.append_assoc]
     · rw [cbF hle, if_neg hle, cast1, IH2 _ (by simp; omega), List.append_assoc]
   · rw [cbF hv, if_neg hv, List.nil_append]
     by_cases hle : s.2 ≤ t.2
     · rw [cbT hle, if_pos hle, cast1, IH1 _ (by omega)]
     · rw [cbF hle, if_neg hle, cast1, IH2 _ (by omega)]
theorem meet0_loop (ha : ∀ s ∈ a, smallS s) (hb : ∀ s ∈ b, smallS s) (hla : a.length < 10000) (hlb : b.length < 10000)
   {x0 : List PV → List PV → Int → Int → Bool → Prop} {x1 : List PV → List PV → List PV → Int → Int → Bool → Prop} {K : List PV → Prop} (hx0 : ∀ i k q, x0 (rsp a) (rsp b) i k q = K []) (hx : ∀ L i k q, x1 L (rsp a) (rsp b) i k q = K L) :
   ∀ (m i k n : Nat), i ≤ a.length → k ≤ b.length → (a.length - i) + (b.length - k) = m → m < n →
     L_piece_Meet_0_0 w_piece_both w_piece_later w_piece_sooner w_piece_valid w_piece_order w_piece_few x0 x1 n (rsp a) (rsp b) (i : Int) (k : Int) = K (rsp (meetS (a.drop i) (b.drop k))) := by
 intro m
 induction m with
 | zero =>
   intro i k n hi hk hm hn
   obtain ⟨n, rfl⟩ : ∃ m, n = m + 1 := ⟨n - 1, by omega⟩
   rw [L_piece_Meet_0_0]
   dsimp only [Go.Pf.jn]
   rw [rsp_len, cbF (by omega), cbr_false, hx0, List.drop_eq_nil_of_le (by omega), meetS_nil]
   rfl
 | succ m ih =>
   intro i k n hi hk hm hn
   obtain ⟨n, rfl⟩ : ∃ m, n = m + 1 := ⟨n - 1, by omega⟩
   by_cases h1 : i < a.length
   case neg =>
     rw [L_piece_Meet_0_0]
     dsimp only [Go.Pf.jn]
     rw [rsp_len, cbF (by omega), cbr_false, hx0, List.drop_eq_nil_of_le (by omega), meetS_nil]
     rfl
   by_cases h2 : k < b.length
   case neg =>
     rw [L_piece_Meet_0_0]
     dsimp only [Go.Pf.jn]
     rw [rsp_len, rsp_len, cbT (by omega), decide_eq_false (by omega), cbr_false, hx0, List.drop_eq_nil_of_le (as := b) (by omega), meetS_nil2]
     rfl
   have e1 := wib (n := (i : Int) + 1) (by omega) (by omega)
   have e2 := wib (n := (k : Int) + 1) (by omega) (by omega)
   have hd1 : a.drop i = a.getD i default :: a.drop (i + 1) := drop_cons default h1
   have hd2 : b.drop k = b.getD k default :: b.drop (k + 1) := drop_cons default h2
   have hx1 := smallS_mem ha h1
   have hx2 := smallS_mem hb h2
   have IH1 := ih (i + 1) k n (by omega) hk (by omega) (by omega)
   have IH2 := ih i (k + 1) n hi (by omega) (by omega) (by omega)
   have JH1 := fun acc' h => meet1_loop ha hb hla hlb (x0 := x0) hx m (i + 1) k n acc' (by omega) hk (by omega) (by omega) h
   have JH2 := fun acc' h => meet1_loop ha hb hla hlb (x0 := x0) hx m i (k + 1) n acc' hi (by omega) (by omega) (by omega) h
   rw [hd2] at IH1 JH1
   rw [hd1] at IH2 JH2
   rw [hd1, hd2]
   generalize hq1 : a.getD i default = s at hx1 IH2 JH2
   generalize hq2 : b.getD k default = t at hx2 IH1 JH1
   have em : meetS (s :: a.drop (i + 1)) (t :: b.drop (k + 1)) = (if maxR s.1 t.1 < minR s.2 t.2 then [(maxR s.1 t.1, minR s.2 t.2)] else []) ++ (if s.2 ≤ t.2 then meetS (a.drop (i + 1)) (t :: b.drop (k + 1)) else meetS (s :: a.drop (i + 1)) (b.drop (k + 1))) := by rw [meetS]
   have hmx := small_max hx1.1 hx2.1
   have hmn := small_min hx1.2 hx2.2
   rw [L_piece_Meet_0_0, em]
   dsimp only [lt, Go.Pf.jn]
   simp (discharger := omega) only [e1, e2, rsp_len, cbT, asT, Int.toNat_natCast, rsp_at, hq1, hq2, asR, encR0, encR1, encR2, encR3, later_eq hx1.1 hx2.1, sooner_eq hx1.2 hx2.2, validQ hmx hmn, order_eq hx1.2 hx2.2, cmpQ_le, notLt]
   by_cases hv : maxR s.1 t.1 < minR s.2 t.2
   · rw [cbT hv, if_pos hv, rsp_one (maxR s.1 t.1, minR s.2 t.2), show (rsp [(maxR s.1 t.1, minR s.2 t.2)]).length = 1 from rfl]
     simp only [decide_true, Bool.true_and, asr_true]
     by_cases hle : s.2 ≤ t.2
     · rw [cbT hle, if_pos hle, cast1, JH1 _ (by simp only [List.length_cons, List.length_nil]; omega)]
     · rw [cbF hle, if_neg hle, cast1, JH2 _ (by simp only [List.length_cons, List.length_nil]; omega)]
   · rw [cbF hv, if_neg hv, List.nil_append]
     by_cases hle : s.2 ≤ t.2
     · rw [cbT hle, if_pos hle, cast1, IH1]
     · rw [cbF hle, if_neg hle, cast1, IH2]
end
theorem rsp_few (l : List RS) (K : List PV → Int → Prop) : w_piece_few (rsp l) K = if l.length > 60 then K [] 4 else K (rsp l) 0 := by
 have := few_eq (l := l.map spOf) K
 rw [List.length_map] at this
 exact this
def fewR (e : Int) (l : List RS) (K : List PV → Int → Prop) : Prop := if e = 0 then (if l.length > 60 then K [] 4 else K (rsp l) 0) else K [] e
theorem Meet_eq {a b : List Sp} (ha : ∀ s ∈ a, s.i64) (hb : ∀ s ∈ b, s.i64) (hla : a.length < 4611686018427387904) (hlb : b.length < 4611686018427387904) (K : List PV → Int → Prop) :
   w_piece_Meet (spans a) (spans b) K = fewR (bothE a b) (meetS (rsL a) (rsL b)) K := by
 have key : ∀ K : List PV → Int → Prop, fewR (bothE a b) (meetS (rsL a) (rsL b)) K → w_piece_Meet (spans a) (spans b) K := by
   intro K k
   unfold w_piece_Meet wv_piece_Meet
   rw [both_eq ha hb hla hlb]
   unfold fewR at k
   by_cases h : bothE a b = 0
   · rw [cnF h]
     rw [if_pos h] at k
     have h2 := h
     unfold bothE at h2
     split at h2
     · rename_i h3
       obtain ⟨l1, o1, _⟩ := pieceE_zero h3
       obtain ⟨l2, o2, _⟩ := pieceE_zero h2
       rw [spans_rsL o1, spans_rsL o2]
       have s1 : ∀ s ∈ rsL a, smallS s := fun s hs => by obtain ⟨t, ht, rfl⟩ := List.mem_map.1 hs; exact rs_small (o1 t ht)
       have s2 : ∀ s ∈ rsL b, smallS s := fun s hs => by obtain ⟨t, ht, rfl⟩ := List.mem_map.1 hs; exact rs_small (o2 t ht)
       have n1 : (rsL a).length = a.length := List.length_map ..
       have n2 : (rsL b).length = b.length := List.length_map ..
       refine ⟨(rsL a).length + (rsL b).length + 1, ?_⟩
       refine (meet0_loop s1 s2 (by omega) (by omega) (K := fun L => w_piece_few L fun L' e => K L' e) (fun _ _ _ => rfl) (fun L i k q => ?_) ((rsL a).length + (rsL b).length) 0 0 _ (by omega) (by omega) (by omega) (by omega)).mpr ?_
       · rw [asE, asT (by omega), List.take_length]
       · rw [List.drop_zero, List.drop_zero]
         rw [rsp_few]
         exact k
     · rename_i h3; exact absurd h2 h3
   · rw [cnT h]
     rw [if_neg h] at k
     exact k
 unfold fewR at key ⊢
 split
 · rename_i h
   simp only [if_pos h] at key
   split
   · rename_i h2; simp only [if_pos h2] at key; exact det_piece_Meet _ _ _ _ key K
   · rename_i h2; simp only [if_neg h2] at key; exact det_piece_Meet _ _ _ _ key K
 · rename_i h
   simp only [if_neg h] at key
   exact det_piece_Meet _ _ _ _ key K
end Go.Pf.Vc
namespace Go.Pf.Vc
open Go Go.Pf
theorem cmpQ_geB (q r : Rat) : decide (cmpQ q r ≥ 0) = decide (r ≤ q) := by
 have := cmpQ_ge q r
 rw [this, notLt]
theorem leB (q r : Rat) : decide (cmpQ q r ≤ 0) = decide (q ≤ r) := by rw [cmpQ_le, notLt]
theorem min1_cons (hi x : Rat) (t : RS) (b : List RS) : min1 hi x (t :: b) = if t.2 ≤ x ∨ hi ≤ t.1 then min1 hi x b else (if x < t.1 then [(x, t.1)] else []) ++ min1 hi t.2 b := rfl
def at1 (hi : Rat) : Rat → List RS → Rat
 | x, [] => x
 | x, t :: b => if t.2 ≤ x ∨ hi ≤ t.1 then at1 hi x b else at1 hi t.2 b
def left1 (hi : Rat) : Rat → List RS → List RS
 | _, [] => []
 | x, t :: b => if t.2 ≤ x ∨ hi ≤ t.1 then left1 hi x b else (if x < t.1 then [(x, t.1)] else []) ++ left1 hi t.2 b
theorem min1_split (hi : Rat) : ∀ (b : List RS) (x : Rat), min1 hi x b = left1 hi x b ++ (if at1 hi x b < hi then [(at1 hi x b, hi)] else [])
 | [], x => rfl
 | t :: b, x => by
   rw [min1_cons]
   unfold left1 at1
   split
   · exact min1_split hi b x
   · rw [min1_split hi b t.2, List.append_assoc]
theorem jn_le {d : Bool} {c : Bool} {k : Bool → Prop} : Go.Pf.jn (fun j => cbr d (j true) (j c)) k = k (d || c) := by cases d <;> rfl
theorem at1_small {hi x : Rat} {b : List RS} (hb : ∀ s ∈ b, smallS s) (hx : small x) : small (at1 hi x b) := by
 induction b generalizing x with
 | nil => exact hx
 | cons t b ih =>
   unfold at1
   split
   · exact ih (fun s hs => hb s (List.mem_cons_of_mem _ hs)) hx
   · exact ih (fun s hs => hb s (List.mem_cons_of_mem _ hs)) (hb t List.mem_cons_self).2
theorem left1_len (hi : Rat) : ∀ (b : List RS) (x : Rat), (left1 hi x b).length ≤ b.length
 | [], _ => Nat.le_refl _
 | t :: b, x => by
   unfold left1
   split
   · have := left1_len hi b x; simp only [List.length_cons]; omega
   · have := left1_len hi b t.2
     rw [List.length_append]
     split
     · simp only [List.length_cons, List.length_nil]; omega
     · simp only [List.length_cons, List.length_nil]; omega
section
variable {b : List RS}
theorem min1_loop (hb : ∀ s ∈ b, smallS s) (hlb : b.length < 10000) {hi : Rat} (hh : small hi) (_ l1 l7 : List PV) (i1 i2 i8 i9 : Int)
   {x0 : List PV → Int → Int → Int → Int → Int → Int → List PV → Int → Int → List PV → Int → Int → Bool → Prop} {x1 : List PV → List PV → Int → Int → Int → Int → Int → Int → List PV → Int → Int → List PV → Int → Int → Bool → Prop} :
   ∀ (r i n : Nat) (acc : List RS) (x : Rat), i + r = b.length → r < n → acc.length ≤ 100000000 + i → small x →
     L_piece_Minus_1_1 w_piece_both w_piece_order w_piece_few x0 x1 n (rsp acc) l1 i1 i2 hi.num hi.den x.num x.den l7 i8 i9 (rsp b) (b.length : Int) (i : Int) =
       x1 (rsp (acc ++ left1 hi x (b.drop i))) l1 i1 i2 hi.num hi.den (at1 hi x (b.drop i)).num (at1 hi x (b.drop i)).den l7 i8 i9 (rsp b) (b.length : Int) (b.length : Int) false := by
 intro r
 induction r with
 | zero =>
   intro i n acc x hi' hn hac hx
   obtain ⟨n, rfl⟩ : ∃ m, n = m + 1 := ⟨n - 1, by omega⟩
   obtain rfl : i = b.length := by omega
   rw [L_piece_Minus_1_1, cbF (by omega), List.drop_length]
   unfold left1 at1
   rw [List.append_nil]
 | succ r ih =>
   intro i n acc x hi' hn hac hx
   obtain ⟨n, rfl⟩ : ∃ m, n = m + 1 := ⟨n - 1, by omega⟩
   have h1 : i < b.length := by omega
   have e1 := wib (n := (i : Int) + 1) (by omega) (by omega)
   have hd1 : b.drop i = b.getD i default :: b.drop (i + 1) := drop_cons default h1
   have hx1 := smallS_mem hb h1
   have IH := fun acc' x' h => ih (i + 1) n acc' x' (by omega) (by omega) h
   rw [hd1]
   generalize hq1 : b.getD i default = t at hx1
   rw [L_piece_Minus_1_1]
   dsimp only [lt]
   simp (discharger := omega) only [rsp_len, cbT, asT, Int.toNat_natCast, rsp_at, hq1, asR, encR0, encR1, encR2, encR3, order_eq hx1.2 hx, order_eq hx1.1 hh, order_eq hx hx1.1, leB, cmpQ_geB, cmpQ_neg, jn_le, e1, decide_true, asr_true, Nat.zero_add, asNo, Bool.true_and]
   dsimp only [Go.Pf.jn]
   unfold left1 at1
   by_cases hc : t.2 ≤ x ∨ hi ≤ t.1
   · have e : (decide (t.2 ≤ x) || decide (hi ≤ t.1)) = true := by rw [Bool.or_eq_true, decide_eq_true_eq, decide_eq_true_eq]; exact hc
     rw [e, cbr_true, if_pos hc, if_pos hc, cast1]
     exact IH acc x (by omega) hx
   · have e : (decide (t.2 ≤ x) || decide (hi ≤ t.1)) = false := by
       rw [Bool.or_eq_false_iff, decide_eq_false_iff_not, decide_eq_false_iff_not]; exact ⟨fun h => hc (.inl h), fun h => hc (.inr h)⟩
     rw [e, cbr_false, if_neg hc, if_neg hc]
     by_cases h2 : x < t.1
     · rw [cbT h2, if_pos h2, asT (by show _ ≤ 35184372088832; omega), rsp_one (x, t.1), rsp_app, cast1, IH _ _ (by simp only [List.length_append, List.length_cons, List.length_nil]; omega) hx1.2, List.append_assoc]
     · rw [cbF h2, if_neg h2, cast1, List.nil_append]
       exact IH acc t.2 (by omega) hx1.2
theorem min0_loop (hb : ∀ s ∈ b, smallS s) (hlb : b.length < 10000) {hi : Rat} (hh : small hi) (l1 l7 : List PV) (i1 i2 i8 i9 : Int)
   {x0 : List PV → Int → Int → Int → Int → Int → Int → List PV → Int → Int → List PV → Int → Int → Bool → Prop} {x1 : List PV → List PV → Int → Int → Int → Int → Int → Int → List PV → Int → Int → List PV → Int → Int → Bool → Prop} :
   ∀ (r i n : Nat) (x : Rat), i + r = b.length → r < n → small x →
     L_piece_Minus_1_0 w_piece_both w_piece_order w_piece_few x0 x1 n l1 i1 i2 hi.num hi.den x.num x.den l7 i8 i9 (rsp b) (b.length : Int) (i : Int) =
       if left1 hi x (b.drop i) = [] then x0 l1 i1 i2 hi.num hi.den (at1 hi x (b.drop i)).num (at1 hi x (b.drop i)).den l7 i8 i9 (rsp b) (b.length : Int) (b.length : Int) false
       else x1 (rsp (left1 hi x (b.drop i))) l1 i1 i2 hi.num hi.den (at1 hi x (b.drop i)).num (at1 hi x (b.drop i)).den l7 i8 i9 (rsp b) (b.length : Int) (b.length : Int) false := by
 intro r
 induction r with
 | zero =>
   intro i n x hi' hn hx
   obtain ⟨n, rfl⟩ : ∃ m, n = m + 1 := ⟨n - 1, by omega⟩
   obtain rfl : i = b.length := by omega
   rw [L_piece_Minus_1_0, cbF (by omega), List.drop_length]
   unfold left1 at1
   rw [if_pos rfl]
 | succ r ih =>
   intro i n x hi' hn hx
   obtain ⟨n, rfl⟩ : ∃ m, n = m + 1 := ⟨n - 1, by omega⟩
   have h1 : i < b.length := by omega
   have e1 := wib (n := (i : Int) + 1) (by omega) (by omega)
   have hd1 : b.drop i = b.getD i default :: b.drop (i + 1) := drop_cons default h1
   have hx1 := smallS_mem hb h1
   have IH := fun x' => ih (i + 1) n x' (by omega) (by omega)
   have JH := fun acc' x' h => min1_loop hb hlb hh [] l1 l7 i1 i2 i8 i9 (x0 := x0) (x1 := x1) r (i + 1) n acc' x' (by omega) (by omega) h
   rw [hd1]
   generalize hq1 : b.getD i default = t at hx1
   rw [L_piece_Minus_1_0]
   dsimp only [lt]
   simp (discharger := omega) only [rsp_len, cbT, asT, Int.toNat_natCast, rsp_at, hq1, asR, encR0, encR1, encR2, encR3, order_eq hx1.2 hx, order_eq hx1.1 hh, order_eq hx hx1.1, leB, cmpQ_geB, cmpQ_neg, jn_le, e1]
   dsimp only [Go.Pf.jn]
   have el : left1 hi x (t :: b.drop (i + 1)) = if t.2 ≤ x ∨ hi ≤ t.1 then left1 hi x (b.drop (i + 1)) else (if x < t.1 then [(x, t.1)] else []) ++ left1 hi t.2 (b.drop (i + 1)) := rfl
   have ea : at1 hi x (t :: b.drop (i + 1)) = if t.2 ≤ x ∨ hi ≤ t.1 then at1 hi x (b.drop (i + 1)) else at1 hi t.2 (b.drop (i + 1)) := rfl
   rw [el, ea]
   by_cases hc : t.2 ≤ x ∨ hi ≤ t.1
   · have e : (decide (t.2 ≤ x) || decide (hi ≤ t.1)) = true := by rw [Bool.or_eq_true, decide_eq_true_eq, decide_eq_true_eq]; exact hc
     rw [e, cbr_true, if_pos hc, if_pos hc, cast1]
     exact IH x hx
   · have e : (decide (t.2 ≤ x) || decide (hi ≤ t.1)) = false := by
       rw [Bool.or_eq_false_iff, decide_eq_false_iff_not, decide_eq_false_iff_not]; exact ⟨fun h => hc (.inl h), fun h => hc (.inr h)⟩
     rw [e, cbr_false, if_neg hc, if_neg hc]
     by_cases h2 : x < t.1
     · rw [cbT h2, if_pos h2, rsp_one (x, t.1), show (rsp [(x, t.1)]).length = 1 from rfl, if_neg (by simp)]
       simp only [decide_true, Bool.true_and, asr_true]
       rw [cast1, JH _ _ (by simp only [List.length_cons, List.length_nil]; omega) hx1.2]
     · rw [cbF h2, if_neg h2, cast1, List.nil_append]
       exact IH t.2 hx1.2
end
end Go.Pf.Vc
namespace Go.Pf.Vc
open Go Go.Pf
section
variable {a b : List RS}
theorem min1_len (hi : Rat) (b : List RS) (x : Rat) : (min1 hi x b).length ≤ b.length + 1 := by
 rw [min1_split, List.length_append]
 have := left1_len hi b x
 split <;> simp only [List.length_cons, List.length_nil] <;> omega
theorem minus_own (ha : ∀ s ∈ a, smallS s) (hb : ∀ s ∈ b, smallS s) (hla : a.length < 1000) (hlb : b.length < 1000)
   {x0 : List PV → List PV → Int → Int → Bool → Prop} {x1 : List PV → List PV → List PV → Int → Int → Bool → Prop} {K : List PV → Prop} (hx : ∀ L i k q, x1 L (rsp b) (rsp a) i k q = K L) :
   ∀ (r i n : Nat) (acc : List RS), i + r = a.length → r < n → acc.length ≤ (b.length + 1) * i → K (rsp (acc ++ minusS (a.drop i) b)) →
     L_piece_Minus_0_1 w_piece_both w_piece_order w_piece_few x0 x1 n (rsp acc) (rsp b) (rsp a) (a.length : Int) (i : Int) := by
 intro r
 induction r with
 | zero =>
   intro i n acc hi hn hac k
   obtain ⟨n, rfl⟩ : ∃ m, n = m + 1 := ⟨n - 1, by omega⟩
   obtain rfl : i = a.length := by omega
   rw [L_piece_Minus_0_1, cbF (by omega), hx]
   rw [List.drop_length] at k
   unfold minusS at k
   rw [List.flatMap_nil, List.append_nil] at k
   exact k
 | succ r ih =>
   intro i n acc hi hn hac k
   obtain ⟨n, rfl⟩ : ∃ m, n = m + 1 := ⟨n - 1, by omega⟩
   have h1 : i < a.length := by omega
   have e1 := wib (n := (i : Int) + 1) (by omega) (by omega)
   have hd1 : a.drop i = a.getD i default :: a.drop (i + 1) := drop_cons default h1
   have hx1 := smallS_mem ha h1
   have hml := min1_len (a.getD i default).2 b (a.getD i default).1
   have hll := left1_len (a.getD i default).2 b (a.getD i default).1
   have hmul : (b.length + 1) * (i + 1) = (b.length + 1) * i + (b.length + 1) := Nat.mul_succ _ _
   have hbig : (b.length + 1) * i ≤ 1000 * 1000 := Nat.mul_le_mul (by omega) (by omega)
   have IH := fun acc' h => ih (i + 1) n acc' (by omega) (by omega) h
   rw [hd1] at k
   unfold minusS at k
   rw [List.flatMap_cons, min1_split, List.append_assoc, ← List.append_assoc] at k
   generalize hq1 : a.getD i default = t at hx1 k hml hll
   have hat := at1_small (hi := t.2) hb hx1.1
   rw [L_piece_Minus_0_1, cbT (by omega)]
   dsimp only [Go.Pf.jn]
   rw [rsp_len, asT (by omega), asT (by omega), Int.toNat_natCast, rsp_at h1, hq1]
   show asr (conf (.agg [.i .i64, .i .i64, .i .i64, .i .i64]) (encR t)) _
   rw [asR, encR0, encR1, encR2, encR3, asEE, asE, rsp_len]
   refine ⟨b.length + 1, ?_⟩
   refine (min1_loop hb (by omega) hx1.2 [] _ _ _ _ _ _ b.length 0 (b.length + 1) acc t.1 (by omega) (by omega) (by omega) hx1.1).mpr ?_
   rw [List.drop_zero]
   show w_piece_order (at1 t.2 t.1 b).num (at1 t.2 t.1 b).den t.2.num t.2.den _
   rw [order_eq hat hx1.2, cmpQ_neg]
   have hlen : (rsp (acc ++ left1 t.2 t.1 b)).length = acc.length + (left1 t.2 t.1 b).length := by rw [rsp_len, List.length_append]
   by_cases h2 : at1 t.2 t.1 b < t.2
   · rw [if_pos h2] at k
     rw [cbT h2, hlen, asE, asT (by omega), asNo (by omega), asE, asT (by show _ ≤ 35184372088832; omega), rsp_one (at1 t.2 t.1 b, t.2), rsp_app]
     show asr _ (L_piece_Minus_0_1 w_piece_both w_piece_order w_piece_few x0 x1 n _ (rsp b) (rsp a) (a.length : Int) (IntKind.i64.wrap ((i : Int) + 1)))
     rw [asEE, asE, e1, cast1]
     refine IH _ (by simp only [List.length_append, List.length_cons, List.length_nil]; omega) ?_
     rw [List.append_assoc (acc ++ left1 t.2 t.1 b)]
     exact k
   · rw [if_neg h2, List.nil_append] at k
     rw [cbF h2]
     show asr _ (L_piece_Minus_0_1 w_piece_both w_piece_order w_piece_few x0 x1 n _ (rsp b) (rsp a) (a.length : Int) (IntKind.i64.wrap ((i : Int) + 1)))
     rw [asEE, asE, e1, cast1]
     exact IH _ (by simp only [List.length_append]; omega) k
theorem minus_nil (ha : ∀ s ∈ a, smallS s) (hb : ∀ s ∈ b, smallS s) (hla : a.length < 1000) (hlb : b.length < 1000)
   {x0 : List PV → List PV → Int → Int → Bool → Prop} {x1 : List PV → List PV → List PV → Int → Int → Bool → Prop} {K : List PV → Prop} (hx0 : ∀ i k q, x0 (rsp b) (rsp a) i k q = K []) (hx : ∀ L i k q, x1 L (rsp b) (rsp a) i k q = K L) :
   ∀ (r i n : Nat), i + r = a.length → r < n → K (rsp (minusS (a.drop i) b)) →
     L_piece_Minus_0_0 w_piece_both w_piece_order w_piece_few x0 x1 n (rsp b) (rsp a) (a.length : Int) (i : Int) := by
 intro r
 induction r with
 | zero =>
   intro i n hi hn k
   obtain ⟨n, rfl⟩ : ∃ m, n = m + 1 := ⟨n - 1, by omega⟩
   obtain rfl : i = a.length := by omega
   rw [L_piece_Minus_0_0, cbF (by omega), hx0]
   rw [List.drop_length] at k
   exact k
 | succ r ih =>
   intro i n hi hn k
   obtain ⟨n, rfl⟩ : ∃ m, n = m + 1 := ⟨n - 1, by omega⟩
   have h1 : i < a.length := by omega
   have e1 := wib (n := (i : Int) + 1) (by omega) (by omega)
   have hd1 : a.drop i = a.getD i default :: a.drop (i + 1) := drop_cons default h1
   have hx1 := smallS_mem ha h1
   have hll := left1_len (a.getD i default).2 b (a.getD i default).1
   have hmul : (b.length + 1) * (i + 1) = (b.length + 1) * i + (b.length + 1) := Nat.mul_succ _ _
   have IH := ih (i + 1) n (by omega) (by omega)
   have JH := fun acc' h => minus_own ha hb hla hlb (x0 := x0) hx r (i + 1) n acc' (by omega) (by omega) h
   rw [hd1] at k
   unfold minusS at k
   rw [List.flatMap_cons, min1_split] at k
   generalize hq1 : a.getD i default = t at hx1 k hll
   have hat := at1_small (hi := t.2) hb hx1.1
   rw [L_piece_Minus_0_0, cbT (by omega)]
   dsimp only [Go.Pf.jn]
   rw [rsp_len, asT (by omega), asT (by omega), Int.toNat_natCast, rsp_at h1, hq1]
   show asr (conf (.agg [.i .i64, .i .i64, .i .i64, .i .i64]) (encR t)) _
   rw [asR, encR0, encR1, encR2, encR3, rsp_len]
   refine ⟨b.length + 1, ?_⟩
   refine (min0_loop hb (by omega) hx1.2 _ _ _ _ _ _ b.length 0 (b.length + 1) t.1 (by omega) (by omega) hx1.1).mpr ?_
   rw [List.drop_zero]
   by_cases hl : left1 t.2 t.1 b = []
   · rw [if_pos hl]
     rw [hl, List.nil_append] at k
     show w_piece_order (at1 t.2 t.1 b).num (at1 t.2 t.1 b).den t.2.num t.2.den _
     rw [order_eq hat hx1.2, cmpQ_neg]
     by_cases h2 : at1 t.2 t.1 b < t.2
     · rw [if_pos h2] at k
       rw [cbT h2, rsp_one (at1 t.2 t.1 b, t.2)]
       show asr _ (L_piece_Minus_0_1 w_piece_both w_piece_order w_piece_few x0 x1 n _ (rsp b) (rsp a) (a.length : Int) (IntKind.i64.wrap ((i : Int) + 1)))
       rw [asEE, asE, e1, cast1]
       exact JH _ (by simp only [List.length_cons, List.length_nil]; omega) k
     · rw [if_neg h2, List.nil_append] at k
       rw [cbF h2]
       show L_piece_Minus_0_0 w_piece_both w_piece_order w_piece_few x0 x1 n (rsp b) (rsp a) (a.length : Int) (IntKind.i64.wrap ((i : Int) + 1))
       rw [e1, cast1]
       exact IH k
   · rw [if_neg hl]
     show w_piece_order (at1 t.2 t.1 b).num (at1 t.2 t.1 b).den t.2.num t.2.den _
     rw [order_eq hat hx1.2, cmpQ_neg]
     have hlen : (rsp (left1 t.2 t.1 b)).length = (left1 t.2 t.1 b).length := rsp_len _
     by_cases h2 : at1 t.2 t.1 b < t.2
     · rw [if_pos h2] at k
       rw [cbT h2, hlen, asE, asT (by omega), asNo (by omega), asE, asT (by show _ ≤ 35184372088832; omega), rsp_one (at1 t.2 t.1 b, t.2), rsp_app]
       show asr _ (L_piece_Minus_0_1 w_piece_both w_piece_order w_piece_few x0 x1 n _ (rsp b) (rsp a) (a.length : Int) (IntKind.i64.wrap ((i : Int) + 1)))
       rw [asEE, asE, e1, cast1]
       exact JH _ (by simp only [List.length_append, List.length_cons, List.length_nil]; omega) k
     · rw [if_neg h2, List.append_nil] at k
       rw [cbF h2]
       show asr _ (L_piece_Minus_0_1 w_piece_both w_piece_order w_piece_few x0 x1 n _ (rsp b) (rsp a) (a.length : Int) (IntKind.i64.wrap ((i : Int) + 1)))
       rw [asEE, asE, e1, cast1]
       exact JH _ (by omega) k
end
theorem both_zero {a b : List Sp} (h : bothE a b = 0) : a.length ≤ 60 ∧ b.length ≤ 60 ∧ (∀ s ∈ a, s.ok) ∧ (∀ s ∈ b, s.ok) ∧ canon (rsL a) ∧ canon (rsL b) ∧ (∀ s ∈ rsL a, smallS s) ∧ (∀ s ∈ rsL b, smallS s) ∧ spans a = rsp (rsL a) ∧ spans b = rsp (rsL b) ∧ (rsL a).length = a.length ∧ (rsL b).length = b.length := by
 unfold bothE at h
 split at h
 · rename_i h3
   obtain ⟨l1, o1, c1⟩ := pieceE_zero h3
   obtain ⟨l2, o2, c2⟩ := pieceE_zero h
   exact ⟨l1, l2, o1, o2, c1, c2, fun s hs => by obtain ⟨t, ht, rfl⟩ := List.mem_map.1 hs; exact rs_small (o1 t ht), fun s hs => by obtain ⟨t, ht, rfl⟩ := List.mem_map.1 hs; exact rs_small (o2 t ht), spans_rsL o1, spans_rsL o2, List.length_map .., List.length_map ..⟩
 · rename_i h3; exact absurd h h3
theorem few_det {w : (List PV → Int → Prop) → Prop} {e : Int} {l : List RS} (det : ∀ r0 r1, (∀ K : List PV → Int → Prop, K r0 r1 → w K) → ∀ K, w K = K r0 r1) (key : ∀ K, fewR e l K → w K) (K : List PV → Int → Prop) : w K = fewR e l K := by
 unfold fewR at key ⊢
 split
 · rename_i h
   simp only [if_pos h] at key
   split
   · rename_i h2; simp only [if_pos h2] at key; exact det _ _ key K
   · rename_i h2; simp only [if_neg h2] at key; exact det _ _ key K
 · rename_i h
   simp only [if_neg h] at key
   exact det _ _ key K
theorem Minus_eq {a b : List Sp} (ha : ∀ s ∈ a, s.i64) (hb : ∀ s ∈ b, s.i64) (hla : a.length < 4611686018427387904) (hlb : b.length < 4611686018427387904) (K : List PV → Int → Prop) :
   w_piece_Minus (spans a) (spans b) K = fewR (bothE a b) (minusS (rsL a) (rsL b)) K := by
 refine few_det (fun r0 r1 h K => det_piece_Minus _ _ r0 r1 h K) (fun K k => ?_) K
 unfold w_piece_Minus wv_piece_Minus
 rw [both_eq ha hb hla hlb]
 unfold fewR at k
 by_cases h : bothE a b = 0
 · rw [cnF h]
   rw [if_pos h] at k
   obtain ⟨l1, l2, _, _, _, _, s1, s2, e1, e2, n1, n2⟩ := both_zero h
   rw [e1, e2, rsp_len]
   refine ⟨(rsL a).length + 1, ?_⟩
   refine minus_nil s1 s2 (by omega) (by omega) (K := fun L => w_piece_few L fun L' e => K L' e) (fun _ _ _ => rfl) (fun L i k q => ?_) (rsL a).length 0 _ (by omega) (by omega) ?_
   · rw [asE, asT (by omega), List.take_length]
   · rw [List.drop_zero, rsp_few]
     exact k
 · rw [cnT h]
   rw [if_neg h] at k
   exact k
end Go.Pf.Vc
namespace Go.Pf.Vc
open Go Go.Pf
theorem rsp_head (l : List RS) : headOk 4 (rsp l) = true := by cases l <;> rfl
theorem rsp_empty (l : List RS) : List.isEmpty (rsp l) = List.isEmpty l := by cases l <;> rfl
theorem datData (l : List PV) : datOfV (.data l) = l := rfl
theorem asDt (l : List PV) (P : Prop) : asr (conf (.one (.d)) (.data l)) P = P := rfl
section
variable {a b : List RS}
theorem cat_size (hla : a.length < 1000) (hlb : b.length < 1000) {x0 : List PV → Int → List PV → Int → Int → Bool → Prop} (l0 : List PV) :
   L_piece_Union_0_0 w_piece_both w_piece_merged w_piece_few x0 3 l0 0 ([(.data (rsp a)), (.data (rsp b))] : List PV) 2 0 = x0 l0 ((a.length + b.length : Nat) : Int) ([(.data (rsp a)), (.data (rsp b))] : List PV) 2 2 false := by
 have e0 : IntKind.i64.wrap ((0 : Int) + 1) = 1 := by decide
 have e1 : IntKind.i64.wrap ((1 : Int) + 1) = 2 := by decide
 have e2 := wib (n := (a.length : Int)) (by omega) (by omega)
 have e3 := wib (n := (a.length : Int) + (b.length : Int)) (by omega) (by omega)
 have d0 : List.getD ([(.data (rsp a)), (.data (rsp b))] : List PV) (0 : Int).toNat .nils = .data (rsp a) := rfl
 have d1 : List.getD ([(.data (rsp a)), (.data (rsp b))] : List PV) (1 : Int).toNat .nils = .data (rsp b) := rfl
 rw [L_piece_Union_0_0, cbT (by omega), asT (by omega), asT (by simp)]
 dsimp only [lt]
 rw [d0, asDt]
 rw [datData, rsp_len, Int.zero_add, e2, cbF (by omega), e0, L_piece_Union_0_0, cbT (by omega), asT (by omega), asT (by simp)]
 dsimp only [lt]
 rw [d1, asDt]
 rw [datData, rsp_len, e3, cbF (by omega), e1, L_piece_Union_0_0, cbF (by omega), Int.natCast_add]
theorem cat_own (hla : a.length < 1000) (hlb : b.length < 1000) {x0 : List PV → Int → Int → Bool → Prop} {x1 : List PV → Nat → List PV → Int → Int → Bool → Prop} (z : PV) :
   L_piece_Union_1_1 w_piece_both w_piece_merged w_piece_few x0 x1 3 (List.replicate (a.length + b.length) z) 0 ([(.data (rsp a)), (.data (rsp b))] : List PV) 2 0 = x1 (rsp (a ++ b)) (a.length + b.length) ([(.data (rsp a)), (.data (rsp b))] : List PV) 2 2 false := by
 have e0 : IntKind.i64.wrap ((0 : Int) + 1) = 1 := by decide
 have e1 : IntKind.i64.wrap ((1 : Int) + 1) = 2 := by decide
 have d0 : List.getD ([(.data (rsp a)), (.data (rsp b))] : List PV) (0 : Int).toNat .nils = .data (rsp a) := rfl
 have d1 : List.getD ([(.data (rsp a)), (.data (rsp b))] : List PV) (1 : Int).toNat .nils = .data (rsp b) := rfl
 have first : L_piece_Union_1_1 w_piece_both w_piece_merged w_piece_few x0 x1 3 (List.replicate (a.length + b.length) z) 0 ([(.data (rsp a)), (.data (rsp b))] : List PV) 2 0 =
     L_piece_Union_1_1 w_piece_both w_piece_merged w_piece_few x0 x1 2 (rsp a ++ List.replicate b.length z) a.length ([(.data (rsp a)), (.data (rsp b))] : List PV) 2 1 := by
   rw [L_piece_Union_1_1, cbT (by omega), asT (by omega), asT (by simp)]
   dsimp only [lt]
   rw [d0, asDt]
   rw [datData, rsp_head, asr_true, asE, asT (by omega), rsp_empty, e0]
   cases a with
   | nil =>
     rw [show List.isEmpty ([] : List RS) = true from rfl, cbr_true, asE]
     simp only [List.length_nil, Nat.zero_add]
     rfl
   | cons s r =>
     rw [show List.isEmpty (s :: r) = false from rfl, cbr_false, rsp_len, List.length_replicate, asT (by omega)]
     have e : List.take (0 + 0) (List.replicate ((s :: r).length + b.length) z) ++ (rsp (s :: r) ++ List.drop (0 + 0 + (s :: r).length) (List.replicate ((s :: r).length + b.length) z)) = rsp (s :: r) ++ List.replicate b.length z := by
       rw [Nat.zero_add, List.take_zero, List.nil_append, Nat.zero_add, List.drop_replicate, Nat.add_sub_cancel_left]
     rw [e, Nat.zero_add, asT (by rw [List.length_append, rsp_len, List.length_replicate])]
 have second : L_piece_Union_1_1 w_piece_both w_piece_merged w_piece_few x0 x1 2 (rsp a ++ List.replicate b.length z) a.length ([(.data (rsp a)), (.data (rsp b))] : List PV) 2 1 =
     L_piece_Union_1_1 w_piece_both w_piece_merged w_piece_few x0 x1 1 (rsp (a ++ b)) (a.length + b.length) ([(.data (rsp a)), (.data (rsp b))] : List PV) 2 2 := by
   have hl : (rsp a ++ List.replicate b.length z).length = a.length + b.length := by rw [List.length_append, rsp_len, List.length_replicate]
   rw [L_piece_Union_1_1, cbT (by omega), asT (by omega), asT (by simp)]
   dsimp only [lt]
   rw [d1, asDt]
   rw [datData, rsp_head, asr_true, asE, hl, asT (by omega), rsp_empty, e1]
   cases b with
   | nil =>
     rw [show List.isEmpty ([] : List RS) = true from rfl, cbr_true, asE]
     simp only [List.length_nil, Nat.add_zero, List.replicate_zero, List.append_nil]
   | cons s r =>
     rw [show List.isEmpty (s :: r) = false from rfl, cbr_false, rsp_len, asT (by omega)]
     have e : List.take (0 + a.length) (rsp a ++ List.replicate (s :: r).length z) ++ (rsp (s :: r) ++ List.drop (0 + a.length + (s :: r).length) (rsp a ++ List.replicate (s :: r).length z)) = rsp (a ++ s :: r) := by
       rw [Nat.zero_add, List.take_left' (rsp_len a), List.drop_eq_nil_of_le (by rw [hl]; exact Nat.le_refl _), List.append_nil, rsp_app]
     rw [e, asT (by rw [rsp_len, List.length_append])]
 rw [first, second, L_piece_Union_1_1, cbF (by omega)]
end
theorem joinR_zero {a b : List RS} {q : Rat} : selF a b 0 q = true ↔ (memP a q ∨ memP b q) := by
 show (inB a q || inB b q) = true ↔ _
 rw [Bool.or_eq_true, inB_iff, inB_iff]
theorem joinR_one {a b : List RS} {q : Rat} : selF a b 1 q = true ↔ (memP a q ∧ memP b q) := by
 show (inB a q && inB b q) = true ↔ _
 rw [Bool.and_eq_true, inB_iff, inB_iff]
theorem joinR_two {a b : List RS} {q : Rat} : selF a b 2 q = true ↔ (memP a q ∧ ¬ memP b q) := by
 show (inB a q && !inB b q) = true ↔ _
 rw [Bool.and_eq_true, inB_iff, Bool.not_eq_true', ← Bool.not_eq_true, inB_iff]
theorem canon_lt {l : List RS} (h : canon l) : ∀ s ∈ l, s.1 < s.2 := by
 induction l with
 | nil => intro s hs; cases hs
 | cons t r ih =>
   intro s hs
   rcases List.mem_cons.1 hs with rfl | hs
   · exact h.1
   · exact ih h.2.2 s hs
def setR (a b : List RS) (how : Int) : List RS := joinR (selF a b how) a b
theorem Union_eq {a b : List Sp} (ha : ∀ s ∈ a, s.i64) (hb : ∀ s ∈ b, s.i64) (hla : a.length < 4611686018427387904) (hlb : b.length < 4611686018427387904) (K : List PV → Int → Prop) :
   w_piece_Union (spans a) (spans b) K = fewR (bothE a b) (setR (rsL a) (rsL b) 0) K := by
 refine few_det (fun r0 r1 h K => det_piece_Union _ _ r0 r1 h K) (fun K k => ?_) K
 unfold w_piece_Union wv_piece_Union
 rw [both_eq ha hb hla hlb]
 unfold fewR at k
 by_cases h : bothE a b = 0
 case neg =>
   rw [cnT h]
   rw [if_neg h] at k
   exact k
 rw [cnF h]
 rw [if_pos h] at k
 obtain ⟨l1, l2, _, _, c1, c2, s1, s2, e1, e2, n1, n2⟩ := both_zero h
 rw [e1, e2]
 have sab : ∀ s ∈ rsL a ++ rsL b, smallS s := fun s hs => by
   rcases List.mem_append.1 hs with hs | hs
   · exact s1 s hs
   · exact s2 s hs
 have vab : ∀ s ∈ rsL a ++ rsL b, s.1 < s.2 := fun s hs => by
   rcases List.mem_append.1 hs with hs | hs
   · exact canon_lt c1 s hs
   · exact canon_lt c2 s hs
 obtain ⟨l', hp, hf, hm⟩ := merged_eq sab vab (by rw [List.length_append]; omega)
 have hj : mergeS l' = setR (rsL a) (rsL b) 0 := either_eq c1 c2 (fun s hs => vab s (hp.mem_iff.1 hs)) (fun s => hp.mem_iff) hf (fun x => joinR_zero)
 rw [hj] at hm
 have key : w_piece_merged (rsp (rsL a ++ rsL b)) (fun L => w_piece_few L fun L' e => K L' e) := by
   rw [hm, rsp_few]
   exact k
 dsimp only [Go.Pf.jn]
 refine ⟨3, ?_⟩
 have z0 : IntKind.i64.wrap (((((rsL a).length + (rsL b).length : Nat) : Int)) - 0) = (((rsL a).length + (rsL b).length : Nat) : Int) := by
   rw [Int.sub_zero]; exact wib (by omega) (by omega)
 refine (cat_size (by omega) (by omega) _).mpr ?_
 rw [cbF (by omega)]
 dsimp only [lt]
 rw [z0]
 by_cases h0 : (rsL a).length + (rsL b).length = 0
 · have ea : rsL a = [] := List.eq_nil_of_length_eq_zero (by omega)
   have eb : rsL b = [] := List.eq_nil_of_length_eq_zero (by omega)
   rw [cbF (by omega)]
   rw [ea, eb] at key ⊢
   have e3 : IntKind.i64.wrap ((0 : Int) + 1) = 1 := by decide
   have e4 : IntKind.i64.wrap ((1 : Int) + 1) = 2 := by decide
   refine ⟨3, ?_⟩
   show L_piece_Union_1_0 _ _ _ _ _ (2 + 1) ([(.data []), (.data [])] : List PV) 2 0
   rw [L_piece_Union_1_0, cbT (by omega), asT (by omega), asT (by simp)]
   dsimp only [lt]
   rw [show List.getD ([(.data []), (.data [])] : List PV) (0 : Int).toNat .nils = .data [] from rfl, asDt]
   show asr true (cbr true (L_piece_Union_1_0 _ _ _ _ _ (1 + 1) ([(.data []), (.data [])] : List PV) 2 (IntKind.i64.wrap ((0 : Int) + 1))) _)
   rw [asr_true, cbr_true, e3, L_piece_Union_1_0, cbT (by omega), asT (by omega), asT (by simp)]
   dsimp only [lt]
   rw [show List.getD ([(.data []), (.data [])] : List PV) (1 : Int).toNat .nils = .data [] from rfl, asDt]
   show asr true (cbr true (L_piece_Union_1_0 _ _ _ _ _ (0 + 1) ([(.data []), (.data [])] : List PV) 2 (IntKind.i64.wrap ((1 : Int) + 1))) _)
   rw [asr_true, cbr_true, e4, L_piece_Union_1_0, cbF (by omega)]
   exact key
 · rw [cbT (by omega), asT (by omega), Int.toNat_natCast, cbF h0, List.length_replicate, asT (by show _ ≤ 35184372088832; omega), asTT (by rw [decide_eq_true (by omega)]; rfl), asE]
   refine ⟨3, ?_⟩
   refine (cat_own (by omega) (by omega) _).mpr ?_
   rw [rsp_len, List.length_append, asE, asT (by omega), List.take_of_length_le (by rw [rsp_len, List.length_append]; exact Nat.le_refl _)]
   exact key
theorem rSet_eq {a b : List Sp} (ha : ∀ s ∈ a, s.i64) (hb : ∀ s ∈ b, s.i64) (hla : a.length < 4611686018427387904) (hlb : b.length < 4611686018427387904) (how : Int) (K : List PV → Int → Prop) :
   w_r03_set (spans a) (spans b) how K = fewR (bothE a b) (setR (rsL a) (rsL b) how) K := by
 unfold w_r03_set wv_r03_set fewR
 rw [rBoth3_eq ha hb hla hlb]
 by_cases h : bothE a b = 0
 · obtain ⟨l1, l2, _, _, c1, c2, s1, s2, e1, e2, n1, n2⟩ := both_zero h
   rw [cnF h, if_pos h, e1, e2, rJoined_eq s1 s2 (by omega) (by omega), rsp_len]
   show cbr (decide ((((setR (rsL a) (rsL b) how).length : Nat) : Int) > 60)) (K [] 4) (K (rsp (setR (rsL a) (rsL b) how)) 0) = _
   by_cases h2 : (setR (rsL a) (rsL b) how).length > 60
   · rw [cbT (by omega), if_pos h2]
   · rw [cbF (by omega), if_neg h2]
 · rw [cnT h, if_neg h, rBoth3_eq ha hb hla hlb]
theorem Meet_set {a b : List Sp} (ha : ∀ s ∈ a, s.i64) (hb : ∀ s ∈ b, s.i64) (hla : a.length < 4611686018427387904) (hlb : b.length < 4611686018427387904) (K : List PV → Int → Prop) :
   w_piece_Meet (spans a) (spans b) K = fewR (bothE a b) (setR (rsL a) (rsL b) 1) K := by
 rw [Meet_eq ha hb hla hlb]
 unfold fewR
 split
 · rename_i h
   obtain ⟨_, _, _, _, c1, c2, _⟩ := both_zero h
   rw [common_eq c1 c2 (fun x => joinR_one)]
   rfl
 · rfl
theorem Minus_set {a b : List Sp} (ha : ∀ s ∈ a, s.i64) (hb : ∀ s ∈ b, s.i64) (hla : a.length < 4611686018427387904) (hlb : b.length < 4611686018427387904) (K : List PV → Int → Prop) :
   w_piece_Minus (spans a) (spans b) K = fewR (bothE a b) (setR (rsL a) (rsL b) 2) K := by
 rw [Minus_eq ha hb hla hlb]
 unfold fewR
 split
 · rename_i h
   obtain ⟨_, _, _, _, c1, c2, _⟩ := both_zero h
   rw [without_eq c1 c2 (fun x => joinR_two)]
   rfl
 · rfl
end Go.Pf.Vc
namespace Go.Pf.Vc
open Go Go.Pf
def dsS : DS := .a [dsR, dsR]
theorem F_s {c : List PV} (h : HasF dsS c) : ∃ s : Sp, c = [.int .i64 s.a, .int .i64 s.b, .int .i64 s.c, .int .i64 s.d] ∧ s.i64 := by
 simp only [dsS, dsR, HasF, HasL] at h
 obtain ⟨_, _, rfl, ⟨_, _, rfl, ⟨a, rfl, ha⟩, _, _, rfl, ⟨b, rfl, hb⟩, rfl⟩, _, _, rfl, ⟨_, _, rfl, ⟨c, rfl, hc⟩, _, _, rfl, ⟨d, rfl, hd⟩, rfl⟩, rfl⟩ := h
 exact ⟨⟨a, b, c, d⟩, rfl, inK_i64 ha, inK_i64 hb, inK_i64 hc, inK_i64 hd⟩
theorem spans_of : ∀ (rows : List PV), (∀ x ∈ rows, x.isAgg = dsS.isA ∧ HasF dsS x.cells) → ∃ l : List Sp, rows = spans l ∧ ∀ s ∈ l, s.i64
 | [], _ => ⟨[], rfl, by simp⟩
 | x :: r, h => by
   obtain ⟨l, e, hl⟩ := spans_of r (fun y hy => h y (List.mem_cons_of_mem _ hy))
   obtain ⟨h1, h2⟩ := h x (List.mem_cons_self ..)
   obtain ⟨k, e2, hk⟩ := F_s h2
   have ex : x = encS k := by rw [agg_of h1, e2]; rfl
   refine ⟨k :: l, by rw [ex, e]; rfl, ?_⟩
   intro m hm
   rcases List.mem_cons.1 hm with rfl | hm
   · exact hk
   · exact hl m hm
theorem F_spans {c : List PV} (h : HasF (.s dsS) c) : ∃ l : List Sp, c = [.data (spans l)] ∧ l.length ≤ 9223372036854775807 ∧ ∀ s ∈ l, s.i64 := by
 simp only [HasF] at h
 obtain ⟨rows, rfl, hl, hr⟩ := h
 obtain ⟨l, rfl, hi⟩ := spans_of rows hr
 rw [spans_len] at hl
 exact ⟨l, rfl, hl, hi⟩
theorem A_spans2 {as : List PV} (h : HasAs [.s dsS, .s dsS] as) : ∃ (a b : List Sp), as = [.data (spans a), .data (spans b)] ∧ (∀ s ∈ a, s.i64) ∧ ∀ s ∈ b, s.i64 := by
 simp only [HasAs] at h
 obtain ⟨x, _, rfl, x1, x2, y, _, rfl, y1, y2, rfl⟩ := h
 obtain ⟨a, e1, _, ha⟩ := F_spans x2
 obtain ⟨b, e2, _, hb⟩ := F_spans y2
 rw [single_of x1 e1, single_of y1 e2]
 exact ⟨a, b, rfl, ha, hb⟩
def greatS (l : List Sp) : Bool := decide (l.length > 20 ∧ l.length ≤ 60 ∨ l.length > 70)
theorem gGreat_eq (l : List Sp) (K : Bool → Prop) : w_r03_Great (spans l) K = K (greatS l) := by
 unfold w_r03_Great wv_r03_Great greatS
 dsimp only [Go.Pf.jn]
 rw [spans_len]
 by_cases h : l.length > 20
 · rw [cbT (by omega)]
   by_cases h2 : l.length ≤ 60
   · rw [cbT (by omega), decide_eq_true (by omega)]
   · rw [cbF (by omega)]
     congr 1
     rw [decide_eq_decide]; omega
 · rw [cbF (by omega)]
   congr 1
   rw [decide_eq_decide]; omega
theorem greatS_low {l : List Sp} (h : greatS l = false) : l.length ≤ 70 ∧ (l.length ≤ 60 → l.length ≤ 20) := by
 unfold greatS at h
 rw [decide_eq_false_iff_not] at h
 omega
theorem fewR_two {e : Int} {l : List RS} {K : List PV → Int → List PV → Int → Prop} (h : ∀ (s : List Sp) e, s.length ≤ 60 → K (spans s) e (spans s) e) : fewR e l (fun L x => fewR e l (fun L' x' => K L x L' x')) := by
 unfold fewR
 split
 · split
   · exact h [] _ (by simp)
   · exact h (l.map spOf) _ (by rw [List.length_map]; omega)
 · exact h [] _ (by simp)
theorem PieceSets_ok {a b : List Sp} (ha : ∀ s ∈ a, s.i64) (hb : ∀ s ∈ b, s.i64) : w_l03_PieceSets (spans a) (spans b) (fun b => b = true) := by
 unfold w_l03_PieceSets wv_l03_PieceSets
 dsimp only [Go.Pf.jn]
 rw [gGreat_eq]
 cases hga : greatS a with
 | true => rw [cbr_true, cbr_true]
 | false =>
   rw [cbr_false, gGreat_eq]
   cases hgb : greatS b with
   | true => rw [cbr_true]
   | false =>
     obtain ⟨la, _⟩ := greatS_low hga
     obtain ⟨lb, _⟩ := greatS_low hgb
     rw [cbr_false, Union_eq ha hb (by omega) (by omega)]
     unfold w_r03_Union wv_r03_Union w_r03_Meet wv_r03_Meet w_r03_Minus wv_r03_Minus
     simp only [rSet_eq ha hb (show a.length < 4611686018427387904 by omega) (show b.length < 4611686018427387904 by omega), Meet_set ha hb (show a.length < 4611686018427387904 by omega) (show b.length < 4611686018427387904 by omega), Minus_set ha hb (show a.length < 4611686018427387904 by omega) (show b.length < 4611686018427387904 by omega)]
     refine fewR_two fun s e hs => ?_
     refine fewR_two fun s2 e2 hs2 => ?_
     refine fewR_two fun s3 e3 hs3 => ?_
     rw [cSame_self (by omega), cbr_true, ceT rfl, cSame_self (by omega), cbr_true, ceT rfl, cSame_self (by omega), cbr_true]
     simp
end Go.Pf.Vc
namespace Go.Pf.Vc
open Go Go.Pf
theorem cmpI_Q {a b c d : Int} (h : RV a b) (k : RV c d) : cmpI a b c d = cmpQ (rt a b) (rt c d) := by
 obtain ⟨_, h2, h3⟩ := rt_of h
 obtain ⟨_, k2, k3⟩ := rt_of k
 unfold cmpI cmpQ
 simp only [Rat.lt_iff, h2, h3, k2, k3]
theorem sp_cells : ∀ {cs : List PV}, okL [.i64, .i64, .i64, .i64] cs = true → ∃ a b c d, cs = [.int .i64 a, .int .i64 b, .int .i64 c, .int .i64 d]
 | [], h => by cases h
 | [x], h => by cases x <;> simp [okL] at h
 | [x, y], h => by cases x <;> cases y <;> simp [okL] at h
 | [x, y, z], h => by cases x <;> cases y <;> cases z <;> simp [okL] at h
 | x :: y :: z :: u :: w, h => by
   cases x <;> first | (simp [okL] at h; done) | skip
   cases y <;> first | (simp [okL] at h; done) | skip
   cases z <;> first | (simp [okL] at h; done) | skip
   cases u <;> first | (simp [okL] at h; done) | skip
   simp only [okL, Bool.and_eq_true, decide_eq_true_eq] at h
   obtain ⟨rfl, _, _, rfl, _, _, rfl, _, _, rfl, _, _, h⟩ := h
   cases w with
   | nil => exact ⟨_, _, _, _, rfl⟩
   | cons p q => simp [okL] at h
theorem gd_sp {n g : Nat} {x : PV} (h : (spSrt n g).s.gd x = true) : ∃ a b c d, x = .agg [.int .i64 a, .int .i64 b, .int .i64 c, .int .i64 d] ∧ RV a b := by
 simp only [Srt.gd, Bool.and_eq_true] at h
 have h1 : okI [.i64, .i64, .i64, .i64] x = true := h.1
 have h2 : spGood x = true := h.2
 clear h
 cases x <;> first | (simp [okI] at h1; done) | skip
 obtain ⟨a, b, c, d, rfl⟩ := sp_cells (h1 : okL _ _ = true)
 exact ⟨a, b, c, d, rfl, rvB_iff.1 h2⟩
theorem merged1_ans {n g : Nat} (e : List (Nat × EffF)) (he : EG e) {x y : PV} (hx : (spSrt n g).s.gd x = true) (hy : (spSrt n g).s.gd y = true) : Ans (E e) n_piece_merged_1 [x, y] (.int .i64 (spCmp x y)) := by
 obtain ⟨a, b, c, d, rfl, h1⟩ := gd_sp hx
 obtain ⟨a', b', c', d', rfl, h2⟩ := gd_sp hy
 obtain ⟨r, hr, ha⟩ := ok_piece_merged_1 e he [.agg [.int .i64 a, .int .i64 b, .int .i64 c, .int .i64 d], .agg [.int .i64 a', .int .i64 b', .int .i64 c', .int .i64 d']] (fun r => r = .int .i64 (cmpI a b a' b')) (by
   show w_piece_merged_1 a b c d a' b' c' d' (fun r => PV.int .i64 r = .int .i64 (cmpI a b a' b'))
   unfold w_piece_merged_1 wv_piece_merged_1
   rw [order_rv h1 h2, cmpI_Q h1 h2])
 rw [hr] at ha
 exact ha
end Go.Pf.Vc
