/- Part 3 of what the statement rests on: a verified evaluator over pure values, the conditions of the program's functions, and their plain laws. -/
import Derived.Test.YtfdnnbmkmlhidaaAoW2
namespace Go.Pf.Vc
open Go Go.Pf
set_option maxRecDepth 100000
def L_audit_scale_2_0 (x49126302_0 : Int → List PV → Int → Int → Bool → Prop) (x49126302_1 : Int → Int → Prop) : Nat → Int → List PV → Int → Int → Prop
 | 0, _, _, _, _ => False
 | n49126302 + 1, i0, l1, i2, i3 =>
 (cbr (decide (i3 < i2))
 (asr (decide ((0 : Int) ≤ i3))
 (asr (decide (i3 < (((List.length l1) : Nat) : Int)))
 (lt (List.getD l1 (i3.toNat) .nils) (fun yr101 =>
 (asr (conf (.agg [.i .i64, .i .i64, .i .i64, .i .i64, .i .i64, .i .i64, .b]) yr101)
 (asr (!(decide ((intOfV (cellAt yr101 5)) = (0 : Int))))
 (lt (IntKind.i64.wrap (Int.tdiv i0 (intOfV (cellAt yr101 5)))) (fun yi104 =>
 (asr (!(decide (yi104 = (0 : Int))))
 (lt (IntKind.i64.wrap (Int.tdiv (1000000000000 : Int) yi104)) (fun yi105 =>
 (cbr (decide ((intOfV (cellAt yr101 4)) > yi105))
 (x49126302_1 (0 : Int) (16 : Int))
 (lt (IntKind.i64.wrap (i3 + (1 : Int))) (fun yi106 =>
 (L_audit_scale_2_0 x49126302_0 x49126302_1 n49126302 i0 l1 i2 yi106)))))))))))))))
 (x49126302_0 i0 l1 i2 i3 false))
def L_audit_scale_0_0 (x49126301_0 : List PV → Int → List PV → Int → Int → Bool → Prop) (x49126301_1 : Int → Int → Prop) : Nat → List PV → Int → List PV → Int → Int → Prop
 | 0, _, _, _, _, _ => False
 | n49126301 + 1, l0, i1, l2, i3, i4 =>
 (cbr (decide (i4 < i3))
 (asr (decide ((0 : Int) ≤ i4))
 (asr (decide (i4 < (((List.length l2) : Nat) : Int)))
 (lt (List.getD l2 (i4.toNat) .nils) (fun yr41 =>
 (asr (conf (.agg [.i .i64, .i .i64, .i .i64, .i .i64, .i .i64, .i .i64, .b]) yr41)
 (∃ n49126300 : Nat, L_audit_scale_1_0
 (fun yl57 yi58 _ _ _ _ _ yi64 _ yi66 _ yl68 yi69 yi70 _ => (asr (!(decide (yi66 = (0 : Int))))
 (lt (IntKind.i64.wrap (Int.tdiv yi64 yi66)) (fun yi73 =>
 (asr (!(decide (yi58 = (0 : Int))))
 (lt (IntKind.i64.wrap (Int.tdiv (1000000000 : Int) yi58)) (fun yi77 =>
 (cbr (decide (yi73 > yi77))
 (x49126301_1 (0 : Int) (16 : Int))
 (lt (IntKind.i64.wrap (yi58 * yi73)) (fun yi78 =>
 (lt (IntKind.i64.wrap (yi70 + (1 : Int))) (fun yi79 =>
 (L_audit_scale_0_0 x49126301_0 x49126301_1 n49126301 yl57 yi78 yl68 yi69 yi79)))))))))))))
 n49126300 l0 i1 (intOfV (cellAt yr41 0)) (intOfV (cellAt yr41 1)) (intOfV (cellAt yr41 2)) (intOfV (cellAt yr41 3)) (intOfV (cellAt yr41 4)) (intOfV (cellAt yr41 5)) (boolOfV (cellAt yr41 6)) i1 (intOfV (cellAt yr41 5)) l2 i3 i4))))))
 (x49126301_0 l0 i1 l2 i3 i4 false))
def wv_audit_scale (p0 : List PV) (K : Int → Int → Prop) : Prop :=
 (∃ n49126301 : Nat, L_audit_scale_0_0
 (fun yl88 yi89 _ _ _ _ => (∃ n49126302 : Nat, L_audit_scale_2_0
 (fun yi114 _ _ _ _ => (K yi114 (0 : Int)))
 (fun yi119 yi120 => (K yi119 yi120))
 n49126302 yi89 yl88 (((List.length yl88) : Nat) : Int) (0 : Int)))
 (fun yi121 yi122 => (K yi121 yi122))
 n49126301 p0 (1 : Int) p0 (((List.length p0) : Nat) : Int) (0 : Int))
def w_audit_scale (p0 : List PV) (K : Int → Int → Prop) : Prop := wv_audit_scale p0 K
def pw_audit_scale (w : T_audit_scale) (as : List PV) (K : PV → Prop) : Prop :=
 match as with
 | [(.data p0)] => w p0 (fun r0 r1 => K (.tup [(.int .i64 r0), (.int .i64 r1)]))
 | _ => False
def wp_audit_scale (as : List PV) (K : PV → Prop) : Prop := pw_audit_scale w_audit_scale as K
def D_audit_scale_1 (F : Frm) (H : Hp) (A0 : List PV → Int → Int → Int → Int → Int → Int → Int → Bool → Int → Int → List PV → Int → Int → Prop) : Prop :=
 match F, H with
 | [(0, .v (.data l0)), (4, .v (.int .i64 i1)), (6, .box (.agg [(.int .i64 i2), (.int .i64 i3), (.int .i64 i4), (.int .i64 i5), (.int .i64 i6), (.int .i64 i7), (.bool b8)])), (7, .v (.int .i64 i9)), (8, .v (.int .i64 i10)), (12, .v (.data l11)), (13, .v (.int .i64 i12)), (14, .v (.int .i64 i13))], [] => (A0 l0 i1 i2 i3 i4 i5 i6 i7 b8 i9 i10 l11 i12 i13)
 | _, _ => False
def D_audit_scale_2 (F : Frm) (H : Hp) (A0 : Int → List PV → Int → Int → Prop) : Prop :=
 match F, H with
 | [(4, .v (.int .i64 i0)), (41, .v (.data l1)), (42, .v (.int .i64 i2)), (43, .v (.int .i64 i3))], [] => (A0 i0 l1 i2 i3)
 | _, _ => False
def D_audit_scale_0 (F : Frm) (H : Hp) (A0 : List PV → Int → List PV → Int → Int → Prop) : Prop :=
 match F, H with
 | [(0, .v (.data l0)), (4, .v (.int .i64 i1)), (12, .v (.data l2)), (13, .v (.int .i64 i3)), (14, .v (.int .i64 i4))], [] => (A0 l0 i1 l2 i3 i4)
 | _, _ => False
def X_audit_scale_1_0 (Q : Ex → Frm → Hp → Prop) : List PV → Int → Int → Int → Int → Int → Int → Int → Bool → Int → Int → List PV → Int → Int → Bool → Prop := (fun l0 i1 i2 i3 i4 i5 i6 i7 b8 i9 i10 l11 i12 i13 b14 => Q (.exit 2) [(0, .v (.data l0)), (4, .v (.int .i64 i1)), (6, .box (.agg [(.int .i64 i2), (.int .i64 i3), (.int .i64 i4), (.int .i64 i5), (.int .i64 i6), (.int .i64 i7), (.bool b8)])), (7, .v (.int .i64 i9)), (8, .v (.int .i64 i10)), (12, .v (.data l11)), (13, .v (.int .i64 i12)), (14, .v (.int .i64 i13)), (23, .v (.bool b14))] [])
def X_audit_scale_2_0 (Q : Ex → Frm → Hp → Prop) : Int → List PV → Int → Int → Bool → Prop := (fun i0 l1 i2 i3 b4 => Q (.exit 4) [(4, .v (.int .i64 i0)), (41, .v (.data l1)), (42, .v (.int .i64 i2)), (43, .v (.int .i64 i3)), (44, .v (.bool b4))] [])
def X_audit_scale_2_1 (Q : Ex → Frm → Hp → Prop) : Int → Int → Prop := (fun i0 i1 => Q .ret [(2, .v (.int .i64 i0)), (3, .v (.int .i64 i1))] [])
def X_audit_scale_0_0 (Q : Ex → Frm → Hp → Prop) : List PV → Int → List PV → Int → Int → Bool → Prop := (fun l0 i1 l2 i3 i4 b5 => Q (.exit 0) [(0, .v (.data l0)), (4, .v (.int .i64 i1)), (12, .v (.data l2)), (13, .v (.int .i64 i3)), (14, .v (.int .i64 i4)), (15, .v (.bool b5))] [])
def X_audit_scale_0_1 (Q : Ex → Frm → Hp → Prop) : Int → Int → Prop := (fun i0 i1 => Q .ret [(2, .v (.int .i64 i0)), (3, .v (.int .i64 i1))] [])
def R_audit_scale_1 (Q : Ex → Frm → Hp → Prop) (n : Nat) (F : Frm) (H : Hp) : Prop := D_audit_scale_1 F H (fun l0 i1 i2 i3 i4 i5 i6 i7 b8 i9 i10 l11 i12 i13 => L_audit_scale_1_0 (X_audit_scale_1_0 Q) n l0 i1 i2 i3 i4 i5 i6 i7 b8 i9 i10 l11 i12 i13)
def R_audit_scale_2 (Q : Ex → Frm → Hp → Prop) (n : Nat) (F : Frm) (H : Hp) : Prop := D_audit_scale_2 F H (fun i0 l1 i2 i3 => L_audit_scale_2_0 (X_audit_scale_2_0 Q) (X_audit_scale_2_1 Q) n i0 l1 i2 i3)
def R_audit_scale_0 (Q : Ex → Frm → Hp → Prop) (n : Nat) (F : Frm) (H : Hp) : Prop := D_audit_scale_0 F H (fun l0 i1 l2 i3 i4 => L_audit_scale_0_0 (X_audit_scale_0_0 Q) (X_audit_scale_0_1 Q) n l0 i1 l2 i3 i4)
def lp_audit_scale : LP := fun id F H Q =>
 bif Nat.beq id 49126300 then D_audit_scale_1 F H (fun l0 i1 i2 i3 i4 i5 i6 i7 b8 i9 i10 l11 i12 i13 => ∃ n : Nat, L_audit_scale_1_0 (X_audit_scale_1_0 Q) n l0 i1 i2 i3 i4 i5 i6 i7 b8 i9 i10 l11 i12 i13) else
 bif Nat.beq id 49126302 then D_audit_scale_2 F H (fun i0 l1 i2 i3 => ∃ n : Nat, L_audit_scale_2_0 (X_audit_scale_2_0 Q) (X_audit_scale_2_1 Q) n i0 l1 i2 i3) else
 bif Nat.beq id 49126301 then D_audit_scale_0 F H (fun l0 i1 l2 i3 i4 => ∃ n : Nat, L_audit_scale_0_0 (X_audit_scale_0_0 Q) (X_audit_scale_0_1 Q) n l0 i1 l2 i3 i4) else
 False
def S0_audit_scale (e : List (Nat × EffF)) : SE := ⟨(E e), lookS [], lookI [], lp_audit_scale⟩
theorem se0_audit_scale (e : List (Nat × EffF)) (he : EG e) : SEOk (S0_audit_scale e) := seOk_of trivial trivial he.ok
theorem body_audit_scale_1_0 (e : List (Nat × EffF)) ( Q n l0 i1 i2 i3 i4 i5 i6 i7 b8 i9 i10 l11 i12 i13) : WC (E e) (callW (S0_audit_scale e) 5) (lp_audit_scale) b_49126300 [(0, .v (.data l0)), (4, .v (.int .i64 i1)), (6, .box (.agg [(.int .i64 i2), (.int .i64 i3), (.int .i64 i4), (.int .i64 i5), (.int .i64 i6), (.int .i64 i7), (.bool b8)])), (7, .v (.int .i64 i9)), (8, .v (.int .i64 i10)), (12, .v (.data l11)), (13, .v (.int .i64 i12)), (14, .v (.int .i64 i13))] [] (fun x F' H' => match x with | .norm => R_audit_scale_1 Q n F' H' | .exit i => Q (.exit i) F' H' | .ret => Q .ret F' H') = L_audit_scale_1_0 (X_audit_scale_1_0 Q) (n + 1) l0 i1 i2 i3 i4 i5 i6 i7 b8 i9 i10 l11 i12 i13 := by kernel_rfl
theorem lpb_audit_scale_1 (e : List (Nat × EffF)) (_ : EG e) : LpOk (E e) (lp_audit_scale) b_49126300 := (LpOk_no (by kernel_rfl))
theorem loop_audit_scale_1 (e : List (Nat × EffF)) (he : EG e) : ∀ F H Q, lp_audit_scale 49126300 F H Q → LoopT (E e) b_49126300 F H Q := by
 intro F H Q h
 have go := LoopT.intro (callW_ok (se0_audit_scale e he) 5) (lpb_audit_scale_1 e he) (R_audit_scale_1 Q) (by
   intro F H h
   unfold R_audit_scale_1 D_audit_scale_1 at h
   split at h
   · exact h
   · exact h) (by
   intro n F H h
   unfold R_audit_scale_1 D_audit_scale_1 at h
   split at h
   · exact (body_audit_scale_1_0 ..).mpr h
   · exact h.elim)
 have h : D_audit_scale_1 F H _ := h
 unfold D_audit_scale_1 at h
 split at h
 · obtain ⟨n, h⟩ := h; exact go n _ _ h
 · exact h.elim
theorem body_audit_scale_2_0 (e : List (Nat × EffF)) ( Q n i0 l1 i2 i3) : WC (E e) (callW (S0_audit_scale e) 5) (lp_audit_scale) b_49126302 [(4, .v (.int .i64 i0)), (41, .v (.data l1)), (42, .v (.int .i64 i2)), (43, .v (.int .i64 i3))] [] (fun x F' H' => match x with | .norm => R_audit_scale_2 Q n F' H' | .exit i => Q (.exit i) F' H' | .ret => Q .ret F' H') = L_audit_scale_2_0 (X_audit_scale_2_0 Q) (X_audit_scale_2_1 Q) (n + 1) i0 l1 i2 i3 := by kernel_rfl
theorem lpb_audit_scale_2 (e : List (Nat × EffF)) (_ : EG e) : LpOk (E e) (lp_audit_scale) b_49126302 := (LpOk_no (by kernel_rfl))
theorem loop_audit_scale_2 (e : List (Nat × EffF)) (he : EG e) : ∀ F H Q, lp_audit_scale 49126302 F H Q → LoopT (E e) b_49126302 F H Q := by
 intro F H Q h
 have go := LoopT.intro (callW_ok (se0_audit_scale e he) 5) (lpb_audit_scale_2 e he) (R_audit_scale_2 Q) (by
   intro F H h
   unfold R_audit_scale_2 D_audit_scale_2 at h
   split at h
   · exact h
   · exact h) (by
   intro n F H h
   unfold R_audit_scale_2 D_audit_scale_2 at h
   split at h
   · exact (body_audit_scale_2_0 ..).mpr h
   · exact h.elim)
 have h : D_audit_scale_2 F H _ := h
 unfold D_audit_scale_2 at h
 split at h
 · obtain ⟨n, h⟩ := h; exact go n _ _ h
 · exact h.elim
theorem body_audit_scale_0_0 (e : List (Nat × EffF)) ( Q n l0 i1 l2 i3 i4) : WC (E e) (callW (S0_audit_scale e) 5) (lp_audit_scale) b_49126301 [(0, .v (.data l0)), (4, .v (.int .i64 i1)), (12, .v (.data l2)), (13, .v (.int .i64 i3)), (14, .v (.int .i64 i4))] [] (fun x F' H' => match x with | .norm => R_audit_scale_0 Q n F' H' | .exit i => Q (.exit i) F' H' | .ret => Q .ret F' H') = L_audit_scale_0_0 (X_audit_scale_0_0 Q) (X_audit_scale_0_1 Q) (n + 1) l0 i1 l2 i3 i4 := by kernel_rfl
theorem lpb_audit_scale_0 (e : List (Nat × EffF)) (he : EG e) : LpOk (E e) (lp_audit_scale) b_49126301 := (LpOk_by (l := [(49126300, b_49126300)]) ⟨loop_audit_scale_1 e he, trivial⟩ (by kernel_rfl))
theorem loop_audit_scale_0 (e : List (Nat × EffF)) (he : EG e) : ∀ F H Q, lp_audit_scale 49126301 F H Q → LoopT (E e) b_49126301 F H Q := by
 intro F H Q h
 have go := LoopT.intro (callW_ok (se0_audit_scale e he) 5) (lpb_audit_scale_0 e he) (R_audit_scale_0 Q) (by
   intro F H h
   unfold R_audit_scale_0 D_audit_scale_0 at h
   split at h
   · exact h
   · exact h) (by
   intro n F H h
   unfold R_audit_scale_0 D_audit_scale_0 at h
   split at h
   · exact (body_audit_scale_0_0 ..).mpr h
   · exact h.elim)
 have h : D_audit_scale_0 F H _ := h
 unfold D_audit_scale_0 at h
 split at h
 · obtain ⟨n, h⟩ := h; exact go n _ _ h
 · exact h.elim
theorem eq_audit_scale (e : List (Nat × EffF)) ( p0 K) : WP (S0_audit_scale e) 6 t_audit_scale [(.data p0)] K = wv_audit_scale p0 (fun r0 r1 => K (.tup [(.int .i64 r0), (.int .i64 r1)])) := by kernel_rfl
theorem ok_audit_scale (e : List (Nat × EffF)) (he : EG e) : OkF (E e) wp_audit_scale n_audit_scale := by
 intro as K h
 unfold wp_audit_scale pw_audit_scale at h
 split at h
 · exact WP_ok (se0_audit_scale e he) (LpOk_by (l := [(49126300, b_49126300), (49126301, b_49126301), (49126302, b_49126302)]) ⟨loop_audit_scale_1 e he, loop_audit_scale_0 e he, loop_audit_scale_2 e he, trivial⟩ (by kernel_rfl)) (by kernel_rfl) (by kernel_rfl) (fun _ => baseS_none (by kernel_rfl) _) (he.num _ (by kernel_rfl)) ((eq_audit_scale ..).mpr h)
 · exact h.elim
abbrev T_audit_pointsOf : Type := Int → List PV → (List PV → Prop) → Prop
def L_audit_pointsOf_0_0 (a0 : T_audit_whole) (x86101800_0 : List PV → List PV → Int → Int → Bool → Prop) : Nat → List PV → List PV → Int → Int → Prop
 | 0, _, _, _, _ => False
 | n86101800 + 1, l0, l3, i4, i5 =>
 (cbr (decide (i5 < i4))
 (asr (decide ((0 : Int) ≤ i5))
 (asr (decide (i5 < (((List.length l3) : Nat) : Int)))
 (lt (List.getD l3 (i5.toNat) .nils) (fun yr11 =>
 (asr (conf (.agg [.i .i64, .i .i64, .i .i64, .i .i64, .i .i64, .i .i64, .b]) yr11)
 (asr (decide ((List.length l0) = (List.length l0)))
 (asr (decide ((0 + (List.length l0)) ≤ (List.length l0)))
 (asr (!(decide (((0 + (List.length l0)) + 2) ≤ (List.length l0))))
 (asr (decide ((List.length l0) = (List.length l0)))
 (asr (decide ((((List.length l0) + 2) + 64) * (16 + 1) ≤ room))
 (lt (IntKind.i64.wrap (i5 + (1 : Int))) (fun yi12 =>
 (asr (decide ((List.length (l0 ++ ([(.agg [(.int .i64 (intOfV (cellAt yr11 0))), (.int .i64 (intOfV (cellAt yr11 1)))]), (.agg [(.int .i64 (intOfV (cellAt yr11 2))), (.int .i64 (intOfV (cellAt yr11 3)))])] : List PV))) = List.length (l0 ++ ([(.agg [(.int .i64 (intOfV (cellAt yr11 0))), (.int .i64 (intOfV (cellAt yr11 1)))]), (.agg [(.int .i64 (intOfV (cellAt yr11 2))), (.int .i64 (intOfV (cellAt yr11 3)))])] : List PV))) && decide ((List.length (l0 ++ ([(.agg [(.int .i64 (intOfV (cellAt yr11 0))), (.int .i64 (intOfV (cellAt yr11 1)))]), (.agg [(.int .i64 (intOfV (cellAt yr11 2))), (.int .i64 (intOfV (cellAt yr11 3)))])] : List PV))) = List.length (l0 ++ ([(.agg [(.int .i64 (intOfV (cellAt yr11 0))), (.int .i64 (intOfV (cellAt yr11 1)))]), (.agg [(.int .i64 (intOfV (cellAt yr11 2))), (.int .i64 (intOfV (cellAt yr11 3)))])] : List PV))))
 (L_audit_pointsOf_0_0 a0 x86101800_0 n86101800 (l0 ++ ([(.agg [(.int .i64 (intOfV (cellAt yr11 0))), (.int .i64 (intOfV (cellAt yr11 1)))]), (.agg [(.int .i64 (intOfV (cellAt yr11 2))), (.int .i64 (intOfV (cellAt yr11 3)))])] : List PV)) l3 i4 yi12))))))))))))))
 (x86101800_0 l0 l3 i4 i5 false))
def L_audit_pointsOf_2_0 (a0 : T_audit_whole) (x36914300_0 : List PV → Nat → Nat → Int → Nat → Nat → Nat → Int → Bool → Prop) : Nat → List PV → Nat → Nat → Int → Nat → Nat → Nat → Int → Prop
 | 0, _, _, _, _, _, _, _, _ => False
 | n36914300 + 1, l0, n1, n2, i3, n4, n5, n6, i7 =>
 (cbr (decide (i7 < ((n5 : Nat) : Int)))
 (jn (fun (yj43 : List PV → Int → Prop) =>
 (asr (decide ((0 : Int) ≤ i7))
 (asr (decide (i7 < ((n5 : Nat) : Int)))
 (asr (decide ((List.length l0) = n6))
 (asr (decide ((n4 + (i7.toNat)) < (List.length l0)))
 (lt (List.getD l0 (n4 + (i7.toNat)) .nils) (fun yr48 =>
 (asr (conf (.agg [.i .i64, .i .i64]) yr48)
 (lt (IntKind.i64.wrap (i7 - (1 : Int))) (fun yi49 =>
 (asr (decide ((0 : Int) ≤ yi49))
 (asr (decide (yi49 < ((n5 : Nat) : Int)))
 (asr (decide ((List.length l0) = n6))
 (asr (decide ((n4 + (yi49.toNat)) < (List.length l0)))
 (lt (List.getD l0 (n4 + (yi49.toNat)) .nils) (fun yr50 =>
 (asr (conf (.agg [.i .i64, .i .i64]) yr50)
 (cbr (!(((intOfV (cellAt yr48 0)) == (intOfV (cellAt yr50 0))) && (((intOfV (cellAt yr48 1)) == (intOfV (cellAt yr50 1))) && true)))
 (asr (decide ((0 : Int) ≤ i7))
 (asr (decide (i7 < ((n5 : Nat) : Int)))
 (asr (decide ((List.length l0) = n6))
 (asr (decide ((n4 + (i7.toNat)) < (List.length l0)))
 (lt (List.getD l0 (n4 + (i7.toNat)) .nils) (fun yr53 =>
 (asr (conf (.agg [.i .i64, .i .i64]) yr53)
 (asr (decide ((0 : Int) ≤ i3))
 (asr (decide (i3 < ((n1 : Nat) : Int)))
 (asr (decide ((List.length l0) = n2))
 (asr (decide ((0 + (i3.toNat)) < (List.length l0)))
 (lt (List.getD l0 (0 + (i3.toNat)) .nils) (fun yr54 =>
 (asr (conf (.agg [.i .i64, .i .i64]) yr54)
 (lt (IntKind.i64.wrap (i3 + (1 : Int))) (fun yi55 =>
 (yj43 (List.set l0 (0 + (i3.toNat)) (.agg [(.int .i64 (intOfV (cellAt yr53 0))), (.int .i64 (intOfV (cellAt yr53 1)))])) yi55)))))))))))))))))
 (yj43 l0 i3)))))))))))))))))))
 (fun yl41 yi42 => (lt (IntKind.i64.wrap (i7 + (1 : Int))) (fun yi44 =>
 (L_audit_pointsOf_2_0 a0 x36914300_0 n36914300 yl41 n1 n2 yi42 n4 n5 n6 yi44)))))
 (x36914300_0 l0 n1 n2 i3 n4 n5 n6 i7 false))
def L_audit_pointsOf_1_0 (a0 : T_audit_whole) (x36914301_0 : List PV → Nat → Nat → Int → Bool → Prop) (x36914301_1 : List PV → Nat → Nat → Prop) : Nat → List PV → Nat → Nat → Int → Prop
 | 0, _, _, _, _ => False
 | n36914301 + 1, l0, n1, n2, i3 =>
 (cbr (decide (i3 < ((n1 : Nat) : Int)))
 (asr (decide ((0 : Int) ≤ i3))
 (asr (decide (i3 < ((n1 : Nat) : Int)))
 (asr (decide ((List.length l0) = n2))
 (asr (decide ((0 + (i3.toNat)) < (List.length l0)))
 (lt (List.getD l0 (0 + (i3.toNat)) .nils) (fun yr79 =>
 (asr (conf (.agg [.i .i64, .i .i64]) yr79)
 (lt (IntKind.i64.wrap (i3 - (1 : Int))) (fun yi80 =>
 (asr (decide ((0 : Int) ≤ yi80))
 (asr (decide (yi80 < ((n1 : Nat) : Int)))
 (asr (decide ((List.length l0) = n2))
 (asr (decide ((0 + (yi80.toNat)) < (List.length l0)))
 (lt (List.getD l0 (0 + (yi80.toNat)) .nils) (fun yr81 =>
 (asr (conf (.agg [.i .i64, .i .i64]) yr81)
 (cbr (((intOfV (cellAt yr79 0)) == (intOfV (cellAt yr81 0))) && (((intOfV (cellAt yr79 1)) == (intOfV (cellAt yr81 1))) && true))
 (asr (decide ((0 : Int) ≤ i3))
 (asr (decide (i3 ≤ ((n1 : Nat) : Int)))
 (asr ((decide (((n1 : Nat) : Int) ≤ ((n1 : Nat) : Int))) || (decide (((n1 : Nat) : Int) ≤ ((n1 : Nat) : Int))))
 (∃ n36914300 : Nat, L_audit_pointsOf_2_0 a0
 (fun yl91 yn92 yn93 yi94 _ _ _ _ _ => (jn (fun (yj101 : List PV → Prop) =>
 (asr (decide ((0 : Int) ≤ yi94))
 (asr (decide (yi94 ≤ ((yn92 : Nat) : Int)))
 (asr ((decide (((yn92 : Nat) : Int) ≤ ((yn92 : Nat) : Int))) || (decide (((yn92 : Nat) : Int) ≤ ((yn92 : Nat) : Int))))
 (cbr (decide (((((yn92 : Nat) : Int) - yi94).toNat) = 0))
 (yj101 yl91)
 (asr (decide ((List.length yl91) = yn93))
 (asr (decide (((0 + (yi94.toNat)) + ((((yn92 : Nat) : Int) - yi94).toNat)) ≤ yn93))
 (yj101 ((List.take (0 + (yi94.toNat)) yl91) ++ ((List.replicate ((((yn92 : Nat) : Int) - yi94).toNat) ((.agg [(.int .i64 (0)), (.int .i64 (0))]) : PV)) ++ (List.drop ((0 + (yi94.toNat)) + ((((yn92 : Nat) : Int) - yi94).toNat)) yl91)))))))))))
 (fun yl100 => (asr (decide ((0 : Int) ≤ yi94))
 (asr ((decide (yi94 ≤ ((yn92 : Nat) : Int))) || (decide (yi94 ≤ ((yn92 : Nat) : Int))))
 (x36914301_1 yl100 ((yi94 - (0 : Int)).toNat) yn93))))))
 n36914300 l0 n1 n2 i3 (0 + (i3.toNat)) ((((n1 : Nat) : Int) - i3).toNat) n2 (1 : Int)))))
 (lt (IntKind.i64.wrap (i3 + (1 : Int))) (fun yi102 =>
 (L_audit_pointsOf_1_0 a0 x36914301_0 x36914301_1 n36914301 l0 n1 n2 yi102))))))))))))))))))))
 (x36914301_0 l0 n1 n2 i3 false))
def wv_audit_pointsOf (a0 : T_audit_whole) (p0 : Int) (p1 : List PV) (K : List PV → Prop) : Prop :=
 (a0 (0 : Int) (fun yi4 yi5 => 
 (a0 p0 (fun yi6 yi7 => 
 (asr (decide (2 = List.length ([(.agg [(.int .i64 yi4), (.int .i64 yi5)]), (.agg [(.int .i64 yi6), (.int .i64 yi7)])] : List PV)) && decide (2 = List.length ([(.agg [(.int .i64 yi4), (.int .i64 yi5)]), (.agg [(.int .i64 yi6), (.int .i64 yi7)])] : List PV)))
 (∃ n86101800 : Nat, L_audit_pointsOf_0_0 a0
 (fun yl18 _ _ _ _ => (asr (Srt.cond srt_audit_order.s yl18 0 (List.length yl18) (List.length yl18) 2 false)
 (jn (fun (yj167 : List PV → Nat → Nat → Prop) =>
 (cbr (decide ((((List.length yl18) : Nat) : Int) < (2 : Int)))
 (yj167 (List.take 0 yl18 ++ (Srt.sorted srt_audit_order.s srt_audit_order.srt (List.take (List.length yl18) (List.drop 0 yl18)) ++ List.drop (0 + (List.length yl18)) yl18)) (List.length yl18) (List.length yl18))
 (∃ n36914301 : Nat, L_audit_pointsOf_1_0 a0
 (fun yl176 yn177 yn178 _ _ => (yj167 yl176 yn177 yn178))
 (fun yl181 yn182 yn183 => (yj167 yl181 yn182 yn183))
 n36914301 (List.take 0 yl18 ++ (Srt.sorted srt_audit_order.s srt_audit_order.srt (List.take (List.length yl18) (List.drop 0 yl18)) ++ List.drop (0 + (List.length yl18)) yl18)) (List.length yl18) (List.length yl18) (1 : Int))))
 (fun yl164 yn165 yn166 => (asr (decide ((List.length yl164) = yn166))
 (asr (decide ((0 + yn165) ≤ yn166))
 (K (List.take yn165 yl164))))))))
 n86101800 ([(.agg [(.int .i64 yi4), (.int .i64 yi5)]), (.agg [(.int .i64 yi6), (.int .i64 yi7)])] : List PV) p1 (((List.length p1) : Nat) : Int) (0 : Int)))))))
def w_audit_pointsOf (p0 : Int) (p1 : List PV) (K : List PV → Prop) : Prop := wv_audit_pointsOf w_audit_whole p0 p1 K
def pw_audit_pointsOf (w : T_audit_pointsOf) (as : List PV) (K : PV → Prop) : Prop :=
 match as with
 | [(.int .i64 p0), (.data p1)] => w p0 p1 (fun r0 => K (.data r0))
 | _ => False
def wp_audit_pointsOf (as : List PV) (K : PV → Prop) : Prop := pw_audit_pointsOf w_audit_pointsOf as K
def D_audit_pointsOf_0 (F : Frm) (H : Hp) (A0 : List PV → List PV → Int → Int → Prop) : Prop :=
 match F, H with
 | [(5, .v (.own 0 0 t1 t2 none)), (12, .v (.data l3)), (13, .v (.int .i64 i4)), (14, .v (.int .i64 i5))], [⟨false, true, 2, l0⟩] => asr (decide (t1 = List.length l0) && decide (t2 = List.length l0)) (A0 l0 l3 i4 i5)
 | _, _ => False
def D_audit_pointsOf_2 (F : Frm) (H : Hp) (A0 : List PV → Nat → Nat → Int → Nat → Nat → Nat → Int → Prop) : Prop :=
 match F, H with
 | [(0, .v (.own 0 0 n1 n2 none)), (3, .v (.int .i64 i3)), (4, .v (.own 0 n4 n5 n6 none)), (5, .v (.int .i64 i7))], [⟨false, true, 2, l0⟩] => (A0 l0 n1 n2 i3 n4 n5 n6 i7)
 | _, _ => False
def D_audit_pointsOf_1 (F : Frm) (H : Hp) (A0 : List PV → Nat → Nat → Int → Prop) : Prop :=
 match F, H with
 | [(0, .v (.own 0 0 n1 n2 none)), (3, .v (.int .i64 i3))], [⟨false, true, 2, l0⟩] => (A0 l0 n1 n2 i3)
 | _, _ => False
def X_audit_pointsOf_0_0 (Q : Ex → Frm → Hp → Prop) : List PV → List PV → Int → Int → Bool → Prop := (fun l0 l3 i4 i5 b6 => Q (.exit 0) [(5, .v (.own 0 0 (List.length l0) (List.length l0) none)), (12, .v (.data l3)), (13, .v (.int .i64 i4)), (14, .v (.int .i64 i5)), (15, .v (.bool b6))] [⟨false, true, 2, l0⟩])
def X_audit_pointsOf_2_0 (Q : Ex → Frm → Hp → Prop) : List PV → Nat → Nat → Int → Nat → Nat → Nat → Int → Bool → Prop := (fun l0 n1 n2 i3 n4 n5 n6 i7 b8 => Q (.exit 2) [(0, .v (.own 0 0 n1 n2 none)), (3, .v (.int .i64 i3)), (4, .v (.own 0 n4 n5 n6 none)), (5, .v (.int .i64 i7)), (32, .v (.bool b8))] [⟨false, true, 2, l0⟩])
def X_audit_pointsOf_1_0 (Q : Ex → Frm → Hp → Prop) : List PV → Nat → Nat → Int → Bool → Prop := (fun l0 n1 n2 i3 b4 => Q (.exit 0) [(0, .v (.own 0 0 n1 n2 none)), (3, .v (.int .i64 i3)), (13, .v (.bool b4))] [⟨false, true, 2, l0⟩])
def X_audit_pointsOf_1_1 (Q : Ex → Frm → Hp → Prop) : List PV → Nat → Nat → Prop := (fun l0 n1 n2 => Q .ret [(2, .v (.own 0 0 n1 n2 none))] [⟨false, true, 2, l0⟩])
def R_audit_pointsOf_0 (a0 : T_audit_whole) (Q : Ex → Frm → Hp → Prop) (n : Nat) (F : Frm) (H : Hp) : Prop := D_audit_pointsOf_0 F H (fun l0 l3 i4 i5 => L_audit_pointsOf_0_0 a0 (X_audit_pointsOf_0_0 Q) n l0 l3 i4 i5)
def R_audit_pointsOf_2 (a0 : T_audit_whole) (Q : Ex → Frm → Hp → Prop) (n : Nat) (F : Frm) (H : Hp) : Prop := D_audit_pointsOf_2 F H (fun l0 n1 n2 i3 n4 n5 n6 i7 => L_audit_pointsOf_2_0 a0 (X_audit_pointsOf_2_0 Q) n l0 n1 n2 i3 n4 n5 n6 i7)
def R_audit_pointsOf_1 (a0 : T_audit_whole) (Q : Ex → Frm → Hp → Prop) (n : Nat) (F : Frm) (H : Hp) : Prop := D_audit_pointsOf_1 F H (fun l0 n1 n2 i3 => L_audit_pointsOf_1_0 a0 (X_audit_pointsOf_1_0 Q) (X_audit_pointsOf_1_1 Q) n l0 n1 n2 i3)
def lp_audit_pointsOf (a0 : T_audit_whole) : LP := fun id F H Q =>
 bif Nat.beq id 86101800 then D_audit_pointsOf_0 F H (fun l0 l3 i4 i5 => ∃ n : Nat, L_audit_pointsOf_0_0 a0 (X_audit_pointsOf_0_0 Q) n l0 l3 i4 i5) else
 bif Nat.beq id 36914300 then D_audit_pointsOf_2 F H (fun l0 n1 n2 i3 n4 n5 n6 i7 => ∃ n : Nat, L_audit_pointsOf_2_0 a0 (X_audit_pointsOf_2_0 Q) n l0 n1 n2 i3 n4 n5 n6 i7) else
 bif Nat.beq id 36914301 then D_audit_pointsOf_1 F H (fun l0 n1 n2 i3 => ∃ n : Nat, L_audit_pointsOf_1_0 a0 (X_audit_pointsOf_1_0 Q) (X_audit_pointsOf_1_1 Q) n l0 n1 n2 i3) else
 False
def S0_audit_pointsOf (a0 : T_audit_whole) : SE := ⟨(E ef0), lookS [(n_audit_whole, pw_audit_whole a0)], lookI [], lp_audit_pointsOf a0⟩
def S1_audit_pointsOf (a0 : T_audit_whole) : SE := ⟨(E ef0), lookS [(n_audit_whole, pw_audit_whole a0)], lookI [(n_s_Compact_api_Ratio_api_Ratio, t_s_Compact_api_Ratio_api_Ratio)], lp_audit_pointsOf a0⟩
theorem se0_audit_pointsOf : SEOk (S0_audit_pointsOf w_audit_whole) := seOk_of ⟨(ok_audit_whole ef0 effG0), trivial⟩ trivial effG0.ok
theorem body_audit_pointsOf_0_0 (a0 Q n l0 l3 i4 i5) : WC (E ef0) (callW (S0_audit_pointsOf a0) 5) (lp_audit_pointsOf a0) b_86101800 [(5, .v (.own 0 0 (List.length l0) (List.length l0) none)), (12, .v (.data l3)), (13, .v (.int .i64 i4)), (14, .v (.int .i64 i5))] [⟨false, true, 2, l0⟩] (fun x F' H' => match x with | .norm => R_audit_pointsOf_0 a0 Q n F' H' | .exit i => Q (.exit i) F' H' | .ret => Q .ret F' H') = L_audit_pointsOf_0_0 a0 (X_audit_pointsOf_0_0 Q) (n + 1) l0 l3 i4 i5 := by kernel_rfl
theorem lpb_audit_pointsOf_0 : LpOk (E ef0) (lp_audit_pointsOf w_audit_whole) b_86101800 := (LpOk_no (by kernel_rfl))
theorem loop_audit_pointsOf_0 : ∀ F H Q, lp_audit_pointsOf w_audit_whole 86101800 F H Q → LoopT (E ef0) b_86101800 F H Q := by
 intro F H Q h
 have go := LoopT.intro (callW_ok (se0_audit_pointsOf) 5) (lpb_audit_pointsOf_0) (R_audit_pointsOf_0 w_audit_whole Q) (by
   intro F H h
   unfold R_audit_pointsOf_0 D_audit_pointsOf_0 at h
   split at h
   · obtain ⟨hg, k⟩ := asr_iff.1 h
     clear h
     have h := k
     clear k
     try simp only [Bool.and_eq_true, decide_eq_true_eq] at hg
     obtain ⟨g0, g1⟩ := hg; subst g0; subst g1; exact h
   · exact h) (by
   intro n F H h
   unfold R_audit_pointsOf_0 D_audit_pointsOf_0 at h
   split at h
   · obtain ⟨hg, k⟩ := asr_iff.1 h
     clear h
     have h := k
     clear k
     try simp only [Bool.and_eq_true, decide_eq_true_eq] at hg
     obtain ⟨g0, g1⟩ := hg; subst g0; subst g1; exact (body_audit_pointsOf_0_0 ..).mpr h
   · exact h.elim)
 have h : D_audit_pointsOf_0 F H _ := h
 unfold D_audit_pointsOf_0 at h
 split at h
 · obtain ⟨hg, n, h⟩ := asr_iff.1 h; exact go n _ _ (asr_iff.2 ⟨hg, h⟩)
 · exact h.elim
theorem body_audit_pointsOf_2_0 (a0 Q n l0 n1 n2 i3 n4 n5 n6 i7) : WC (E ef0) (callW (S0_audit_pointsOf a0) 5) (lp_audit_pointsOf a0) b_36914300 [(0, .v (.own 0 0 n1 n2 none)), (3, .v (.int .i64 i3)), (4, .v (.own 0 n4 n5 n6 none)), (5, .v (.int .i64 i7))] [⟨false, true, 2, l0⟩] (fun x F' H' => match x with | .norm => R_audit_pointsOf_2 a0 Q n F' H' | .exit i => Q (.exit i) F' H' | .ret => Q .ret F' H') = L_audit_pointsOf_2_0 a0 (X_audit_pointsOf_2_0 Q) (n + 1) l0 n1 n2 i3 n4 n5 n6 i7 := by kernel_rfl
theorem lpb_audit_pointsOf_2 : LpOk (E ef0) (lp_audit_pointsOf w_audit_whole) b_36914300 := (LpOk_no (by kernel_rfl))
theorem loop_audit_pointsOf_2 : ∀ F H Q, lp_audit_pointsOf w_audit_whole 36914300 F H Q → LoopT (E ef0) b_36914300 F H Q := by
 intro F H Q h
 have go := LoopT.intro (callW_ok (se0_audit_pointsOf) 5) (lpb_audit_pointsOf_2) (R_audit_pointsOf_2 w_audit_whole Q) (by
   intro F H h
   unfold R_audit_pointsOf_2 D_audit_pointsOf_2 at h
   split at h
   · exact h
   · exact h) (by
   intro n F H h
   unfold R_audit_pointsOf_2 D_audit_pointsOf_2 at h
   split at h
   · exact (body_audit_pointsOf_2_0 ..).mpr h
   · exact h.elim)
 have h : D_audit_pointsOf_2 F H _ := h
 unfold D_audit_pointsOf_2 at h
 split at h
 · obtain ⟨n, h⟩ := h; exact go n _ _ h
 · exact h.elim
theorem body_audit_pointsOf_1_0 (a0 Q n l0 n1 n2 i3) : WC (E ef0) (callW (S0_audit_pointsOf a0) 5) (lp_audit_pointsOf a0) b_36914301 [(0, .v (.own 0 0 n1 n2 none)), (3, .v (.int .i64 i3))] [⟨false, true, 2, l0⟩] (fun x F' H' => match x with | .norm => R_audit_pointsOf_1 a0 Q n F' H' | .exit i => Q (.exit i) F' H' | .ret => Q .ret F' H') = L_audit_pointsOf_1_0 a0 (X_audit_pointsOf_1_0 Q) (X_audit_pointsOf_1_1 Q) (n + 1) l0 n1 n2 i3 := by kernel_rfl
theorem lpb_audit_pointsOf_1 : LpOk (E ef0) (lp_audit_pointsOf w_audit_whole) b_36914301 := (LpOk_by (l := [(36914300, b_36914300)]) ⟨loop_audit_pointsOf_2, trivial⟩ (by kernel_rfl))
theorem loop_audit_pointsOf_1 : ∀ F H Q, lp_audit_pointsOf w_audit_whole 36914301 F H Q → LoopT (E ef0) b_36914301 F H Q := by
 intro F H Q h
 have go := LoopT.intro (callW_ok (se0_audit_pointsOf) 5) (lpb_audit_pointsOf_1) (R_audit_pointsOf_1 w_audit_whole Q) (by
   intro F H h
   unfold R_audit_pointsOf_1 D_audit_pointsOf_1 at h
   split at h
   · exact h
   · exact h) (by
   intro n F H h
   unfold R_audit_pointsOf_1 D_audit_pointsOf_1 at h
   split at h
   · exact (body_audit_pointsOf_1_0 ..).mpr h
   · exact h.elim)
 have h : D_audit_pointsOf_1 F H _ := h
 unfold D_audit_pointsOf_1 at h
 split at h
 · obtain ⟨n, h⟩ := h; exact go n _ _ h
 · exact h.elim
theorem se1_audit_pointsOf : SEOk (S1_audit_pointsOf w_audit_whole) := seOk_of ⟨(ok_audit_whole ef0 effG0), trivial⟩ ⟨⟨by kernel_rfl, by kernel_rfl, rfl, fun as => baseS_none (by kernel_rfl) as, effG0.num _ (by kernel_rfl), (LpOk_by (l := [(36914300, b_36914300), (36914301, b_36914301)]) ⟨loop_audit_pointsOf_2, loop_audit_pointsOf_1, trivial⟩ (by kernel_rfl))⟩, trivial⟩ effG0.ok
theorem eq_audit_pointsOf (a0 p0 p1 K) : WP (S1_audit_pointsOf a0) 6 t_audit_pointsOf [(.int .i64 p0), (.data p1)] K = wv_audit_pointsOf a0 p0 p1 (fun r0 => K (.data r0)) := by kernel_rfl
theorem ok_audit_pointsOf : OkF (E ef0) wp_audit_pointsOf n_audit_pointsOf := by
 intro as K h
 unfold wp_audit_pointsOf pw_audit_pointsOf at h
 split at h
 · exact WP_ok (se1_audit_pointsOf) (LpOk_by (l := [(86101800, b_86101800)]) ⟨loop_audit_pointsOf_0, trivial⟩ (by kernel_rfl)) (by kernel_rfl) (by kernel_rfl) (fun _ => baseS_none (by kernel_rfl) _) (effG0.num _ (by kernel_rfl)) ((eq_audit_pointsOf ..).mpr h)
 · exact h.elim
abbrev T_audit_heights : Type := List PV → List PV → Int → Prop → (List PV → Prop) → Prop
def L_audit_heights_1_0 (a0 : T_audit_order) (a1 : T_s_Equal_int64_int64) (x10433800_0 : List PV → List PV → List PV → Int → Int → Int → Int → Int → Bool → Prop) : Nat → List PV → List PV → List PV → Int → Int → Int → Int → Int → Prop
 | 0, _, _, _, _, _, _, _, _ => False
 | n10433800 + 1, l0, l1, l2, i3, i4, i5, i6, i7 =>
 (cbr (decide (i6 < i7))
 (lt (IntKind.i64.wrap (i6 + i7)) (fun yi7 =>
 (lt (Int.fdiv (IntKind.u64.wrap yi7) 2) (fun yi8 =>
 (asr (decide ((0 : Int) ≤ (IntKind.i64.wrap yi8)))
 (asr (decide ((IntKind.i64.wrap yi8) < (((List.length l2) : Nat) : Int)))
 (lt (List.getD l2 ((IntKind.i64.wrap yi8).toNat) .nils) (fun yr11 =>
 (asr (conf (.agg [.i .i64, .i .i64]) yr11)
 (a0 (intOfV (cellAt yr11 0)) (intOfV (cellAt yr11 1)) i3 i4 (fun yi12 => 
 (cbr (decide (yi12 < (0 : Int)))
 (lt (IntKind.i64.wrap ((IntKind.i64.wrap yi8) + (1 : Int))) (fun yi13 =>
 (L_audit_heights_1_0 a0 a1 x10433800_0 n10433800 l0 l1 l2 i3 i4 i5 yi13 i7)))
 (L_audit_heights_1_0 a0 a1 x10433800_0 n10433800 l0 l1 l2 i3 i4 i5 i6 (IntKind.i64.wrap yi8))))))))))))))
 (x10433800_0 l0 l1 l2 i3 i4 i5 i6 i7 false))
def L_audit_heights_1_1 (a0 : T_audit_order) (a1 : T_s_Equal_int64_int64) (x10433800_1 : List PV → List PV → List PV → List PV → Int → Int → Int → Int → Int → Bool → Prop) : Nat → List PV → List PV → List PV → List PV → Int → Int → Int → Int → Int → Prop
 | 0, _, _, _, _, _, _, _, _, _ => False
 | n10433800 + 1, l0, l1, l2, l3, i4, i5, i6, i7, i8 =>
 (cbr (decide (i7 < i8))
 (lt (IntKind.i64.wrap (i7 + i8)) (fun yi485 =>
 (lt (Int.fdiv (IntKind.u64.wrap yi485) 2) (fun yi486 =>
 (asr (decide ((0 : Int) ≤ (IntKind.i64.wrap yi486)))
 (asr (decide ((IntKind.i64.wrap yi486) < (((List.length l3) : Nat) : Int)))
 (lt (List.getD l3 ((IntKind.i64.wrap yi486).toNat) .nils) (fun yr489 =>
 (asr (conf (.agg [.i .i64, .i .i64]) yr489)
 (a0 (intOfV (cellAt yr489 0)) (intOfV (cellAt yr489 1)) i4 i5 (fun yi490 => 
 (cbr (decide (yi490 < (0 : Int)))
 (lt (IntKind.i64.wrap ((IntKind.i64.wrap yi486) + (1 : Int))) (fun yi491 =>
 (L_audit_heights_1_1 a0 a1 x10433800_1 n10433800 l0 l1 l2 l3 i4 i5 i6 yi491 i8)))
 (L_audit_heights_1_1 a0 a1 x10433800_1 n10433800 l0 l1 l2 l3 i4 i5 i6 i7 (IntKind.i64.wrap yi486))))))))))))))
 (x10433800_1 l0 l1 l2 l3 i4 i5 i6 i7 i8 false))
def L_audit_heights_3_0 (a0 : T_audit_order) (a1 : T_s_Equal_int64_int64) (x17934301_0 : List PV → List PV → List PV → List PV → Int → Int → Nat → Nat → Nat → Nat → Nat → Nat → List PV → Int → Int → Int → Bool → Prop) : Nat → List PV → List PV → List PV → List PV → Int → Int → Nat → Nat → Nat → Nat → Nat → Nat → List PV → Int → Int → Int → Prop
 | 0, _, _, _, _, _, _, _, _, _, _, _, _, _, _, _, _ => False
 | n17934301 + 1, l0, l1, l2, l3, i4, i5, n6, n7, n8, n9, n10, n11, l12, i13, i14, i15 =>
 (cbr (decide (i13 < ((n9 : Nat) : Int)))
 (asr (decide ((0 : Int) ≤ i13))
 (asr (decide (i13 < ((n9 : Nat) : Int)))
 (asr (decide ((List.length l1) = n10))
 (asr (decide ((0 + (i13.toNat)) < (List.length l1)))
 (lt (List.getD l1 (0 + (i13.toNat)) .nils) (fun yr440 =>
 (asr (conf (.one (.i .i64)) yr440)
 (lt (IntKind.i64.wrap (i13 - (1 : Int))) (fun yi441 =>
 (asr (decide ((0 : Int) ≤ yi441))
 (asr (decide (yi441 < ((n9 : Nat) : Int)))
 (asr (decide ((List.length l1) = n10))
 (asr (decide ((0 + (yi441.toNat)) < (List.length l1)))
 (lt (List.getD l1 (0 + (yi441.toNat)) .nils) (fun yr442 =>
 (asr (conf (.one (.i .i64)) yr442)
 (asr (decide ((0 : Int) ≤ i13))
 (asr (decide (i13 < ((n6 : Nat) : Int)))
 (asr (decide ((List.length l0) = n7))
 (asr (decide ((0 + (i13.toNat)) < (List.length l0)))
 (lt (List.getD l0 (0 + (i13.toNat)) .nils) (fun yr443 =>
 (asr (conf (.one (.i .i64)) yr443)
 (lt (IntKind.i64.wrap ((intOfV yr442) + (intOfV yr443))) (fun yi444 =>
 (asr (decide ((0 : Int) ≤ i13))
 (asr (decide (i13 < ((n9 : Nat) : Int)))
 (asr (decide ((List.length l1) = n10))
 (asr (decide ((0 + (i13.toNat)) < (List.length l1)))
 (lt (List.getD l1 (0 + (i13.toNat)) .nils) (fun yr445 =>
 (asr (conf (.one (.i .i64)) yr445)
 (lt (IntKind.i64.wrap (i13 + (1 : Int))) (fun yi446 =>
 (L_audit_heights_3_0 a0 a1 x17934301_0 n17934301 l0 (List.set l1 (0 + (i13.toNat)) (.int .i64 (if yi444 > (intOfV yr440) then yi444 else (intOfV yr440)))) l2 l3 i4 i5 n6 n7 n8 n9 n10 n11 l12 yi446 i14 i15)))))))))))))))))))))))))))))))))))
 (x17934301_0 l0 l1 l2 l3 i4 i5 n6 n7 n8 n9 n10 n11 l12 i13 i14 i15 false))
def L_audit_heights_4_0 (a0 : T_audit_order) (a1 : T_s_Equal_int64_int64) (x17934302_0 : List PV → List PV → List PV → List PV → Int → Int → Nat → Nat → Nat → Nat → Nat → Nat → List PV → Int → Int → List PV → Int → Int → Bool → Prop) : Nat → List PV → List PV → List PV → List PV → Int → Int → Nat → Nat → Nat → Nat → Nat → Nat → List PV → Int → Int → List PV → Int → Int → Prop
 | 0, _, _, _, _, _, _, _, _, _, _, _, _, _, _, _, _, _, _ => False
 | n17934302 + 1, l0, l1, l2, l3, i4, i5, n6, n7, n8, n9, n10, n11, l12, i13, i14, l15, i16, i17 =>
 (cbr (decide (i17 < i16))
 (asr (decide ((0 : Int) ≤ i17))
 (asr (decide (i17 < (((List.length l15) : Nat) : Int)))
 (lt (List.getD l15 (i17.toNat) .nils) (fun yr1343 =>
 (asr (conf (.agg [.i .i64, .i .i64, .i .i64, .i .i64, .i .i64, .i .i64, .b]) yr1343)
 (∃ n10433800 : Nat, L_audit_heights_1_1 a0 a1
 (fun yl1952 yl1953 yl1954 yl1955 yi1956 yi1957 yi1958 yi1959 _ _ => (jn (fun (yj1965 : Bool → Prop) =>
 (cbr (decide (yi1959 < yi1958))
 (asr (decide ((0 : Int) ≤ yi1959))
 (asr (decide (yi1959 < (((List.length yl1955) : Nat) : Int)))
 (lt (List.getD yl1955 (yi1959.toNat) .nils) (fun yr2193 =>
 (asr (conf (.agg [.i .i64, .i .i64]) yr2193)
 (a0 (intOfV (cellAt yr2193 0)) (intOfV (cellAt yr2193 1)) yi1956 yi1957 (fun yi2194 => 
 (yj1965 (yi2194 == (0 : Int))))))))))
 (yj1965 false)))
 (fun _ => (∃ n10433800 : Nat, L_audit_heights_1_1 a0 a1
 (fun yl2158 yl2159 yl2160 yl2161 yi2162 yi2163 yi2164 yi2165 _ _ => (jn (fun (yj2171 : Bool → Prop) =>
 (cbr (decide (yi2165 < yi2164))
 (asr (decide ((0 : Int) ≤ yi2165))
 (asr (decide (yi2165 < (((List.length yl2161) : Nat) : Int)))
 (lt (List.getD yl2161 (yi2165.toNat) .nils) (fun yr2191 =>
 (asr (conf (.agg [.i .i64, .i .i64]) yr2191)
 (a0 (intOfV (cellAt yr2191 0)) (intOfV (cellAt yr2191 1)) yi2162 yi2163 (fun yi2192 => 
 (yj2171 (yi2192 == (0 : Int))))))))))
 (yj2171 false)))
 (fun _ => (asr (!(decide ((intOfV (cellAt yr1343 5)) = (0 : Int))))
 (lt (IntKind.i64.wrap (Int.tdiv i4 (intOfV (cellAt yr1343 5)))) (fun yi2175 =>
 (lt (IntKind.i64.wrap ((intOfV (cellAt yr1343 4)) * yi2175)) (fun yi2176 =>
 (lt (IntKind.i64.wrap (yi2176 * i5)) (fun yi2177 =>
 (asr (decide ((0 : Int) ≤ yi2165))
 (asr (decide (yi2165 < ((n9 : Nat) : Int)))
 (asr (decide ((List.length yl2159) = n10))
 (asr (decide ((0 + (yi2165.toNat)) < (List.length yl2159)))
 (lt (List.getD yl2159 (0 + (yi2165.toNat)) .nils) (fun yr2182 =>
 (asr (conf (.one (.i .i64)) yr2182)
 (asr (decide ((0 : Int) ≤ yi1959))
 (asr (decide (yi1959 < ((n9 : Nat) : Int)))
 (asr (decide ((List.length yl2159) = n10))
 (asr (decide ((0 + (yi1959.toNat)) < (List.length yl2159)))
 (lt (List.getD yl2159 (0 + (yi1959.toNat)) .nils) (fun yr2183 =>
 (asr (conf (.one (.i .i64)) yr2183)
 (lt (IntKind.i64.wrap ((intOfV yr2183) + yi2177)) (fun yi2184 =>
 (asr (decide ((0 : Int) ≤ yi2165))
 (asr (decide (yi2165 < ((n9 : Nat) : Int)))
 (asr (decide ((List.length yl2159) = n10))
 (asr (decide ((0 + (yi2165.toNat)) < (List.length yl2159)))
 (lt (List.getD yl2159 (0 + (yi2165.toNat)) .nils) (fun yr2185 =>
 (asr (conf (.one (.i .i64)) yr2185)
 (asr (decide ((0 : Int) ≤ yi1959))
 (asr (decide (yi1959 < ((n9 : Nat) : Int)))
 (asr (decide ((List.length (List.set yl2159 (0 + (yi2165.toNat)) (.int .i64 (if yi2184 > (intOfV yr2182) then yi2184 else (intOfV yr2182))))) = n10))
 (asr (decide ((0 + (yi1959.toNat)) < (List.length (List.set yl2159 (0 + (yi2165.toNat)) (.int .i64 (if yi2184 > (intOfV yr2182) then yi2184 else (intOfV yr2182)))))))
 (lt (List.getD (List.set yl2159 (0 + (yi2165.toNat)) (.int .i64 (if yi2184 > (intOfV yr2182) then yi2184 else (intOfV yr2182)))) (0 + (yi1959.toNat)) .nils) (fun yr2186 =>
 (asr (conf (.one (.i .i64)) yr2186)
 (asr (decide ((0 : Int) ≤ yi2165))
 (asr (decide (yi2165 < ((n9 : Nat) : Int)))
 (asr (decide ((List.length (List.set yl2159 (0 + (yi2165.toNat)) (.int .i64 (if yi2184 > (intOfV yr2182) then yi2184 else (intOfV yr2182))))) = n10))
 (asr (decide ((0 + (yi2165.toNat)) < (List.length (List.set yl2159 (0 + (yi2165.toNat)) (.int .i64 (if yi2184 > (intOfV yr2182) then yi2184 else (intOfV yr2182)))))))
 (lt (List.getD (List.set yl2159 (0 + (yi2165.toNat)) (.int .i64 (if yi2184 > (intOfV yr2182) then yi2184 else (intOfV yr2182)))) (0 + (yi2165.toNat)) .nils) (fun yr2187 =>
 (asr (conf (.one (.i .i64)) yr2187)
 (lt (IntKind.i64.wrap ((intOfV yr2187) - yi2177)) (fun yi2188 =>
 (asr (decide ((0 : Int) ≤ yi1959))
 (asr (decide (yi1959 < ((n9 : Nat) : Int)))
 (asr (decide ((List.length (List.set yl2159 (0 + (yi2165.toNat)) (.int .i64 (if yi2184 > (intOfV yr2182) then yi2184 else (intOfV yr2182))))) = n10))
 (asr (decide ((0 + (yi1959.toNat)) < (List.length (List.set yl2159 (0 + (yi2165.toNat)) (.int .i64 (if yi2184 > (intOfV yr2182) then yi2184 else (intOfV yr2182)))))))
 (lt (List.getD (List.set yl2159 (0 + (yi2165.toNat)) (.int .i64 (if yi2184 > (intOfV yr2182) then yi2184 else (intOfV yr2182)))) (0 + (yi1959.toNat)) .nils) (fun yr2189 =>
 (asr (conf (.one (.i .i64)) yr2189)
 (lt (IntKind.i64.wrap (i17 + (1 : Int))) (fun yi2190 =>
 (L_audit_heights_4_0 a0 a1 x17934302_0 n17934302 yl2158 (List.set (List.set yl2159 (0 + (yi2165.toNat)) (.int .i64 (if yi2184 > (intOfV yr2182) then yi2184 else (intOfV yr2182)))) (0 + (yi1959.toNat)) (.int .i64 (if yi2188 > (intOfV yr2186) then yi2188 else (intOfV yr2186)))) yl2160 l3 i4 i5 n6 n7 n8 n9 n10 n11 l12 i13 i14 l15 i16 yi2190)))))))))))))))))))))))))))))))))))))))))))))))))))))))))))
 n10433800 yl1952 yl1953 yl1954 yl1954 (intOfV (cellAt yr1343 2)) (intOfV (cellAt yr1343 3)) (((List.length yl1954) : Nat) : Int) (0 : Int) (((List.length yl1954) : Nat) : Int)))))
 n10433800 l0 l1 l2 l2 (intOfV (cellAt yr1343 0)) (intOfV (cellAt yr1343 1)) (((List.length l2) : Nat) : Int) (0 : Int) (((List.length l2) : Nat) : Int)))))))
 (x17934302_0 l0 l1 l2 l3 i4 i5 n6 n7 n8 n9 n10 n11 l12 i13 i14 l15 i16 i17 false))
def L_audit_heights_0_0 (a0 : T_audit_order) (a1 : T_s_Equal_int64_int64) (x17934300_0 : List PV → List PV → List PV → Int → Int → Nat → Nat → Nat → List PV → Int → Int → Bool → Prop) (x17934300_1 : List PV → List PV → Prop) : Nat → List PV → List PV → List PV → Int → Int → Nat → Nat → Nat → List PV → Int → Int → Prop
 | 0, _, _, _, _, _, _, _, _, _, _, _ => False
 | n17934300 + 1, l0, l1, l2, i3, i4, n5, n6, n7, l8, i9, i10 =>
 (cbr (decide (i10 < i9))
 (jn (fun (yj209 : List PV → List PV → Prop) =>
 (asr (decide ((0 : Int) ≤ i10))
 (asr (decide (i10 < (((List.length l8) : Nat) : Int)))
 (lt (List.getD l8 (i10.toNat) .nils) (fun yr212 =>
 (asr (conf (.agg [.i .i64, .i .i64, .i .i64, .i .i64, .i .i64, .i .i64, .b]) yr212)
 (cbr (!(boolOfV (cellAt yr212 6)))
 (yj209 l0 l1)
 (cbr (decide ((intOfV (cellAt yr212 4)) > (0 : Int)))
 (∃ n10433800 : Nat, L_audit_heights_1_0 a0 a1
 (fun yl390 yl391 yl392 yi393 yi394 yi395 yi396 _ _ => (jn (fun (yj402 : Bool → Prop) =>
 (cbr (decide (yi396 < yi395))
 (asr (decide ((0 : Int) ≤ yi396))
 (asr (decide (yi396 < (((List.length yl392) : Nat) : Int)))
 (lt (List.getD yl392 (yi396.toNat) .nils) (fun yr404 =>
 (asr (conf (.agg [.i .i64, .i .i64]) yr404)
 (a0 (intOfV (cellAt yr404 0)) (intOfV (cellAt yr404 1)) yi393 yi394 (fun yi405 => 
 (yj402 (yi405 == (0 : Int))))))))))
 (yj402 false)))
 (fun _ => (asr (decide ((0 : Int) ≤ yi396))
 (asr (decide (yi396 < ((n5 : Nat) : Int)))
 (asr (decide ((List.length yl390) = n6))
 (asr (decide ((0 + (yi396.toNat)) < (List.length yl390)))
 (lt (List.getD yl390 (0 + (yi396.toNat)) .nils) (fun yr403 =>
 (asr (conf (.one (.i .i64)) yr403)
 (yj209 (List.set yl390 (0 + (yi396.toNat)) (.int .i64 (1 : Int))) yl391)))))))))))
 n10433800 l0 l1 l1 (intOfV (cellAt yr212 2)) (intOfV (cellAt yr212 3)) (((List.length l1) : Nat) : Int) (0 : Int) (((List.length l1) : Nat) : Int))
 (cbr (!(((intOfV (cellAt yr212 0)) == (intOfV (cellAt yr212 2))) && (((intOfV (cellAt yr212 1)) == (intOfV (cellAt yr212 3))) && true)))
 (x17934300_1 l0 l1)
 (yj209 l0 l1))))))))))
 (fun yl207 yl208 => (lt (IntKind.i64.wrap (i10 + (1 : Int))) (fun yi210 =>
 (L_audit_heights_0_0 a0 a1 x17934300_0 x17934300_1 n17934300 yl207 yl208 l2 i3 i4 n5 n6 n7 l8 i9 yi210)))))
 (x17934300_0 l0 l1 l2 i3 i4 n5 n6 n7 l8 i9 i10 false))
def L_audit_heights_2_0 (a0 : T_audit_order) (a1 : T_s_Equal_int64_int64) (x17934303_0 : List PV → List PV → List PV → List PV → Int → Int → Nat → Nat → Nat → Nat → Nat → Nat → Int → Int → Bool → Prop) (x17934303_1 : List PV → List PV → List PV → Prop) (x17934303_2 : List PV → List PV → List PV → Nat → Nat → Nat → Prop) : Nat → List PV → List PV → List PV → List PV → Int → Int → Nat → Nat → Nat → Nat → Nat → Nat → Int → Int → Prop
 | 0, _, _, _, _, _, _, _, _, _, _, _, _, _, _ => False
 | n17934303 + 1, l0, l1, l2, l3, i4, i5, n6, n7, n8, n9, n10, n11, i12, i13 =>
 (cbr (decide (i13 < i12))
 (asr (clnDOk 1 8 l1 0 n9 n10 true)
 (∃ n17934301 : Nat, L_audit_heights_3_0 a0 a1
 (fun yl2260 yl2261 yl2262 yl2263 yi2264 yi2265 yn2266 yn2267 yn2268 yn2269 yn2270 yn2271 yl2272 _ yi2274 yi2275 _ => (∃ n17934302 : Nat, L_audit_heights_4_0 a0 a1
 (fun yl2296 yl2297 yl2298 yl2299 yi2300 yi2301 yn2302 yn2303 yn2304 yn2305 yn2306 yn2307 yl2308 yi2309 yi2310 _ _ _ _ => (asr (decide ((0 : Int) < ((yn2305 : Nat) : Int)))
 (asr (decide ((List.length yl2297) = yn2306))
 (asr (decide (0 < (List.length yl2297)))
 (lt (List.getD yl2297 0 .nils) (fun yr2318 =>
 (asr (conf (.one (.i .i64)) yr2318)
 (cbr (decide ((intOfV yr2318) > (0 : Int)))
 (x17934303_1 yl2296 yl2297 yl2298)
 (asr (decide ((List.length yl2297) = yn2306))
 (asr (decide ((0 + yn2305) ≤ yn2306))
 (a1 (List.take yn2305 yl2297) yl2308 (fun yb2320 => 
 (cbr yb2320
 (asr (decide ((0 : Int) < ((yn2302 : Nat) : Int)))
 (asr (decide ((List.length yl2296) = yn2303))
 (asr (decide (0 < (List.length yl2296)))
 (lt (List.getD yl2296 0 .nils) (fun yr2324 =>
 (asr (conf (.one (.i .i64)) yr2324)
 (cbr (decide ((intOfV yr2324) > (0 : Int)))
 (x17934303_1 yl2296 yl2297 yl2298)
 (x17934303_2 yl2296 yl2297 yl2298 yn2305 yn2306 yn2307))))))))
 (lt (IntKind.i64.wrap (yi2310 + (1 : Int))) (fun yi2325 =>
 (L_audit_heights_2_0 a0 a1 x17934303_0 x17934303_1 x17934303_2 n17934303 yl2296 yl2297 yl2298 yl2299 yi2300 yi2301 yn2302 yn2303 yn2304 yn2305 yn2306 yn2307 yi2309 yi2325))))))))))))))))
 n17934302 yl2260 yl2261 yl2262 yl2263 yi2264 yi2265 yn2266 yn2267 yn2268 yn2269 yn2270 yn2271 yl2272 yi2274 yi2275 yl2263 (((List.length yl2263) : Nat) : Int) (0 : Int)))
 n17934301 l0 l1 l2 l3 i4 i5 n6 n7 n8 n9 n10 n11 (List.take n9 (List.drop 0 l1)) (1 : Int) i12 i13))
 (x17934303_0 l0 l1 l2 l3 i4 i5 n6 n7 n8 n9 n10 n11 i12 i13 false))
def wv_audit_heights (a0 : T_audit_order) (a1 : T_s_Equal_int64_int64) (p0 p1 : List PV) (p2 : Int) (K0 : Prop) (K : List PV → Prop) : Prop :=
 (lt (IntKind.i64.wrap ((((List.length p0) : Nat) : Int) + (1 : Int))) (fun yi1 =>
 (asr (decide ((0 : Int) ≤ (((List.length p0) : Nat) : Int)))
 (asr (decide ((((List.length p0) : Nat) : Int) ≤ (((List.length p0) : Nat) : Int)))
 (asr (decide (((List.length p0) + 64) * (8 + 1) ≤ room))
 (∃ n17934300 : Nat, L_audit_heights_0_0 a0 a1
 (fun yl420 yl421 yl422 yi423 yi424 yn425 yn426 yn427 _ _ _ _ => (asr (decide ((0 : Int) ≤ (((List.length yl421) : Nat) : Int)))
 (asr (decide ((((List.length yl421) : Nat) : Int) ≤ (((List.length yl421) : Nat) : Int)))
 (asr (decide (((List.length yl421) + 64) * (8 + 1) ≤ room))
 (lt (IntKind.i64.wrap ((((List.length yl421) : Nat) : Int) + (1 : Int))) (fun yi2351 =>
 (∃ n17934303 : Nat, L_audit_heights_2_0 a0 a1
 (fun _ _ _ _ _ _ _ _ _ _ _ _ _ _ _ => K0)
 (fun _ _ _ => K0)
 (fun _ yl2371 _ yn2373 yn2374 _ => (asr (decide ((List.length yl2371) = yn2374))
 (asr (decide ((0 + yn2373) ≤ yn2374))
 (K (List.take yn2373 yl2371)))))
 n17934303 yl420 (List.replicate (List.length yl421) ((.int .i64 (0)) : PV)) yl421 yl422 yi423 yi424 yn425 yn426 yn427 (List.length yl421) (List.length yl421) (List.length yl421) yi2351 (0 : Int))))))))
 (fun _ _ => K0)
 n17934300 (List.replicate (List.length p0) ((.int .i64 (0)) : PV)) p0 p1 p2 yi1 (List.length p0) (List.length p0) (List.length p0) p1 (((List.length p1) : Nat) : Int) (0 : Int)))))))
def w_audit_heights (p0 p1 : List PV) (p2 : Int) (K0 : Prop) (K : List PV → Prop) : Prop := wv_audit_heights w_audit_order w_s_Equal_int64_int64 p0 p1 p2 K0 K
def pw_audit_heights (w : T_audit_heights) (as : List PV) (K : PV → Prop) : Prop :=
 match as with
 | [(.data p0), (.data p1), (.int .i64 p2)] => w p0 p1 p2 (K .nils) (fun r0 => K (.data r0))
 | _ => False
def wp_audit_heights (as : List PV) (K : PV → Prop) : Prop := pw_audit_heights w_audit_heights as K
def D_audit_heights_1 (F : Frm) (H : Hp) (A0 : List PV → List PV → List PV → Int → Int → Int → Int → Int → Prop) (A1 : List PV → List PV → List PV → List PV → Int → Int → Int → Int → Int → Prop) : Prop :=
 match F, H with
 | [(0, .v (.data l2)), (2, .v (.fn (.func q0) [] [])), (4, .box (.agg [(.int .i64 i3), (.int .i64 i4)])), (8, .v (.int .i64 i5)), (9, .v (.int .i64 i6)), (10, .v (.int .i64 i7))], [⟨false, true, 1, [(.data l1)]⟩, ⟨false, true, 1, l0⟩] => asr (Nat.beq q0 n_audit_order) (A0 l0 l1 l2 i3 i4 i5 i6 i7)
 | [(0, .v (.data l3)), (2, .v (.fn (.func q0) [] [])), (4, .box (.agg [(.int .i64 i4), (.int .i64 i5)])), (8, .v (.int .i64 i6)), (9, .v (.int .i64 i7)), (10, .v (.int .i64 i8))], [⟨false, true, 1, [(.data l2)]⟩, ⟨false, true, 1, l0⟩, ⟨false, true, 1, l1⟩] => asr (Nat.beq q0 n_audit_order) (A1 l0 l1 l2 l3 i4 i5 i6 i7 i8)
 | _, _ => False
def D_audit_heights_3 (F : Frm) (H : Hp) (A0 : List PV → List PV → List PV → List PV → Int → Int → Nat → Nat → Nat → Nat → Nat → Nat → List PV → Int → Int → Int → Prop) : Prop :=
 match F, H with
 | [(1, .v (.data l3)), (2, .v (.int .i64 i4)), (7, .v (.fn (.func q0) [] [(.ptr 0 1 0 0)])), (8, .v (.int .i64 i5)), (9, .v (.own 1 0 n6 n7 (some n8))), (12, .v (.own 2 0 n9 n10 (some n11))), (13, .v (.data l12)), (14, .v (.int .i64 i13)), (59, .v (.int .i64 i14)), (60, .v (.int .i64 i15))], [⟨false, true, 1, [(.data l2)]⟩, ⟨false, true, 1, l0⟩, ⟨false, true, 1, l1⟩] => asr (Nat.beq q0 n_audit_heights_1) (A0 l0 l1 l2 l3 i4 i5 n6 n7 n8 n9 n10 n11 l12 i13 i14 i15)
 | _, _ => False
def D_audit_heights_4 (F : Frm) (H : Hp) (A0 : List PV → List PV → List PV → List PV → Int → Int → Nat → Nat → Nat → Nat → Nat → Nat → List PV → Int → Int → List PV → Int → Int → Prop) : Prop :=
 match F, H with
 | [(1, .v (.data l3)), (2, .v (.int .i64 i4)), (7, .v (.fn (.func q0) [] [(.ptr 0 1 0 0)])), (8, .v (.int .i64 i5)), (9, .v (.own 1 0 n6 n7 (some n8))), (12, .v (.own 2 0 n9 n10 (some n11))), (13, .v (.data l12)), (59, .v (.int .i64 i13)), (60, .v (.int .i64 i14)), (88, .v (.data l15)), (89, .v (.int .i64 i16)), (90, .v (.int .i64 i17))], [⟨false, true, 1, [(.data l2)]⟩, ⟨false, true, 1, l0⟩, ⟨false, true, 1, l1⟩] => asr (Nat.beq q0 n_audit_heights_1) (A0 l0 l1 l2 l3 i4 i5 n6 n7 n8 n9 n10 n11 l12 i13 i14 l15 i16 i17)
 | _, _ => False
def D_audit_heights_0 (F : Frm) (H : Hp) (A0 : List PV → List PV → List PV → Int → Int → Nat → Nat → Nat → List PV → Int → Int → Prop) : Prop :=
 match F, H with
 | [(1, .v (.data l2)), (2, .v (.int .i64 i3)), (3, .v (.ptr 0 1 0 0)), (7, .v (.fn (.func q0) [] [(.ptr 0 1 0 0)])), (8, .v (.int .i64 i4)), (9, .v (.own 1 0 n5 n6 (some n7))), (27, .v (.data l8)), (28, .v (.int .i64 i9)), (29, .v (.int .i64 i10))], [⟨false, true, 1, [(.data l1)]⟩, ⟨false, true, 1, l0⟩] => asr (Nat.beq q0 n_audit_heights_1) (A0 l0 l1 l2 i3 i4 n5 n6 n7 l8 i9 i10)
 | _, _ => False
def D_audit_heights_2 (F : Frm) (H : Hp) (A0 : List PV → List PV → List PV → List PV → Int → Int → Nat → Nat → Nat → Nat → Nat → Nat → Int → Int → Prop) : Prop :=
 match F, H with
 | [(1, .v (.data l3)), (2, .v (.int .i64 i4)), (7, .v (.fn (.func q0) [] [(.ptr 0 1 0 0)])), (8, .v (.int .i64 i5)), (9, .v (.own 1 0 n6 n7 (some n8))), (12, .v (.own 2 0 n9 n10 (some n11))), (59, .v (.int .i64 i12)), (60, .v (.int .i64 i13))], [⟨false, true, 1, [(.data l2)]⟩, ⟨false, true, 1, l0⟩, ⟨false, true, 1, l1⟩] => asr (Nat.beq q0 n_audit_heights_1) (A0 l0 l1 l2 l3 i4 i5 n6 n7 n8 n9 n10 n11 i12 i13)
 | _, _ => False
def X_audit_heights_1_0 (Q : Ex → Frm → Hp → Prop) : List PV → List PV → List PV → Int → Int → Int → Int → Int → Bool → Prop := (fun l0 l1 l2 i3 i4 i5 i6 i7 b8 => Q (.exit 0) [(0, .v (.data l2)), (2, .v (.fn (.func n_audit_order) [] [])), (4, .box (.agg [(.int .i64 i3), (.int .i64 i4)])), (8, .v (.int .i64 i5)), (9, .v (.int .i64 i6)), (10, .v (.int .i64 i7)), (17, .v (.bool b8))] [⟨false, true, 1, ([(.data l1)] : List PV)⟩, ⟨false, true, 1, l0⟩])
def X_audit_heights_1_1 (Q : Ex → Frm → Hp → Prop) : List PV → List PV → List PV → List PV → Int → Int → Int → Int → Int → Bool → Prop := (fun l0 l1 l2 l3 i4 i5 i6 i7 i8 b9 => Q (.exit 0) [(0, .v (.data l3)), (2, .v (.fn (.func n_audit_order) [] [])), (4, .box (.agg [(.int .i64 i4), (.int .i64 i5)])), (8, .v (.int .i64 i6)), (9, .v (.int .i64 i7)), (10, .v (.int .i64 i8)), (17, .v (.bool b9))] [⟨false, true, 1, ([(.data l2)] : List PV)⟩, ⟨false, true, 1, l0⟩, ⟨false, true, 1, l1⟩])
def X_audit_heights_3_0 (Q : Ex → Frm → Hp → Prop) : List PV → List PV → List PV → List PV → Int → Int → Nat → Nat → Nat → Nat → Nat → Nat → List PV → Int → Int → Int → Bool → Prop := (fun l0 l1 l2 l3 i4 i5 n6 n7 n8 n9 n10 n11 l12 i13 i14 i15 b16 => Q (.exit 5) [(1, .v (.data l3)), (2, .v (.int .i64 i4)), (7, .v (.fn (.func n_audit_heights_1) [] [(.ptr 0 1 0 0)])), (8, .v (.int .i64 i5)), (9, .v (.own 1 0 n6 n7 (some n8))), (12, .v (.own 2 0 n9 n10 (some n11))), (13, .v (.data l12)), (14, .v (.int .i64 i13)), (59, .v (.int .i64 i14)), (60, .v (.int .i64 i15)), (67, .v (.bool b16))] [⟨false, true, 1, ([(.data l2)] : List PV)⟩, ⟨false, true, 1, l0⟩, ⟨false, true, 1, l1⟩])
def X_audit_heights_4_0 (Q : Ex → Frm → Hp → Prop) : List PV → List PV → List PV → List PV → Int → Int → Nat → Nat → Nat → Nat → Nat → Nat → List PV → Int → Int → List PV → Int → Int → Bool → Prop := (fun l0 l1 l2 l3 i4 i5 n6 n7 n8 n9 n10 n11 l12 i13 i14 l15 i16 i17 b18 => Q (.exit 7) [(1, .v (.data l3)), (2, .v (.int .i64 i4)), (7, .v (.fn (.func n_audit_heights_1) [] [(.ptr 0 1 0 0)])), (8, .v (.int .i64 i5)), (9, .v (.own 1 0 n6 n7 (some n8))), (12, .v (.own 2 0 n9 n10 (some n11))), (13, .v (.data l12)), (59, .v (.int .i64 i13)), (60, .v (.int .i64 i14)), (88, .v (.data l15)), (89, .v (.int .i64 i16)), (90, .v (.int .i64 i17)), (91, .v (.bool b18))] [⟨false, true, 1, ([(.data l2)] : List PV)⟩, ⟨false, true, 1, l0⟩, ⟨false, true, 1, l1⟩])
def X_audit_heights_0_0 (Q : Ex → Frm → Hp → Prop) : List PV → List PV → List PV → Int → Int → Nat → Nat → Nat → List PV → Int → Int → Bool → Prop := (fun l0 l1 l2 i3 i4 n5 n6 n7 l8 i9 i10 b11 => Q (.exit 0) [(1, .v (.data l2)), (2, .v (.int .i64 i3)), (3, .v (.ptr 0 1 0 0)), (7, .v (.fn (.func n_audit_heights_1) [] [(.ptr 0 1 0 0)])), (8, .v (.int .i64 i4)), (9, .v (.own 1 0 n5 n6 (some n7))), (27, .v (.data l8)), (28, .v (.int .i64 i9)), (29, .v (.int .i64 i10)), (30, .v (.bool b11))] [⟨false, true, 1, ([(.data l1)] : List PV)⟩, ⟨false, true, 1, l0⟩])
def X_audit_heights_0_1 (Q : Ex → Frm → Hp → Prop) : List PV → List PV → Prop := (fun l0 l1 => Q .ret [(6, .v .nils)] [⟨false, true, 1, ([(.data l1)] : List PV)⟩, ⟨false, true, 1, l0⟩])
def X_audit_heights_2_0 (Q : Ex → Frm → Hp → Prop) : List PV → List PV → List PV → List PV → Int → Int → Nat → Nat → Nat → Nat → Nat → Nat → Int → Int → Bool → Prop := (fun l0 l1 l2 l3 i4 i5 n6 n7 n8 n9 n10 n11 i12 i13 b14 => Q (.exit 3) [(1, .v (.data l3)), (2, .v (.int .i64 i4)), (7, .v (.fn (.func n_audit_heights_1) [] [(.ptr 0 1 0 0)])), (8, .v (.int .i64 i5)), (9, .v (.own 1 0 n6 n7 (some n8))), (12, .v (.own 2 0 n9 n10 (some n11))), (59, .v (.int .i64 i12)), (60, .v (.int .i64 i13)), (61, .v (.bool b14))] [⟨false, true, 1, ([(.data l2)] : List PV)⟩, ⟨false, true, 1, l0⟩, ⟨false, true, 1, l1⟩])
def X_audit_heights_2_1 (Q : Ex → Frm → Hp → Prop) : List PV → List PV → List PV → Prop := (fun l0 l1 l2 => Q .ret [(6, .v .nils)] [⟨false, true, 1, ([(.data l2)] : List PV)⟩, ⟨false, true, 1, l0⟩, ⟨false, true, 1, l1⟩])
def X_audit_heights_2_2 (Q : Ex → Frm → Hp → Prop) : List PV → List PV → List PV → Nat → Nat → Nat → Prop := (fun l0 l1 l2 n3 n4 n5 => Q .ret [(6, .v (.own 2 0 n3 n4 (some n5)))] [⟨false, true, 1, ([(.data l2)] : List PV)⟩, ⟨false, true, 1, l0⟩, ⟨false, true, 1, l1⟩])
def R_audit_heights_1 (a0 : T_audit_order) (a1 : T_s_Equal_int64_int64) (Q : Ex → Frm → Hp → Prop) (n : Nat) (F : Frm) (H : Hp) : Prop := D_audit_heights_1 F H (fun l0 l1 l2 i3 i4 i5 i6 i7 => L_audit_heights_1_0 a0 a1 (X_audit_heights_1_0 Q) n l0 l1 l2 i3 i4 i5 i6 i7) (fun l0 l1 l2 l3 i4 i5 i6 i7 i8 => L_audit_heights_1_1 a0 a1 (X_audit_heights_1_1 Q) n l0 l1 l2 l3 i4 i5 i6 i7 i8)
def R_audit_heights_3 (a0 : T_audit_order) (a1 : T_s_Equal_int64_int64) (Q : Ex → Frm → Hp → Prop) (n : Nat) (F : Frm) (H : Hp) : Prop := D_audit_heights_3 F H (fun l0 l1 l2 l3 i4 i5 n6 n7 n8 n9 n10 n11 l12 i13 i14 i15 => L_audit_heights_3_0 a0 a1 (X_audit_heights_3_0 Q) n l0 l1 l2 l3 i4 i5 n6 n7 n8 n9 n10 n11 l12 i13 i14 i15)
def R_audit_heights_4 (a0 : T_audit_order) (a1 : T_s_Equal_int64_int64) (Q : Ex → Frm → Hp → Prop) (n : Nat) (F : Frm) (H : Hp) : Prop := D_audit_heights_4 F H (fun l0 l1 l2 l3 i4 i5 n6 n7 n8 n9 n10 n11 l12 i13 i14 l15 i16 i17 => L_audit_heights_4_0 a0 a1 (X_audit_heights_4_0 Q) n l0 l1 l2 l3 i4 i5 n6 n7 n8 n9 n10 n11 l12 i13 i14 l15 i16 i17)
def R_audit_heights_0 (a0 : T_audit_order) (a1 : T_s_Equal_int64_int64) (Q : Ex → Frm → Hp → Prop) (n : Nat) (F : Frm) (H : Hp) : Prop := D_audit_heights_0 F H (fun l0 l1 l2 i3 i4 n5 n6 n7 l8 i9 i10 => L_audit_heights_0_0 a0 a1 (X_audit_heights_0_0 Q) (X_audit_heights_0_1 Q) n l0 l1 l2 i3 i4 n5 n6 n7 l8 i9 i10)
def R_audit_heights_2 (a0 : T_audit_order) (a1 : T_s_Equal_int64_int64) (Q : Ex → Frm → Hp → Prop) (n : Nat) (F : Frm) (H : Hp) : Prop := D_audit_heights_2 F H (fun l0 l1 l2 l3 i4 i5 n6 n7 n8 n9 n10 n11 i12 i13 => L_audit_heights_2_0 a0 a1 (X_audit_heights_2_0 Q) (X_audit_heights_2_1 Q) (X_audit_heights_2_2 Q) n l0 l1 l2 l3 i4 i5 n6 n7 n8 n9 n10 n11 i12 i13)
def lp_audit_heights (a0 : T_audit_order) (a1 : T_s_Equal_int64_int64) : LP := fun id F H Q =>
 bif Nat.beq id 10433800 then D_audit_heights_1 F H (fun l0 l1 l2 i3 i4 i5 i6 i7 => ∃ n : Nat, L_audit_heights_1_0 a0 a1 (X_audit_heights_1_0 Q) n l0 l1 l2 i3 i4 i5 i6 i7) (fun l0 l1 l2 l3 i4 i5 i6 i7 i8 => ∃ n : Nat, L_audit_heights_1_1 a0 a1 (X_audit_heights_1_1 Q) n l0 l1 l2 l3 i4 i5 i6 i7 i8) else
 bif Nat.beq id 17934301 then D_audit_heights_3 F H (fun l0 l1 l2 l3 i4 i5 n6 n7 n8 n9 n10 n11 l12 i13 i14 i15 => ∃ n : Nat, L_audit_heights_3_0 a0 a1 (X_audit_heights_3_0 Q) n l0 l1 l2 l3 i4 i5 n6 n7 n8 n9 n10 n11 l12 i13 i14 i15) else
 bif Nat.beq id 17934302 then D_audit_heights_4 F H (fun l0 l1 l2 l3 i4 i5 n6 n7 n8 n9 n10 n11 l12 i13 i14 l15 i16 i17 => ∃ n : Nat, L_audit_heights_4_0 a0 a1 (X_audit_heights_4_0 Q) n l0 l1 l2 l3 i4 i5 n6 n7 n8 n9 n10 n11 l12 i13 i14 l15 i16 i17) else
 bif Nat.beq id 17934300 then D_audit_heights_0 F H (fun l0 l1 l2 i3 i4 n5 n6 n7 l8 i9 i10 => ∃ n : Nat, L_audit_heights_0_0 a0 a1 (X_audit_heights_0_0 Q) (X_audit_heights_0_1 Q) n l0 l1 l2 i3 i4 n5 n6 n7 l8 i9 i10) else
 bif Nat.beq id 17934303 then D_audit_heights_2 F H (fun l0 l1 l2 l3 i4 i5 n6 n7 n8 n9 n10 n11 i12 i13 => ∃ n : Nat, L_audit_heights_2_0 a0 a1 (X_audit_heights_2_0 Q) (X_audit_heights_2_1 Q) (X_audit_heights_2_2 Q) n l0 l1 l2 l3 i4 i5 n6 n7 n8 n9 n10 n11 i12 i13) else
 False
def S0_audit_heights (a0 : T_audit_order) (a1 : T_s_Equal_int64_int64) : SE := ⟨(E ef0), lookS [(n_audit_order, pw_audit_order a0), (n_s_Equal_int64_int64, pw_s_Equal_int64_int64 a1)], lookI [(n_audit_heights_1, t_audit_heights_1)], lp_audit_heights a0 a1⟩
def S1_audit_heights (a0 : T_audit_order) (a1 : T_s_Equal_int64_int64) : SE := ⟨(E ef0), lookS [(n_audit_order, pw_audit_order a0), (n_s_Equal_int64_int64, pw_s_Equal_int64_int64 a1)], lookI [(n_audit_heights_1, t_audit_heights_1), (n_s_BinarySearchFunc_api_Ratio_api_Ratio_api_Ratio, t_s_BinarySearchFunc_api_Ratio_api_Ratio_api_Ratio)], lp_audit_heights a0 a1⟩
theorem se0_audit_heights : SEOk (S0_audit_heights w_audit_order w_s_Equal_int64_int64) := seOk_of ⟨(ok_audit_order ef0 effG0), (ok_s_Equal_int64_int64 ef0 effG0), trivial⟩ ⟨⟨by kernel_rfl, by kernel_rfl, rfl, fun as => baseS_none (by kernel_rfl) as, effG0.num _ (by kernel_rfl), (LpOk_no (by kernel_rfl))⟩, trivial⟩ effG0.ok
theorem body_audit_heights_1_0 (a0 a1 Q n l0 l1 l2 i3 i4 i5 i6 i7) : WC (E ef0) (callW (S0_audit_heights a0 a1) 5) (lp_audit_heights a0 a1) b_10433800 [(0, .v (.data l2)), (2, .v (.fn (.func n_audit_order) [] [])), (4, .box (.agg [(.int .i64 i3), (.int .i64 i4)])), (8, .v (.int .i64 i5)), (9, .v (.int .i64 i6)), (10, .v (.int .i64 i7))] [⟨false, true, 1, ([(.data l1)] : List PV)⟩, ⟨false, true, 1, l0⟩] (fun x F' H' => match x with | .norm => R_audit_heights_1 a0 a1 Q n F' H' | .exit i => Q (.exit i) F' H' | .ret => Q .ret F' H') = L_audit_heights_1_0 a0 a1 (X_audit_heights_1_0 Q) (n + 1) l0 l1 l2 i3 i4 i5 i6 i7 := by kernel_rfl
theorem body_audit_heights_1_1 (a0 a1 Q n l0 l1 l2 l3 i4 i5 i6 i7 i8) : WC (E ef0) (callW (S0_audit_heights a0 a1) 5) (lp_audit_heights a0 a1) b_10433800 [(0, .v (.data l3)), (2, .v (.fn (.func n_audit_order) [] [])), (4, .box (.agg [(.int .i64 i4), (.int .i64 i5)])), (8, .v (.int .i64 i6)), (9, .v (.int .i64 i7)), (10, .v (.int .i64 i8))] [⟨false, true, 1, ([(.data l2)] : List PV)⟩, ⟨false, true, 1, l0⟩, ⟨false, true, 1, l1⟩] (fun x F' H' => match x with | .norm => R_audit_heights_1 a0 a1 Q n F' H' | .exit i => Q (.exit i) F' H' | .ret => Q .ret F' H') = L_audit_heights_1_1 a0 a1 (X_audit_heights_1_1 Q) (n + 1) l0 l1 l2 l3 i4 i5 i6 i7 i8 := by kernel_rfl
theorem lpb_audit_heights_1 : LpOk (E ef0) (lp_audit_heights w_audit_order w_s_Equal_int64_int64) b_10433800 := (LpOk_no (by kernel_rfl))
theorem loop_audit_heights_1 : ∀ F H Q, lp_audit_heights w_audit_order w_s_Equal_int64_int64 10433800 F H Q → LoopT (E ef0) b_10433800 F H Q := by
 intro F H Q h
 have go := LoopT.intro (callW_ok (se0_audit_heights) 5) (lpb_audit_heights_1) (R_audit_heights_1 w_audit_order w_s_Equal_int64_int64 Q) (by
   intro F H h
   unfold R_audit_heights_1 D_audit_heights_1 at h
   split at h
   · obtain ⟨hg, k⟩ := asr_iff.1 h
     clear h
     have h := k
     clear k
     try simp only [Bool.and_eq_true, decide_eq_true_eq] at hg
     have g0 := hg; have g0 := Nat.eq_of_beq_eq_true g0; subst g0; exact h
   · obtain ⟨hg, k⟩ := asr_iff.1 h
     clear h
     have h := k
     clear k
     try simp only [Bool.and_eq_true, decide_eq_true_eq] at hg
     have g0 := hg; have g0 := Nat.eq_of_beq_eq_true g0; subst g0; exact h
   · exact h) (by
   intro n F H h
   unfold R_audit_heights_1 D_audit_heights_1 at h
   split at h
   · obtain ⟨hg, k⟩ := asr_iff.1 h
     clear h
     have h := k
     clear k
     try simp only [Bool.and_eq_true, decide_eq_true_eq] at hg
     have g0 := hg; have g0 := Nat.eq_of_beq_eq_true g0; subst g0; exact (body_audit_heights_1_0 ..).mpr h
   · obtain ⟨hg, k⟩ := asr_iff.1 h
     clear h
     have h := k
     clear k
     try simp only [Bool.and_eq_true, decide_eq_true_eq] at hg
     have g0 := hg; have g0 := Nat.eq_of_beq_eq_true g0; subst g0; exact (body_audit_heights_1_1 ..).mpr h
   · exact h.elim)
 have h : D_audit_heights_1 F H _ _ := h
 unfold D_audit_heights_1 at h
 split at h
 · obtain ⟨hg, n, h⟩ := asr_iff.1 h; exact go n _ _ (asr_iff.2 ⟨hg, h⟩)
 · obtain ⟨hg, n, h⟩ := asr_iff.1 h; exact go n _ _ (asr_iff.2 ⟨hg, h⟩)
 · exact h.elim
theorem body_audit_heights_3_0 (a0 a1 Q n l0 l1 l2 l3 i4 i5 n6 n7 n8 n9 n10 n11 l12 i13 i14 i15) : WC (E ef0) (callW (S0_audit_heights a0 a1) 5) (lp_audit_heights a0 a1) b_17934301 [(1, .v (.data l3)), (2, .v (.int .i64 i4)), (7, .v (.fn (.func n_audit_heights_1) [] [(.ptr 0 1 0 0)])), (8, .v (.int .i64 i5)), (9, .v (.own 1 0 n6 n7 (some n8))), (12, .v (.own 2 0 n9 n10 (some n11))), (13, .v (.data l12)), (14, .v (.int .i64 i13)), (59, .v (.int .i64 i14)), (60, .v (.int .i64 i15))] [⟨false, true, 1, ([(.data l2)] : List PV)⟩, ⟨false, true, 1, l0⟩, ⟨false, true, 1, l1⟩] (fun x F' H' => match x with | .norm => R_audit_heights_3 a0 a1 Q n F' H' | .exit i => Q (.exit i) F' H' | .ret => Q .ret F' H') = L_audit_heights_3_0 a0 a1 (X_audit_heights_3_0 Q) (n + 1) l0 l1 l2 l3 i4 i5 n6 n7 n8 n9 n10 n11 l12 i13 i14 i15 := by kernel_rfl
theorem lpb_audit_heights_3 : LpOk (E ef0) (lp_audit_heights w_audit_order w_s_Equal_int64_int64) b_17934301 := (LpOk_no (by kernel_rfl))
theorem loop_audit_heights_3 : ∀ F H Q, lp_audit_heights w_audit_order w_s_Equal_int64_int64 17934301 F H Q → LoopT (E ef0) b_17934301 F H Q := by
 intro F H Q h
 have go := LoopT.intro (callW_ok (se0_audit_heights) 5) (lpb_audit_heights_3) (R_audit_heights_3 w_audit_order w_s_Equal_int64_int64 Q) (by
   intro F H h
   unfold R_audit_heights_3 D_audit_heights_3 at h
   split at h
   · obtain ⟨hg, k⟩ := asr_iff.1 h
     clear h
     have h := k
     clear k
     try simp only [Bool.and_eq_true, decide_eq_true_eq] at hg
     have g0 := hg; have g0 := Nat.eq_of_beq_eq_true g0; subst g0; exact h
   · exact h) (by
   intro n F H h
   unfold R_audit_heights_3 D_audit_heights_3 at h
   split at h
   · obtain ⟨hg, k⟩ := asr_iff.1 h
     clear h
     have h := k
     clear k
     try simp only [Bool.and_eq_true, decide_eq_true_eq] at hg
     have g0 := hg; have g0 := Nat.eq_of_beq_eq_true g0; subst g0; exact (body_audit_heights_3_0 ..).mpr h
   · exact h.elim)
 have h : D_audit_heights_3 F H _ := h
 unfold D_audit_heights_3 at h
 split at h
 · obtain ⟨hg, n, h⟩ := asr_iff.1 h; exact go n _ _ (asr_iff.2 ⟨hg, h⟩)
 · exact h.elim
theorem se1_audit_heights : SEOk (S1_audit_heights w_audit_order w_s_Equal_int64_int64) := seOk_of ⟨(ok_audit_order ef0 effG0), (ok_s_Equal_int64_int64 ef0 effG0), trivial⟩ ⟨⟨by kernel_rfl, by kernel_rfl, rfl, fun as => baseS_none (by kernel_rfl) as, effG0.num _ (by kernel_rfl), (LpOk_no (by kernel_rfl))⟩, ⟨by kernel_rfl, by kernel_rfl, rfl, fun as => baseS_none (by kernel_rfl) as, effG0.num _ (by kernel_rfl), (LpOk_by (l := [(10433800, b_10433800)]) ⟨loop_audit_heights_1, trivial⟩ (by kernel_rfl))⟩, trivial⟩ effG0.ok
theorem body_audit_heights_4_0 (a0 a1 Q n l0 l1 l2 l3 i4 i5 n6 n7 n8 n9 n10 n11 l12 i13 i14 l15 i16 i17) : WC (E ef0) (callW (S1_audit_heights a0 a1) 5) (lp_audit_heights a0 a1) b_17934302 [(1, .v (.data l3)), (2, .v (.int .i64 i4)), (7, .v (.fn (.func n_audit_heights_1) [] [(.ptr 0 1 0 0)])), (8, .v (.int .i64 i5)), (9, .v (.own 1 0 n6 n7 (some n8))), (12, .v (.own 2 0 n9 n10 (some n11))), (13, .v (.data l12)), (59, .v (.int .i64 i13)), (60, .v (.int .i64 i14)), (88, .v (.data l15)), (89, .v (.int .i64 i16)), (90, .v (.int .i64 i17))] [⟨false, true, 1, ([(.data l2)] : List PV)⟩, ⟨false, true, 1, l0⟩, ⟨false, true, 1, l1⟩] (fun x F' H' => match x with | .norm => R_audit_heights_4 a0 a1 Q n F' H' | .exit i => Q (.exit i) F' H' | .ret => Q .ret F' H') = L_audit_heights_4_0 a0 a1 (X_audit_heights_4_0 Q) (n + 1) l0 l1 l2 l3 i4 i5 n6 n7 n8 n9 n10 n11 l12 i13 i14 l15 i16 i17 := by kernel_rfl
theorem lpb_audit_heights_4 : LpOk (E ef0) (lp_audit_heights w_audit_order w_s_Equal_int64_int64) b_17934302 := (LpOk_no (by kernel_rfl))
theorem loop_audit_heights_4 : ∀ F H Q, lp_audit_heights w_audit_order w_s_Equal_int64_int64 17934302 F H Q → LoopT (E ef0) b_17934302 F H Q := by
 intro F H Q h
 have go := LoopT.intro (callW_ok (se1_audit_heights) 5) (lpb_audit_heights_4) (R_audit_heights_4 w_audit_order w_s_Equal_int64_int64 Q) (by
   intro F H h
   unfold R_audit_heights_4 D_audit_heights_4 at h
   split at h
   · obtain ⟨hg, k⟩ := asr_iff.1 h
     clear h
     have h := k
     clear k
     try simp only [Bool.and_eq_true, decide_eq_true_eq] at hg
     have g0 := hg; have g0 := Nat.eq_of_beq_eq_true g0; subst g0; exact h
   · exact h) (by
   intro n F H h
   unfold R_audit_heights_4 D_audit_heights_4 at h
   split at h
   · obtain ⟨hg, k⟩ := asr_iff.1 h
     clear h
     have h := k
     clear k
     try simp only [Bool.and_eq_true, decide_eq_true_eq] at hg
     have g0 := hg; have g0 := Nat.eq_of_beq_eq_true g0; subst g0; exact (body_audit_heights_4_0 ..).mpr h
   · exact h.elim)
 have h : D_audit_heights_4 F H _ := h
 unfold D_audit_heights_4 at h
 split at h
 · obtain ⟨hg, n, h⟩ := asr_iff.1 h; exact go n _ _ (asr_iff.2 ⟨hg, h⟩)
 · exact h.elim
theorem body_audit_heights_0_0 (a0 a1 Q n l0 l1 l2 i3 i4 n5 n6 n7 l8 i9 i10) : WC (E ef0) (callW (S1_audit_heights a0 a1) 5) (lp_audit_heights a0 a1) b_17934300 [(1, .v (.data l2)), (2, .v (.int .i64 i3)), (3, .v (.ptr 0 1 0 0)), (7, .v (.fn (.func n_audit_heights_1) [] [(.ptr 0 1 0 0)])), (8, .v (.int .i64 i4)), (9, .v (.own 1 0 n5 n6 (some n7))), (27, .v (.data l8)), (28, .v (.int .i64 i9)), (29, .v (.int .i64 i10))] [⟨false, true, 1, ([(.data l1)] : List PV)⟩, ⟨false, true, 1, l0⟩] (fun x F' H' => match x with | .norm => R_audit_heights_0 a0 a1 Q n F' H' | .exit i => Q (.exit i) F' H' | .ret => Q .ret F' H') = L_audit_heights_0_0 a0 a1 (X_audit_heights_0_0 Q) (X_audit_heights_0_1 Q) (n + 1) l0 l1 l2 i3 i4 n5 n6 n7 l8 i9 i10 := by kernel_rfl
theorem lpb_audit_heights_0 : LpOk (E ef0) (lp_audit_heights w_audit_order w_s_Equal_int64_int64) b_17934300 := (LpOk_no (by kernel_rfl))
theorem loop_audit_heights_0 : ∀ F H Q, lp_audit_heights w_audit_order w_s_Equal_int64_int64 17934300 F H Q → LoopT (E ef0) b_17934300 F H Q := by
 intro F H Q h
 have go := LoopT.intro (callW_ok (se1_audit_heights) 5) (lpb_audit_heights_0) (R_audit_heights_0 w_audit_order w_s_Equal_int64_int64 Q) (by
   intro F H h
   unfold R_audit_heights_0 D_audit_heights_0 at h
   split at h
   · obtain ⟨hg, k⟩ := asr_iff.1 h
     clear h
     have h := k
     clear k
     try simp only [Bool.and_eq_true, decide_eq_true_eq] at hg
     have g0 := hg; have g0 := Nat.eq_of_beq_eq_true g0; subst g0; exact h
   · exact h) (by
   intro n F H h
   unfold R_audit_heights_0 D_audit_heights_0 at h
   split at h
   · obtain ⟨hg, k⟩ := asr_iff.1 h
     clear h
     have h := k
     clear k
     try simp only [Bool.and_eq_true, decide_eq_true_eq] at hg
     have g0 := hg; have g0 := Nat.eq_of_beq_eq_true g0; subst g0; exact (body_audit_heights_0_0 ..).mpr h
   · exact h.elim)
 have h : D_audit_heights_0 F H _ := h
 unfold D_audit_heights_0 at h
 split at h
 · obtain ⟨hg, n, h⟩ := asr_iff.1 h; exact go n _ _ (asr_iff.2 ⟨hg, h⟩)
 · exact h.elim
theorem body_audit_heights_2_0 (a0 a1 Q n l0 l1 l2 l3 i4 i5 n6 n7 n8 n9 n10 n11 i12 i13) : WC (E ef0) (callW (S1_audit_heights a0 a1) 5) (lp_audit_heights a0 a1) b_17934303 [(1, .v (.data l3)), (2, .v (.int .i64 i4)), (7, .v (.fn (.func n_audit_heights_1) [] [(.ptr 0 1 0 0)])), (8, .v (.int .i64 i5)), (9, .v (.own 1 0 n6 n7 (some n8))), (12, .v (.own 2 0 n9 n10 (some n11))), (59, .v (.int .i64 i12)), (60, .v (.int .i64 i13))] [⟨false, true, 1, ([(.data l2)] : List PV)⟩, ⟨false, true, 1, l0⟩, ⟨false, true, 1, l1⟩] (fun x F' H' => match x with | .norm => R_audit_heights_2 a0 a1 Q n F' H' | .exit i => Q (.exit i) F' H' | .ret => Q .ret F' H') = L_audit_heights_2_0 a0 a1 (X_audit_heights_2_0 Q) (X_audit_heights_2_1 Q) (X_audit_heights_2_2 Q) (n + 1) l0 l1 l2 l3 i4 i5 n6 n7 n8 n9 n10 n11 i12 i13 := by kernel_rfl
theorem lpb_audit_heights_2 : LpOk (E ef0) (lp_audit_heights w_audit_order w_s_Equal_int64_int64) b_17934303 := (LpOk_by (l := [(17934301, b_17934301), (17934302, b_17934302)]) ⟨loop_audit_heights_3, loop_audit_heights_4, trivial⟩ (by kernel_rfl))
theorem loop_audit_heights_2 : ∀ F H Q, lp_audit_heights w_audit_order w_s_Equal_int64_int64 17934303 F H Q → LoopT (E ef0) b_17934303 F H Q := by
 intro F H Q h
 have go := LoopT.intro (callW_ok (se1_audit_heights) 5) (lpb_audit_heights_2) (R_audit_heights_2 w_audit_order w_s_Equal_int64_int64 Q) (by
   intro F H h
   unfold R_audit_heights_2 D_audit_heights_2 at h
   split at h
   · obtain ⟨hg, k⟩ := asr_iff.1 h
     clear h
     have h := k
     clear k
     try simp only [Bool.and_eq_true, decide_eq_true_eq] at hg
     have g0 := hg; have g0 := Nat.eq_of_beq_eq_true g0; subst g0; exact h
   · exact h) (by
   intro n F H h
   unfold R_audit_heights_2 D_audit_heights_2 at h
   split at h
   · obtain ⟨hg, k⟩ := asr_iff.1 h
     clear h
     have h := k
     clear k
     try simp only [Bool.and_eq_true, decide_eq_true_eq] at hg
     have g0 := hg; have g0 := Nat.eq_of_beq_eq_true g0; subst g0; exact (body_audit_heights_2_0 ..).mpr h
   · exact h.elim)
 have h : D_audit_heights_2 F H _ := h
 unfold D_audit_heights_2 at h
 split at h
 · obtain ⟨hg, n, h⟩ := asr_iff.1 h; exact go n _ _ (asr_iff.2 ⟨hg, h⟩)
 · exact h.elim
theorem eq_audit_heights (a0 a1 p0 p1 p2 K0 K) : WPN (S1_audit_heights a0 a1) 6 t_audit_heights [(.data p0), (.data p1), (.int .i64 p2)] K0 K = wv_audit_heights a0 a1 p0 p1 p2 K0 (fun r0 => K (.data r0)) := by kernel_rfl
theorem ok_audit_heights : OkF (E ef0) wp_audit_heights n_audit_heights := by
 intro as K h
 unfold wp_audit_heights pw_audit_heights at h
 split at h
 · exact WPN_ok (se1_audit_heights) (LpOk_by (l := [(17934300, b_17934300), (17934301, b_17934301), (17934302, b_17934302), (17934303, b_17934303)]) ⟨loop_audit_heights_0, loop_audit_heights_3, loop_audit_heights_4, loop_audit_heights_2, trivial⟩ (by kernel_rfl)) (by kernel_rfl) (by kernel_rfl) (fun _ => baseS_none (by kernel_rfl) _) (effG0.num _ (by kernel_rfl)) ((eq_audit_heights ..).mpr h)
 · exact h.elim
abbrev T_audit_Guess : Type := Int → List PV → (List PV → List PV → Int → Prop) → Prop
def L_audit_Guess_0_1 (a0 : T_audit_claims) (a1 : T_audit_scale) (a2 : T_audit_pointsOf) (a3 : T_audit_heights) (a4 : T_ratio_Make) (x1 : List PV → Int → List PV → List PV → List PV → Int → Int → Bool → Prop) : Nat → List PV → Int → List PV → List PV → List PV → Int → Int → Prop
 | 0, _, _, _, _, _, _, _ => False
 | n + 1, l0, i1, l2, l5, l6, i7, i8 =>
 (cbr (decide (i8 < i7))
 (asr (decide ((0 : Int) ≤ i8))
 (asr (decide (i8 < (((List.length l6) : Nat) : Int)))
 (lt (List.getD l6 (i8.toNat) .nils) (fun yr50 =>
 (asr (conf (.one (.i .i64)) yr50)
 (lt (IntKind.i64.wrap ((((List.length l5) : Nat) : Int) + (1 : Int))) (fun yi56 =>
 (lt (IntKind.i64.wrap (i1 * yi56)) (fun yi57 =>
 (a4 (intOfV yr50) yi57 (fun yi58 yi59 _ => 
 (asr (decide ((List.length l0) = (List.length l0)))
 (asr (decide ((0 + (List.length l0)) ≤ (List.length l0)))
 (asr (!(decide (((0 + (List.length l0)) + 1) ≤ (List.length l0))))
 (asr (decide ((List.length l0) = (List.length l0)))
 (asr (decide ((((List.length l0) + 1) + 64) * (16 + 1) ≤ room))
 (lt (IntKind.i64.wrap (i8 + (1 : Int))) (fun yi61 =>
 (asr (decide ((List.length (l0 ++ ([(.agg [(.int .i64 yi58), (.int .i64 yi59)])] : List PV))) = List.length (l0 ++ ([(.agg [(.int .i64 yi58), (.int .i64 yi59)])] : List PV))) && decide ((List.length (l0 ++ ([(.agg [(.int .i64 yi58), (.int .i64 yi59)])] : List PV))) = List.length (l0 ++ ([(.agg [(.int .i64 yi58), (.int .i64 yi59)])] : List PV))))
 (L_audit_Guess_0_1 a0 a1 a2 a3 a4 x1 n (l0 ++ ([(.agg [(.int .i64 yi58), (.int .i64 yi59)])] : List PV)) i1 l2 l5 l6 i7 yi61))))))))))))))))))))
 (x1 l0 i1 l2 l5 l6 i7 i8 false))
def L_audit_Guess_0_0 (a0 : T_audit_claims) (a1 : T_audit_scale) (a2 : T_audit_pointsOf) (a3 : T_audit_heights) (a4 : T_ratio_Make) (x0 : Int → List PV → List PV → List PV → Int → Int → Bool → Prop) (x1 : List PV → Int → List PV → List PV → List PV → Int → Int → Bool → Prop) : Nat → Int → List PV → List PV → List PV → Int → Int → Prop
 | 0, _, _, _, _, _, _ => False
 | n + 1, i0, l1, l2, l3, i4, i5 =>
 (cbr (decide (i5 < i4))
 (asr (decide ((0 : Int) ≤ i5))
 (asr (decide (i5 < (((List.length l3) : Nat) : Int)))
 (lt (List.getD l3 (i5.toNat) .nils) (fun yr25 =>
 (asr (conf (.one (.i .i64)) yr25)
 (lt (IntKind.i64.wrap ((((List.length l2) : Nat) : Int) + (1 : Int))) (fun yi31 =>
 (lt (IntKind.i64.wrap (i0 * yi31)) (fun yi32 =>
 (a4 (intOfV yr25) yi32 (fun yi33 yi34 _ => 
 (lt (IntKind.i64.wrap (i5 + (1 : Int))) (fun yi36 =>
 (asr (decide (1 = List.length ([(.agg [(.int .i64 yi33), (.int .i64 yi34)])] : List PV)) && decide (1 = List.length ([(.agg [(.int .i64 yi33), (.int .i64 yi34)])] : List PV)))
 (L_audit_Guess_0_1 a0 a1 a2 a3 a4 x1 n ([(.agg [(.int .i64 yi33), (.int .i64 yi34)])] : List PV) i0 l1 l2 l3 i4 yi36)))))))))))))))
 (x0 i0 l1 l2 l3 i4 i5 false))
def wv_audit_Guess (a0 : T_audit_claims) (a1 : T_audit_scale) (a2 : T_audit_pointsOf) (a3 : T_audit_heights) (a4 : T_ratio_Make) (p0 : Int) (p1 : List PV) (K : List PV → List PV → Int → Prop) : Prop :=
 (a0 p0 p1 (fun yl2 yi3 => 
 (cbr (yi3 != (0 : Int))
 (K ([] : List PV) ([] : List PV) yi3)
 (a1 yl2 (fun yi6 yi7 => 
 (cbr (yi7 != (0 : Int))
 (K ([] : List PV) ([] : List PV) yi7)
 (a2 p0 yl2 (fun yl9 => 
 (a3 yl9 yl2 yi6
 (K ([] : List PV) ([] : List PV) (6 : Int))
 (fun yl11 => 
 (asr (!(List.isEmpty yl11))
 (∃ n : Nat, L_audit_Guess_0_0 a0 a1 a2 a3 a4
 (fun _ yl78 _ _ _ _ _ => (K yl78 ([] : List PV) (0 : Int)))
 (fun yl84 _ yl86 _ _ _ _ _ => (asr (decide ((List.length yl84) = (List.length yl84)))
 (asr (decide ((0 + (List.length yl84)) ≤ (List.length yl84)))
 (K yl86 (List.take (List.length yl84) yl84) (0 : Int)))))
 n yi6 yl9 yl11 yl11 (((List.length yl11) : Nat) : Int) (0 : Int)))))))))))))
def w_audit_Guess (p0 : Int) (p1 : List PV) (K : List PV → List PV → Int → Prop) : Prop := wv_audit_Guess w_audit_claims w_audit_scale w_audit_pointsOf w_audit_heights w_ratio_Make p0 p1 K
def pw_audit_Guess (w : T_audit_Guess) (as : List PV) (K : PV → Prop) : Prop :=
 match as with
 | [(.int .i64 p0), (.data p1)] => w p0 p1 (fun r0 r1 r2 => K (.tup [(.agg [(.data r0), (.data r1)]), (.int .i64 r2)]))
 | _ => False
def wp_audit_Guess (as : List PV) (K : PV → Prop) : Prop := pw_audit_Guess w_audit_Guess as K
def D_audit_Guess_0 (F : Frm) (H : Hp) (A0 : Int → List PV → List PV → List PV → Int → Int → Prop) (A1 : List PV → Int → List PV → List PV → List PV → Int → Int → Prop) : Prop :=
 match F, H with
 | [(4, .box (.agg [.nils, .nils])), (8, .v (.int .i64 i0)), (9, .box (.agg [(.data l1), .nils])), (10, .v (.data l2)), (46, .v (.data l3)), (47, .v (.int .i64 i4)), (48, .v (.int .i64 i5))], [] => (A0 i0 l1 l2 l3 i4 i5)
 | [(4, .box (.agg [.nils, .nils])), (8, .v (.int .i64 i1)), (9, .box (.agg [(.data l2), (.own 0 0 t3 t4 none)])), (10, .v (.data l5)), (46, .v (.data l6)), (47, .v (.int .i64 i7)), (48, .v (.int .i64 i8))], [⟨false, true, 2, l0⟩] => asr (decide (t3 = List.length l0) && decide (t4 = List.length l0)) (A1 l0 i1 l2 l5 l6 i7 i8)
 | _, _ => False
def X_audit_Guess_0_0 (Q : Ex → Frm → Hp → Prop) : Int → List PV → List PV → List PV → Int → Int → Bool → Prop := (fun i0 l1 l2 l3 i4 i5 b6 => Q (.exit 0) [(4, .box (.agg [.nils, .nils])), (8, .v (.int .i64 i0)), (9, .box (.agg [(.data l1), .nils])), (10, .v (.data l2)), (46, .v (.data l3)), (47, .v (.int .i64 i4)), (48, .v (.int .i64 i5)), (49, .v (.bool b6))] [])
def X_audit_Guess_0_1 (Q : Ex → Frm → Hp → Prop) : List PV → Int → List PV → List PV → List PV → Int → Int → Bool → Prop := (fun l0 i1 l2 l5 l6 i7 i8 b9 => Q (.exit 0) [(4, .box (.agg [.nils, .nils])), (8, .v (.int .i64 i1)), (9, .box (.agg [(.data l2), (.own 0 0 (List.length l0) (List.length l0) none)])), (10, .v (.data l5)), (46, .v (.data l6)), (47, .v (.int .i64 i7)), (48, .v (.int .i64 i8)), (49, .v (.bool b9))] [⟨false, true, 2, l0⟩])
def R_audit_Guess_0 (a0 : T_audit_claims) (a1 : T_audit_scale) (a2 : T_audit_pointsOf) (a3 : T_audit_heights) (a4 : T_ratio_Make) (Q : Ex → Frm → Hp → Prop) (n : Nat) (F : Frm) (H : Hp) : Prop := D_audit_Guess_0 F H (fun i0 l1 l2 l3 i4 i5 => L_audit_Guess_0_0 a0 a1 a2 a3 a4 (X_audit_Guess_0_0 Q) (X_audit_Guess_0_1 Q) n i0 l1 l2 l3 i4 i5) (fun l0 i1 l2 l5 l6 i7 i8 => L_audit_Guess_0_1 a0 a1 a2 a3 a4 (X_audit_Guess_0_1 Q) n l0 i1 l2 l5 l6 i7 i8)
def lp_audit_Guess (a0 : T_audit_claims) (a1 : T_audit_scale) (a2 : T_audit_pointsOf) (a3 : T_audit_heights) (a4 : T_ratio_Make) : LP := fun id F H Q =>
 bif Nat.beq id 81034600 then D_audit_Guess_0 F H (fun i0 l1 l2 l3 i4 i5 => ∃ n : Nat, L_audit_Guess_0_0 a0 a1 a2 a3 a4 (X_audit_Guess_0_0 Q) (X_audit_Guess_0_1 Q) n i0 l1 l2 l3 i4 i5) (fun l0 i1 l2 l5 l6 i7 i8 => ∃ n : Nat, L_audit_Guess_0_1 a0 a1 a2 a3 a4 (X_audit_Guess_0_1 Q) n l0 i1 l2 l5 l6 i7 i8) else
 False
def S0_audit_Guess (a0 : T_audit_claims) (a1 : T_audit_scale) (a2 : T_audit_pointsOf) (a3 : T_audit_heights) (a4 : T_ratio_Make) : SE := ⟨(E ef0), lookS [(n_audit_claims, pw_audit_claims a0), (n_audit_scale, pw_audit_scale a1), (n_audit_pointsOf, pw_audit_pointsOf a2), (n_audit_heights, pw_audit_heights a3), (n_ratio_Make, pw_ratio_Make a4)], lookI [], lp_audit_Guess a0 a1 a2 a3 a4⟩
theorem se0_audit_Guess : SEOk (S0_audit_Guess w_audit_claims w_audit_scale w_audit_pointsOf w_audit_heights w_ratio_Make) := seOk_of ⟨(ok_audit_claims ef0 effG0), (ok_audit_scale ef0 effG0), ok_audit_pointsOf, ok_audit_heights, (ok_ratio_Make ef0 effG0), trivial⟩ trivial effG0.ok
theorem body_audit_Guess_0_0 (a0 a1 a2 a3 a4 Q n i0 l1 l2 l3 i4 i5) : WC (E ef0) (callW (S0_audit_Guess a0 a1 a2 a3 a4) 5) (lp_audit_Guess a0 a1 a2 a3 a4) b_81034600 [(4, .box (.agg [.nils, .nils])), (8, .v (.int .i64 i0)), (9, .box (.agg [(.data l1), .nils])), (10, .v (.data l2)), (46, .v (.data l3)), (47, .v (.int .i64 i4)), (48, .v (.int .i64 i5))] [] (fun x F' H' => match x with | .norm => R_audit_Guess_0 a0 a1 a2 a3 a4 Q n F' H' | .exit i => Q (.exit i) F' H' | .ret => Q .ret F' H') = L_audit_Guess_0_0 a0 a1 a2 a3 a4 (X_audit_Guess_0_0 Q) (X_audit_Guess_0_1 Q) (n + 1) i0 l1 l2 l3 i4 i5 := by kernel_rfl
theorem body_audit_Guess_0_1 (a0 a1 a2 a3 a4 Q n l0 i1 l2 l5 l6 i7 i8) : WC (E ef0) (callW (S0_audit_Guess a0 a1 a2 a3 a4) 5) (lp_audit_Guess a0 a1 a2 a3 a4) b_81034600 [(4, .box (.agg [.nils, .nils])), (8, .v (.int .i64 i1)), (9, .box (.agg [(.data l2), (.own 0 0 (List.length l0) (List.length l0) none)])), (10, .v (.data l5)), (46, .v (.data l6)), (47, .v (.int .i64 i7)), (48, .v (.int .i64 i8))] [⟨false, true, 2, l0⟩] (fun x F' H' => match x with | .norm => R_audit_Guess_0 a0 a1 a2 a3 a4 Q n F' H' | .exit i => Q (.exit i) F' H' | .ret => Q .ret F' H') = L_audit_Guess_0_1 a0 a1 a2 a3 a4 (X_audit_Guess_0_1 Q) (n + 1) l0 i1 l2 l5 l6 i7 i8 := by kernel_rfl
theorem lpb_audit_Guess_0 : LpOk (E ef0) (lp_audit_Guess w_audit_claims w_audit_scale w_audit_pointsOf w_audit_heights w_ratio_Make) b_81034600 := (LpOk_no (by kernel_rfl))
theorem loop_audit_Guess_0 : ∀ F H Q, lp_audit_Guess w_audit_claims w_audit_scale w_audit_pointsOf w_audit_heights w_ratio_Make 81034600 F H Q → LoopT (E ef0) b_81034600 F H Q := by
 intro F H Q h
 have go := LoopT.intro (callW_ok (se0_audit_Guess) 5) (lpb_audit_Guess_0) (R_audit_Guess_0 w_audit_claims w_audit_scale w_audit_pointsOf w_audit_heights w_ratio_Make Q) (by
   intro F H h
   unfold R_audit_Guess_0 D_audit_Guess_0 at h
   split at h
   · exact h
   · obtain ⟨hg, k⟩ := asr_iff.1 h
     clear h
     have h := k
     clear k
     try simp only [Bool.and_eq_true, decide_eq_true_eq] at hg
     obtain ⟨g0, g1⟩ := hg; subst g0; subst g1; exact h
   · exact h) (by
   intro n F H h
   unfold R_audit_Guess_0 D_audit_Guess_0 at h
   split at h
   · exact (body_audit_Guess_0_0 ..).mpr h
   · obtain ⟨hg, k⟩ := asr_iff.1 h
     clear h
     have h := k
     clear k
     try simp only [Bool.and_eq_true, decide_eq_true_eq] at hg
     obtain ⟨g0, g1⟩ := hg; subst g0; subst g1; exact (body_audit_Guess_0_1 ..).mpr h
   · exact h.elim)
 have h : D_audit_Guess_0 F H _ _ := h
 unfold D_audit_Guess_0 at h
 split at h
 · obtain ⟨n, h⟩ := h; exact go n _ _ h
 · obtain ⟨hg, n, h⟩ := asr_iff.1 h; exact go n _ _ (asr_iff.2 ⟨hg, h⟩)
 · exact h.elim
theorem eq_audit_Guess (a0 a1 a2 a3 a4 p0 p1 K) : WP (S0_audit_Guess a0 a1 a2 a3 a4) 6 t_audit_Guess [(.int .i64 p0), (.data p1)] K = wv_audit_Guess a0 a1 a2 a3 a4 p0 p1 (fun r0 r1 r2 => K (.tup [(.agg [(.data r0), (.data r1)]), (.int .i64 r2)])) := by kernel_rfl
theorem ok_audit_Guess : OkF (E ef0) wp_audit_Guess n_audit_Guess := by
 intro as K h
 unfold wp_audit_Guess pw_audit_Guess at h
 split at h
 · exact WP_ok (se0_audit_Guess) (LpOk_by (l := [(81034600, b_81034600)]) ⟨loop_audit_Guess_0, trivial⟩ (by kernel_rfl)) (by kernel_rfl) (by kernel_rfl) (fun _ => baseS_none (by kernel_rfl) _) (effG0.num _ (by kernel_rfl)) ((eq_audit_Guess ..).mpr h)
 · exact h.elim
abbrev T_audit_First : Type := Int → List PV → (Int → Int → Prop) → Prop
def L_audit_First_0_0 (a0 : T_audit_claims) (a1 : T_audit_scale) (a2 : T_audit_pointsOf) (a3 : T_audit_heights) (x0 : Int → List PV → Int → Int → Int → Bool → Prop) : Nat → Int → List PV → Int → Int → Int → Prop
 | 0, _, _, _, _, _ => False
 | n + 1, i0, l1, i2, i3, i4 =>
 (lt (IntKind.i64.wrap (i4 - i3)) (fun yi13 =>
 (cbr (decide (yi13 > (1 : Int)))
 (lt (IntKind.i64.wrap (i3 + i4)) (fun yi16 =>
 (lt (IntKind.i64.wrap (Int.tdiv yi16 (2 : Int))) (fun yi17 =>
 (jn (fun (yj21 : Bool → Prop) =>
 (asr (decide ((0 : Int) ≤ yi17))
 (asr (decide (yi17 ≤ (((List.length l1) : Nat) : Int)))
 (a2 i0 (List.take (yi17.toNat) l1) (fun yl22 => 
 (asr (decide ((0 : Int) ≤ yi17))
 (asr (decide (yi17 ≤ (((List.length l1) : Nat) : Int)))
 (a3 yl22 (List.take (yi17.toNat) l1) i2
 (yj21 true)
 (fun yl23 => 
 (asr (!(List.isEmpty yl23))
 (yj21 false)))))))))))
 (fun yb20 => (cbr yb20
 (L_audit_First_0_0 a0 a1 a2 a3 x0 n i0 l1 i2 i3 yi17)
 (L_audit_First_0_0 a0 a1 a2 a3 x0 n i0 l1 i2 yi17 i4))))))))
 (x0 i0 l1 i2 i3 i4 false))))
def wv_audit_First (a0 : T_audit_claims) (a1 : T_audit_scale) (a2 : T_audit_pointsOf) (a3 : T_audit_heights) (p0 : Int) (p1 : List PV) (K : Int → Int → Prop) : Prop :=
 (a0 p0 p1 (fun yl2 yi3 => 
 (cbr (yi3 != (0 : Int))
 (K (0 : Int) yi3)
 (a1 yl2 (fun yi6 yi7 => 
 (cbr (yi7 != (0 : Int))
 (K (0 : Int) yi7)
 (lt (IntKind.i64.wrap ((((List.length yl2) : Nat) : Int) + (1 : Int))) (fun yi9 =>
 (∃ n : Nat, L_audit_First_0_0 a0 a1 a2 a3
 (fun _ _ _ yi33 _ _ => (K yi33 (0 : Int)))
 n p0 yl2 yi6 (0 : Int) yi9)))))))))
def w_audit_First (p0 : Int) (p1 : List PV) (K : Int → Int → Prop) : Prop := wv_audit_First w_audit_claims w_audit_scale w_audit_pointsOf w_audit_heights p0 p1 K
def pw_audit_First (w : T_audit_First) (as : List PV) (K : PV → Prop) : Prop :=
 match as with
 | [(.int .i64 p0), (.data p1)] => w p0 p1 (fun r0 r1 => K (.tup [(.int .i64 r0), (.int .i64 r1)]))
 | _ => False
def wp_audit_First (as : List PV) (K : PV → Prop) : Prop := pw_audit_First w_audit_First as K
def D_audit_First_0 (F : Frm) (H : Hp) (A0 : Int → List PV → Int → Int → Int → Prop) : Prop :=
 match F, H with
 | [(0, .v (.int .i64 i0)), (6, .v (.data l1)), (8, .v (.int .i64 i2)), (9, .v (.int .i64 i3)), (10, .v (.int .i64 i4))], [] => (A0 i0 l1 i2 i3 i4)
 | _, _ => False
def X_audit_First_0_0 (Q : Ex → Frm → Hp → Prop) : Int → List PV → Int → Int → Int → Bool → Prop := (fun i0 l1 i2 i3 i4 b5 => Q (.exit 0) [(0, .v (.int .i64 i0)), (6, .v (.data l1)), (8, .v (.int .i64 i2)), (9, .v (.int .i64 i3)), (10, .v (.int .i64 i4)), (35, .v (.bool b5))] [])
def R_audit_First_0 (a0 : T_audit_claims) (a1 : T_audit_scale) (a2 : T_audit_pointsOf) (a3 : T_audit_heights) (Q : Ex → Frm → Hp → Prop) (n : Nat) (F : Frm) (H : Hp) : Prop := D_audit_First_0 F H (fun i0 l1 i2 i3 i4 => L_audit_First_0_0 a0 a1 a2 a3 (X_audit_First_0_0 Q) n i0 l1 i2 i3 i4)
def lp_audit_First (a0 : T_audit_claims) (a1 : T_audit_scale) (a2 : T_audit_pointsOf) (a3 : T_audit_heights) : LP := fun id F H Q =>
 bif Nat.beq id 55097000 then D_audit_First_0 F H (fun i0 l1 i2 i3 i4 => ∃ n : Nat, L_audit_First_0_0 a0 a1 a2 a3 (X_audit_First_0_0 Q) n i0 l1 i2 i3 i4) else
 False
def S0_audit_First (a0 : T_audit_claims) (a1 : T_audit_scale) (a2 : T_audit_pointsOf) (a3 : T_audit_heights) : SE := ⟨(E ef0), lookS [(n_audit_claims, pw_audit_claims a0), (n_audit_scale, pw_audit_scale a1), (n_audit_pointsOf, pw_audit_pointsOf a2), (n_audit_heights, pw_audit_heights a3)], lookI [], lp_audit_First a0 a1 a2 a3⟩
theorem se0_audit_First : SEOk (S0_audit_First w_audit_claims w_audit_scale w_audit_pointsOf w_audit_heights) := seOk_of ⟨(ok_audit_claims ef0 effG0), (ok_audit_scale ef0 effG0), ok_audit_pointsOf, ok_audit_heights, trivial⟩ trivial effG0.ok
theorem body_audit_First_0_0 (a0 a1 a2 a3 Q n i0 l1 i2 i3 i4) : WC (E ef0) (callW (S0_audit_First a0 a1 a2 a3) 5) (lp_audit_First a0 a1 a2 a3) b_55097000 [(0, .v (.int .i64 i0)), (6, .v (.data l1)), (8, .v (.int .i64 i2)), (9, .v (.int .i64 i3)), (10, .v (.int .i64 i4))] [] (fun x F' H' => match x with | .norm => R_audit_First_0 a0 a1 a2 a3 Q n F' H' | .exit i => Q (.exit i) F' H' | .ret => Q .ret F' H') = L_audit_First_0_0 a0 a1 a2 a3 (X_audit_First_0_0 Q) (n + 1) i0 l1 i2 i3 i4 := by kernel_rfl
theorem lpb_audit_First_0 : LpOk (E ef0) (lp_audit_First w_audit_claims w_audit_scale w_audit_pointsOf w_audit_heights) b_55097000 := (LpOk_no (by kernel_rfl))
theorem loop_audit_First_0 : ∀ F H Q, lp_audit_First w_audit_claims w_audit_scale w_audit_pointsOf w_audit_heights 55097000 F H Q → LoopT (E ef0) b_55097000 F H Q := by
 intro F H Q h
 have go := LoopT.intro (callW_ok (se0_audit_First) 5) (lpb_audit_First_0) (R_audit_First_0 w_audit_claims w_audit_scale w_audit_pointsOf w_audit_heights Q) (by
   intro F H h
   unfold R_audit_First_0 D_audit_First_0 at h
   split at h
   · exact h
   · exact h) (by
   intro n F H h
   unfold R_audit_First_0 D_audit_First_0 at h
   split at h
   · exact (body_audit_First_0_0 ..).mpr h
   · exact h.elim)
 have h : D_audit_First_0 F H _ := h
 unfold D_audit_First_0 at h
 split at h
 · obtain ⟨n, h⟩ := h; exact go n _ _ h
 · exact h.elim
theorem eq_audit_First (a0 a1 a2 a3 p0 p1 K) : WP (S0_audit_First a0 a1 a2 a3) 6 t_audit_First [(.int .i64 p0), (.data p1)] K = wv_audit_First a0 a1 a2 a3 p0 p1 (fun r0 r1 => K (.tup [(.int .i64 r0), (.int .i64 r1)])) := by kernel_rfl
theorem ok_audit_First : OkF (E ef0) wp_audit_First n_audit_First := by
 intro as K h
 unfold wp_audit_First pw_audit_First at h
 split at h
 · exact WP_ok (se0_audit_First) (LpOk_by (l := [(55097000, b_55097000)]) ⟨loop_audit_First_0, trivial⟩ (by kernel_rfl)) (by kernel_rfl) (by kernel_rfl) (fun _ => baseS_none (by kernel_rfl) _) (effG0.num _ (by kernel_rfl)) ((eq_audit_First ..).mpr h)
 · exact h.elim
abbrev T_audit_valid : Type := Int → List PV → List PV → (Bool → Prop) → Prop
def L_audit_valid_0_0 (a0 : T_ratio_Check) (a1 : T_audit_order) (a2 : T_audit_whole) (x0 : Int → List PV → List PV → Int → Int → Int → Bool → Prop) (x1 : Bool → Prop) : Nat → Int → List PV → List PV → Int → Int → Int → Prop
 | 0, _, _, _, _, _, _ => False
 | n + 1, i0, l1, l2, i3, i4, i5 =>
 (cbr (decide (i5 < i4))
 (jn (fun (yj57 : Bool → Prop) =>
 (asr (decide ((0 : Int) ≤ i5))
 (asr (decide (i5 < (((List.length l1) : Nat) : Int)))
 (lt (List.getD l1 (i5.toNat) .nils) (fun yr77 =>
 (asr (conf (.agg [.i .i64, .i .i64]) yr77)
 (a0 (intOfV (cellAt yr77 0)) (intOfV (cellAt yr77 1)) (fun yi78 => 
 (cbr (yi78 != (0 : Int))
 (yj57 true)
 (asr (decide ((0 : Int) ≤ i5))
 (asr (decide (i5 < (((List.length l2) : Nat) : Int)))
 (lt (List.getD l2 (i5.toNat) .nils) (fun yr79 =>
 (asr (conf (.agg [.i .i64, .i .i64]) yr79)
 (a0 (intOfV (cellAt yr79 0)) (intOfV (cellAt yr79 1)) (fun yi80 => 
 (yj57 (yi80 != (0 : Int)))))))))))))))))))
 (fun yb56 => (cbr yb56
 (x1 false)
 (jn (fun (yj67 : Bool → Prop) =>
 (cbr (decide (i5 > (0 : Int)))
 (lt (IntKind.i64.wrap (i5 - (1 : Int))) (fun yi69 =>
 (asr (decide ((0 : Int) ≤ yi69))
 (asr (decide (yi69 < (((List.length l1) : Nat) : Int)))
 (lt (List.getD l1 (yi69.toNat) .nils) (fun yr70 =>
 (asr (conf (.agg [.i .i64, .i .i64]) yr70)
 (asr (decide ((0 : Int) ≤ i5))
 (asr (decide (i5 < (((List.length l1) : Nat) : Int)))
 (lt (List.getD l1 (i5.toNat) .nils) (fun yr71 =>
 (asr (conf (.agg [.i .i64, .i .i64]) yr71)
 (a1 (intOfV (cellAt yr70 0)) (intOfV (cellAt yr70 1)) (intOfV (cellAt yr71 0)) (intOfV (cellAt yr71 1)) (fun yi72 => 
 (cbr (decide (yi72 ≥ (0 : Int)))
 (yj67 true)
 (lt (IntKind.i64.wrap (i5 - (1 : Int))) (fun yi73 =>
 (asr (decide ((0 : Int) ≤ yi73))
 (asr (decide (yi73 < (((List.length l2) : Nat) : Int)))
 (lt (List.getD l2 (yi73.toNat) .nils) (fun yr74 =>
 (asr (conf (.agg [.i .i64, .i .i64]) yr74)
 (asr (decide ((0 : Int) ≤ i5))
 (asr (decide (i5 < (((List.length l2) : Nat) : Int)))
 (lt (List.getD l2 (i5.toNat) .nils) (fun yr75 =>
 (asr (conf (.agg [.i .i64, .i .i64]) yr75)
 (a1 (intOfV (cellAt yr74 0)) (intOfV (cellAt yr74 1)) (intOfV (cellAt yr75 0)) (intOfV (cellAt yr75 1)) (fun yi76 => 
 (yj67 (decide (yi76 > (0 : Int)))))))))))))))))))))))))))))))))
 (yj67 false)))
 (fun yb66 => (cbr yb66
 (x1 false)
 (lt (IntKind.i64.wrap (i5 + (1 : Int))) (fun yi68 =>
 (L_audit_valid_0_0 a0 a1 a2 x0 x1 n i0 l1 l2 i3 i4 yi68)))))))))
 (x0 i0 l1 l2 i3 i4 i5 false))
def wv_audit_valid (a0 : T_ratio_Check) (a1 : T_audit_order) (a2 : T_audit_whole) (p0 : Int) (p1 p2 : List PV) (K : Bool → Prop) : Prop :=
 (jn (fun (yj3 : Bool → Prop) =>
 (cbr (decide ((((List.length p1) : Nat) : Int) < (2 : Int)))
 (yj3 true)
 (cbr (decide ((((List.length p1) : Nat) : Int) > (100 : Int)))
 (yj3 true)
 (yj3 ((((List.length p2) : Nat) : Int) != (((List.length p1) : Nat) : Int))))))
 (fun yb2 => (cbr yb2
 (K false)
 (∃ n : Nat, L_audit_valid_0_0 a0 a1 a2
 (fun yi89 yl90 yl91 yi92 _ _ _ => (jn (fun (yj103 : Bool → Prop) =>
 (asr (decide ((0 : Int) < (((List.length yl90) : Nat) : Int)))
 (lt (List.getD yl90 0 .nils) (fun yr104 =>
 (asr (conf (.agg [.i .i64, .i .i64]) yr104)
 (cbr ((intOfV (cellAt yr104 0)) == (0 : Int))
 (asr (decide ((0 : Int) < (((List.length yl91) : Nat) : Int)))
 (lt (List.getD yl91 0 .nils) (fun yr105 =>
 (asr (conf (.agg [.i .i64, .i .i64]) yr105)
 (cbr ((intOfV (cellAt yr105 0)) == (0 : Int))
 (lt (IntKind.i64.wrap (yi92 - (1 : Int))) (fun yi106 =>
 (asr (decide ((0 : Int) ≤ yi106))
 (asr (decide (yi106 < (((List.length yl90) : Nat) : Int)))
 (lt (List.getD yl90 (yi106.toNat) .nils) (fun yr107 =>
 (asr (conf (.agg [.i .i64, .i .i64]) yr107)
 (a2 yi89 (fun yi108 yi109 => 
 (yj103 (((intOfV (cellAt yr107 0)) == yi108) && (((intOfV (cellAt yr107 1)) == yi109) && true))))))))))))
 (yj103 false))))))
 (yj103 false)))))))
 (fun yb102 => (K yb102))))
 (fun yb110 => (K yb110))
 n p0 p1 p2 (((List.length p1) : Nat) : Int) (((List.length p1) : Nat) : Int) (0 : Int)))))
def w_audit_valid (p0 : Int) (p1 p2 : List PV) (K : Bool → Prop) : Prop := wv_audit_valid w_ratio_Check w_audit_order w_audit_whole p0 p1 p2 K
def pw_audit_valid (w : T_audit_valid) (as : List PV) (K : PV → Prop) : Prop :=
 match as with
 | [(.int .i64 p0), (.agg [(.data p1), (.data p2)])] => w p0 p1 p2 (fun r0 => K (.bool r0))
 | _ => False
def wp_audit_valid (as : List PV) (K : PV → Prop) : Prop := pw_audit_valid w_audit_valid as K
def D_audit_valid_0 (F : Frm) (H : Hp) (A0 : Int → List PV → List PV → Int → Int → Int → Prop) : Prop :=
 match F, H with
 | [(0, .v (.int .i64 i0)), (3, .box (.agg [(.data l1), (.data l2)])), (5, .v (.int .i64 i3)), (23, .v (.int .i64 i4)), (24, .v (.int .i64 i5))], [] => (A0 i0 l1 l2 i3 i4 i5)
 | _, _ => False
def X_audit_valid_0_0 (Q : Ex → Frm → Hp → Prop) : Int → List PV → List PV → Int → Int → Int → Bool → Prop := (fun i0 l1 l2 i3 i4 i5 b6 => Q (.exit 0) [(0, .v (.int .i64 i0)), (3, .box (.agg [(.data l1), (.data l2)])), (5, .v (.int .i64 i3)), (23, .v (.int .i64 i4)), (24, .v (.int .i64 i5)), (25, .v (.bool b6))] [])
def X_audit_valid_0_1 (Q : Ex → Frm → Hp → Prop) : Bool → Prop := (fun b0 => Q .ret [(4, .v (.bool b0))] [])
def R_audit_valid_0 (a0 : T_ratio_Check) (a1 : T_audit_order) (a2 : T_audit_whole) (Q : Ex → Frm → Hp → Prop) (n : Nat) (F : Frm) (H : Hp) : Prop := D_audit_valid_0 F H (fun i0 l1 l2 i3 i4 i5 => L_audit_valid_0_0 a0 a1 a2 (X_audit_valid_0_0 Q) (X_audit_valid_0_1 Q) n i0 l1 l2 i3 i4 i5)
def lp_audit_valid (a0 : T_ratio_Check) (a1 : T_audit_order) (a2 : T_audit_whole) : LP := fun id F H Q =>
 bif Nat.beq id 69816400 then D_audit_valid_0 F H (fun i0 l1 l2 i3 i4 i5 => ∃ n : Nat, L_audit_valid_0_0 a0 a1 a2 (X_audit_valid_0_0 Q) (X_audit_valid_0_1 Q) n i0 l1 l2 i3 i4 i5) else
 False
def S0_audit_valid (e : List (Nat × EffF)) (a0 : T_ratio_Check) (a1 : T_audit_order) (a2 : T_audit_whole) : SE := ⟨(E e), lookS [(n_ratio_Check, pw_ratio_Check a0), (n_audit_order, pw_audit_order a1), (n_audit_whole, pw_audit_whole a2)], lookI [], lp_audit_valid a0 a1 a2⟩
theorem se0_audit_valid (e : List (Nat × EffF)) (he : EG e) : SEOk (S0_audit_valid e w_ratio_Check w_audit_order w_audit_whole) := seOk_of ⟨(ok_ratio_Check e he), (ok_audit_order e he), (ok_audit_whole e he), trivial⟩ trivial he.ok
theorem body_audit_valid_0_0 (e : List (Nat × EffF)) (a0 a1 a2 Q n i0 l1 l2 i3 i4 i5) : WC (E e) (callW (S0_audit_valid e a0 a1 a2) 5) (lp_audit_valid a0 a1 a2) b_69816400 [(0, .v (.int .i64 i0)), (3, .box (.agg [(.data l1), (.data l2)])), (5, .v (.int .i64 i3)), (23, .v (.int .i64 i4)), (24, .v (.int .i64 i5))] [] (fun x F' H' => match x with | .norm => R_audit_valid_0 a0 a1 a2 Q n F' H' | .exit i => Q (.exit i) F' H' | .ret => Q .ret F' H') = L_audit_valid_0_0 a0 a1 a2 (X_audit_valid_0_0 Q) (X_audit_valid_0_1 Q) (n + 1) i0 l1 l2 i3 i4 i5 := by kernel_rfl
theorem lpb_audit_valid_0 (e : List (Nat × EffF)) (_ : EG e) : LpOk (E e) (lp_audit_valid w_ratio_Check w_audit_order w_audit_whole) b_69816400 := (LpOk_no (by kernel_rfl))
theorem loop_audit_valid_0 (e : List (Nat × EffF)) (he : EG e) : ∀ F H Q, lp_audit_valid w_ratio_Check w_audit_order w_audit_whole 69816400 F H Q → LoopT (E e) b_69816400 F H Q := by
 intro F H Q h
 have go := LoopT.intro (callW_ok (se0_audit_valid e he) 5) (lpb_audit_valid_0 e he) (R_audit_valid_0 w_ratio_Check w_audit_order w_audit_whole Q) (by
   intro F H h
   unfold R_audit_valid_0 D_audit_valid_0 at h
   split at h
   · exact h
   · exact h) (by
   intro n F H h
   unfold R_audit_valid_0 D_audit_valid_0 at h
   split at h
   · exact (body_audit_valid_0_0 ..).mpr h
   · exact h.elim)
 have h : D_audit_valid_0 F H _ := h
 unfold D_audit_valid_0 at h
 split at h
 · obtain ⟨n, h⟩ := h; exact go n _ _ h
 · exact h.elim
theorem eq_audit_valid (e : List (Nat × EffF)) (a0 a1 a2 p0 p1 p2 K) : WP (S0_audit_valid e a0 a1 a2) 6 t_audit_valid [(.int .i64 p0), (.agg [(.data p1), (.data p2)])] K = wv_audit_valid a0 a1 a2 p0 p1 p2 (fun r0 => K (.bool r0)) := by kernel_rfl
theorem ok_audit_valid (e : List (Nat × EffF)) (he : EG e) : OkF (E e) wp_audit_valid n_audit_valid := by
 intro as K h
 unfold wp_audit_valid pw_audit_valid at h
 split at h
 · exact WP_ok (se0_audit_valid e he) (LpOk_by (l := [(69816400, b_69816400)]) ⟨loop_audit_valid_0 e he, trivial⟩ (by kernel_rfl)) (by kernel_rfl) (by kernel_rfl) (fun _ => baseS_none (by kernel_rfl) _) (he.num _ (by kernel_rfl)) ((eq_audit_valid ..).mpr h)
 · exact h.elim
abbrev T_audit_Fits : Type := Int → List PV → List PV → List PV → (Int → Int → Prop) → Prop
def L_audit_Fits_0_0 (a0 : T_audit_claims) (a1 : T_audit_valid) (a2 : T_audit_pointsOf) (a3 : T_s_Contains_api_Ratio_api_Ratio) (a4 : T_s_Index_api_Ratio_api_Ratio) (a5 : T_ratio_Add) (x82124700_0 : List PV → List PV → List PV → List PV → List PV → Int → Int → Bool → Prop) (x82124700_1 : Int → Int → Prop) : Nat → List PV → List PV → List PV → List PV → List PV → Int → Int → Prop
 | 0, _, _, _, _, _, _, _ => False
 | n82124700 + 1, l0, l1, l2, l3, l4, i5, i6 =>
 (cbr (decide (i6 < i5))
 (asr (decide ((0 : Int) ≤ i6))
 (asr (decide (i6 < (((List.length l4) : Nat) : Int)))
 (lt (List.getD l4 (i6.toNat) .nils) (fun yr15 =>
 (asr (conf (.agg [.i .i64, .i .i64]) yr15)
 (a3 l1 (intOfV (cellAt yr15 0)) (intOfV (cellAt yr15 1)) (fun yb17 => 
 (cbr (!yb17)
 (x82124700_1 (0 : Int) (2 : Int))
 (lt (IntKind.i64.wrap (i6 + (1 : Int))) (fun yi18 =>
 (L_audit_Fits_0_0 a0 a1 a2 a3 a4 a5 x82124700_0 x82124700_1 n82124700 l0 l1 l2 l3 l4 i5 yi18)))))))))))
 (x82124700_0 l0 l1 l2 l3 l4 i5 i6 false))
def L_audit_Fits_1_0 (a0 : T_audit_claims) (a1 : T_audit_valid) (a2 : T_audit_pointsOf) (a3 : T_s_Contains_api_Ratio_api_Ratio) (a4 : T_s_Index_api_Ratio_api_Ratio) (a5 : T_ratio_Add) (x82124701_0 : List PV → List PV → List PV → List PV → Int → Int → Bool → Prop) (x82124701_1 : Int → Int → Prop) : Nat → List PV → List PV → List PV → List PV → Int → Int → Prop
 | 0, _, _, _, _, _, _ => False
 | n82124701 + 1, l0, l1, l2, l3, i4, i5 =>
 (cbr (decide (i5 < i4))
 (asr (decide ((0 : Int) ≤ i5))
 (asr (decide (i5 < (((List.length l3) : Nat) : Int)))
 (lt (List.getD l3 (i5.toNat) .nils) (fun yr74 =>
 (asr (conf (.agg [.i .i64, .i .i64, .i .i64, .i .i64, .i .i64, .i .i64, .b]) yr74)
 (a4 l1 (intOfV (cellAt yr74 0)) (intOfV (cellAt yr74 1)) (fun yi77 => 
 (a4 l1 (intOfV (cellAt yr74 2)) (intOfV (cellAt yr74 3)) (fun yi78 => 
 (asr (decide ((0 : Int) ≤ yi77))
 (asr (decide (yi77 < (((List.length l2) : Nat) : Int)))
 (lt (List.getD l2 (yi77.toNat) .nils) (fun yr83 =>
 (asr (conf (.agg [.i .i64, .i .i64]) yr83)
 (a5 (intOfV (cellAt yr83 0)) (intOfV (cellAt yr83 1)) (intOfV (cellAt yr74 4)) (intOfV (cellAt yr74 5)) (fun yi84 yi85 yi86 => 
 (cbr (yi86 != (0 : Int))
 (x82124701_1 (0 : Int) yi86)
 (asr (decide ((0 : Int) ≤ yi78))
 (asr (decide (yi78 < (((List.length l2) : Nat) : Int)))
 (lt (List.getD l2 (yi78.toNat) .nils) (fun yr88 =>
 (asr (conf (.agg [.i .i64, .i .i64]) yr88)
 (jn (fun (yj98 : Bool → Prop) =>
 (jn (fun (yj101 : Bool → Prop) =>
 (cbr ((yi84 == (intOfV (cellAt yr88 0))) && ((yi85 == (intOfV (cellAt yr88 1))) && true))
 (yj101 (boolOfV (cellAt yr74 6)))
 (yj101 false)))
 (fun yb100 => (cbr yb100
 (cbr ((intOfV (cellAt yr74 4)) == (0 : Int))
 (cbr (yi77 == yi78)
 (yj98 true)
 (cbr (decide ((intOfV (cellAt yr74 4)) > (0 : Int)))
 (lt (IntKind.i64.wrap (yi78 - (1 : Int))) (fun yi102 =>
 (asr (decide ((0 : Int) ≤ yi102))
 (asr (decide (yi102 < (((List.length l2) : Nat) : Int)))
 (lt (List.getD l2 (yi102.toNat) .nils) (fun yr103 =>
 (asr (conf (.agg [.i .i64, .i .i64]) yr103)
 (asr (decide ((0 : Int) ≤ yi78))
 (asr (decide (yi78 < (((List.length l2) : Nat) : Int)))
 (lt (List.getD l2 (yi78.toNat) .nils) (fun yr104 =>
 (asr (conf (.agg [.i .i64, .i .i64]) yr104)
 (yj98 (!(((intOfV (cellAt yr103 0)) == (intOfV (cellAt yr104 0))) && (((intOfV (cellAt yr103 1)) == (intOfV (cellAt yr104 1))) && true))))))))))))))))
 (yj98 false)))
 (cbr (decide ((intOfV (cellAt yr74 4)) > (0 : Int)))
 (lt (IntKind.i64.wrap (yi78 - (1 : Int))) (fun yi105 =>
 (asr (decide ((0 : Int) ≤ yi105))
 (asr (decide (yi105 < (((List.length l2) : Nat) : Int)))
 (lt (List.getD l2 (yi105.toNat) .nils) (fun yr106 =>
 (asr (conf (.agg [.i .i64, .i .i64]) yr106)
 (asr (decide ((0 : Int) ≤ yi78))
 (asr (decide (yi78 < (((List.length l2) : Nat) : Int)))
 (lt (List.getD l2 (yi78.toNat) .nils) (fun yr107 =>
 (asr (conf (.agg [.i .i64, .i .i64]) yr107)
 (yj98 (!(((intOfV (cellAt yr106 0)) == (intOfV (cellAt yr107 0))) && (((intOfV (cellAt yr106 1)) == (intOfV (cellAt yr107 1))) && true))))))))))))))))
 (yj98 false)))
 (yj98 ((yi84 == (intOfV (cellAt yr88 0))) && ((yi85 == (intOfV (cellAt yr88 1))) && true)))))))
 (fun yb97 => (cbr (!yb97)
 (x82124701_1 i5 (0 : Int))
 (lt (IntKind.i64.wrap (i5 + (1 : Int))) (fun yi99 =>
 (L_audit_Fits_1_0 a0 a1 a2 a3 a4 a5 x82124701_0 x82124701_1 n82124701 l0 l1 l2 l3 i4 yi99))))))))))))))))))))))))))))
 (x82124701_0 l0 l1 l2 l3 i4 i5 false))
def wv_audit_Fits (a0 : T_audit_claims) (a1 : T_audit_valid) (a2 : T_audit_pointsOf) (a3 : T_s_Contains_api_Ratio_api_Ratio) (a4 : T_s_Index_api_Ratio_api_Ratio) (a5 : T_ratio_Add) (p0 : Int) (p1 p2 p3 : List PV) (K : Int → Int → Prop) : Prop :=
 (a0 p0 p3 (fun yl2 yi3 => 
 (cbr (yi3 != (0 : Int))
 (K (0 : Int) yi3)
 (a1 p0 p1 p2 (fun yb7 => 
 (cbr (!yb7)
 (K (0 : Int) (8 : Int))
 (a2 p0 yl2 (fun yl30 => 
 (∃ n82124700 : Nat, L_audit_Fits_0_0 a0 a1 a2 a3 a4 a5
 (fun yl31 yl32 yl33 yl34 _ _ _ _ => (∃ n82124701 : Nat, L_audit_Fits_1_0 a0 a1 a2 a3 a4 a5
 (fun yl117 _ _ _ _ _ _ => (K (((List.length yl117) : Nat) : Int) (0 : Int)))
 (fun yi124 yi125 => (K yi124 yi125))
 n82124701 yl31 yl32 yl33 yl34 (((List.length yl34) : Nat) : Int) (0 : Int)))
 (fun yi126 yi127 => (K yi126 yi127))
 n82124700 p3 p1 p2 yl2 yl30 (((List.length yl30) : Nat) : Int) (0 : Int))))))))))
def w_audit_Fits (p0 : Int) (p1 p2 p3 : List PV) (K : Int → Int → Prop) : Prop := wv_audit_Fits w_audit_claims w_audit_valid w_audit_pointsOf w_s_Contains_api_Ratio_api_Ratio w_s_Index_api_Ratio_api_Ratio w_ratio_Add p0 p1 p2 p3 K
def pw_audit_Fits (w : T_audit_Fits) (as : List PV) (K : PV → Prop) : Prop :=
 match as with
 | [(.int .i64 p0), (.agg [(.data p1), (.data p2)]), (.data p3)] => w p0 p1 p2 p3 (fun r0 r1 => K (.tup [(.int .i64 r0), (.int .i64 r1)]))
 | _ => False
def wp_audit_Fits (as : List PV) (K : PV → Prop) : Prop := pw_audit_Fits w_audit_Fits as K
def D_audit_Fits_0 (F : Frm) (H : Hp) (A0 : List PV → List PV → List PV → List PV → List PV → Int → Int → Prop) : Prop :=
 match F, H with
 | [(2, .v (.data l0)), (4, .box (.agg [(.data l1), (.data l2)])), (8, .v (.data l3)), (34, .v (.data l4)), (35, .v (.int .i64 i5)), (36, .v (.int .i64 i6))], [] => (A0 l0 l1 l2 l3 l4 i5 i6)
 | _, _ => False
def D_audit_Fits_1 (F : Frm) (H : Hp) (A0 : List PV → List PV → List PV → List PV → Int → Int → Prop) : Prop :=
 match F, H with
 | [(2, .v (.data l0)), (4, .box (.agg [(.data l1), (.data l2)])), (46, .v (.data l3)), (47, .v (.int .i64 i4)), (48, .v (.int .i64 i5))], [] => (A0 l0 l1 l2 l3 i4 i5)
 | _, _ => False
def X_audit_Fits_0_0 (Q : Ex → Frm → Hp → Prop) : List PV → List PV → List PV → List PV → List PV → Int → Int → Bool → Prop := (fun l0 l1 l2 l3 l4 i5 i6 b7 => Q (.exit 0) [(2, .v (.data l0)), (4, .box (.agg [(.data l1), (.data l2)])), (8, .v (.data l3)), (34, .v (.data l4)), (35, .v (.int .i64 i5)), (36, .v (.int .i64 i6)), (37, .v (.bool b7))] [])
def X_audit_Fits_0_1 (Q : Ex → Frm → Hp → Prop) : Int → Int → Prop := (fun i0 i1 => Q .ret [(6, .v (.int .i64 i0)), (7, .v (.int .i64 i1))] [])
def X_audit_Fits_1_0 (Q : Ex → Frm → Hp → Prop) : List PV → List PV → List PV → List PV → Int → Int → Bool → Prop := (fun l0 l1 l2 l3 i4 i5 b6 => Q (.exit 2) [(2, .v (.data l0)), (4, .box (.agg [(.data l1), (.data l2)])), (46, .v (.data l3)), (47, .v (.int .i64 i4)), (48, .v (.int .i64 i5)), (49, .v (.bool b6))] [])
def X_audit_Fits_1_1 (Q : Ex → Frm → Hp → Prop) : Int → Int → Prop := (fun i0 i1 => Q .ret [(6, .v (.int .i64 i0)), (7, .v (.int .i64 i1))] [])
def R_audit_Fits_0 (a0 : T_audit_claims) (a1 : T_audit_valid) (a2 : T_audit_pointsOf) (a3 : T_s_Contains_api_Ratio_api_Ratio) (a4 : T_s_Index_api_Ratio_api_Ratio) (a5 : T_ratio_Add) (Q : Ex → Frm → Hp → Prop) (n : Nat) (F : Frm) (H : Hp) : Prop := D_audit_Fits_0 F H (fun l0 l1 l2 l3 l4 i5 i6 => L_audit_Fits_0_0 a0 a1 a2 a3 a4 a5 (X_audit_Fits_0_0 Q) (X_audit_Fits_0_1 Q) n l0 l1 l2 l3 l4 i5 i6)
def R_audit_Fits_1 (a0 : T_audit_claims) (a1 : T_audit_valid) (a2 : T_audit_pointsOf) (a3 : T_s_Contains_api_Ratio_api_Ratio) (a4 : T_s_Index_api_Ratio_api_Ratio) (a5 : T_ratio_Add) (Q : Ex → Frm → Hp → Prop) (n : Nat) (F : Frm) (H : Hp) : Prop := D_audit_Fits_1 F H (fun l0 l1 l2 l3 i4 i5 => L_audit_Fits_1_0 a0 a1 a2 a3 a4 a5 (X_audit_Fits_1_0 Q) (X_audit_Fits_1_1 Q) n l0 l1 l2 l3 i4 i5)
def lp_audit_Fits (a0 : T_audit_claims) (a1 : T_audit_valid) (a2 : T_audit_pointsOf) (a3 : T_s_Contains_api_Ratio_api_Ratio) (a4 : T_s_Index_api_Ratio_api_Ratio) (a5 : T_ratio_Add) : LP := fun id F H Q =>
 bif Nat.beq id 82124700 then D_audit_Fits_0 F H (fun l0 l1 l2 l3 l4 i5 i6 => ∃ n : Nat, L_audit_Fits_0_0 a0 a1 a2 a3 a4 a5 (X_audit_Fits_0_0 Q) (X_audit_Fits_0_1 Q) n l0 l1 l2 l3 l4 i5 i6) else
 bif Nat.beq id 82124701 then D_audit_Fits_1 F H (fun l0 l1 l2 l3 i4 i5 => ∃ n : Nat, L_audit_Fits_1_0 a0 a1 a2 a3 a4 a5 (X_audit_Fits_1_0 Q) (X_audit_Fits_1_1 Q) n l0 l1 l2 l3 i4 i5) else
 False
def S0_audit_Fits (a0 : T_audit_claims) (a1 : T_audit_valid) (a2 : T_audit_pointsOf) (a3 : T_s_Contains_api_Ratio_api_Ratio) (a4 : T_s_Index_api_Ratio_api_Ratio) (a5 : T_ratio_Add) : SE := ⟨(E ef0), lookS [(n_audit_claims, pw_audit_claims a0), (n_audit_valid, pw_audit_valid a1), (n_audit_pointsOf, pw_audit_pointsOf a2), (n_s_Contains_api_Ratio_api_Ratio, pw_s_Contains_api_Ratio_api_Ratio a3), (n_s_Index_api_Ratio_api_Ratio, pw_s_Index_api_Ratio_api_Ratio a4), (n_ratio_Add, pw_ratio_Add a5)], lookI [], lp_audit_Fits a0 a1 a2 a3 a4 a5⟩
theorem se0_audit_Fits : SEOk (S0_audit_Fits w_audit_claims w_audit_valid w_audit_pointsOf w_s_Contains_api_Ratio_api_Ratio w_s_Index_api_Ratio_api_Ratio w_ratio_Add) := seOk_of ⟨(ok_audit_claims ef0 effG0), (ok_audit_valid ef0 effG0), ok_audit_pointsOf, (ok_s_Contains_api_Ratio_api_Ratio ef0 effG0), (ok_s_Index_api_Ratio_api_Ratio ef0 effG0), (ok_ratio_Add ef0 effG0), trivial⟩ trivial effG0.ok
theorem body_audit_Fits_0_0 (a0 a1 a2 a3 a4 a5 Q n l0 l1 l2 l3 l4 i5 i6) : WC (E ef0) (callW (S0_audit_Fits a0 a1 a2 a3 a4 a5) 5) (lp_audit_Fits a0 a1 a2 a3 a4 a5) b_82124700 [(2, .v (.data l0)), (4, .box (.agg [(.data l1), (.data l2)])), (8, .v (.data l3)), (34, .v (.data l4)), (35, .v (.int .i64 i5)), (36, .v (.int .i64 i6))] [] (fun x F' H' => match x with | .norm => R_audit_Fits_0 a0 a1 a2 a3 a4 a5 Q n F' H' | .exit i => Q (.exit i) F' H' | .ret => Q .ret F' H') = L_audit_Fits_0_0 a0 a1 a2 a3 a4 a5 (X_audit_Fits_0_0 Q) (X_audit_Fits_0_1 Q) (n + 1) l0 l1 l2 l3 l4 i5 i6 := by kernel_rfl
theorem lpb_audit_Fits_0 : LpOk (E ef0) (lp_audit_Fits w_audit_claims w_audit_valid w_audit_pointsOf w_s_Contains_api_Ratio_api_Ratio w_s_Index_api_Ratio_api_Ratio w_ratio_Add) b_82124700 := (LpOk_no (by kernel_rfl))
theorem loop_audit_Fits_0 : ∀ F H Q, lp_audit_Fits w_audit_claims w_audit_valid w_audit_pointsOf w_s_Contains_api_Ratio_api_Ratio w_s_Index_api_Ratio_api_Ratio w_ratio_Add 82124700 F H Q → LoopT (E ef0) b_82124700 F H Q := by
 intro F H Q h
 have go := LoopT.intro (callW_ok (se0_audit_Fits) 5) (lpb_audit_Fits_0) (R_audit_Fits_0 w_audit_claims w_audit_valid w_audit_pointsOf w_s_Contains_api_Ratio_api_Ratio w_s_Index_api_Ratio_api_Ratio w_ratio_Add Q) (by
   intro F H h
   unfold R_audit_Fits_0 D_audit_Fits_0 at h
   split at h
   · exact h
   · exact h) (by
   intro n F H h
   unfold R_audit_Fits_0 D_audit_Fits_0 at h
   split at h
   · exact (body_audit_Fits_0_0 ..).mpr h
   · exact h.elim)
 have h : D_audit_Fits_0 F H _ := h
 unfold D_audit_Fits_0 at h
 split at h
 · obtain ⟨n, h⟩ := h; exact go n _ _ h
 · exact h.elim
theorem body_audit_Fits_1_0 (a0 a1 a2 a3 a4 a5 Q n l0 l1 l2 l3 i4 i5) : WC (E ef0) (callW (S0_audit_Fits a0 a1 a2 a3 a4 a5) 5) (lp_audit_Fits a0 a1 a2 a3 a4 a5) b_82124701 [(2, .v (.data l0)), (4, .box (.agg [(.data l1), (.data l2)])), (46, .v (.data l3)), (47, .v (.int .i64 i4)), (48, .v (.int .i64 i5))] [] (fun x F' H' => match x with | .norm => R_audit_Fits_1 a0 a1 a2 a3 a4 a5 Q n F' H' | .exit i => Q (.exit i) F' H' | .ret => Q .ret F' H') = L_audit_Fits_1_0 a0 a1 a2 a3 a4 a5 (X_audit_Fits_1_0 Q) (X_audit_Fits_1_1 Q) (n + 1) l0 l1 l2 l3 i4 i5 := by kernel_rfl
theorem lpb_audit_Fits_1 : LpOk (E ef0) (lp_audit_Fits w_audit_claims w_audit_valid w_audit_pointsOf w_s_Contains_api_Ratio_api_Ratio w_s_Index_api_Ratio_api_Ratio w_ratio_Add) b_82124701 := (LpOk_no (by kernel_rfl))
theorem loop_audit_Fits_1 : ∀ F H Q, lp_audit_Fits w_audit_claims w_audit_valid w_audit_pointsOf w_s_Contains_api_Ratio_api_Ratio w_s_Index_api_Ratio_api_Ratio w_ratio_Add 82124701 F H Q → LoopT (E ef0) b_82124701 F H Q := by
 intro F H Q h
 have go := LoopT.intro (callW_ok (se0_audit_Fits) 5) (lpb_audit_Fits_1) (R_audit_Fits_1 w_audit_claims w_audit_valid w_audit_pointsOf w_s_Contains_api_Ratio_api_Ratio w_s_Index_api_Ratio_api_Ratio w_ratio_Add Q) (by
   intro F H h
   unfold R_audit_Fits_1 D_audit_Fits_1 at h
   split at h
   · exact h
   · exact h) (by
   intro n F H h
   unfold R_audit_Fits_1 D_audit_Fits_1 at h
   split at h
   · exact (body_audit_Fits_1_0 ..).mpr h
   · exact h.elim)
 have h : D_audit_Fits_1 F H _ := h
 unfold D_audit_Fits_1 at h
 split at h
 · obtain ⟨n, h⟩ := h; exact go n _ _ h
 · exact h.elim
theorem eq_audit_Fits (a0 a1 a2 a3 a4 a5 p0 p1 p2 p3 K) : WP (S0_audit_Fits a0 a1 a2 a3 a4 a5) 6 t_audit_Fits [(.int .i64 p0), (.agg [(.data p1), (.data p2)]), (.data p3)] K = wv_audit_Fits a0 a1 a2 a3 a4 a5 p0 p1 p2 p3 (fun r0 r1 => K (.tup [(.int .i64 r0), (.int .i64 r1)])) := by kernel_rfl
theorem ok_audit_Fits : OkF (E ef0) wp_audit_Fits n_audit_Fits := by
 intro as K h
 unfold wp_audit_Fits pw_audit_Fits at h
 split at h
 · exact WP_ok (se0_audit_Fits) (LpOk_by (l := [(82124700, b_82124700), (82124701, b_82124701)]) ⟨loop_audit_Fits_0, loop_audit_Fits_1, trivial⟩ (by kernel_rfl)) (by kernel_rfl) (by kernel_rfl) (fun _ => baseS_none (by kernel_rfl) _) (effG0.num _ (by kernel_rfl)) ((eq_audit_Fits ..).mpr h)
 · exact h.elim
end Go.Pf.Vc
namespace Go.Pf.Vc
open Go Go.Pf
set_option linter.unusedVariables false
theorem det_audit_claimed (p0 : Int) (p1 : Int) (p2 : Int) (p3 : Int) (p4 : Int) (p5 : Int) (p6 : Int) (p7 : Int) (p8 : Int) (r0 : Int) (r1 : Int) (r2 : Int) (r3 : Int) (r4 : Int) (r5 : Int) (r6 : Bool) (r7 : Bool) (h : ∀ K : Int → Int → Int → Int → Int → Int → Bool → Bool → Prop, K r0 r1 r2 r3 r4 r5 r6 r7 → w_audit_claimed p0 p1 p2 p3 p4 p5 p6 p7 p8 K) (K : Int → Int → Int → Int → Int → Int → Bool → Bool → Prop) : w_audit_claimed p0 p1 p2 p3 p4 p5 p6 p7 p8 K = K r0 r1 r2 r3 r4 r5 r6 r7 :=
 propext ⟨fun k => detC (ok_audit_claimed [] effG_nil) (as := [(.int .i64 p0), (.agg [(.int .i64 p1), (.int .u8 p2), (.int .i64 p3), (.int .i64 p4), (.int .i64 p5), (.int .i64 p6), (.int .i64 p7), (.int .i64 p8)])]) (x := (.tup [(.agg [(.int .i64 r0), (.int .i64 r1), (.int .i64 r2), (.int .i64 r3), (.int .i64 r4), (.int .i64 r5), (.bool r6)]), (.bool r7)])) (fun K' k' => h (fun r0 r1 r2 r3 r4 r5 r6 r7 => K' (.tup [(.agg [(.int .i64 r0), (.int .i64 r1), (.int .i64 r2), (.int .i64 r3), (.int .i64 r4), (.int .i64 r5), (.bool r6)]), (.bool r7)])) k') (K := fun x => match x with | (.tup [(.agg [(.int .i64 r0), (.int .i64 r1), (.int .i64 r2), (.int .i64 r3), (.int .i64 r4), (.int .i64 r5), (.bool r6)]), (.bool r7)]) => K r0 r1 r2 r3 r4 r5 r6 r7 | _ => False) k, h K⟩
theorem det_audit_claims (p0 : Int) (p1 : List PV) (r0 : List PV) (r1 : Int) (h : ∀ K : List PV → Int → Prop, K r0 r1 → w_audit_claims p0 p1 K) (K : List PV → Int → Prop) : w_audit_claims p0 p1 K = K r0 r1 :=
 propext ⟨fun k => detC (ok_audit_claims [] effG_nil) (as := [(.int .i64 p0), (.data p1)]) (x := (.tup [(.data r0), (.int .i64 r1)])) (fun K' k' => h (fun r0 r1 => K' (.tup [(.data r0), (.int .i64 r1)])) k') (K := fun x => match x with | (.tup [(.data r0), (.int .i64 r1)]) => K r0 r1 | _ => False) k, h K⟩
theorem det_audit_scale (p0 : List PV) (r0 : Int) (r1 : Int) (h : ∀ K : Int → Int → Prop, K r0 r1 → w_audit_scale p0 K) (K : Int → Int → Prop) : w_audit_scale p0 K = K r0 r1 :=
 propext ⟨fun k => detC (ok_audit_scale [] effG_nil) (as := [(.data p0)]) (x := (.tup [(.int .i64 r0), (.int .i64 r1)])) (fun K' k' => h (fun r0 r1 => K' (.tup [(.int .i64 r0), (.int .i64 r1)])) k') (K := fun x => match x with | (.tup [(.int .i64 r0), (.int .i64 r1)]) => K r0 r1 | _ => False) k, h K⟩
theorem det_audit_pointsOf (p0 : Int) (p1 : List PV) (r0 : List PV) (h : ∀ K : List PV → Prop, K r0 → w_audit_pointsOf p0 p1 K) (K : List PV → Prop) : w_audit_pointsOf p0 p1 K = K r0 :=
 propext ⟨fun k => detC ok_audit_pointsOf (as := [(.int .i64 p0), (.data p1)]) (x := (.data r0)) (fun K' k' => h (fun r0 => K' (.data r0)) k') (K := fun x => match x with | (.data r0) => K r0 | _ => False) k, h K⟩
theorem det_audit_Guess (p0 : Int) (p1 : List PV) (r0 : List PV) (r1 : List PV) (r2 : Int) (h : ∀ K : List PV → List PV → Int → Prop, K r0 r1 r2 → w_audit_Guess p0 p1 K) (K : List PV → List PV → Int → Prop) : w_audit_Guess p0 p1 K = K r0 r1 r2 :=
 propext ⟨fun k => detC ok_audit_Guess (as := [(.int .i64 p0), (.data p1)]) (x := (.tup [(.agg [(.data r0), (.data r1)]), (.int .i64 r2)])) (fun K' k' => h (fun r0 r1 r2 => K' (.tup [(.agg [(.data r0), (.data r1)]), (.int .i64 r2)])) k') (K := fun x => match x with | (.tup [(.agg [(.data r0), (.data r1)]), (.int .i64 r2)]) => K r0 r1 r2 | _ => False) k, h K⟩
theorem det_audit_First (p0 : Int) (p1 : List PV) (r0 : Int) (r1 : Int) (h : ∀ K : Int → Int → Prop, K r0 r1 → w_audit_First p0 p1 K) (K : Int → Int → Prop) : w_audit_First p0 p1 K = K r0 r1 :=
 propext ⟨fun k => detC ok_audit_First (as := [(.int .i64 p0), (.data p1)]) (x := (.tup [(.int .i64 r0), (.int .i64 r1)])) (fun K' k' => h (fun r0 r1 => K' (.tup [(.int .i64 r0), (.int .i64 r1)])) k') (K := fun x => match x with | (.tup [(.int .i64 r0), (.int .i64 r1)]) => K r0 r1 | _ => False) k, h K⟩
theorem det_audit_valid (p0 : Int) (p1 : List PV) (p2 : List PV) (r0 : Bool) (h : ∀ K : Bool → Prop, K r0 → w_audit_valid p0 p1 p2 K) (K : Bool → Prop) : w_audit_valid p0 p1 p2 K = K r0 :=
 propext ⟨fun k => detC (ok_audit_valid [] effG_nil) (as := [(.int .i64 p0), (.agg [(.data p1), (.data p2)])]) (x := (.bool r0)) (fun K' k' => h (fun r0 => K' (.bool r0)) k') (K := fun x => match x with | (.bool r0) => K r0 | _ => False) k, h K⟩
theorem det_audit_Fits (p0 : Int) (p1 : List PV) (p2 : List PV) (p3 : List PV) (r0 : Int) (r1 : Int) (h : ∀ K : Int → Int → Prop, K r0 r1 → w_audit_Fits p0 p1 p2 p3 K) (K : Int → Int → Prop) : w_audit_Fits p0 p1 p2 p3 K = K r0 r1 :=
 propext ⟨fun k => detC ok_audit_Fits (as := [(.int .i64 p0), (.agg [(.data p1), (.data p2)]), (.data p3)]) (x := (.tup [(.int .i64 r0), (.int .i64 r1)])) (fun K' k' => h (fun r0 r1 => K' (.tup [(.int .i64 r0), (.int .i64 r1)])) k') (K := fun x => match x with | (.tup [(.int .i64 r0), (.int .i64 r1)]) => K r0 r1 | _ => False) k, h K⟩
end Go.Pf.Vc
namespace Go.Pf.Vc
open Go Go.Pf
set_option maxRecDepth 100000
abbrev T_r01_abs : Type := Int → (Int → Prop) → Prop
def wv_r01_abs (p0 : Int) (K : Int → Prop) : Prop :=
 (cbr (decide (p0 < (0 : Int)))
 (K (IntKind.u64.wrap ((IntKind.u64.wrap (IntKind.i64.wrap ((0 : Int) - (IntKind.i64.wrap (p0 + (1 : Int)))))) + (1 : Int))))
 (K (IntKind.u64.wrap p0)))
def w_r01_abs (p0 : Int) (K : Int → Prop) : Prop := wv_r01_abs p0 K
def pw_r01_abs (w : T_r01_abs) (as : List PV) (K : PV → Prop) : Prop :=
 match as with
 | [(.int .i64 p0)] => w p0 (fun r0 => K (.int .u64 r0))
 | _ => False
def wp_r01_abs (as : List PV) (K : PV → Prop) : Prop := pw_r01_abs w_r01_abs as K
def lp_r01_abs : LP := fun _ _ _ _ =>
 False
def S0_r01_abs (e : List (Nat × EffF)) : SE := ⟨(E e), lookS [], lookI [], lp_r01_abs⟩
theorem se0_r01_abs (e : List (Nat × EffF)) (he : EG e) : SEOk (S0_r01_abs e) := seOk_of trivial trivial he.ok
theorem eq_r01_abs (e : List (Nat × EffF)) ( p0 K) : WP (S0_r01_abs e) 6 t_r01_abs [(.int .i64 p0)] K = wv_r01_abs p0 (fun r0 => K (.int .u64 r0)) := by kernel_rfl
theorem ok_r01_abs (e : List (Nat × EffF)) (he : EG e) : OkF (E e) wp_r01_abs n_r01_abs := by
 intro as K h
 unfold wp_r01_abs pw_r01_abs at h
 split at h
 · exact WP_ok (se0_r01_abs e he) (LpOk_no (by kernel_rfl)) (by kernel_rfl) (by kernel_rfl) (fun _ => baseS_none (by kernel_rfl) _) (he.num _ (by kernel_rfl)) ((eq_r01_abs ..).mpr h)
 · exact h.elim
abbrev T_r01_gcd : Type := Int → Int → (Int → Prop) → Prop
def L_r01_gcd_0_0 (x0 : Int → Int → Bool → Prop) : Nat → Int → Int → Prop
 | 0, _, _ => False
 | n + 1, i0, i1 =>
 (cbr (i1 != (0 : Int))
 (asr (!(decide (i1 = (0 : Int))))
 (L_r01_gcd_0_0 x0 n i1 (Int.tmod i0 i1)))
 (x0 i0 i1 false))
def wv_r01_gcd (p0 p1 : Int) (K : Int → Prop) : Prop :=
 (∃ n : Nat, L_r01_gcd_0_0
 (fun yi0 _ _ => (K yi0))
 n p0 p1)
def w_r01_gcd (p0 p1 : Int) (K : Int → Prop) : Prop := wv_r01_gcd p0 p1 K
def pw_r01_gcd (w : T_r01_gcd) (as : List PV) (K : PV → Prop) : Prop :=
 match as with
 | [(.int .u64 p0), (.int .u64 p1)] => w p0 p1 (fun r0 => K (.int .u64 r0))
 | _ => False
def wp_r01_gcd (as : List PV) (K : PV → Prop) : Prop := pw_r01_gcd w_r01_gcd as K
def D_r01_gcd_0 (F : Frm) (H : Hp) (A0 : Int → Int → Prop) : Prop :=
 match F, H with
 | [(0, .v (.int .u64 i0)), (1, .v (.int .u64 i1))], [] => (A0 i0 i1)
 | _, _ => False
def X_r01_gcd_0_0 (Q : Ex → Frm → Hp → Prop) : Int → Int → Bool → Prop := (fun i0 i1 b2 => Q (.exit 0) [(0, .v (.int .u64 i0)), (1, .v (.int .u64 i1)), (6, .v (.bool b2))] [])
def R_r01_gcd_0 (Q : Ex → Frm → Hp → Prop) (n : Nat) (F : Frm) (H : Hp) : Prop := D_r01_gcd_0 F H (fun i0 i1 => L_r01_gcd_0_0 (X_r01_gcd_0_0 Q) n i0 i1)
def lp_r01_gcd : LP := fun id F H Q =>
 bif Nat.beq id 16774900 then D_r01_gcd_0 F H (fun i0 i1 => ∃ n : Nat, L_r01_gcd_0_0 (X_r01_gcd_0_0 Q) n i0 i1) else
 False
def S0_r01_gcd (e : List (Nat × EffF)) : SE := ⟨(E e), lookS [], lookI [], lp_r01_gcd⟩
theorem se0_r01_gcd (e : List (Nat × EffF)) (he : EG e) : SEOk (S0_r01_gcd e) := seOk_of trivial trivial he.ok
theorem body_r01_gcd_0_0 (e : List (Nat × EffF)) ( Q n i0 i1) : WC (E e) (callW (S0_r01_gcd e) 5) (lp_r01_gcd) b_16774900 [(0, .v (.int .u64 i0)), (1, .v (.int .u64 i1))] [] (fun x F' H' => match x with | .norm => R_r01_gcd_0 Q n F' H' | .exit i => Q (.exit i) F' H' | .ret => Q .ret F' H') = L_r01_gcd_0_0 (X_r01_gcd_0_0 Q) (n + 1) i0 i1 := by kernel_rfl
theorem lpb_r01_gcd_0 (e : List (Nat × EffF)) (_ : EG e) : LpOk (E e) (lp_r01_gcd) b_16774900 := (LpOk_no (by kernel_rfl))
theorem loop_r01_gcd_0 (e : List (Nat × EffF)) (he : EG e) : ∀ F H Q, lp_r01_gcd 16774900 F H Q → LoopT (E e) b_16774900 F H Q := by
 intro F H Q h
 have go := LoopT.intro (callW_ok (se0_r01_gcd e he) 5) (lpb_r01_gcd_0 e he) (R_r01_gcd_0 Q) (by
   intro F H h
   unfold R_r01_gcd_0 D_r01_gcd_0 at h
   split at h
   · exact h
   · exact h) (by
   intro n F H h
   unfold R_r01_gcd_0 D_r01_gcd_0 at h
   split at h
   · exact (body_r01_gcd_0_0 ..).mpr h
   · exact h.elim)
 have h : D_r01_gcd_0 F H _ := h
 unfold D_r01_gcd_0 at h
 split at h
 · obtain ⟨n, h⟩ := h; exact go n _ _ h
 · exact h.elim
theorem eq_r01_gcd (e : List (Nat × EffF)) ( p0 p1 K) : WP (S0_r01_gcd e) 6 t_r01_gcd [(.int .u64 p0), (.int .u64 p1)] K = wv_r01_gcd p0 p1 (fun r0 => K (.int .u64 r0)) := by kernel_rfl
theorem ok_r01_gcd (e : List (Nat × EffF)) (he : EG e) : OkF (E e) wp_r01_gcd n_r01_gcd := by
 intro as K h
 unfold wp_r01_gcd pw_r01_gcd at h
 split at h
 · exact WP_ok (se0_r01_gcd e he) (LpOk_by (l := [(16774900, b_16774900)]) ⟨loop_r01_gcd_0 e he, trivial⟩ (by kernel_rfl)) (by kernel_rfl) (by kernel_rfl) (fun _ => baseS_none (by kernel_rfl) _) (he.num _ (by kernel_rfl)) ((eq_r01_gcd ..).mpr h)
 · exact h.elim
abbrev T_r01_Check : Type := Int → Int → (Int → Prop) → Prop
def wv_r01_Check (a0 : T_r01_abs) (a1 : T_r01_gcd) (p0 p1 : Int) (K : Int → Prop) : Prop :=
 (cbr (decide (p1 < (1 : Int)))
 (K (8 : Int))
 (cbr (decide (p1 > (1000000000000000000 : Int)))
 (K (8 : Int))
 (cbr (decide (p0 < (-1000000000000000000 : Int)))
 (K (8 : Int))
 (cbr (decide (p0 > (1000000000000000000 : Int)))
 (K (8 : Int))
 (a0 p0 (fun yi0 => 
 (a1 yi0 (IntKind.u64.wrap p1) (fun yi1 => 
 (cbr (yi1 != (1 : Int))
 (K (8 : Int))
 (K (0 : Int)))))))))))
def w_r01_Check (p0 p1 : Int) (K : Int → Prop) : Prop := wv_r01_Check w_r01_abs w_r01_gcd p0 p1 K
def pw_r01_Check (w : T_r01_Check) (as : List PV) (K : PV → Prop) : Prop :=
 match as with
 | [(.agg [(.int .i64 p0), (.int .i64 p1)])] => w p0 p1 (fun r0 => K (.int .i64 r0))
 | _ => False
def wp_r01_Check (as : List PV) (K : PV → Prop) : Prop := pw_r01_Check w_r01_Check as K
def lp_r01_Check (_ : T_r01_abs) (_ : T_r01_gcd) : LP := fun _ _ _ _ =>
 False
def S0_r01_Check (e : List (Nat × EffF)) (a0 : T_r01_abs) (a1 : T_r01_gcd) : SE := ⟨(E e), lookS [(n_r01_abs, pw_r01_abs a0), (n_r01_gcd, pw_r01_gcd a1)], lookI [], lp_r01_Check a0 a1⟩
theorem se0_r01_Check (e : List (Nat × EffF)) (he : EG e) : SEOk (S0_r01_Check e w_r01_abs w_r01_gcd) := seOk_of ⟨(ok_r01_abs e he), (ok_r01_gcd e he), trivial⟩ trivial he.ok
theorem eq_r01_Check (e : List (Nat × EffF)) (a0 a1 p0 p1 K) : WP (S0_r01_Check e a0 a1) 6 t_r01_Check [(.agg [(.int .i64 p0), (.int .i64 p1)])] K = wv_r01_Check a0 a1 p0 p1 (fun r0 => K (.int .i64 r0)) := by kernel_rfl
theorem ok_r01_Check (e : List (Nat × EffF)) (he : EG e) : OkF (E e) wp_r01_Check n_r01_Check := by
 intro as K h
 unfold wp_r01_Check pw_r01_Check at h
 split at h
 · exact WP_ok (se0_r01_Check e he) (LpOk_no (by kernel_rfl)) (by kernel_rfl) (by kernel_rfl) (fun _ => baseS_none (by kernel_rfl) _) (he.num _ (by kernel_rfl)) ((eq_r01_Check ..).mpr h)
 · exact h.elim
abbrev T_r01_Both : Type := Int → Int → Int → Int → (Int → Prop) → Prop
def wv_r01_Both (a0 : T_r01_Check) (p0 p1 p2 p3 : Int) (K : Int → Prop) : Prop :=
 (a0 p0 p1 (fun yi0 => 
 (cbr (yi0 != (0 : Int))
 (a0 p0 p1 (fun yi1 => 
 (K yi1)))
 (a0 p2 p3 (fun yi2 => 
 (K yi2))))))
def w_r01_Both (p0 p1 p2 p3 : Int) (K : Int → Prop) : Prop := wv_r01_Both w_r01_Check p0 p1 p2 p3 K
def pw_r01_Both (w : T_r01_Both) (as : List PV) (K : PV → Prop) : Prop :=
 match as with
 | [(.agg [(.int .i64 p0), (.int .i64 p1)]), (.agg [(.int .i64 p2), (.int .i64 p3)])] => w p0 p1 p2 p3 (fun r0 => K (.int .i64 r0))
 | _ => False
def wp_r01_Both (as : List PV) (K : PV → Prop) : Prop := pw_r01_Both w_r01_Both as K
def lp_r01_Both (_ : T_r01_Check) : LP := fun _ _ _ _ =>
 False
def S0_r01_Both (e : List (Nat × EffF)) (a0 : T_r01_Check) : SE := ⟨(E e), lookS [(n_r01_Check, pw_r01_Check a0)], lookI [], lp_r01_Both a0⟩
theorem se0_r01_Both (e : List (Nat × EffF)) (he : EG e) : SEOk (S0_r01_Both e w_r01_Check) := seOk_of ⟨(ok_r01_Check e he), trivial⟩ trivial he.ok
theorem eq_r01_Both (e : List (Nat × EffF)) (a0 p0 p1 p2 p3 K) : WP (S0_r01_Both e a0) 6 t_r01_Both [(.agg [(.int .i64 p0), (.int .i64 p1)]), (.agg [(.int .i64 p2), (.int .i64 p3)])] K = wv_r01_Both a0 p0 p1 p2 p3 (fun r0 => K (.int .i64 r0)) := by kernel_rfl
theorem ok_r01_Both (e : List (Nat × EffF)) (he : EG e) : OkF (E e) wp_r01_Both n_r01_Both := by
 intro as K h
 unfold wp_r01_Both pw_r01_Both at h
 split at h
 · exact WP_ok (se0_r01_Both e he) (LpOk_no (by kernel_rfl)) (by kernel_rfl) (by kernel_rfl) (fun _ => baseS_none (by kernel_rfl) _) (he.num _ (by kernel_rfl)) ((eq_r01_Both ..).mpr h)
 · exact h.elim
abbrev T_r01_Of : Type := Int → (Int → Int → Prop) → Prop
def wv_r01_Of (p0 : Int) (K : Int → Int → Prop) : Prop :=
 (K p0 (1 : Int))
def w_r01_Of (p0 : Int) (K : Int → Int → Prop) : Prop := wv_r01_Of p0 K
def pw_r01_Of (w : T_r01_Of) (as : List PV) (K : PV → Prop) : Prop :=
 match as with
 | [(.int .i64 p0)] => w p0 (fun r0 r1 => K (.agg [(.int .i64 r0), (.int .i64 r1)]))
 | _ => False
def wp_r01_Of (as : List PV) (K : PV → Prop) : Prop := pw_r01_Of w_r01_Of as K
def lp_r01_Of : LP := fun _ _ _ _ =>
 False
def S0_r01_Of (e : List (Nat × EffF)) : SE := ⟨(E e), lookS [], lookI [], lp_r01_Of⟩
theorem se0_r01_Of (e : List (Nat × EffF)) (he : EG e) : SEOk (S0_r01_Of e) := seOk_of trivial trivial he.ok
theorem eq_r01_Of (e : List (Nat × EffF)) ( p0 K) : WP (S0_r01_Of e) 6 t_r01_Of [(.int .i64 p0)] K = wv_r01_Of p0 (fun r0 r1 => K (.agg [(.int .i64 r0), (.int .i64 r1)])) := by kernel_rfl
theorem ok_r01_Of (e : List (Nat × EffF)) (he : EG e) : OkF (E e) wp_r01_Of n_r01_Of := by
 intro as K h
 unfold wp_r01_Of pw_r01_Of at h
 split at h
 · exact WP_ok (se0_r01_Of e he) (LpOk_no (by kernel_rfl)) (by kernel_rfl) (by kernel_rfl) (fun _ => baseS_none (by kernel_rfl) _) (he.num _ (by kernel_rfl)) ((eq_r01_Of ..).mpr h)
 · exact h.elim
abbrev T_r01_times : Type := Int → Int → (Int → Int → Prop) → Prop
def wv_r01_times (p0 p1 : Int) (K : Int → Int → Prop) : Prop :=
 (K (IntKind.u64.wrap ((IntKind.u64.wrap ((IntKind.u64.wrap ((Int.fdiv p0 4294967296) * (Int.fdiv p1 4294967296))) + (Int.fdiv (IntKind.u64.wrap ((Int.fdiv p0 4294967296) * (IntKind.u64.wrap (BitVec.ofInt IntKind.u64.bits p1 &&& BitVec.ofInt IntKind.u64.bits (4294967295 : Int)).toNat))) 4294967296))) + (Int.fdiv (IntKind.u64.wrap ((IntKind.u64.wrap ((IntKind.u64.wrap (BitVec.ofInt IntKind.u64.bits (IntKind.u64.wrap ((Int.fdiv p0 4294967296) * (IntKind.u64.wrap (BitVec.ofInt IntKind.u64.bits p1 &&& BitVec.ofInt IntKind.u64.bits (4294967295 : Int)).toNat))) &&& BitVec.ofInt IntKind.u64.bits (4294967295 : Int)).toNat) + (IntKind.u64.wrap ((IntKind.u64.wrap (BitVec.ofInt IntKind.u64.bits p0 &&& BitVec.ofInt IntKind.u64.bits (4294967295 : Int)).toNat) * (Int.fdiv p1 4294967296))))) + (Int.fdiv (IntKind.u64.wrap ((IntKind.u64.wrap (BitVec.ofInt IntKind.u64.bits p0 &&& BitVec.ofInt IntKind.u64.bits (4294967295 : Int)).toNat) * (IntKind.u64.wrap (BitVec.ofInt IntKind.u64.bits p1 &&& BitVec.ofInt IntKind.u64.bits (4294967295 : Int)).toNat))) 4294967296))) 4294967296))) (IntKind.u64.wrap (BitVec.ofInt IntKind.u64.bits (IntKind.u64.wrap ((IntKind.u64.wrap ((IntKind.u64.wrap ((IntKind.u64.wrap (BitVec.ofInt IntKind.u64.bits (IntKind.u64.wrap ((Int.fdiv p0 4294967296) * (IntKind.u64.wrap (BitVec.ofInt IntKind.u64.bits p1 &&& BitVec.ofInt IntKind.u64.bits (4294967295 : Int)).toNat))) &&& BitVec.ofInt IntKind.u64.bits (4294967295 : Int)).toNat) + (IntKind.u64.wrap ((IntKind.u64.wrap (BitVec.ofInt IntKind.u64.bits p0 &&& BitVec.ofInt IntKind.u64.bits (4294967295 : Int)).toNat) * (Int.fdiv p1 4294967296))))) + (Int.fdiv (IntKind.u64.wrap ((IntKind.u64.wrap (BitVec.ofInt IntKind.u64.bits p0 &&& BitVec.ofInt IntKind.u64.bits (4294967295 : Int)).toNat) * (IntKind.u64.wrap (BitVec.ofInt IntKind.u64.bits p1 &&& BitVec.ofInt IntKind.u64.bits (4294967295 : Int)).toNat))) 4294967296))) * (4294967296 : Int))) ||| BitVec.ofInt IntKind.u64.bits (IntKind.u64.wrap (BitVec.ofInt IntKind.u64.bits (IntKind.u64.wrap ((IntKind.u64.wrap (BitVec.ofInt IntKind.u64.bits p0 &&& BitVec.ofInt IntKind.u64.bits (4294967295 : Int)).toNat) * (IntKind.u64.wrap (BitVec.ofInt IntKind.u64.bits p1 &&& BitVec.ofInt IntKind.u64.bits (4294967295 : Int)).toNat))) &&& BitVec.ofInt IntKind.u64.bits (4294967295 : Int)).toNat)).toNat))
def w_r01_times (p0 p1 : Int) (K : Int → Int → Prop) : Prop := wv_r01_times p0 p1 K
def pw_r01_times (w : T_r01_times) (as : List PV) (K : PV → Prop) : Prop :=
 match as with
 | [(.int .u64 p0), (.int .u64 p1)] => w p0 p1 (fun r0 r1 => K (.agg [(.int .u64 r0), (.int .u64 r1)]))
 | _ => False
def wp_r01_times (as : List PV) (K : PV → Prop) : Prop := pw_r01_times w_r01_times as K
def lp_r01_times : LP := fun _ _ _ _ =>
 False
def S0_r01_times (e : List (Nat × EffF)) : SE := ⟨(E e), lookS [], lookI [], lp_r01_times⟩
theorem se0_r01_times (e : List (Nat × EffF)) (he : EG e) : SEOk (S0_r01_times e) := seOk_of trivial trivial he.ok
theorem eq_r01_times (e : List (Nat × EffF)) ( p0 p1 K) : WP (S0_r01_times e) 6 t_r01_times [(.int .u64 p0), (.int .u64 p1)] K = wv_r01_times p0 p1 (fun r0 r1 => K (.agg [(.int .u64 r0), (.int .u64 r1)])) := by kernel_rfl
theorem ok_r01_times (e : List (Nat × EffF)) (he : EG e) : OkF (E e) wp_r01_times n_r01_times := by
 intro as K h
 unfold wp_r01_times pw_r01_times at h
 split at h
 · exact WP_ok (se0_r01_times e he) (LpOk_no (by kernel_rfl)) (by kernel_rfl) (by kernel_rfl) (fun _ => baseS_none (by kernel_rfl) _) (he.num _ (by kernel_rfl)) ((eq_r01_times ..).mpr h)
 · exact h.elim
abbrev T_r01_less : Type := Int → Int → Int → Int → (Bool → Prop) → Prop
def wv_r01_less (p0 p1 p2 p3 : Int) (K : Bool → Prop) : Prop :=
 (cbr (decide (p0 < p2))
 (K true)
 (cbr (p0 == p2)
 (K (decide (p1 < p3)))
 (K false)))
def w_r01_less (p0 p1 p2 p3 : Int) (K : Bool → Prop) : Prop := wv_r01_less p0 p1 p2 p3 K
def pw_r01_less (w : T_r01_less) (as : List PV) (K : PV → Prop) : Prop :=
 match as with
 | [(.agg [(.int .u64 p0), (.int .u64 p1)]), (.agg [(.int .u64 p2), (.int .u64 p3)])] => w p0 p1 p2 p3 (fun r0 => K (.bool r0))
 | _ => False
def wp_r01_less (as : List PV) (K : PV → Prop) : Prop := pw_r01_less w_r01_less as K
def lp_r01_less : LP := fun _ _ _ _ =>
 False
def S0_r01_less (e : List (Nat × EffF)) : SE := ⟨(E e), lookS [], lookI [], lp_r01_less⟩
theorem se0_r01_less (e : List (Nat × EffF)) (he : EG e) : SEOk (S0_r01_less e) := seOk_of trivial trivial he.ok
theorem eq_r01_less (e : List (Nat × EffF)) ( p0 p1 p2 p3 K) : WP (S0_r01_less e) 6 t_r01_less [(.agg [(.int .u64 p0), (.int .u64 p1)]), (.agg [(.int .u64 p2), (.int .u64 p3)])] K = wv_r01_less p0 p1 p2 p3 (fun r0 => K (.bool r0)) := by kernel_rfl
theorem ok_r01_less (e : List (Nat × EffF)) (he : EG e) : OkF (E e) wp_r01_less n_r01_less := by
 intro as K h
 unfold wp_r01_less pw_r01_less at h
 split at h
 · exact WP_ok (se0_r01_less e he) (LpOk_no (by kernel_rfl)) (by kernel_rfl) (by kernel_rfl) (fun _ => baseS_none (by kernel_rfl) _) (he.num _ (by kernel_rfl)) ((eq_r01_less ..).mpr h)
 · exact h.elim
abbrev T_r01_Less : Type := Int → Int → Int → Int → (Bool → Prop) → Prop
def wv_r01_Less (a0 : T_r01_abs) (a1 : T_r01_times) (a2 : T_r01_less) (p0 p1 p2 p3 : Int) (K : Bool → Prop) : Prop :=
 (cbr ((decide (p0 < (0 : Int))) != (decide (p2 < (0 : Int))))
 (K (decide (p0 < (0 : Int))))
 (a0 p0 (fun yi0 => 
 (a1 yi0 (IntKind.u64.wrap p3) (fun yi1 yi2 => 
 (a0 p2 (fun yi3 => 
 (a1 yi3 (IntKind.u64.wrap p1) (fun yi4 yi5 => 
 (cbr (decide (p0 < (0 : Int)))
 (a2 yi4 yi5 yi1 yi2 (fun yb6 => 
 (K yb6)))
 (a2 yi1 yi2 yi4 yi5 (fun yb7 => 
 (K yb7)))))))))))))
def w_r01_Less (p0 p1 p2 p3 : Int) (K : Bool → Prop) : Prop := wv_r01_Less w_r01_abs w_r01_times w_r01_less p0 p1 p2 p3 K
def pw_r01_Less (w : T_r01_Less) (as : List PV) (K : PV → Prop) : Prop :=
 match as with
 | [(.agg [(.int .i64 p0), (.int .i64 p1)]), (.agg [(.int .i64 p2), (.int .i64 p3)])] => w p0 p1 p2 p3 (fun r0 => K (.bool r0))
 | _ => False
def wp_r01_Less (as : List PV) (K : PV → Prop) : Prop := pw_r01_Less w_r01_Less as K
def lp_r01_Less (_ : T_r01_abs) (_ : T_r01_times) (_ : T_r01_less) : LP := fun _ _ _ _ =>
 False
def S0_r01_Less (e : List (Nat × EffF)) (a0 : T_r01_abs) (a1 : T_r01_times) (a2 : T_r01_less) : SE := ⟨(E e), lookS [(n_r01_abs, pw_r01_abs a0), (n_r01_times, pw_r01_times a1), (n_r01_less, pw_r01_less a2)], lookI [], lp_r01_Less a0 a1 a2⟩
theorem se0_r01_Less (e : List (Nat × EffF)) (he : EG e) : SEOk (S0_r01_Less e w_r01_abs w_r01_times w_r01_less) := seOk_of ⟨(ok_r01_abs e he), (ok_r01_times e he), (ok_r01_less e he), trivial⟩ trivial he.ok
theorem eq_r01_Less (e : List (Nat × EffF)) (a0 a1 a2 p0 p1 p2 p3 K) : WP (S0_r01_Less e a0 a1 a2) 6 t_r01_Less [(.agg [(.int .i64 p0), (.int .i64 p1)]), (.agg [(.int .i64 p2), (.int .i64 p3)])] K = wv_r01_Less a0 a1 a2 p0 p1 p2 p3 (fun r0 => K (.bool r0)) := by kernel_rfl
theorem ok_r01_Less (e : List (Nat × EffF)) (he : EG e) : OkF (E e) wp_r01_Less n_r01_Less := by
 intro as K h
 unfold wp_r01_Less pw_r01_Less at h
 split at h
 · exact WP_ok (se0_r01_Less e he) (LpOk_no (by kernel_rfl)) (by kernel_rfl) (by kernel_rfl) (fun _ => baseS_none (by kernel_rfl) _) (he.num _ (by kernel_rfl)) ((eq_r01_Less ..).mpr h)
 · exact h.elim
end Go.Pf.Vc
namespace Go.Pf.Vc
open Go Go.Pf
set_option linter.unusedVariables false
theorem det_r01_gcd (p0 : Int) (p1 : Int) (r0 : Int) (h : ∀ K : Int → Prop, K r0 → w_r01_gcd p0 p1 K) (K : Int → Prop) : w_r01_gcd p0 p1 K = K r0 :=
 propext ⟨fun k => detC (ok_r01_gcd [] effG_nil) (as := [(.int .u64 p0), (.int .u64 p1)]) (x := (.int .u64 r0)) (fun K' k' => h (fun r0 => K' (.int .u64 r0)) k') (K := fun x => match x with | (.int .u64 r0) => K r0 | _ => False) k, h K⟩
end Go.Pf.Vc
namespace Go.Pf.Vc
open Go Go.Pf
set_option maxRecDepth 100000
abbrev T_r02_Point : Type := Int → Int → Int → (Bool → Prop) → Prop
def wv_r02_Point (a0 : T_r01_Check) (a1 : T_r01_Of) (a2 : T_r01_Less) (p0 p1 p2 : Int) (K : Bool → Prop) : Prop :=
 (a0 p1 p2 (fun yi0 => 
 (cbr (yi0 == (0 : Int))
 (cbr (decide (p1 ≥ (0 : Int)))
 (a1 p0 (fun yi1 yi2 => 
 (a2 yi1 yi2 p1 p2 (fun yb3 => 
 (K (!yb3))))))
 (K false))
 (K false))))
def w_r02_Point (p0 p1 p2 : Int) (K : Bool → Prop) : Prop := wv_r02_Point w_r01_Check w_r01_Of w_r01_Less p0 p1 p2 K
def pw_r02_Point (w : T_r02_Point) (as : List PV) (K : PV → Prop) : Prop :=
 match as with
 | [(.int .i64 p0), (.agg [(.int .i64 p1), (.int .i64 p2)])] => w p0 p1 p2 (fun r0 => K (.bool r0))
 | _ => False
def wp_r02_Point (as : List PV) (K : PV → Prop) : Prop := pw_r02_Point w_r02_Point as K
def lp_r02_Point (_ : T_r01_Check) (_ : T_r01_Of) (_ : T_r01_Less) : LP := fun _ _ _ _ =>
 False
def S0_r02_Point (e : List (Nat × EffF)) (a0 : T_r01_Check) (a1 : T_r01_Of) (a2 : T_r01_Less) : SE := ⟨(E e), lookS [(n_r01_Check, pw_r01_Check a0), (n_r01_Of, pw_r01_Of a1), (n_r01_Less, pw_r01_Less a2)], lookI [], lp_r02_Point a0 a1 a2⟩
theorem se0_r02_Point (e : List (Nat × EffF)) (he : EG e) : SEOk (S0_r02_Point e w_r01_Check w_r01_Of w_r01_Less) := seOk_of ⟨(ok_r01_Check e he), (ok_r01_Of e he), (ok_r01_Less e he), trivial⟩ trivial he.ok
theorem eq_r02_Point (e : List (Nat × EffF)) (a0 a1 a2 p0 p1 p2 K) : WP (S0_r02_Point e a0 a1 a2) 6 t_r02_Point [(.int .i64 p0), (.agg [(.int .i64 p1), (.int .i64 p2)])] K = wv_r02_Point a0 a1 a2 p0 p1 p2 (fun r0 => K (.bool r0)) := by kernel_rfl
theorem ok_r02_Point (e : List (Nat × EffF)) (he : EG e) : OkF (E e) wp_r02_Point n_r02_Point := by
 intro as K h
 unfold wp_r02_Point pw_r02_Point at h
 split at h
 · exact WP_ok (se0_r02_Point e he) (LpOk_no (by kernel_rfl)) (by kernel_rfl) (by kernel_rfl) (fun _ => baseS_none (by kernel_rfl) _) (he.num _ (by kernel_rfl)) ((eq_r02_Point ..).mpr h)
 · exact h.elim
end Go.Pf.Vc
namespace Go.Pf.Vc
open Go Go.Pf
set_option maxRecDepth 100000
abbrev T_r05_Great : Type := List PV → (Bool → Prop) → Prop
def wv_r05_Great (p0 : List PV) (K : Bool → Prop) : Prop :=
 (jn (fun (yj1 : Bool → Prop) =>
 (cbr (decide ((((List.length p0) : Nat) : Int) > (14 : Int)))
 (cbr (decide ((((List.length p0) : Nat) : Int) ≤ (40 : Int)))
 (yj1 true)
 (yj1 (decide ((((List.length p0) : Nat) : Int) > (60 : Int)))))
 (yj1 (decide ((((List.length p0) : Nat) : Int) > (60 : Int))))))
 (fun yb0 => (K yb0)))
def w_r05_Great (p0 : List PV) (K : Bool → Prop) : Prop := wv_r05_Great p0 K
def pw_r05_Great (w : T_r05_Great) (as : List PV) (K : PV → Prop) : Prop :=
 match as with
 | [(.data p0)] => w p0 (fun r0 => K (.bool r0))
 | _ => False
def wp_r05_Great (as : List PV) (K : PV → Prop) : Prop := pw_r05_Great w_r05_Great as K
def lp_r05_Great : LP := fun _ _ _ _ =>
 False
def S0_r05_Great (e : List (Nat × EffF)) : SE := ⟨(E e), lookS [], lookI [], lp_r05_Great⟩
theorem se0_r05_Great (e : List (Nat × EffF)) (he : EG e) : SEOk (S0_r05_Great e) := seOk_of trivial trivial he.ok
theorem eq_r05_Great (e : List (Nat × EffF)) ( p0 K) : WP (S0_r05_Great e) 6 t_r05_Great [(.data p0)] K = wv_r05_Great p0 (fun r0 => K (.bool r0)) := by kernel_rfl
theorem ok_r05_Great (e : List (Nat × EffF)) (he : EG e) : OkF (E e) wp_r05_Great n_r05_Great := by
 intro as K h
 unfold wp_r05_Great pw_r05_Great at h
 split at h
 · exact WP_ok (se0_r05_Great e he) (LpOk_no (by kernel_rfl)) (by kernel_rfl) (by kernel_rfl) (fun _ => baseS_none (by kernel_rfl) _) (he.num _ (by kernel_rfl)) ((eq_r05_Great ..).mpr h)
 · exact h.elim
abbrev T_r05_right : Type := Int → Int → Int → Int → Int → Int → Int → Int → Int → (Bool → Prop) → Prop
def wv_r05_right (a0 : T_r01_Both) (a1 : T_r01_Check) (a2 : T_r02_Point) (a3 : T_r01_Less) (p0 _ p2 p3 p4 p5 p6 p7 p8 : Int) (K : Bool → Prop) : Prop :=
 (jn (fun (yj12 : Bool → Prop) =>
 (a0 p3 p4 p5 p6 (fun yi37 => 
 (cbr (yi37 != (0 : Int))
 (yj12 true)
 (a1 p7 p8 (fun yi38 => 
 (cbr (yi38 != (0 : Int))
 (yj12 true)
 (a2 p0 p3 p4 (fun yb39 => 
 (yj12 (!yb39)))))))))))
 (fun yb11 => (cbr yb11
 (K false)
 (cbr (p2 == (1 : Int))
 (jn (fun (yj28 : Bool → Prop) =>
 (a2 p0 p5 p6 (fun yb29 => 
 (cbr yb29
 (a3 p5 p6 p3 p4 (fun yb30 => 
 (cbr (!yb30)
 (yj28 (decide (p7 ≥ (0 : Int))))
 (yj28 false))))
 (yj28 false)))))
 (fun yb27 => (K yb27)))
 (cbr (p2 == (2 : Int))
 (jn (fun (yj34 : Bool → Prop) =>
 (a2 p0 p7 p8 (fun yb35 => 
 (cbr yb35
 (a3 p7 p8 p3 p4 (fun yb36 => 
 (cbr (!yb36)
 (yj34 (decide (p5 ≥ (0 : Int))))
 (yj34 false))))
 (yj34 false)))))
 (fun yb33 => (K yb33)))
 (K false))))))
def w_r05_right (p0 p1 p2 p3 p4 p5 p6 p7 p8 : Int) (K : Bool → Prop) : Prop := wv_r05_right w_r01_Both w_r01_Check w_r02_Point w_r01_Less p0 p1 p2 p3 p4 p5 p6 p7 p8 K
def pw_r05_right (w : T_r05_right) (as : List PV) (K : PV → Prop) : Prop :=
 match as with
 | [(.int .i64 p0), (.agg [(.int .i64 p1), (.int .u8 p2), (.int .i64 p3), (.int .i64 p4), (.int .i64 p5), (.int .i64 p6), (.int .i64 p7), (.int .i64 p8)])] => w p0 p1 p2 p3 p4 p5 p6 p7 p8 (fun r0 => K (.bool r0))
 | _ => False
def wp_r05_right (as : List PV) (K : PV → Prop) : Prop := pw_r05_right w_r05_right as K
def lp_r05_right (_ : T_r01_Both) (_ : T_r01_Check) (_ : T_r02_Point) (_ : T_r01_Less) : LP := fun _ _ _ _ =>
 False
def S0_r05_right (e : List (Nat × EffF)) (a0 : T_r01_Both) (a1 : T_r01_Check) (a2 : T_r02_Point) (a3 : T_r01_Less) : SE := ⟨(E e), lookS [(n_r01_Both, pw_r01_Both a0), (n_r01_Check, pw_r01_Check a1), (n_r02_Point, pw_r02_Point a2), (n_r01_Less, pw_r01_Less a3)], lookI [], lp_r05_right a0 a1 a2 a3⟩
theorem se0_r05_right (e : List (Nat × EffF)) (he : EG e) : SEOk (S0_r05_right e w_r01_Both w_r01_Check w_r02_Point w_r01_Less) := seOk_of ⟨(ok_r01_Both e he), (ok_r01_Check e he), (ok_r02_Point e he), (ok_r01_Less e he), trivial⟩ trivial he.ok
theorem eq_r05_right (e : List (Nat × EffF)) (a0 a1 a2 a3 p0 p1 p2 p3 p4 p5 p6 p7 p8 K) : WP (S0_r05_right e a0 a1 a2 a3) 6 t_r05_right [(.int .i64 p0), (.agg [(.int .i64 p1), (.int .u8 p2), (.int .i64 p3), (.int .i64 p4), (.int .i64 p5), (.int .i64 p6), (.int .i64 p7), (.int .i64 p8)])] K = wv_r05_right a0 a1 a2 a3 p0 p1 p2 p3 p4 p5 p6 p7 p8 (fun r0 => K (.bool r0)) := by kernel_rfl
theorem ok_r05_right (e : List (Nat × EffF)) (he : EG e) : OkF (E e) wp_r05_right n_r05_right := by
 intro as K h
 unfold wp_r05_right pw_r05_right at h
 split at h
 · exact WP_ok (se0_r05_right e he) (LpOk_no (by kernel_rfl)) (by kernel_rfl) (by kernel_rfl) (fun _ => baseS_none (by kernel_rfl) _) (he.num _ (by kernel_rfl)) ((eq_r05_right ..).mpr h)
 · exact h.elim
abbrev T_r05_Check : Type := Int → List PV → (Int → Prop) → Prop
def L_r05_Check_0_0 (a0 : T_r05_right) (x0 : Int → List PV → Int → Bool → Prop) (x1 : Int → Prop) : Nat → Int → List PV → Int → Prop
 | 0, _, _, _ => False
 | n + 1, i0, l1, i2 =>
 (cbr (decide (i2 < (((List.length l1) : Nat) : Int)))
 (asr (decide ((0 : Int) ≤ i2))
 (asr (decide (i2 < (((List.length l1) : Nat) : Int)))
 (lt (List.getD l1 (i2.toNat) .nils) (fun yr10 =>
 (asr (conf (.agg [.i .i64, .i .u8, .i .i64, .i .i64, .i .i64, .i .i64, .i .i64, .i .i64]) yr10)
 (a0 i0 (intOfV (cellAt yr10 0)) (intOfV (cellAt yr10 1)) (intOfV (cellAt yr10 2)) (intOfV (cellAt yr10 3)) (intOfV (cellAt yr10 4)) (intOfV (cellAt yr10 5)) (intOfV (cellAt yr10 6)) (intOfV (cellAt yr10 7)) (fun yb11 => 
 (cbr (!yb11)
 (x1 (8 : Int))
 (lt (IntKind.i64.wrap (i2 + (1 : Int))) (fun yi12 =>
 (L_r05_Check_0_0 a0 x0 x1 n i0 l1 yi12)))))))))))
 (x0 i0 l1 i2 false))
def wv_r05_Check (a0 : T_r05_right) (p0 : Int) (p1 : List PV) (K : Int → Prop) : Prop :=
 (jn (fun (yj3 : Bool → Prop) =>
 (cbr (decide (p0 < (1 : Int)))
 (yj3 true)
 (yj3 (decide (p0 > (1000 : Int))))))
 (fun yb2 => (cbr yb2
 (K (2 : Int))
 (cbr (decide ((((List.length p1) : Nat) : Int) > (40 : Int)))
 (K (4 : Int))
 (∃ n : Nat, L_r05_Check_0_0 a0
 (fun _ _ _ _ => (K (0 : Int)))
 (fun yi22 => (K yi22))
 n p0 p1 (0 : Int))))))
def w_r05_Check (p0 : Int) (p1 : List PV) (K : Int → Prop) : Prop := wv_r05_Check w_r05_right p0 p1 K
def pw_r05_Check (w : T_r05_Check) (as : List PV) (K : PV → Prop) : Prop :=
 match as with
 | [(.int .i64 p0), (.data p1)] => w p0 p1 (fun r0 => K (.int .i64 r0))
 | _ => False
def wp_r05_Check (as : List PV) (K : PV → Prop) : Prop := pw_r05_Check w_r05_Check as K
def D_r05_Check_0 (F : Frm) (H : Hp) (A0 : Int → List PV → Int → Prop) : Prop :=
 match F, H with
 | [(0, .v (.int .i64 i0)), (1, .v (.data l1)), (5, .v (.int .i64 i2))], [] => (A0 i0 l1 i2)
 | _, _ => False
def X_r05_Check_0_0 (Q : Ex → Frm → Hp → Prop) : Int → List PV → Int → Bool → Prop := (fun i0 l1 i2 b3 => Q (.exit 0) [(0, .v (.int .i64 i0)), (1, .v (.data l1)), (5, .v (.int .i64 i2)), (18, .v (.bool b3))] [])
def X_r05_Check_0_1 (Q : Ex → Frm → Hp → Prop) : Int → Prop := (fun i0 => Q .ret [(4, .v (.int .i64 i0))] [])
def R_r05_Check_0 (a0 : T_r05_right) (Q : Ex → Frm → Hp → Prop) (n : Nat) (F : Frm) (H : Hp) : Prop := D_r05_Check_0 F H (fun i0 l1 i2 => L_r05_Check_0_0 a0 (X_r05_Check_0_0 Q) (X_r05_Check_0_1 Q) n i0 l1 i2)
def lp_r05_Check (a0 : T_r05_right) : LP := fun id F H Q =>
 bif Nat.beq id 13207700 then D_r05_Check_0 F H (fun i0 l1 i2 => ∃ n : Nat, L_r05_Check_0_0 a0 (X_r05_Check_0_0 Q) (X_r05_Check_0_1 Q) n i0 l1 i2) else
 False
def S0_r05_Check (e : List (Nat × EffF)) (a0 : T_r05_right) : SE := ⟨(E e), lookS [(n_r05_right, pw_r05_right a0)], lookI [], lp_r05_Check a0⟩
theorem se0_r05_Check (e : List (Nat × EffF)) (he : EG e) : SEOk (S0_r05_Check e w_r05_right) := seOk_of ⟨(ok_r05_right e he), trivial⟩ trivial he.ok
theorem body_r05_Check_0_0 (e : List (Nat × EffF)) (a0 Q n i0 l1 i2) : WC (E e) (callW (S0_r05_Check e a0) 5) (lp_r05_Check a0) b_13207700 [(0, .v (.int .i64 i0)), (1, .v (.data l1)), (5, .v (.int .i64 i2))] [] (fun x F' H' => match x with | .norm => R_r05_Check_0 a0 Q n F' H' | .exit i => Q (.exit i) F' H' | .ret => Q .ret F' H') = L_r05_Check_0_0 a0 (X_r05_Check_0_0 Q) (X_r05_Check_0_1 Q) (n + 1) i0 l1 i2 := by kernel_rfl
theorem lpb_r05_Check_0 (e : List (Nat × EffF)) (_ : EG e) : LpOk (E e) (lp_r05_Check w_r05_right) b_13207700 := (LpOk_no (by kernel_rfl))
theorem loop_r05_Check_0 (e : List (Nat × EffF)) (he : EG e) : ∀ F H Q, lp_r05_Check w_r05_right 13207700 F H Q → LoopT (E e) b_13207700 F H Q := by
 intro F H Q h
 have go := LoopT.intro (callW_ok (se0_r05_Check e he) 5) (lpb_r05_Check_0 e he) (R_r05_Check_0 w_r05_right Q) (by
   intro F H h
   unfold R_r05_Check_0 D_r05_Check_0 at h
   split at h
   · exact h
   · exact h) (by
   intro n F H h
   unfold R_r05_Check_0 D_r05_Check_0 at h
   split at h
   · exact (body_r05_Check_0_0 ..).mpr h
   · exact h.elim)
 have h : D_r05_Check_0 F H _ := h
 unfold D_r05_Check_0 at h
 split at h
 · obtain ⟨n, h⟩ := h; exact go n _ _ h
 · exact h.elim
theorem eq_r05_Check (e : List (Nat × EffF)) (a0 p0 p1 K) : WP (S0_r05_Check e a0) 6 t_r05_Check [(.int .i64 p0), (.data p1)] K = wv_r05_Check a0 p0 p1 (fun r0 => K (.int .i64 r0)) := by kernel_rfl
theorem ok_r05_Check (e : List (Nat × EffF)) (he : EG e) : OkF (E e) wp_r05_Check n_r05_Check := by
 intro as K h
 unfold wp_r05_Check pw_r05_Check at h
 split at h
 · exact WP_ok (se0_r05_Check e he) (LpOk_by (l := [(13207700, b_13207700)]) ⟨loop_r05_Check_0 e he, trivial⟩ (by kernel_rfl)) (by kernel_rfl) (by kernel_rfl) (fun _ => baseS_none (by kernel_rfl) _) (he.num _ (by kernel_rfl)) ((eq_r05_Check ..).mpr h)
 · exact h.elim
abbrev T_r05_GreatGuess : Type := List PV → List PV → (Bool → Prop) → Prop
def wv_r05_GreatGuess (p0 p1 : List PV) (K : Bool → Prop) : Prop :=
 (jn (fun (yj1 : Bool → Prop) =>
 (cbr (decide ((((List.length p0) : Nat) : Int) > (110 : Int)))
 (yj1 true)
 (yj1 (decide ((((List.length p1) : Nat) : Int) > (110 : Int))))))
 (fun yb0 => (K yb0)))
def w_r05_GreatGuess (p0 p1 : List PV) (K : Bool → Prop) : Prop := wv_r05_GreatGuess p0 p1 K
def pw_r05_GreatGuess (w : T_r05_GreatGuess) (as : List PV) (K : PV → Prop) : Prop :=
 match as with
 | [(.agg [(.data p0), (.data p1)])] => w p0 p1 (fun r0 => K (.bool r0))
 | _ => False
def wp_r05_GreatGuess (as : List PV) (K : PV → Prop) : Prop := pw_r05_GreatGuess w_r05_GreatGuess as K
def lp_r05_GreatGuess : LP := fun _ _ _ _ =>
 False
def S0_r05_GreatGuess (e : List (Nat × EffF)) : SE := ⟨(E e), lookS [], lookI [], lp_r05_GreatGuess⟩
theorem se0_r05_GreatGuess (e : List (Nat × EffF)) (he : EG e) : SEOk (S0_r05_GreatGuess e) := seOk_of trivial trivial he.ok
theorem eq_r05_GreatGuess (e : List (Nat × EffF)) ( p0 p1 K) : WP (S0_r05_GreatGuess e) 6 t_r05_GreatGuess [(.agg [(.data p0), (.data p1)])] K = wv_r05_GreatGuess p0 p1 (fun r0 => K (.bool r0)) := by kernel_rfl
theorem ok_r05_GreatGuess (e : List (Nat × EffF)) (he : EG e) : OkF (E e) wp_r05_GreatGuess n_r05_GreatGuess := by
 intro as K h
 unfold wp_r05_GreatGuess pw_r05_GreatGuess at h
 split at h
 · exact WP_ok (se0_r05_GreatGuess e he) (LpOk_no (by kernel_rfl)) (by kernel_rfl) (by kernel_rfl) (fun _ => baseS_none (by kernel_rfl) _) (he.num _ (by kernel_rfl)) ((eq_r05_GreatGuess ..).mpr h)
 · exact h.elim
abbrev T_r05_SameList : Type := List PV → List PV → (Bool → Prop) → Prop
def L_r05_SameList_0_0 (x0 : List PV → List PV → Int → Bool → Prop) (x1 : Bool → Prop) : Nat → List PV → List PV → Int → Prop
 | 0, _, _, _ => False
 | n + 1, l0, l1, i2 =>
 (cbr (decide (i2 < (((List.length l0) : Nat) : Int)))
 (asr (decide ((0 : Int) ≤ i2))
 (asr (decide (i2 < (((List.length l0) : Nat) : Int)))
 (lt (List.getD l0 (i2.toNat) .nils) (fun yr6 =>
 (asr (conf (.agg [.i .i64, .i .i64]) yr6)
 (asr (decide ((0 : Int) ≤ i2))
 (asr (decide (i2 < (((List.length l1) : Nat) : Int)))
 (lt (List.getD l1 (i2.toNat) .nils) (fun yr7 =>
 (asr (conf (.agg [.i .i64, .i .i64]) yr7)
 (cbr (!(((intOfV (cellAt yr6 0)) == (intOfV (cellAt yr7 0))) && (((intOfV (cellAt yr6 1)) == (intOfV (cellAt yr7 1))) && true)))
 (x1 false)
 (lt (IntKind.i64.wrap (i2 + (1 : Int))) (fun yi8 =>
 (L_r05_SameList_0_0 x0 x1 n l0 l1 yi8))))))))))))))
 (x0 l0 l1 i2 false))
def wv_r05_SameList (p0 p1 : List PV) (K : Bool → Prop) : Prop :=
 (cbr ((((List.length p0) : Nat) : Int) != (((List.length p1) : Nat) : Int))
 (K false)
 (∃ n : Nat, L_r05_SameList_0_0
 (fun _ _ _ _ => (K true))
 (fun yb18 => (K yb18))
 n p0 p1 (0 : Int)))
def w_r05_SameList (p0 p1 : List PV) (K : Bool → Prop) : Prop := wv_r05_SameList p0 p1 K
def pw_r05_SameList (w : T_r05_SameList) (as : List PV) (K : PV → Prop) : Prop :=
 match as with
 | [(.data p0), (.data p1)] => w p0 p1 (fun r0 => K (.bool r0))
 | _ => False
def wp_r05_SameList (as : List PV) (K : PV → Prop) : Prop := pw_r05_SameList w_r05_SameList as K
def D_r05_SameList_0 (F : Frm) (H : Hp) (A0 : List PV → List PV → Int → Prop) : Prop :=
 match F, H with
 | [(0, .v (.data l0)), (1, .v (.data l1)), (5, .v (.int .i64 i2))], [] => (A0 l0 l1 i2)
 | _, _ => False
def X_r05_SameList_0_0 (Q : Ex → Frm → Hp → Prop) : List PV → List PV → Int → Bool → Prop := (fun l0 l1 i2 b3 => Q (.exit 0) [(0, .v (.data l0)), (1, .v (.data l1)), (5, .v (.int .i64 i2)), (14, .v (.bool b3))] [])
def X_r05_SameList_0_1 (Q : Ex → Frm → Hp → Prop) : Bool → Prop := (fun b0 => Q .ret [(4, .v (.bool b0))] [])
def R_r05_SameList_0 (Q : Ex → Frm → Hp → Prop) (n : Nat) (F : Frm) (H : Hp) : Prop := D_r05_SameList_0 F H (fun l0 l1 i2 => L_r05_SameList_0_0 (X_r05_SameList_0_0 Q) (X_r05_SameList_0_1 Q) n l0 l1 i2)
def lp_r05_SameList : LP := fun id F H Q =>
 bif Nat.beq id 53352400 then D_r05_SameList_0 F H (fun l0 l1 i2 => ∃ n : Nat, L_r05_SameList_0_0 (X_r05_SameList_0_0 Q) (X_r05_SameList_0_1 Q) n l0 l1 i2) else
 False
def S0_r05_SameList (e : List (Nat × EffF)) : SE := ⟨(E e), lookS [], lookI [], lp_r05_SameList⟩
theorem se0_r05_SameList (e : List (Nat × EffF)) (he : EG e) : SEOk (S0_r05_SameList e) := seOk_of trivial trivial he.ok
theorem body_r05_SameList_0_0 (e : List (Nat × EffF)) ( Q n l0 l1 i2) : WC (E e) (callW (S0_r05_SameList e) 5) (lp_r05_SameList) b_53352400 [(0, .v (.data l0)), (1, .v (.data l1)), (5, .v (.int .i64 i2))] [] (fun x F' H' => match x with | .norm => R_r05_SameList_0 Q n F' H' | .exit i => Q (.exit i) F' H' | .ret => Q .ret F' H') = L_r05_SameList_0_0 (X_r05_SameList_0_0 Q) (X_r05_SameList_0_1 Q) (n + 1) l0 l1 i2 := by kernel_rfl
theorem lpb_r05_SameList_0 (e : List (Nat × EffF)) (_ : EG e) : LpOk (E e) (lp_r05_SameList) b_53352400 := (LpOk_no (by kernel_rfl))
theorem loop_r05_SameList_0 (e : List (Nat × EffF)) (he : EG e) : ∀ F H Q, lp_r05_SameList 53352400 F H Q → LoopT (E e) b_53352400 F H Q := by
 intro F H Q h
 have go := LoopT.intro (callW_ok (se0_r05_SameList e he) 5) (lpb_r05_SameList_0 e he) (R_r05_SameList_0 Q) (by
   intro F H h
   unfold R_r05_SameList_0 D_r05_SameList_0 at h
   split at h
   · exact h
   · exact h) (by
   intro n F H h
   unfold R_r05_SameList_0 D_r05_SameList_0 at h
   split at h
   · exact (body_r05_SameList_0_0 ..).mpr h
   · exact h.elim)
 have h : D_r05_SameList_0 F H _ := h
 unfold D_r05_SameList_0 at h
 split at h
 · obtain ⟨n, h⟩ := h; exact go n _ _ h
 · exact h.elim
theorem eq_r05_SameList (e : List (Nat × EffF)) ( p0 p1 K) : WP (S0_r05_SameList e) 6 t_r05_SameList [(.data p0), (.data p1)] K = wv_r05_SameList p0 p1 (fun r0 => K (.bool r0)) := by kernel_rfl
theorem ok_r05_SameList (e : List (Nat × EffF)) (he : EG e) : OkF (E e) wp_r05_SameList n_r05_SameList := by
 intro as K h
 unfold wp_r05_SameList pw_r05_SameList at h
 split at h
 · exact WP_ok (se0_r05_SameList e he) (LpOk_by (l := [(53352400, b_53352400)]) ⟨loop_r05_SameList_0 e he, trivial⟩ (by kernel_rfl)) (by kernel_rfl) (by kernel_rfl) (fun _ => baseS_none (by kernel_rfl) _) (he.num _ (by kernel_rfl)) ((eq_r05_SameList ..).mpr h)
 · exact h.elim
abbrev T_r05_Same : Type := List PV → List PV → List PV → List PV → (Bool → Prop) → Prop
def wv_r05_Same (a0 : T_r05_SameList) (p0 p1 p2 p3 : List PV) (K : Bool → Prop) : Prop :=
 (jn (fun (yj3 : Bool → Prop) =>
 (a0 p0 p2 (fun yb4 => 
 (cbr yb4
 (a0 p1 p3 (fun yb5 => 
 (yj3 yb5)))
 (yj3 false)))))
 (fun yb2 => (K yb2)))
def w_r05_Same (p0 p1 p2 p3 : List PV) (K : Bool → Prop) : Prop := wv_r05_Same w_r05_SameList p0 p1 p2 p3 K
def pw_r05_Same (w : T_r05_Same) (as : List PV) (K : PV → Prop) : Prop :=
 match as with
 | [(.agg [(.data p0), (.data p1)]), (.agg [(.data p2), (.data p3)])] => w p0 p1 p2 p3 (fun r0 => K (.bool r0))
 | _ => False
def wp_r05_Same (as : List PV) (K : PV → Prop) : Prop := pw_r05_Same w_r05_Same as K
def lp_r05_Same (_ : T_r05_SameList) : LP := fun _ _ _ _ =>
 False
def S0_r05_Same (e : List (Nat × EffF)) (a0 : T_r05_SameList) : SE := ⟨(E e), lookS [(n_r05_SameList, pw_r05_SameList a0)], lookI [], lp_r05_Same a0⟩
theorem se0_r05_Same (e : List (Nat × EffF)) (he : EG e) : SEOk (S0_r05_Same e w_r05_SameList) := seOk_of ⟨(ok_r05_SameList e he), trivial⟩ trivial he.ok
theorem eq_r05_Same (e : List (Nat × EffF)) (a0 p0 p1 p2 p3 K) : WP (S0_r05_Same e a0) 6 t_r05_Same [(.agg [(.data p0), (.data p1)]), (.agg [(.data p2), (.data p3)])] K = wv_r05_Same a0 p0 p1 p2 p3 (fun r0 => K (.bool r0)) := by kernel_rfl
theorem ok_r05_Same (e : List (Nat × EffF)) (he : EG e) : OkF (E e) wp_r05_Same n_r05_Same := by
 intro as K h
 unfold wp_r05_Same pw_r05_Same at h
 split at h
 · exact WP_ok (se0_r05_Same e he) (LpOk_no (by kernel_rfl)) (by kernel_rfl) (by kernel_rfl) (fun _ => baseS_none (by kernel_rfl) _) (he.num _ (by kernel_rfl)) ((eq_r05_Same ..).mpr h)
 · exact h.elim
abbrev T_r05_Valid : Type := Int → List PV → List PV → (Bool → Prop) → Prop
def L_r05_Valid_0_0 (a0 : T_r01_Both) (a1 : T_r01_Less) (a2 : T_r01_Of) (x0 : Int → List PV → List PV → Int → Bool → Prop) (x1 : Bool → Prop) : Nat → Int → List PV → List PV → Int → Prop
 | 0, _, _, _, _ => False
 | n + 1, i0, l1, l2, i3 =>
 (cbr (decide (i3 < (((List.length l1) : Nat) : Int)))
 (jn (fun (yj40 : Bool → Prop) =>
 (asr (decide ((0 : Int) ≤ i3))
 (asr (decide (i3 < (((List.length l1) : Nat) : Int)))
 (lt (List.getD l1 (i3.toNat) .nils) (fun yr42 =>
 (asr (conf (.agg [.i .i64, .i .i64]) yr42)
 (asr (decide ((0 : Int) ≤ i3))
 (asr (decide (i3 < (((List.length l2) : Nat) : Int)))
 (lt (List.getD l2 (i3.toNat) .nils) (fun yr43 =>
 (asr (conf (.agg [.i .i64, .i .i64]) yr43)
 (a0 (intOfV (cellAt yr42 0)) (intOfV (cellAt yr42 1)) (intOfV (cellAt yr43 0)) (intOfV (cellAt yr43 1)) (fun yi44 => 
 (cbr (yi44 != (0 : Int))
 (yj40 true)
 (cbr (decide (i3 > (0 : Int)))
 (lt (IntKind.i64.wrap (i3 - (1 : Int))) (fun yi45 =>
 (asr (decide ((0 : Int) ≤ yi45))
 (asr (decide (yi45 < (((List.length l1) : Nat) : Int)))
 (lt (List.getD l1 (yi45.toNat) .nils) (fun yr46 =>
 (asr (conf (.agg [.i .i64, .i .i64]) yr46)
 (asr (decide ((0 : Int) ≤ i3))
 (asr (decide (i3 < (((List.length l1) : Nat) : Int)))
 (lt (List.getD l1 (i3.toNat) .nils) (fun yr47 =>
 (asr (conf (.agg [.i .i64, .i .i64]) yr47)
 (a1 (intOfV (cellAt yr46 0)) (intOfV (cellAt yr46 1)) (intOfV (cellAt yr47 0)) (intOfV (cellAt yr47 1)) (fun yb48 => 
 (cbr (!yb48)
 (yj40 true)
 (asr (decide ((0 : Int) ≤ i3))
 (asr (decide (i3 < (((List.length l2) : Nat) : Int)))
 (lt (List.getD l2 (i3.toNat) .nils) (fun yr49 =>
 (asr (conf (.agg [.i .i64, .i .i64]) yr49)
 (lt (IntKind.i64.wrap (i3 - (1 : Int))) (fun yi50 =>
 (asr (decide ((0 : Int) ≤ yi50))
 (asr (decide (yi50 < (((List.length l2) : Nat) : Int)))
 (lt (List.getD l2 (yi50.toNat) .nils) (fun yr51 =>
 (asr (conf (.agg [.i .i64, .i .i64]) yr51)
 (a1 (intOfV (cellAt yr49 0)) (intOfV (cellAt yr49 1)) (intOfV (cellAt yr51 0)) (intOfV (cellAt yr51 1)) (fun yb52 => 
 (yj40 yb52))))))))))))))))))))))))))))))
 (yj40 false))))))))))))))))
 (fun yb39 => (cbr yb39
 (x1 false)
 (lt (IntKind.i64.wrap (i3 + (1 : Int))) (fun yi41 =>
 (L_r05_Valid_0_0 a0 a1 a2 x0 x1 n i0 l1 l2 yi41))))))
 (x0 i0 l1 l2 i3 false))
def wv_r05_Valid (a0 : T_r01_Both) (a1 : T_r01_Less) (a2 : T_r01_Of) (p0 : Int) (p1 p2 : List PV) (K : Bool → Prop) : Prop :=
 (jn (fun (yj3 : Bool → Prop) =>
 (cbr (decide ((((List.length p1) : Nat) : Int) < (2 : Int)))
 (yj3 true)
 (cbr (decide ((((List.length p1) : Nat) : Int) > (100 : Int)))
 (yj3 true)
 (yj3 ((((List.length p2) : Nat) : Int) != (((List.length p1) : Nat) : Int))))))
 (fun yb2 => (cbr yb2
 (K false)
 (∃ n : Nat, L_r05_Valid_0_0 a0 a1 a2
 (fun yi59 yl60 yl61 _ _ => (jn (fun (yj75 : Bool → Prop) =>
 (asr (decide ((0 : Int) < (((List.length yl60) : Nat) : Int)))
 (lt (List.getD yl60 0 .nils) (fun yr76 =>
 (asr (conf (.agg [.i .i64, .i .i64]) yr76)
 (a2 (0 : Int) (fun yi77 yi78 => 
 (cbr (((intOfV (cellAt yr76 0)) == yi77) && (((intOfV (cellAt yr76 1)) == yi78) && true))
 (asr (decide ((0 : Int) < (((List.length yl61) : Nat) : Int)))
 (lt (List.getD yl61 0 .nils) (fun yr79 =>
 (asr (conf (.agg [.i .i64, .i .i64]) yr79)
 (a2 (0 : Int) (fun yi80 yi81 => 
 (cbr (((intOfV (cellAt yr79 0)) == yi80) && (((intOfV (cellAt yr79 1)) == yi81) && true))
 (lt (IntKind.i64.wrap ((((List.length yl60) : Nat) : Int) - (1 : Int))) (fun yi82 =>
 (asr (decide ((0 : Int) ≤ yi82))
 (asr (decide (yi82 < (((List.length yl60) : Nat) : Int)))
 (lt (List.getD yl60 (yi82.toNat) .nils) (fun yr83 =>
 (asr (conf (.agg [.i .i64, .i .i64]) yr83)
 (a2 yi59 (fun yi84 yi85 => 
 (yj75 (((intOfV (cellAt yr83 0)) == yi84) && (((intOfV (cellAt yr83 1)) == yi85) && true))))))))))))
 (yj75 false))))))))
 (yj75 false)))))))))
 (fun yb74 => (K yb74))))
 (fun yb86 => (K yb86))
 n p0 p1 p2 (0 : Int)))))
def w_r05_Valid (p0 : Int) (p1 p2 : List PV) (K : Bool → Prop) : Prop := wv_r05_Valid w_r01_Both w_r01_Less w_r01_Of p0 p1 p2 K
def pw_r05_Valid (w : T_r05_Valid) (as : List PV) (K : PV → Prop) : Prop :=
 match as with
 | [(.int .i64 p0), (.agg [(.data p1), (.data p2)])] => w p0 p1 p2 (fun r0 => K (.bool r0))
 | _ => False
def wp_r05_Valid (as : List PV) (K : PV → Prop) : Prop := pw_r05_Valid w_r05_Valid as K
def D_r05_Valid_0 (F : Frm) (H : Hp) (A0 : Int → List PV → List PV → Int → Prop) : Prop :=
 match F, H with
 | [(0, .v (.int .i64 i0)), (3, .box (.agg [(.data l1), (.data l2)])), (5, .v (.int .i64 i3))], [] => (A0 i0 l1 l2 i3)
 | _, _ => False
def X_r05_Valid_0_0 (Q : Ex → Frm → Hp → Prop) : Int → List PV → List PV → Int → Bool → Prop := (fun i0 l1 l2 i3 b4 => Q (.exit 0) [(0, .v (.int .i64 i0)), (3, .box (.agg [(.data l1), (.data l2)])), (5, .v (.int .i64 i3)), (29, .v (.bool b4))] [])
def X_r05_Valid_0_1 (Q : Ex → Frm → Hp → Prop) : Bool → Prop := (fun b0 => Q .ret [(4, .v (.bool b0))] [])
def R_r05_Valid_0 (a0 : T_r01_Both) (a1 : T_r01_Less) (a2 : T_r01_Of) (Q : Ex → Frm → Hp → Prop) (n : Nat) (F : Frm) (H : Hp) : Prop := D_r05_Valid_0 F H (fun i0 l1 l2 i3 => L_r05_Valid_0_0 a0 a1 a2 (X_r05_Valid_0_0 Q) (X_r05_Valid_0_1 Q) n i0 l1 l2 i3)
def lp_r05_Valid (a0 : T_r01_Both) (a1 : T_r01_Less) (a2 : T_r01_Of) : LP := fun id F H Q =>
 bif Nat.beq id 10970500 then D_r05_Valid_0 F H (fun i0 l1 l2 i3 => ∃ n : Nat, L_r05_Valid_0_0 a0 a1 a2 (X_r05_Valid_0_0 Q) (X_r05_Valid_0_1 Q) n i0 l1 l2 i3) else
 False
def S0_r05_Valid (e : List (Nat × EffF)) (a0 : T_r01_Both) (a1 : T_r01_Less) (a2 : T_r01_Of) : SE := ⟨(E e), lookS [(n_r01_Both, pw_r01_Both a0), (n_r01_Less, pw_r01_Less a1), (n_r01_Of, pw_r01_Of a2)], lookI [], lp_r05_Valid a0 a1 a2⟩
theorem se0_r05_Valid (e : List (Nat × EffF)) (he : EG e) : SEOk (S0_r05_Valid e w_r01_Both w_r01_Less w_r01_Of) := seOk_of ⟨(ok_r01_Both e he), (ok_r01_Less e he), (ok_r01_Of e he), trivial⟩ trivial he.ok
theorem body_r05_Valid_0_0 (e : List (Nat × EffF)) (a0 a1 a2 Q n i0 l1 l2 i3) : WC (E e) (callW (S0_r05_Valid e a0 a1 a2) 5) (lp_r05_Valid a0 a1 a2) b_10970500 [(0, .v (.int .i64 i0)), (3, .box (.agg [(.data l1), (.data l2)])), (5, .v (.int .i64 i3))] [] (fun x F' H' => match x with | .norm => R_r05_Valid_0 a0 a1 a2 Q n F' H' | .exit i => Q (.exit i) F' H' | .ret => Q .ret F' H') = L_r05_Valid_0_0 a0 a1 a2 (X_r05_Valid_0_0 Q) (X_r05_Valid_0_1 Q) (n + 1) i0 l1 l2 i3 := by kernel_rfl
theorem lpb_r05_Valid_0 (e : List (Nat × EffF)) (_ : EG e) : LpOk (E e) (lp_r05_Valid w_r01_Both w_r01_Less w_r01_Of) b_10970500 := (LpOk_no (by kernel_rfl))
theorem loop_r05_Valid_0 (e : List (Nat × EffF)) (he : EG e) : ∀ F H Q, lp_r05_Valid w_r01_Both w_r01_Less w_r01_Of 10970500 F H Q → LoopT (E e) b_10970500 F H Q := by
 intro F H Q h
 have go := LoopT.intro (callW_ok (se0_r05_Valid e he) 5) (lpb_r05_Valid_0 e he) (R_r05_Valid_0 w_r01_Both w_r01_Less w_r01_Of Q) (by
   intro F H h
   unfold R_r05_Valid_0 D_r05_Valid_0 at h
   split at h
   · exact h
   · exact h) (by
   intro n F H h
   unfold R_r05_Valid_0 D_r05_Valid_0 at h
   split at h
   · exact (body_r05_Valid_0_0 ..).mpr h
   · exact h.elim)
 have h : D_r05_Valid_0 F H _ := h
 unfold D_r05_Valid_0 at h
 split at h
 · obtain ⟨n, h⟩ := h; exact go n _ _ h
 · exact h.elim
theorem eq_r05_Valid (e : List (Nat × EffF)) (a0 a1 a2 p0 p1 p2 K) : WP (S0_r05_Valid e a0 a1 a2) 6 t_r05_Valid [(.int .i64 p0), (.agg [(.data p1), (.data p2)])] K = wv_r05_Valid a0 a1 a2 p0 p1 p2 (fun r0 => K (.bool r0)) := by kernel_rfl
theorem ok_r05_Valid (e : List (Nat × EffF)) (he : EG e) : OkF (E e) wp_r05_Valid n_r05_Valid := by
 intro as K h
 unfold wp_r05_Valid pw_r05_Valid at h
 split at h
 · exact WP_ok (se0_r05_Valid e he) (LpOk_by (l := [(10970500, b_10970500)]) ⟨loop_r05_Valid_0 e he, trivial⟩ (by kernel_rfl)) (by kernel_rfl) (by kernel_rfl) (fun _ => baseS_none (by kernel_rfl) _) (he.num _ (by kernel_rfl)) ((eq_r05_Valid ..).mpr h)
 · exact h.elim
end Go.Pf.Vc
namespace Go.Pf.Vc
open Go Go.Pf
set_option linter.unusedVariables false
theorem det_r05_Check (p0 : Int) (p1 : List PV) (r0 : Int) (h : ∀ K : Int → Prop, K r0 → w_r05_Check p0 p1 K) (K : Int → Prop) : w_r05_Check p0 p1 K = K r0 :=
 propext ⟨fun k => detC (ok_r05_Check [] effG_nil) (as := [(.int .i64 p0), (.data p1)]) (x := (.int .i64 r0)) (fun K' k' => h (fun r0 => K' (.int .i64 r0)) k') (K := fun x => match x with | (.int .i64 r0) => K r0 | _ => False) k, h K⟩
theorem det_r05_SameList (p0 : List PV) (p1 : List PV) (r0 : Bool) (h : ∀ K : Bool → Prop, K r0 → w_r05_SameList p0 p1 K) (K : Bool → Prop) : w_r05_SameList p0 p1 K = K r0 :=
 propext ⟨fun k => detC (ok_r05_SameList [] effG_nil) (as := [(.data p0), (.data p1)]) (x := (.bool r0)) (fun K' k' => h (fun r0 => K' (.bool r0)) k') (K := fun x => match x with | (.bool r0) => K r0 | _ => False) k, h K⟩
theorem det_r05_Valid (p0 : Int) (p1 : List PV) (p2 : List PV) (r0 : Bool) (h : ∀ K : Bool → Prop, K r0 → w_r05_Valid p0 p1 p2 K) (K : Bool → Prop) : w_r05_Valid p0 p1 p2 K = K r0 :=
 propext ⟨fun k => detC (ok_r05_Valid [] effG_nil) (as := [(.int .i64 p0), (.agg [(.data p1), (.data p2)])]) (x := (.bool r0)) (fun K' k' => h (fun r0 => K' (.bool r0)) k') (K := fun x => match x with | (.bool r0) => K r0 | _ => False) k, h K⟩
end Go.Pf.Vc
namespace Go.Pf.Vc
open Go Go.Pf
set_option maxRecDepth 100000
abbrev T_l05_valid : Type := Int → List PV → (Bool → Prop) → Prop
def wv_l05_valid (a0 : T_r05_Great) (a1 : T_r05_Check) (p0 : Int) (p1 : List PV) (K : Bool → Prop) : Prop :=
 (jn (fun (yj3 : Bool → Prop) =>
 (a0 p1 (fun yb4 => 
 (cbr (!yb4)
 (a1 p0 p1 (fun yi5 => 
 (yj3 (yi5 == (0 : Int)))))
 (yj3 false)))))
 (fun yb2 => (K yb2)))
def w_l05_valid (p0 : Int) (p1 : List PV) (K : Bool → Prop) : Prop := wv_l05_valid w_r05_Great w_r05_Check p0 p1 K
def pw_l05_valid (w : T_l05_valid) (as : List PV) (K : PV → Prop) : Prop :=
 match as with
 | [(.int .i64 p0), (.data p1)] => w p0 p1 (fun r0 => K (.bool r0))
 | _ => False
def wp_l05_valid (as : List PV) (K : PV → Prop) : Prop := pw_l05_valid w_l05_valid as K
def lp_l05_valid (_ : T_r05_Great) (_ : T_r05_Check) : LP := fun _ _ _ _ =>
 False
def S0_l05_valid (e : List (Nat × EffF)) (a0 : T_r05_Great) (a1 : T_r05_Check) : SE := ⟨(E e), lookS [(n_r05_Great, pw_r05_Great a0), (n_r05_Check, pw_r05_Check a1)], lookI [], lp_l05_valid a0 a1⟩
theorem se0_l05_valid (e : List (Nat × EffF)) (he : EG e) : SEOk (S0_l05_valid e w_r05_Great w_r05_Check) := seOk_of ⟨(ok_r05_Great e he), (ok_r05_Check e he), trivial⟩ trivial he.ok
theorem eq_l05_valid (e : List (Nat × EffF)) (a0 a1 p0 p1 K) : WP (S0_l05_valid e a0 a1) 6 t_l05_valid [(.int .i64 p0), (.data p1)] K = wv_l05_valid a0 a1 p0 p1 (fun r0 => K (.bool r0)) := by kernel_rfl
theorem ok_l05_valid (e : List (Nat × EffF)) (he : EG e) : OkF (E e) wp_l05_valid n_l05_valid := by
 intro as K h
 unfold wp_l05_valid pw_l05_valid at h
 split at h
 · exact WP_ok (se0_l05_valid e he) (LpOk_no (by kernel_rfl)) (by kernel_rfl) (by kernel_rfl) (fun _ => baseS_none (by kernel_rfl) _) (he.num _ (by kernel_rfl)) ((eq_l05_valid ..).mpr h)
 · exact h.elim
abbrev T_l05_of : Type := Int → (Int → Int → Prop) → Prop
def wv_l05_of (p0 : Int) (K : Int → Int → Prop) : Prop :=
 (K p0 (1 : Int))
def w_l05_of (p0 : Int) (K : Int → Int → Prop) : Prop := wv_l05_of p0 K
def pw_l05_of (w : T_l05_of) (as : List PV) (K : PV → Prop) : Prop :=
 match as with
 | [(.int .i64 p0)] => w p0 (fun r0 r1 => K (.agg [(.int .i64 r0), (.int .i64 r1)]))
 | _ => False
def wp_l05_of (as : List PV) (K : PV → Prop) : Prop := pw_l05_of w_l05_of as K
def lp_l05_of : LP := fun _ _ _ _ =>
 False
def S0_l05_of (e : List (Nat × EffF)) : SE := ⟨(E e), lookS [], lookI [], lp_l05_of⟩
theorem se0_l05_of (e : List (Nat × EffF)) (he : EG e) : SEOk (S0_l05_of e) := seOk_of trivial trivial he.ok
theorem eq_l05_of (e : List (Nat × EffF)) ( p0 K) : WP (S0_l05_of e) 6 t_l05_of [(.int .i64 p0)] K = wv_l05_of p0 (fun r0 r1 => K (.agg [(.int .i64 r0), (.int .i64 r1)])) := by kernel_rfl
theorem ok_l05_of (e : List (Nat × EffF)) (he : EG e) : OkF (E e) wp_l05_of n_l05_of := by
 intro as K h
 unfold wp_l05_of pw_l05_of at h
 split at h
 · exact WP_ok (se0_l05_of e he) (LpOk_no (by kernel_rfl)) (by kernel_rfl) (by kernel_rfl) (fun _ => baseS_none (by kernel_rfl) _) (he.num _ (by kernel_rfl)) ((eq_l05_of ..).mpr h)
 · exact h.elim
abbrev T_l05_value : Type := Int → Int → Int → (Int → Int → Int → Int → Int → Int → Int → Int → Prop) → Prop
def wv_l05_value (a0 : T_l05_of) (p0 p1 p2 : Int) (K : Int → Int → Int → Int → Int → Int → Int → Int → Prop) : Prop :=
 (a0 p0 (fun yi6 yi7 => 
 (a0 p1 (fun yi8 yi9 => 
 (a0 p2 (fun yi10 yi11 => 
 (K (0 : Int) (1 : Int) yi6 yi7 yi8 yi9 yi10 yi11)))))))
def w_l05_value (p0 p1 p2 : Int) (K : Int → Int → Int → Int → Int → Int → Int → Int → Prop) : Prop := wv_l05_value w_l05_of p0 p1 p2 K
def pw_l05_value (w : T_l05_value) (as : List PV) (K : PV → Prop) : Prop :=
 match as with
 | [(.int .i64 p0), (.int .i64 p1), (.int .i64 p2)] => w p0 p1 p2 (fun r0 r1 r2 r3 r4 r5 r6 r7 => K (.agg [(.int .i64 r0), (.int .u8 r1), (.int .i64 r2), (.int .i64 r3), (.int .i64 r4), (.int .i64 r5), (.int .i64 r6), (.int .i64 r7)]))
 | _ => False
def wp_l05_value (as : List PV) (K : PV → Prop) : Prop := pw_l05_value w_l05_value as K
def lp_l05_value (_ : T_l05_of) : LP := fun _ _ _ _ =>
 False
def S0_l05_value (e : List (Nat × EffF)) (a0 : T_l05_of) : SE := ⟨(E e), lookS [(n_l05_of, pw_l05_of a0)], lookI [], lp_l05_value a0⟩
theorem se0_l05_value (e : List (Nat × EffF)) (he : EG e) : SEOk (S0_l05_value e w_l05_of) := seOk_of ⟨(ok_l05_of e he), trivial⟩ trivial he.ok
theorem eq_l05_value (e : List (Nat × EffF)) (a0 p0 p1 p2 K) : WP (S0_l05_value e a0) 6 t_l05_value [(.int .i64 p0), (.int .i64 p1), (.int .i64 p2)] K = wv_l05_value a0 p0 p1 p2 (fun r0 r1 r2 r3 r4 r5 r6 r7 => K (.agg [(.int .i64 r0), (.int .u8 r1), (.int .i64 r2), (.int .i64 r3), (.int .i64 r4), (.int .i64 r5), (.int .i64 r6), (.int .i64 r7)])) := by kernel_rfl
theorem ok_l05_value (e : List (Nat × EffF)) (he : EG e) : OkF (E e) wp_l05_value n_l05_value := by
 intro as K h
 unfold wp_l05_value pw_l05_value at h
 split at h
 · exact WP_ok (se0_l05_value e he) (LpOk_no (by kernel_rfl)) (by kernel_rfl) (by kernel_rfl) (fun _ => baseS_none (by kernel_rfl) _) (he.num _ (by kernel_rfl)) ((eq_l05_value ..).mpr h)
 · exact h.elim
abbrev T_l05_mark : Type := Int → Int → Int → (Int → Int → Int → Int → Int → Int → Int → Int → Prop) → Prop
def wv_l05_mark (a0 : T_l05_of) (p0 p1 p2 : Int) (K : Int → Int → Int → Int → Int → Int → Int → Int → Prop) : Prop :=
 (a0 p0 (fun yi6 yi7 => 
 (a0 p1 (fun yi8 yi9 => 
 (a0 p2 (fun yi10 yi11 => 
 (K (0 : Int) (2 : Int) yi6 yi7 yi8 yi9 yi10 yi11)))))))
def w_l05_mark (p0 p1 p2 : Int) (K : Int → Int → Int → Int → Int → Int → Int → Int → Prop) : Prop := wv_l05_mark w_l05_of p0 p1 p2 K
def pw_l05_mark (w : T_l05_mark) (as : List PV) (K : PV → Prop) : Prop :=
 match as with
 | [(.int .i64 p0), (.int .i64 p1), (.int .i64 p2)] => w p0 p1 p2 (fun r0 r1 r2 r3 r4 r5 r6 r7 => K (.agg [(.int .i64 r0), (.int .u8 r1), (.int .i64 r2), (.int .i64 r3), (.int .i64 r4), (.int .i64 r5), (.int .i64 r6), (.int .i64 r7)]))
 | _ => False
def wp_l05_mark (as : List PV) (K : PV → Prop) : Prop := pw_l05_mark w_l05_mark as K
def lp_l05_mark (_ : T_l05_of) : LP := fun _ _ _ _ =>
 False
def S0_l05_mark (e : List (Nat × EffF)) (a0 : T_l05_of) : SE := ⟨(E e), lookS [(n_l05_of, pw_l05_of a0)], lookI [], lp_l05_mark a0⟩
theorem se0_l05_mark (e : List (Nat × EffF)) (he : EG e) : SEOk (S0_l05_mark e w_l05_of) := seOk_of ⟨(ok_l05_of e he), trivial⟩ trivial he.ok
theorem eq_l05_mark (e : List (Nat × EffF)) (a0 p0 p1 p2 K) : WP (S0_l05_mark e a0) 6 t_l05_mark [(.int .i64 p0), (.int .i64 p1), (.int .i64 p2)] K = wv_l05_mark a0 p0 p1 p2 (fun r0 r1 r2 r3 r4 r5 r6 r7 => K (.agg [(.int .i64 r0), (.int .u8 r1), (.int .i64 r2), (.int .i64 r3), (.int .i64 r4), (.int .i64 r5), (.int .i64 r6), (.int .i64 r7)])) := by kernel_rfl
theorem ok_l05_mark (e : List (Nat × EffF)) (he : EG e) : OkF (E e) wp_l05_mark n_l05_mark := by
 intro as K h
 unfold wp_l05_mark pw_l05_mark at h
 split at h
 · exact WP_ok (se0_l05_mark e he) (LpOk_no (by kernel_rfl)) (by kernel_rfl) (by kernel_rfl) (fun _ => baseS_none (by kernel_rfl) _) (he.num _ (by kernel_rfl)) ((eq_l05_mark ..).mpr h)
 · exact h.elim
abbrev T_l05_alive : Type := (Bool → Prop) → Prop
def wv_l05_alive (a0 : T_l05_value) (a1 : T_l05_mark) (a2 : T_audit_Guess) (a3 : T_audit_First) (a4 : T_l05_of) (a5 : T_r05_Same) (K : Bool → Prop) : Prop :=
 (a0 (0 : Int) (1 : Int) (1 : Int) (fun yi19 yi20 yi21 yi22 yi23 yi24 yi25 yi26 => 
 (a1 (0 : Int) (3 : Int) (2 : Int) (fun yi27 yi28 yi29 yi30 yi31 yi32 yi33 yi34 => 
 (a2 (2 : Int) ([(.agg [(.int .i64 yi19), (.int .u8 yi20), (.int .i64 yi21), (.int .i64 yi22), (.int .i64 yi23), (.int .i64 yi24), (.int .i64 yi25), (.int .i64 yi26)]), (.agg [(.int .i64 yi27), (.int .u8 yi28), (.int .i64 yi29), (.int .i64 yi30), (.int .i64 yi31), (.int .i64 yi32), (.int .i64 yi33), (.int .i64 yi34)])] : List PV) (fun yl35 yl36 yi37 => 
 (a0 (0 : Int) (1 : Int) (1 : Int) (fun yi57 yi58 yi59 yi60 yi61 yi62 yi63 yi64 => 
 (a1 (0 : Int) (1 : Int) (2 : Int) (fun yi65 yi66 yi67 yi68 yi69 yi70 yi71 yi72 => 
 (a2 (2 : Int) ([(.agg [(.int .i64 yi57), (.int .u8 yi58), (.int .i64 yi59), (.int .i64 yi60), (.int .i64 yi61), (.int .i64 yi62), (.int .i64 yi63), (.int .i64 yi64)]), (.agg [(.int .i64 yi65), (.int .u8 yi66), (.int .i64 yi67), (.int .i64 yi68), (.int .i64 yi69), (.int .i64 yi70), (.int .i64 yi71), (.int .i64 yi72)])] : List PV) (fun _ _ yi75 => 
 (a0 (0 : Int) (1 : Int) (1 : Int) (fun yi94 yi95 yi96 yi97 yi98 yi99 yi100 yi101 => 
 (a1 (0 : Int) (1 : Int) (2 : Int) (fun yi102 yi103 yi104 yi105 yi106 yi107 yi108 yi109 => 
 (a3 (2 : Int) ([(.agg [(.int .i64 yi94), (.int .u8 yi95), (.int .i64 yi96), (.int .i64 yi97), (.int .i64 yi98), (.int .i64 yi99), (.int .i64 yi100), (.int .i64 yi101)]), (.agg [(.int .i64 yi102), (.int .u8 yi103), (.int .i64 yi104), (.int .i64 yi105), (.int .i64 yi106), (.int .i64 yi107), (.int .i64 yi108), (.int .i64 yi109)])] : List PV) (fun yi110 yi111 => 
 (a1 (0 : Int) (1 : Int) (2 : Int) (fun yi123 yi124 yi125 yi126 yi127 yi128 yi129 yi130 => 
 (a2 (2 : Int) ([(.agg [(.int .i64 yi123), (.int .u8 yi124), (.int .i64 yi125), (.int .i64 yi126), (.int .i64 yi127), (.int .i64 yi128), (.int .i64 yi129), (.int .i64 yi130)])] : List PV) (fun yl131 yl132 yi133 => 
 (jn (fun (yj157 : Bool → Prop) =>
 (cbr (yi37 == (0 : Int))
 (a4 (0 : Int) (fun yi158 yi159 => 
 (a4 (1 : Int) (fun yi160 yi161 => 
 (a4 (2 : Int) (fun yi162 yi163 => 
 (a4 (0 : Int) (fun yi164 yi165 => 
 (a4 (1 : Int) (fun yi166 yi167 => 
 (a4 (3 : Int) (fun yi168 yi169 => 
 (a5 yl35 yl36 ([(.agg [(.int .i64 yi158), (.int .i64 yi159)]), (.agg [(.int .i64 yi160), (.int .i64 yi161)]), (.agg [(.int .i64 yi162), (.int .i64 yi163)])] : List PV) ([(.agg [(.int .i64 yi164), (.int .i64 yi165)]), (.agg [(.int .i64 yi166), (.int .i64 yi167)]), (.agg [(.int .i64 yi168), (.int .i64 yi169)])] : List PV) (fun yb170 => 
 (cbr yb170
 (cbr (yi75 == (6 : Int))
 (cbr (yi111 == (0 : Int))
 (cbr (yi110 == (1 : Int))
 (cbr (yi133 == (0 : Int))
 (a4 (0 : Int) (fun yi171 yi172 => 
 (a4 (2 : Int) (fun yi173 yi174 => 
 (a4 (0 : Int) (fun yi175 yi176 => 
 (a4 (1 : Int) (fun yi177 yi178 => 
 (a5 yl131 yl132 ([(.agg [(.int .i64 yi171), (.int .i64 yi172)]), (.agg [(.int .i64 yi173), (.int .i64 yi174)])] : List PV) ([(.agg [(.int .i64 yi175), (.int .i64 yi176)]), (.agg [(.int .i64 yi177), (.int .i64 yi178)])] : List PV) (fun yb179 => 
 (yj157 yb179)))))))))))
 (yj157 false))
 (yj157 false))
 (yj157 false))
 (yj157 false))
 (yj157 false))))))))))))))))
 (yj157 false)))
 (fun yb156 => (K yb156)))))))))))))))))))))))))
def w_l05_alive (K : Bool → Prop) : Prop := wv_l05_alive w_l05_value w_l05_mark w_audit_Guess w_audit_First w_l05_of w_r05_Same  K
def pw_l05_alive (w : T_l05_alive) (as : List PV) (K : PV → Prop) : Prop :=
 match as with
 | [] => w  (fun r0 => K (.bool r0))
 | _ => False
def wp_l05_alive (as : List PV) (K : PV → Prop) : Prop := pw_l05_alive w_l05_alive as K
def lp_l05_alive (_ : T_l05_value) (_ : T_l05_mark) (_ : T_audit_Guess) (_ : T_audit_First) (_ : T_l05_of) (_ : T_r05_Same) : LP := fun _ _ _ _ =>
 False
def S0_l05_alive (a0 : T_l05_value) (a1 : T_l05_mark) (a2 : T_audit_Guess) (a3 : T_audit_First) (a4 : T_l05_of) (a5 : T_r05_Same) : SE := ⟨(E ef0), lookS [(n_l05_value, pw_l05_value a0), (n_l05_mark, pw_l05_mark a1), (n_audit_Guess, pw_audit_Guess a2), (n_audit_First, pw_audit_First a3), (n_l05_of, pw_l05_of a4), (n_r05_Same, pw_r05_Same a5)], lookI [], lp_l05_alive a0 a1 a2 a3 a4 a5⟩
theorem se0_l05_alive : SEOk (S0_l05_alive w_l05_value w_l05_mark w_audit_Guess w_audit_First w_l05_of w_r05_Same) := seOk_of ⟨(ok_l05_value ef0 effG0), (ok_l05_mark ef0 effG0), ok_audit_Guess, ok_audit_First, (ok_l05_of ef0 effG0), (ok_r05_Same ef0 effG0), trivial⟩ trivial effG0.ok
theorem eq_l05_alive (a0 a1 a2 a3 a4 a5 K) : WP (S0_l05_alive a0 a1 a2 a3 a4 a5) 6 t_l05_alive [] K = wv_l05_alive a0 a1 a2 a3 a4 a5  (fun r0 => K (.bool r0)) := by kernel_rfl
theorem ok_l05_alive : OkF (E ef0) wp_l05_alive n_l05_alive := by
 intro as K h
 unfold wp_l05_alive pw_l05_alive at h
 split at h
 · exact WP_ok (se0_l05_alive) (LpOk_no (by kernel_rfl)) (by kernel_rfl) (by kernel_rfl) (fun _ => baseS_none (by kernel_rfl) _) (effG0.num _ (by kernel_rfl)) ((eq_l05_alive ..).mpr h)
 · exact h.elim
abbrev T_l05_AuditOther : Type := Int → List PV → List PV → List PV → (Bool → Prop) → Prop
def wv_l05_AuditOther (a0 : T_l05_valid) (a1 : T_r05_GreatGuess) (a2 : T_l05_alive) (a3 : T_audit_Fits) (a4 : T_r05_Valid) (a5 : T_audit_First) (p0 : Int) (p1 p2 p3 : List PV) (K : Bool → Prop) : Prop :=
 (jn (fun (yj11 : Bool → Prop) =>
 (a0 p0 p3 (fun yb54 => 
 (cbr (!yb54)
 (yj11 true)
 (a1 p1 p2 (fun yb55 => 
 (yj11 yb55)))))))
 (fun yb10 => (cbr yb10
 (a2  (fun yb13 => 
 (K yb13)))
 (a3 p0 p1 p2 p3 (fun yi16 yi17 => 
 (cbr (yi17 != (0 : Int))
 (jn (fun (yj33 : Bool → Prop) =>
 (a4 p0 p1 p2 (fun yb34 => 
 (cbr ((yi17 == (8 : Int)) == (!yb34))
 (cbr (yi17 == (8 : Int))
 (a2  (fun yb35 => 
 (yj33 yb35)))
 (cbr (yi17 == (2 : Int))
 (a2  (fun yb36 => 
 (yj33 yb36)))
 (cbr (yi17 == (16 : Int))
 (a2  (fun yb37 => 
 (yj33 yb37)))
 (yj33 false))))
 (yj33 false)))))
 (fun yb32 => (K yb32)))
 (a5 p0 p3 (fun yi40 yi41 => 
 (cbr (yi41 != (0 : Int))
 (jn (fun (yj48 : Bool → Prop) =>
 (cbr (yi41 == (16 : Int))
 (a2  (fun yb49 => 
 (yj48 yb49)))
 (yj48 false)))
 (fun yb47 => (K yb47)))
 (jn (fun (yj52 : Bool → Prop) =>
 (cbr (decide (yi40 ≥ yi16))
 (a2  (fun yb53 => 
 (yj52 yb53)))
 (yj52 false)))
 (fun yb51 => (K yb51))))))))))))
def w_l05_AuditOther (p0 : Int) (p1 p2 p3 : List PV) (K : Bool → Prop) : Prop := wv_l05_AuditOther w_l05_valid w_r05_GreatGuess w_l05_alive w_audit_Fits w_r05_Valid w_audit_First p0 p1 p2 p3 K
def pw_l05_AuditOther (w : T_l05_AuditOther) (as : List PV) (K : PV → Prop) : Prop :=
 match as with
 | [(.int .i64 p0), (.agg [(.data p1), (.data p2)]), (.data p3)] => w p0 p1 p2 p3 (fun r0 => K (.bool r0))
 | _ => False
def wp_l05_AuditOther (as : List PV) (K : PV → Prop) : Prop := pw_l05_AuditOther w_l05_AuditOther as K
def lp_l05_AuditOther (_ : T_l05_valid) (_ : T_r05_GreatGuess) (_ : T_l05_alive) (_ : T_audit_Fits) (_ : T_r05_Valid) (_ : T_audit_First) : LP := fun _ _ _ _ =>
 False
def S0_l05_AuditOther (a0 : T_l05_valid) (a1 : T_r05_GreatGuess) (a2 : T_l05_alive) (a3 : T_audit_Fits) (a4 : T_r05_Valid) (a5 : T_audit_First) : SE := ⟨(E ef0), lookS [(n_l05_valid, pw_l05_valid a0), (n_r05_GreatGuess, pw_r05_GreatGuess a1), (n_l05_alive, pw_l05_alive a2), (n_audit_Fits, pw_audit_Fits a3), (n_r05_Valid, pw_r05_Valid a4), (n_audit_First, pw_audit_First a5)], lookI [], lp_l05_AuditOther a0 a1 a2 a3 a4 a5⟩
theorem se0_l05_AuditOther : SEOk (S0_l05_AuditOther w_l05_valid w_r05_GreatGuess w_l05_alive w_audit_Fits w_r05_Valid w_audit_First) := seOk_of ⟨(ok_l05_valid ef0 effG0), (ok_r05_GreatGuess ef0 effG0), ok_l05_alive, ok_audit_Fits, (ok_r05_Valid ef0 effG0), ok_audit_First, trivial⟩ trivial effG0.ok
theorem eq_l05_AuditOther (a0 a1 a2 a3 a4 a5 p0 p1 p2 p3 K) : WP (S0_l05_AuditOther a0 a1 a2 a3 a4 a5) 6 t_l05_AuditOther [(.int .i64 p0), (.agg [(.data p1), (.data p2)]), (.data p3)] K = wv_l05_AuditOther a0 a1 a2 a3 a4 a5 p0 p1 p2 p3 (fun r0 => K (.bool r0)) := by kernel_rfl
theorem ok_l05_AuditOther : OkF (E ef0) wp_l05_AuditOther n_l05_AuditOther := by
 intro as K h
 unfold wp_l05_AuditOther pw_l05_AuditOther at h
 split at h
 · exact WP_ok (se0_l05_AuditOther) (LpOk_no (by kernel_rfl)) (by kernel_rfl) (by kernel_rfl) (fun _ => baseS_none (by kernel_rfl) _) (effG0.num _ (by kernel_rfl)) ((eq_l05_AuditOther ..).mpr h)
 · exact h.elim
end Go.Pf.Vc
namespace Go.Pf.Vc
open Go Go.Pf
def I64 (n : Int) : Prop := -9223372036854775808 ≤ n ∧ n ≤ 9223372036854775807
def U64 (n : Int) : Prop := 0 ≤ n ∧ n ≤ 18446744073709551615
theorem wu64' (n : Int) : IntKind.u64.wrap n = n % 18446744073709551616 := by
 simp only [IntKind.wrap, IntKind.signed, IntKind.bits, Bool.false_and, Bool.false_eq_true, if_false]
 rfl
theorem wi64' (n : Int) : IntKind.i64.wrap n = if n % 18446744073709551616 ≥ 9223372036854775808 then n % 18446744073709551616 - 18446744073709551616 else n % 18446744073709551616 := by
 have e1 : (2 : Int) ^ 64 = 18446744073709551616 := rfl
 have e2 : (2 : Int) ^ (64 - 1) = 9223372036854775808 := rfl
 simp only [IntKind.wrap, IntKind.signed, IntKind.bits, Bool.true_and, e1, e2]
 by_cases h : n % 18446744073709551616 ≥ 9223372036854775808 <;> simp [h]
theorem wu64 {n : Int} (h : U64 n) : IntKind.u64.wrap n = n := by
 unfold U64 at h
 rw [wu64']
 omega
theorem wi64 {n : Int} (h : I64 n) : IntKind.i64.wrap n = n := by
 unfold I64 at h
 rw [wi64']
 split <;> omega
theorem cbr_true {x y : Prop} : cbr true x y = x := rfl
theorem cbr_false {x y : Prop} : cbr false x y = y := rfl
theorem asr_true {x : Prop} : asr true x = x := rfl
theorem size_eq {p : Int} (h : I64 p) (K : Int → Prop) : w_ratio_size p K = K (p.natAbs : Int) := by
 unfold I64 at h
 unfold w_ratio_size wv_ratio_size
 by_cases hp : p < 0
 · have e : IntKind.u64.wrap ((0 : Int) - IntKind.u64.wrap p) = (p.natAbs : Int) := by
     rw [wu64', wu64']
     omega
   rw [decide_eq_true hp, cbr_true, e]
 · rw [decide_eq_false hp, cbr_false, wu64 ⟨by omega, by omega⟩]
   congr 1
   omega
theorem gcd_loop (x : Int → Int → Bool → Prop) : ∀ (n a b : Nat), b < n → L_ratio_gcd_0_0 x n (a : Int) (b : Int) = x ((Nat.gcd a b : Nat) : Int) 0 false
 | 0, a, b, h => by omega
 | n + 1, a, b, h => by
   unfold L_ratio_gcd_0_0
   by_cases hb : b = 0
   · subst hb
     simp [cbr]
   · have h1 : (b : Int) > 0 := by omega
     have h2 : ¬ ((b : Int) = 0) := by omega
     rw [decide_eq_true h1, cbr_true, decide_eq_false h2, Bool.not_false, asr_true]
     have e : Int.tmod (a : Int) (b : Int) = ((a % b : Nat) : Int) := by rw [Int.tmod_eq_emod_of_nonneg (by omega)]; omega
     rw [e, gcd_loop x n b (a % b) (by have := Nat.mod_lt a (show b > 0 by omega); omega)]
     rw [Nat.gcd_comm a b, Nat.gcd_rec b a, Nat.gcd_comm]
theorem gcd_of (a b : Nat) (K : Int → Prop) (h : K ((Nat.gcd a b : Nat) : Int)) : w_ratio_gcd (a : Int) (b : Int) K := by
 unfold w_ratio_gcd wv_ratio_gcd
 exact ⟨b + 1, by rw [gcd_loop _ (b + 1) a b (by omega)]; exact h⟩
def RV (n d : Int) : Prop := 1 ≤ d ∧ d ≤ 1000000000000000000 ∧ -1000000000000000000 ≤ n ∧ n ≤ 1000000000000000000 ∧ Nat.gcd n.natAbs d.natAbs = 1
instance (n d : Int) : Decidable (RV n d) := by unfold RV; infer_instance
def chk (n d : Int) : Int := if RV n d then 0 else 8
theorem Check_of {n d : Int} (hn : I64 n) (hd : I64 d) {K : Int → Prop} (h : K (chk n d)) : w_ratio_Check n d K := by
 unfold w_ratio_Check wv_ratio_Check
 by_cases h1 : d < 1
 · have e : chk n d = 8 := if_neg fun h => by have := h.1; omega
   rw [decide_eq_true h1, cbr_true, ← e]; exact h
 · have hd' := hd; have hn' := hn
   unfold I64 at hd' hn'
   have ed : IntKind.u64.wrap d = ((d.natAbs : Nat) : Int) := by rw [wu64 ⟨by omega, by omega⟩]; omega
   rw [decide_eq_false h1, cbr_false, size_eq hn, ed]
   by_cases h2 : ((if ((d.natAbs : Nat) : Int) > ((n.natAbs : Nat) : Int) then ((d.natAbs : Nat) : Int) else ((n.natAbs : Nat) : Int)) > 1000000000000000000)
   · have e : chk n d = 8 := if_neg fun h => by
       obtain ⟨a1, a2, a3, a4, _⟩ := h
       revert h2; split <;> omega
     rw [decide_eq_true h2, cbr_true, ← e]; exact h
   · rw [decide_eq_false h2, cbr_false, size_eq hn]
     refine gcd_of _ _ _ ?_
     have h3 : 0 < Nat.gcd n.natAbs d.natAbs := Nat.gcd_pos_of_pos_right _ (by omega)
     have h4 : d ≤ 1000000000000000000 ∧ -1000000000000000000 ≤ n ∧ n ≤ 1000000000000000000 := by
       revert h2; split <;> omega
     by_cases h5 : ((Nat.gcd n.natAbs d.natAbs : Nat) : Int) > 1
     · have e : chk n d = 8 := if_neg fun h => by have := h.2.2.2.2; omega
       rw [decide_eq_true h5, cbr_true, ← e]; exact h
     · have e : chk n d = 0 := if_pos ⟨by omega, h4.1, h4.2.1, h4.2.2, by omega⟩
       rw [decide_eq_false h5, cbr_false, ← e]; exact h
end Go.Pf.Vc
namespace Go.Pf.Vc
open Go Go.Pf
theorem mask32 {p : Int} (h : U64 p) : IntKind.u64.wrap (BitVec.ofInt IntKind.u64.bits p &&& BitVec.ofInt IntKind.u64.bits (4294967295 : Int)).toNat = p % 4294967296 := by
 unfold U64 at h
 have e1 : (BitVec.ofInt 64 p).toNat = p.toNat := by
   rw [BitVec.toNat_ofInt]; omega
 have e2 : (BitVec.ofInt 64 (4294967295 : Int)).toNat = 4294967295 := rfl
 have e3 : (BitVec.ofInt IntKind.u64.bits p &&& BitVec.ofInt IntKind.u64.bits (4294967295 : Int)).toNat = p.toNat % 4294967296 := by
   show (BitVec.ofInt 64 p &&& BitVec.ofInt 64 (4294967295 : Int)).toNat = _
   rw [BitVec.toNat_and, e1, e2]
   exact Nat.and_two_pow_sub_one_eq_mod p.toNat 32
 rw [e3, wu64']
 omega
theorem fdiv32 (p : Int) : Int.fdiv p 4294967296 = p / 4294967296 := by
 rw [Int.fdiv_eq_ediv_of_nonneg _ (by omega)]
theorem Mul64_eq {a b : Int} (ha : U64 a) (hb : U64 b) (K : Int → Int → Prop) : w_m_Mul64 a b K = K (a * b / 18446744073709551616) (a * b % 18446744073709551616) := by
 unfold w_m_Mul64 wv_m_Mul64
 simp only [fdiv32]
 rw [mask32 ha, mask32 hb]
 unfold U64 at ha hb
 have ha' := ha; have hb' := hb
 obtain ⟨x1, hx1⟩ : ∃ x, x = a / 4294967296 := ⟨_, rfl⟩
 obtain ⟨x0, hx0⟩ : ∃ x, x = a % 4294967296 := ⟨_, rfl⟩
 obtain ⟨y1, hy1⟩ : ∃ x, x = b / 4294967296 := ⟨_, rfl⟩
 obtain ⟨y0, hy0⟩ : ∃ x, x = b % 4294967296 := ⟨_, rfl⟩
 rw [← hx1, ← hx0, ← hy1, ← hy0]
 have b1 : 0 ≤ x1 ∧ x1 ≤ 4294967295 := by omega
 have b2 : 0 ≤ x0 ∧ x0 ≤ 4294967295 := by omega
 have b3 : 0 ≤ y1 ∧ y1 ≤ 4294967295 := by omega
 have b4 : 0 ≤ y0 ∧ y0 ≤ 4294967295 := by omega
 have pb : ∀ x y : Int, 0 ≤ x ∧ x ≤ 4294967295 → 0 ≤ y ∧ y ≤ 4294967295 → 0 ≤ x * y ∧ x * y ≤ 18446744065119617025 := by
   intro x y hx hy
   refine ⟨Int.mul_nonneg hx.1 hy.1, ?_⟩
   have := Int.mul_le_mul hx.2 hy.2 hy.1 (by omega : (0 : Int) ≤ 4294967295)
   omega
 have p1 := pb x1 y1 b1 b3
 have p2 := pb x1 y0 b1 b4
 have p3 := pb x0 y1 b2 b3
 have p4 := pb x0 y0 b2 b4
 have ea : a = x1 * 4294967296 + x0 := by omega
 have eb : b = y1 * 4294967296 + y0 := by omega
 have eab : a * b = x1 * y1 * 18446744073709551616 + x1 * y0 * 4294967296 + x0 * y1 * 4294967296 + x0 * y0 := by
   rw [ea, eb]; grind
 obtain ⟨P, hP⟩ : ∃ x, x = x1 * y1 := ⟨_, rfl⟩
 obtain ⟨Q, hQ⟩ : ∃ x, x = x1 * y0 := ⟨_, rfl⟩
 obtain ⟨R, hR⟩ : ∃ x, x = x0 * y1 := ⟨_, rfl⟩
 obtain ⟨S, hS⟩ : ∃ x, x = x0 * y0 := ⟨_, rfl⟩
 rw [← hP] at p1; rw [← hQ] at p2; rw [← hR] at p3; rw [← hS] at p4
 rw [← hP, ← hQ, ← hR, ← hS] at eab ⊢
 have w1 : IntKind.u64.wrap S = S := wu64 ⟨by omega, by omega⟩
 have w2 : IntKind.u64.wrap Q = Q := wu64 ⟨by omega, by omega⟩
 have w3 : IntKind.u64.wrap R = R := wu64 ⟨by omega, by omega⟩
 have w4 : IntKind.u64.wrap P = P := wu64 ⟨by omega, by omega⟩
 rw [w1, w2, w3, w4]
 have w5 : IntKind.u64.wrap (Q + S / 4294967296) = Q + S / 4294967296 := wu64 ⟨by omega, by omega⟩
 rw [w5, mask32 ⟨by omega, by omega⟩]
 have w6 : IntKind.u64.wrap ((Q + S / 4294967296) % 4294967296 + R) = (Q + S / 4294967296) % 4294967296 + R := wu64 ⟨by omega, by omega⟩
 rw [w6]
 have w7 : IntKind.u64.wrap (P + (Q + S / 4294967296) / 4294967296) = P + (Q + S / 4294967296) / 4294967296 := by
   have : a * b / 18446744073709551616 ≤ 18446744073709551615 := by
     have h1 : a * b ≤ 18446744073709551615 * 18446744073709551615 := by
       have := Int.mul_le_mul ha'.2 hb'.2 hb'.1 (by omega : (0 : Int) ≤ 18446744073709551615)
       exact this
     omega
   exact wu64 ⟨by omega, by omega⟩
 rw [w7]
 have hab : a * b ≤ 18446744073709551615 * 18446744073709551615 := Int.mul_le_mul ha'.2 hb'.2 hb'.1 (by omega : (0 : Int) ≤ 18446744073709551615)
 rw [eab] at hab ⊢
 rw [wu64', wu64']
 congr 1
 omega
theorem Or2_of {a b : Int} {K : Int → Prop} (h : K (if a = 0 then b else a)) : w_cmp_Or_api_Errno [.int .i64 a, .int .i64 b] K := by
 unfold w_cmp_Or_api_Errno wv_cmp_Or_api_Errno
 refine ⟨3, ?_⟩
 have e1 : IntKind.i64.wrap 1 = 1 := by decide
 have e2 : IntKind.i64.wrap 2 = 2 := by decide
 by_cases ha : a = 0
 · by_cases hb : b = 0
   · simp [L_cmp_Or_api_Errno_0_0, cbr_true, cbr_false, asr_true, conf, confC, intOfV, e1, e2, ha, hb] at h ⊢; exact h
   · have e3 : (b != 0) = true := by simpa using hb
     simp [L_cmp_Or_api_Errno_0_0, cbr_true, cbr_false, asr_true, conf, confC, intOfV, e1, e2, ha, e3] at h ⊢; exact h
 · have e3 : (a != 0) = true := by simpa using ha
   simp [L_cmp_Or_api_Errno_0_0, cbr_true, cbr_false, asr_true, conf, confC, intOfV, e1, e2, ha, e3] at h ⊢; exact h
def chk2 (a b c d : Int) : Int := if chk a b = 0 then chk c d else chk a b
theorem check_of {a b c d : Int} (ha : I64 a) (hb : I64 b) (hc : I64 c) (hd : I64 d) {K : Int → Prop} (h : K (chk2 a b c d)) : w_ratio_check a b c d K := by
 unfold w_ratio_check wv_ratio_check
 exact Check_of ha hb (Check_of hc hd (Or2_of h))
end Go.Pf.Vc
namespace Go.Pf.Vc
open Go Go.Pf
def cmp3 (a b : Int) : Int := if a < b then -1 else if a > b then 1 else 0
theorem Compare_i_eq (a b : Int) (K : Int → Prop) : w_cmp_Compare_int64 a b K = K (cmp3 a b) := by
 unfold w_cmp_Compare_int64 wv_cmp_Compare_int64
 simp only [w_cmp_isNaN_int64, wv_cmp_isNaN_int64, bne_self_eq_false, cbr_false, cmp3]
 by_cases h : a < b
 · simp [h, cbr_true]
 · by_cases h2 : a > b
   · simp [h, h2, cbr_true, cbr_false]
   · simp [h, h2, cbr_false]
theorem Compare_u_eq (a b : Int) (K : Int → Prop) : w_cmp_Compare_uint64 a b K = K (cmp3 a b) := by
 unfold w_cmp_Compare_uint64 wv_cmp_Compare_uint64
 simp only [w_cmp_isNaN_uint64, wv_cmp_isNaN_uint64, bne_self_eq_false, cbr_false, cmp3]
 by_cases h : a < b
 · simp [h, cbr_true]
 · by_cases h2 : a > b
   · simp [h, h2, cbr_true, cbr_false]
   · simp [h, h2, cbr_false]
theorem Or2i_of {a b : Int} {K : Int → Prop} (h : K (if a = 0 then b else a)) : w_cmp_Or_int [.int .i64 a, .int .i64 b] K := by
 unfold w_cmp_Or_int wv_cmp_Or_int
 refine ⟨3, ?_⟩
 have e1 : IntKind.i64.wrap 1 = 1 := by decide
 have e2 : IntKind.i64.wrap 2 = 2 := by decide
 by_cases ha : a = 0
 · by_cases hb : b = 0
   · simp [L_cmp_Or_int_0_0, cbr_true, cbr_false, asr_true, conf, confC, intOfV, e1, e2, ha, hb] at h ⊢; exact h
   · have e3 : (b != 0) = true := by simpa using hb
     simp [L_cmp_Or_int_0_0, cbr_true, cbr_false, asr_true, conf, confC, intOfV, e1, e2, ha, e3] at h ⊢; exact h
 · have e3 : (a != 0) = true := by simpa using ha
   simp [L_cmp_Or_int_0_0, cbr_true, cbr_false, asr_true, conf, confC, intOfV, e1, e2, ha, e3] at h ⊢; exact h
theorem I64.of {n : Int} (h1 : -1000000000000000000 ≤ n) (h2 : n ≤ 1000000000000000000) : I64 n := ⟨by omega, by omega⟩
theorem chk2_zero {a b c d : Int} : chk2 a b c d = 0 ↔ RV a b ∧ RV c d := by
 unfold chk2 chk
 by_cases h1 : RV a b <;> by_cases h2 : RV c d <;> simp [h1, h2]
def cmpR (a b c d : Int) : Int := cmp3 (a * d) (c * b)
theorem cmp3_wide {x y : Int} (_ : 0 ≤ x) (_ : 0 ≤ y) : (if cmp3 (x / 18446744073709551616) (y / 18446744073709551616) = 0 then cmp3 (x % 18446744073709551616) (y % 18446744073709551616) else cmp3 (x / 18446744073709551616) (y / 18446744073709551616)) = cmp3 x y := by
 unfold cmp3
 split <;> rename_i h <;> revert h <;> repeat' split <;> intro h <;> omega
theorem U64.abs {n : Int} (h : I64 n) : U64 ((n.natAbs : Nat) : Int) := by unfold I64 at h; unfold U64; omega
theorem Cmp_of {a b c d : Int} (ha : I64 a) (hb : I64 b) (hc : I64 c) (hd : I64 d) {K : Int → Int → Prop} (h : K (if chk2 a b c d = 0 then cmpR a b c d else 0) (chk2 a b c d)) : w_ratio_Cmp a b c d K := by
 unfold w_ratio_Cmp wv_ratio_Cmp
 refine check_of ha hb hc hd ?_
 by_cases hk : chk2 a b c d = 0
 · rw [if_pos hk] at h
   rw [hk] at h ⊢
   obtain ⟨⟨b1, b2, a1, a2, _⟩, d1, d2, c1, c2, _⟩ := chk2_zero.1 hk
   simp only [bne_self_eq_false, cbr_false]
   by_cases hs : decide (a < 0) = decide (c < 0)
   · have e : (decide (a < 0) != decide (c < 0)) = false := by rw [hs]; simp
     rw [e, cbr_false, size_eq ha, wu64 ⟨by omega, by omega⟩, Mul64_eq (U64.abs ha) ⟨by omega, by omega⟩, size_eq hc, wu64 ⟨by omega, by omega⟩, Mul64_eq (U64.abs hc) ⟨by omega, by omega⟩, Compare_u_eq, Compare_u_eq]
     refine Or2i_of ?_
     have p1 : 0 ≤ ((a.natAbs : Nat) : Int) * d := Int.mul_nonneg (by omega) (by omega)
     have p2 : 0 ≤ ((c.natAbs : Nat) : Int) * b := Int.mul_nonneg (by omega) (by omega)
     rw [cmp3_wide p1 p2]
     by_cases hneg : a < 0
     · have hcn : c < 0 := by simpa [hneg] using hs.symm
       rw [decide_eq_true hneg, cbr_true]
       have e1 : ((a.natAbs : Nat) : Int) * d = -(a * d) := by
         rw [show ((a.natAbs : Nat) : Int) = -a by omega, Int.neg_mul]
       have e2 : ((c.natAbs : Nat) : Int) * b = -(c * b) := by
         rw [show ((c.natAbs : Nat) : Int) = -c by omega, Int.neg_mul]
       have e3 : IntKind.i64.wrap (0 - cmp3 (((a.natAbs : Nat) : Int) * d) (((c.natAbs : Nat) : Int) * b)) = cmpR a b c d := by
         rw [e1, e2]
         unfold cmpR cmp3
         rw [wi64 (by unfold I64; repeat' split <;> omega)]
         repeat' split <;> omega
       rw [e3]; exact h
     · have hcn : ¬ c < 0 := by simpa [hneg] using hs.symm
       rw [decide_eq_false hneg, cbr_false, show ((a.natAbs : Nat) : Int) = a by omega, show ((c.natAbs : Nat) : Int) = c by omega]
       exact h
   · have e : (decide (a < 0) != decide (c < 0)) = true := by simpa using hs
     rw [e, cbr_true, Compare_i_eq]
     have e2 : cmp3 a c = cmpR a b c d := by
       unfold cmpR cmp3
       by_cases hneg : a < 0
       · have hcn : ¬ c < 0 := by intro hcn; simp [hneg, hcn] at hs
         have q1 : a * d < 0 := Int.mul_neg_of_neg_of_pos hneg (by omega)
         have q2 : 0 ≤ c * b := Int.mul_nonneg (by omega) (by omega)
         rw [if_pos (by omega), if_pos (by omega)]
       · have hcn : c < 0 := by
           by_cases hcn : c < 0
           · exact hcn
           · simp [hneg, hcn] at hs
         have q1 : c * b < 0 := Int.mul_neg_of_neg_of_pos hcn (by omega)
         have q2 : 0 ≤ a * d := Int.mul_nonneg (by omega) (by omega)
         rw [if_neg (by omega), if_pos (by omega), if_neg (by omega), if_pos (by omega)]
     rw [e2]; exact h
 · rw [if_neg hk] at h
   have e : (chk2 a b c d != 0) = true := by simpa using hk
   rw [e, cbr_true]; exact h
end Go.Pf.Vc
namespace Go.Pf.Vc
open Go Go.Pf
def blen (x : Nat) : Nat := if x = 0 then 0 else x.log2 + 1
theorem blen_lt (x : Nat) : x < 2 ^ blen x := by
 unfold blen
 split
 · rename_i h; subst h; decide
 · exact Nat.lt_log2_self
theorem blen_le {x : Nat} (h : x ≠ 0) : 2 ^ (blen x - 1) ≤ x := by
 unfold blen
 rw [if_neg h]
 exact Nat.log2_self_le h
theorem blen_of {x m : Nat} (h1 : 2 ^ m ≤ x) (h2 : x < 2 ^ (m + 1)) : blen x = m + 1 := by
 have hx : x ≠ 0 := by have := Nat.two_pow_pos m; omega
 unfold blen
 rw [if_neg hx]
 congr 1
 have a := Nat.log2_self_le hx
 have b := Nat.lt_log2_self (n := x)
 have c1 : ¬ (x.log2 < m) := fun h => by
   have := Nat.pow_le_pow_right (show 0 < 2 by omega) (show x.log2 + 1 ≤ m by omega)
   omega
 have c2 : ¬ (m < x.log2) := fun h => by
   have := Nat.pow_le_pow_right (show 0 < 2 by omega) (show m + 1 ≤ x.log2 by omega)
   omega
 omega
theorem blen_div {x k : Nat} (h : 2 ^ k ≤ x) : blen x = k + blen (x / 2 ^ k) := by
 have hp := Nat.two_pow_pos k
 have hq : x / 2 ^ k ≠ 0 := by
   have := Nat.div_pos h hp
   omega
 have h1 := blen_le hq
 have h2 := blen_lt (x / 2 ^ k)
 obtain ⟨m, hm⟩ : ∃ m, blen (x / 2 ^ k) = m + 1 := ⟨blen (x / 2 ^ k) - 1, by
   have : blen (x / 2 ^ k) ≠ 0 := by unfold blen; rw [if_neg hq]; omega
   omega⟩
 rw [hm] at h1 h2 ⊢
 rw [Nat.add_sub_cancel] at h1
 have := blen_of (x := x) (m := k + m) (by
     rw [Nat.pow_add]
     calc 2 ^ k * 2 ^ m ≤ 2 ^ k * (x / 2 ^ k) := Nat.mul_le_mul_left _ h1
       _ ≤ x := Nat.mul_div_le _ _) (by
     rw [show k + m + 1 = k + (m + 1) by omega, Nat.pow_add]
     rw [Nat.mul_comm]
     exact (Nat.div_lt_iff_lt_mul hp).1 h2)
 omega
theorem tab_eq : ∀ x : Nat, x < 256 → intOfV (List.getD len8tab x .nils) = (blen x : Int) := by decide +kernel
theorem wu8 {n : Int} (h0 : 0 ≤ n) (h1 : n < 256) : IntKind.u8.wrap n = n := by
 have e1 : (2 : Int) ^ 8 = 256 := rfl
 simp only [IntKind.wrap, IntKind.signed, IntKind.bits, Bool.false_and, Bool.false_eq_true, if_false, e1]
 omega
theorem look_eq {n : Int} (h0 : 0 ≤ n) (h1 : n < 256) : intOfV (List.getD len8tab (IntKind.u8.wrap n).toNat .nils) = (blen n.toNat : Int) := by
 rw [wu8 h0 h1]
 exact tab_eq n.toNat (by omega)
theorem blen8 {n : Nat} (h : n < 256) : blen n ≤ 8 := by
 by_cases h0 : n = 0
 · subst h0; decide
 · have := blen_le h0
   have h2 : blen n - 1 < 8 := by
     refine Nat.lt_of_not_le fun hc => ?_
     have := Nat.pow_le_pow_right (show 0 < 2 by omega) hc
     omega
   omega
theorem leaf8 {n k : Int} (h0 : 0 ≤ n) (h1 : n < 256) (hk : 0 ≤ k ∧ k ≤ 56) {m : Int} (hm : m = k + blen n.toNat) {K : Int → Prop} (h : K m) :
   asr (decide ((0 : Int) ≤ (IntKind.u8.wrap n))) (asr (decide ((IntKind.u8.wrap n) < (256 : Int))) (K (IntKind.i64.wrap (k + (IntKind.i64.wrap (intOfV (List.getD len8tab ((IntKind.u8.wrap n).toNat) .nils))))))) := by
 have hb := blen8 (n := n.toNat) (by omega)
 have e1 : IntKind.i64.wrap (blen n.toNat : Int) = blen n.toNat := wi64 (by unfold I64; omega)
 have e2 : IntKind.i64.wrap (k + blen n.toNat : Int) = k + blen n.toNat := wi64 (by unfold I64; omega)
 rw [look_eq h0 h1, wu8 h0 h1, decide_eq_true h0, asr_true, decide_eq_true h1, asr_true, e1, e2, ← hm]
 exact h
theorem fdivn (p q : Int) (hq : 0 ≤ q) : Int.fdiv p q = p / q := Int.fdiv_eq_ediv_of_nonneg _ hq
theorem Len64_of {p : Int} (hp : U64 p) {K : Int → Prop} (h : K (blen p.toNat : Int)) : w_m_Len64 p K := by
 unfold U64 at hp
 unfold w_m_Len64 wv_m_Len64
 simp only [fdivn _ 4294967296 (by omega), fdivn _ 65536 (by omega), fdivn _ 256 (by omega)]
 have key : ∀ (k : Nat) (q : Int), 2 ^ k ≤ p.toNat → q = p / (2 ^ k : Nat) → (blen p.toNat : Int) = k + blen q.toNat := by
   intro k q hk hq
   have e : q.toNat = p.toNat / 2 ^ k := by
     rw [hq]
     obtain ⟨m, rfl⟩ : ∃ m : Nat, p = m := ⟨p.toNat, by omega⟩
     rw [← Int.natCast_ediv, Int.toNat_natCast, Int.toNat_natCast]
   rw [e]
   have := blen_div hk
   omega
 by_cases h1 : p ≥ 4294967296
 · rw [decide_eq_true h1, cbr_true]
   by_cases h2 : p / 4294967296 ≥ 65536
   · rw [decide_eq_true h2, cbr_true]
     by_cases h3 : p / 4294967296 / 65536 ≥ 256
     · rw [decide_eq_true h3, cbr_true]
       exact leaf8 (by omega) (by omega) (by omega) (key 56 _ (by omega) (by omega)) h
     · rw [decide_eq_false h3, cbr_false]
       exact leaf8 (by omega) (by omega) (by omega) (key 48 _ (by omega) (by omega)) h
   · rw [decide_eq_false h2, cbr_false]
     by_cases h3 : p / 4294967296 ≥ 256
     · rw [decide_eq_true h3, cbr_true]
       exact leaf8 (by omega) (by omega) (by omega) (key 40 _ (by omega) (by omega)) h
     · rw [decide_eq_false h3, cbr_false]
       exact leaf8 (by omega) (by omega) (by omega) (key 32 _ (by omega) (by omega)) h
 · rw [decide_eq_false h1, cbr_false]
   by_cases h2 : p ≥ 65536
   · rw [decide_eq_true h2, cbr_true]
     by_cases h3 : p / 65536 ≥ 256
     · rw [decide_eq_true h3, cbr_true]
       exact leaf8 (by omega) (by omega) (by omega) (key 24 _ (by omega) (by omega)) h
     · rw [decide_eq_false h3, cbr_false]
       exact leaf8 (by omega) (by omega) (by omega) (key 16 _ (by omega) (by omega)) h
   · rw [decide_eq_false h2, cbr_false]
     by_cases h3 : p ≥ 256
     · rw [decide_eq_true h3, cbr_true]
       exact leaf8 (by omega) (by omega) (by omega) (key 8 _ (by omega) (by omega)) h
     · rw [decide_eq_false h3, cbr_false]
       exact leaf8 (by omega) (by omega) (by omega) (by simp) h
theorem LeadingZeros64_of {p : Int} (hp : U64 p) {K : Int → Prop} (h : K (64 - blen p.toNat : Int)) : w_m_LeadingZeros64 p K := by
 unfold w_m_LeadingZeros64 wv_m_LeadingZeros64
 refine Len64_of hp ?_
 have hb : blen p.toNat ≤ 64 := by
   unfold U64 at hp
   by_cases h0 : p.toNat = 0
   · rw [h0]; decide
   · have := blen_le h0
     have h2 : blen p.toNat - 1 < 64 := by
       refine Nat.lt_of_not_le fun hc => ?_
       have := Nat.pow_le_pow_right (show 0 < 2 by omega) hc
       omega
     omega
 rw [wi64 (by unfold I64; omega)]
 exact h
end Go.Pf.Vc
namespace Go.Pf.Vc
open Go Go.Pf
structure DI (y yn1 yn0 u un q r : Int) : Prop where
 hy : y = yn1 * 4294967296 + yn0
 h1 : 2147483648 ≤ yn1 ∧ yn1 ≤ 4294967295
 h0 : 0 ≤ yn0 ∧ yn0 ≤ 4294967295
 hn : 0 ≤ un ∧ un ≤ 4294967295
 hu : q * yn1 + r = u
 hq : 0 ≤ q ∧ q ≤ 4294967297
 hr : 0 ≤ r ∧ r ≤ 4294967295
 hlt : u < y
 hU : u * 4294967296 + un < (q + 1) * y
def DG (y u un q : Int) : Prop := 0 ≤ q ∧ q ≤ 4294967295 ∧ q * y ≤ u * 4294967296 + un ∧ u * 4294967296 + un < (q + 1) * y
theorem DI.step {y yn1 yn0 u un q r : Int} (h : DI y yn1 yn0 u un q r) {A B C : Prop}
   (hA : DG y u un (q - 1) → 0 ≤ q - 1 → q - 1 ≤ 4294967296 → A)
   (hB : DI y yn1 yn0 u un (q - 1) (r + yn1) → B)
   (hC : DG y u un q → C) :
   cbr (decide (q ≥ (4294967296 : Int)))
     (cbr (decide ((IntKind.u64.wrap (r + yn1)) ≥ (4294967296 : Int))) A B)
     (cbr (decide ((IntKind.u64.wrap (q * yn0)) > (IntKind.u64.wrap ((IntKind.u64.wrap ((4294967296 : Int) * r)) + un))))
       (cbr (decide ((IntKind.u64.wrap (r + yn1)) ≥ (4294967296 : Int))) A B) C) := by
 have h' := h
 obtain ⟨hy, h1, h0, hn, hu, hq, hr, hlt, hU⟩ := h
 have e1 : IntKind.u64.wrap (r + yn1) = r + yn1 := wu64 ⟨by omega, by omega⟩
 have eq1 : q * y = q * yn1 * 4294967296 + q * yn0 := by rw [hy]; grind
 have eq2 : (q - 1) * y = q * y - y := by grind
 have eq3 : (q - 1) * yn1 = q * yn1 - yn1 := by grind
 have eq4 : (q - 1 + 1) * y = q * y := by grind
 have eq5 : (q - 1) * yn0 = q * yn0 - yn0 := by grind
 have big : u * 4294967296 + un < q * y → cbr (decide ((IntKind.u64.wrap (r + yn1)) ≥ (4294967296 : Int))) A B := by
   intro hb
   have q1 : 0 ≤ q - 1 := by
     refine Int.not_lt.1 fun hc => ?_
     have hq0 : q = 0 := by omega
     subst hq0
     simp at hb hu
     omega
   rw [e1]
   by_cases hc : r + yn1 ≥ 4294967296
   · rw [decide_eq_true hc, cbr_true]
     have hp : (q - 1) * yn0 ≤ 4294967296 * 4294967295 := Int.mul_le_mul (by omega) h0.2 h0.1 (by omega)
     have hle : (q - 1) * y ≤ u * 4294967296 + un := by
       have : (q - 1) * y = (q - 1) * yn1 * 4294967296 + (q - 1) * yn0 := by rw [hy]; grind
       omega
     have hlt32 : q - 1 ≤ 4294967295 := by
       refine Int.not_lt.1 fun hc => ?_
       have : 4294967296 * y ≤ (q - 1) * y := Int.mul_le_mul_of_nonneg_right (by omega) (by omega)
       omega
     exact hA ⟨q1, hlt32, hle, by rw [eq4]; exact hb⟩ q1 (by omega)
   · rw [decide_eq_false hc, cbr_false]
     exact hB ⟨hy, h1, h0, hn, by rw [eq3]; omega, ⟨q1, by omega⟩, ⟨by omega, by omega⟩, hlt, by rw [eq4]; exact hb⟩
 by_cases ha : q ≥ 4294967296
 · rw [decide_eq_true ha, cbr_true]
   refine big ?_
   have : 4294967296 * y ≤ q * y := Int.mul_le_mul_of_nonneg_right (by omega) (by omega)
   omega
 · rw [decide_eq_false ha, cbr_false]
   have hp : q * yn0 ≤ 4294967295 * 4294967295 := Int.mul_le_mul (by omega) h0.2 h0.1 (by omega)
   have hp0 : 0 ≤ q * yn0 := Int.mul_nonneg hq.1 h0.1
   have w1 : IntKind.u64.wrap (q * yn0) = q * yn0 := wu64 ⟨hp0, by omega⟩
   have w2 : IntKind.u64.wrap ((4294967296 : Int) * r) = 4294967296 * r := wu64 ⟨by omega, by omega⟩
   have w3 : IntKind.u64.wrap ((4294967296 : Int) * r + un) = 4294967296 * r + un := wu64 ⟨by omega, by omega⟩
   rw [w1, w2, w3]
   by_cases hb : q * yn0 > 4294967296 * r + un
   · rw [decide_eq_true hb, cbr_true]
     exact big (by omega)
   · rw [decide_eq_false hb, cbr_false]
     exact hC ⟨hq.1, by omega, by omega, hU⟩
theorem L0_of (W : Int → (Int → Prop) → Prop) {y yn1 yn0 u un : Int} (s v un0 : Int) {x0 x1 : Int → Int → Int → Int → Int → Int → Int → Int → Int → Bool → Prop}
   (hx : ∀ q r b, DG y u un q → x0 y s yn1 yn0 v un un0 q r b) (hx1 : ∀ q r b, DG y u un q → x1 y s yn1 yn0 v un un0 q r b) :
   ∀ (n : Nat) (q r : Int) (b : Bool), DI y yn1 yn0 u un q r → 4294967296 ≤ r + n * 2147483648 → L_m_Div64_0_1 W x0 x1 (n + 1) y s yn1 yn0 v un un0 q r b := by
 intro n
 induction n with
 | zero =>
   intro q r b h hn
   have := h.hr.2
   exact absurd hn (by omega)
 | succ n ih =>
   intro q r b h hn
   unfold L_m_Div64_0_1
   refine h.step (fun g a1 a2 => ?_) (fun g => ?_) (fun g => hx1 _ _ _ g)
   · rw [wu64 (n := q - 1) ⟨by omega, by omega⟩]
     exact hx _ _ _ g
   · have e1 : IntKind.u64.wrap (q - 1) = q - 1 := wu64 ⟨g.hq.1, by have := g.hq.2; omega⟩
     have e2 : IntKind.u64.wrap (r + yn1) = r + yn1 := wu64 ⟨g.hr.1, by have := g.hr.2; omega⟩
     rw [e1, e2]
     exact ih _ _ _ g (by have := h.h1.1; omega)
theorem L1_of (W : Int → (Int → Prop) → Prop) {y yn1 yn0 u un : Int} (s q1 v : Int) {x0 x1 : Int → Int → Int → Int → Int → Int → Int → Int → Int → Bool → Prop}
   (hx : ∀ q r b, DG y u un q → x0 y s yn1 yn0 un q1 r v q b) (hx1 : ∀ q r b, DG y u un q → x1 y s yn1 yn0 un q1 r v q b) :
   ∀ (n : Nat) (q r : Int) (b : Bool), DI y yn1 yn0 u un q r → 4294967296 ≤ r + n * 2147483648 → L_m_Div64_1_1 W x0 x1 (n + 1) y s yn1 yn0 un q1 r v q b := by
 intro n
 induction n with
 | zero =>
   intro q r b h hn
   have := h.hr.2
   exact absurd hn (by omega)
 | succ n ih =>
   intro q r b h hn
   unfold L_m_Div64_1_1
   refine h.step (fun g a1 a2 => ?_) (fun g => ?_) (fun g => hx1 _ _ _ g)
   · rw [wu64 (n := q - 1) ⟨by omega, by omega⟩]
     exact hx _ _ _ g
   · have e1 : IntKind.u64.wrap (q - 1) = q - 1 := wu64 ⟨g.hq.1, by have := g.hq.2; omega⟩
     have e2 : IntKind.u64.wrap (r + yn1) = r + yn1 := wu64 ⟨g.hr.1, by have := g.hr.2; omega⟩
     rw [e1, e2]
     exact ih _ _ _ g (by have := h.h1.1; omega)
theorem L0_of' (W : Int → (Int → Prop) → Prop) {y yn1 yn0 u un : Int} (s v un0 : Int) {x0 x1 : Int → Int → Int → Int → Int → Int → Int → Int → Int → Bool → Prop}
   (hx : ∀ q r b, DG y u un q → x0 y s yn1 yn0 v un un0 q r b) (hx1 : ∀ q r b, DG y u un q → x1 y s yn1 yn0 v un un0 q r b) (q r : Int) (h : DI y yn1 yn0 u un q r) : L_m_Div64_0_0 W x0 x1 3 y s yn1 yn0 v un un0 q r := by
 have := L0_of W s v un0 hx hx1 2 q r true h (by have := h.hr.1; omega)
 unfold L_m_Div64_0_1 at this
 unfold L_m_Div64_0_0
 exact this
theorem L1_of' (W : Int → (Int → Prop) → Prop) {y yn1 yn0 u un : Int} (s q1 v : Int) {x0 x1 : Int → Int → Int → Int → Int → Int → Int → Int → Int → Bool → Prop}
   (hx : ∀ q r b, DG y u un q → x0 y s yn1 yn0 un q1 r v q b) (hx1 : ∀ q r b, DG y u un q → x1 y s yn1 yn0 un q1 r v q b) (q r : Int) (h : DI y yn1 yn0 u un q r) : L_m_Div64_1_0 W x0 x1 3 y s yn1 yn0 un q1 r v q := by
 have := L1_of W s q1 v hx hx1 2 q r true h (by have := h.hr.1; omega)
 unfold L_m_Div64_1_1 at this
 unfold L_m_Div64_1_0
 exact this
end Go.Pf.Vc
namespace Go.Pf.Vc
open Go Go.Pf
theorem DI.init {y yn1 yn0 u un : Int} (hy : y = yn1 * 4294967296 + yn0) (h1 : 2147483648 ≤ yn1 ∧ yn1 ≤ 4294967295) (h0 : 0 ≤ yn0 ∧ yn0 ≤ 4294967295) (hn : 0 ≤ un ∧ un ≤ 4294967295)
   (hu : 0 ≤ u) (hlt : u < y) : DI y yn1 yn0 u un (u / yn1) (u - u / yn1 * yn1) := by
 have a1 := Int.mul_ediv_add_emod u yn1
 have a2 := Int.emod_nonneg u (show yn1 ≠ 0 by omega)
 have a3 := Int.emod_lt_of_pos u (show 0 < yn1 by omega)
 have a4 : u / yn1 * yn1 = yn1 * (u / yn1) := Int.mul_comm _ _
 have a5 : 0 ≤ u / yn1 := Int.ediv_nonneg hu (by omega)
 have a6 : u / yn1 ≤ 4294967297 := by
   refine Int.not_lt.1 fun hc => ?_
   have : yn1 * 4294967298 ≤ yn1 * (u / yn1) := Int.mul_le_mul_of_nonneg_left (by omega) (by omega)
   omega
 refine ⟨hy, h1, h0, hn, by omega, ⟨a5, a6⟩, ⟨by omega, by omega⟩, hlt, ?_⟩
 have e : (u / yn1 + 1) * y = yn1 * (u / yn1) * 4294967296 + yn1 * 4294967296 + (u / yn1 + 1) * yn0 := by
   obtain ⟨t, ht⟩ : ∃ t, t = u / yn1 := ⟨_, rfl⟩
   rw [← ht, hy]; grind
 have : 0 ≤ (u / yn1 + 1) * yn0 := Int.mul_nonneg (by omega) h0.1
 omega
theorem or_eq {a b : Int} {k : Nat} (ha : 0 ≤ a) (hb : 0 ≤ b ∧ b < 2 ^ k) (hab : a * 2 ^ k ≤ 18446744073709551615 ∧ b ≤ 18446744073709551615) (hs : a * 2 ^ k + b ≤ 18446744073709551615) :
   IntKind.u64.wrap (BitVec.ofInt IntKind.u64.bits (a * 2 ^ k) ||| BitVec.ofInt IntKind.u64.bits b).toNat = a * 2 ^ k + b := by
 obtain ⟨x, rfl⟩ : ∃ x : Nat, a = x := ⟨a.toNat, by omega⟩
 obtain ⟨z, rfl⟩ : ∃ z : Nat, b = z := ⟨b.toNat, by omega⟩
 have ec : ((x : Int) * 2 ^ k) = ((2 ^ k * x : Nat) : Int) := by push_cast; exact Int.mul_comm _ _
 rw [ec] at hab hs ⊢
 have hz : z < 2 ^ k := by have := hb.2; exact_mod_cast this
 have e : (BitVec.ofInt IntKind.u64.bits ((2 ^ k * x : Nat) : Int) ||| BitVec.ofInt IntKind.u64.bits (z : Int)).toNat = 2 ^ k * x + z := by
   show (BitVec.ofInt 64 ((2 ^ k * x : Nat) : Int) ||| BitVec.ofInt 64 (z : Int)).toNat = _
   rw [BitVec.toNat_or, BitVec.toNat_ofInt, BitVec.toNat_ofInt]
   have e1 : (((2 ^ k * x : Nat) : Int) % (2 ^ 64 : Nat)).toNat = 2 ^ k * x := by omega
   have e2 : ((z : Int) % (2 ^ 64 : Nat)).toNat = z := by omega
   rw [e1, e2, Nat.two_pow_add_eq_or_of_lt hz]
 rw [e, wu64 ⟨by omega, by omega⟩]
 push_cast; rfl
theorem rest_eq {u un q y : Int} (h0 : 0 ≤ u * 4294967296 + un - q * y) (h1 : u * 4294967296 + un - q * y ≤ 18446744073709551615) :
   IntKind.u64.wrap (IntKind.u64.wrap (IntKind.u64.wrap (u * 4294967296) + un) - IntKind.u64.wrap (q * y)) = u * 4294967296 + un - q * y := by
 simp only [wu64']
 omega
theorem tdivn {a b : Int} (h : 0 ≤ a) : Int.tdiv a b = a / b := Int.tdiv_eq_ediv_of_nonneg h
theorem tmodn {a b : Int} (h : 0 ≤ a) : Int.tmod a b = a % b := Int.tmod_eq_emod_of_nonneg h
theorem Div64_of {h l y : Int} (hh : U64 h) (hl : U64 l) (hy : U64 y) (hlt : h < y) {K : Int → Int → Prop}
   (k : K ((h * 18446744073709551616 + l) / y) ((h * 18446744073709551616 + l) % y)) : w_m_Div64 h l y K := by
 unfold U64 at hh hl hy
 unfold w_m_Div64 wv_m_Div64
 have b1 : (y == (0 : Int)) = false := beq_eq_false_iff_ne.2 (by omega)
 have b2 : decide (y ≤ h) = false := decide_eq_false (by omega)
 have b3 : (!(decide (y = (0 : Int)))) = true := by rw [decide_eq_false (by omega)]; rfl
 rw [b1, cbr_false, b2, cbr_false, b3]
 by_cases h0 : h = 0
 · subst h0
   have : ((0 : Int) == 0) = true := rfl
   rw [this, cbr_true, asr_true, asr_true, tdivn hl.1, tmodn hl.1]
   have e : (0 : Int) * 18446744073709551616 + l = l := by omega
   rw [e] at k
   have b4 : l / y ≤ l := Int.ediv_le_self _ hl.1
   rw [wu64 ⟨Int.ediv_nonneg hl.1 (by omega), by omega⟩]
   exact k
 · have b4 : (h == (0 : Int)) = false := beq_eq_false_iff_ne.2 h0
   rw [b4, cbr_false]
   refine LeadingZeros64_of ⟨by omega, by omega⟩ ?_
   have hyn : y.toNat ≠ 0 := by omega
   have c1 := blen_lt y.toNat
   have c2 := blen_le hyn
   have c3 : blen y.toNat ≤ 64 := by
     refine Nat.le_of_not_lt fun hc => ?_
     have := Nat.pow_le_pow_right (show 0 < 2 by omega) (show 64 ≤ blen y.toNat - 1 by omega)
     omega
   have c4 : 1 ≤ blen y.toNat := by
     refine Nat.le_of_not_lt fun hc => ?_
     have : blen y.toNat = 0 := by omega
     rw [this] at c1
     omega
   obtain ⟨m, hm⟩ : ∃ m, m = 64 - blen y.toNat := ⟨_, rfl⟩
   have es : (64 - (blen y.toNat : Int)) = (m : Int) := by omega
   rw [es]
   have m63 : m ≤ 63 := by omega
   have e1 : IntKind.u64.wrap (m : Int) = m := wu64 ⟨by omega, by omega⟩
   have e2 : IntKind.u64.wrap ((64 : Int) - m) = ((64 - m : Nat) : Int) := by
     rw [wu64 ⟨by omega, by omega⟩]; omega
   have e3 : min ((m : Int)).toNat IntKind.u64.bits = m := by
     show min ((m : Int)).toNat 64 = m
     rw [Int.toNat_natCast]; omega
   have e4 : min (((64 - m : Nat) : Int)).toNat IntKind.u64.bits = 64 - m := by
     show min (((64 - m : Nat) : Int)).toNat 64 = 64 - m
     rw [Int.toNat_natCast]; omega
   simp only [e1]
   rw [e2, e3, e4]
   have p64 : (2 : Int) ^ (64 - m) * 2 ^ m = 18446744073709551616 := by
     rw [← Int.pow_add, show 64 - m + m = 64 by omega]; rfl
   have p63 : (2 : Int) ^ (63 - m) * 2 ^ m = 9223372036854775808 := by
     rw [← Int.pow_add, show 63 - m + m = 63 by omega]; rfl
   have tp : (0 : Int) < 2 ^ m := Int.pow_pos (by omega)
   have tp' : (0 : Int) < 2 ^ (64 - m) := Int.pow_pos (by omega)
   have y1 : y < (2 : Int) ^ (64 - m) := by
     have : blen y.toNat = 64 - m := by omega
     rw [this] at c1
     have c1' : ((y.toNat : Nat) : Int) < ((2 ^ (64 - m) : Nat) : Int) := by exact_mod_cast c1
     push_cast at c1'
     omega
   have y2 : (2 : Int) ^ (63 - m) ≤ y := by
     have : blen y.toNat - 1 = 63 - m := by omega
     rw [this] at c2
     have c2' : ((2 ^ (63 - m) : Nat) : Int) ≤ ((y.toNat : Nat) : Int) := by exact_mod_cast c2
     push_cast at c2'
     omega
   have Y1 : y * 2 ^ m < 18446744073709551616 := by
     have := Int.mul_lt_mul_of_pos_right y1 tp
     omega
   have Y2 : 9223372036854775808 ≤ y * 2 ^ m := by
     have := Int.mul_le_mul_of_nonneg_right y2 (show (0 : Int) ≤ 2 ^ m by omega)
     omega
   have H1 : (h + 1) * 2 ^ m ≤ y * 2 ^ m := Int.mul_le_mul_of_nonneg_right (by omega) (by omega)
   have H2 : (h + 1) * 2 ^ m = h * 2 ^ m + 2 ^ m := by grind
   have H0 : 0 ≤ h * 2 ^ m := Int.mul_nonneg hh.1 (by omega)
   have fd : Int.fdiv l (2 ^ (64 - m)) = l / 2 ^ (64 - m) := fdivn _ _ (by omega)
   have L1 := Int.mul_ediv_add_emod l (2 ^ (64 - m))
   have L2 := Int.emod_nonneg l (show (2 : Int) ^ (64 - m) ≠ 0 by omega)
   have L3 := Int.emod_lt_of_pos l tp'
   have L4 : 0 ≤ l / 2 ^ (64 - m) := Int.ediv_nonneg hl.1 (by omega)
   have L5 : l / 2 ^ (64 - m) < 2 ^ m := by
     refine Int.ediv_lt_of_lt_mul tp' ?_
     rw [Int.mul_comm, p64]; omega
   have w1 : IntKind.u64.wrap (y * 2 ^ m) = y * 2 ^ m := wu64 ⟨by omega, by omega⟩
   have w2 : IntKind.u64.wrap (h * 2 ^ m) = h * 2 ^ m := wu64 ⟨by omega, by omega⟩
   have w3 : IntKind.u64.wrap (BitVec.ofInt IntKind.u64.bits (h * 2 ^ m) ||| BitVec.ofInt IntKind.u64.bits (l / 2 ^ (64 - m))).toNat = h * 2 ^ m + l / 2 ^ (64 - m) :=
     or_eq hh.1 ⟨L4, L5⟩ ⟨by omega, by omega⟩ (by omega)
   have w4 : IntKind.u64.wrap (l * 2 ^ m) = l % 2 ^ (64 - m) * 2 ^ m := by
     have e : l * 2 ^ m = (l / 2 ^ (64 - m)) * 18446744073709551616 + l % 2 ^ (64 - m) * 2 ^ m := by
       rw [← p64]
       obtain ⟨a, ha⟩ : ∃ a, a = l / 2 ^ (64 - m) := ⟨_, rfl⟩
       obtain ⟨b, hb⟩ : ∃ b, b = l % 2 ^ (64 - m) := ⟨_, rfl⟩
       obtain ⟨t, ht⟩ : ∃ t, t = (2 : Int) ^ m := ⟨_, rfl⟩
       obtain ⟨t', ht'⟩ : ∃ t, t = (2 : Int) ^ (64 - m) := ⟨_, rfl⟩
       rw [← ha, ← hb, ← ht'] at L1
       rw [← ha, ← hb, ← ht, ← ht']
       rw [← L1]; grind
     have e5 : l % 2 ^ (64 - m) * 2 ^ m < 18446744073709551616 := by
       rw [← p64]; exact Int.mul_lt_mul_of_pos_right L3 tp
     have e6 : 0 ≤ l % 2 ^ (64 - m) * 2 ^ m := Int.mul_nonneg L2 (by omega)
     rw [e, wu64']; omega
   have e5 : l % 2 ^ (64 - m) * 2 ^ m < 18446744073709551616 := by
     rw [← p64]; exact Int.mul_lt_mul_of_pos_right L3 tp
   have e6 : 0 ≤ l % 2 ^ (64 - m) * 2 ^ m := Int.mul_nonneg L2 (by omega)
   have eN : (h * 18446744073709551616 + l) * 2 ^ m = (h * 2 ^ m + l / 2 ^ (64 - m)) * 18446744073709551616 + l % 2 ^ (64 - m) * 2 ^ m := by
     rw [← p64]
     obtain ⟨a, ha⟩ : ∃ a, a = l / 2 ^ (64 - m) := ⟨_, rfl⟩
     obtain ⟨b, hb⟩ : ∃ b, b = l % 2 ^ (64 - m) := ⟨_, rfl⟩
     obtain ⟨t, ht⟩ : ∃ t, t = (2 : Int) ^ m := ⟨_, rfl⟩
     obtain ⟨t', ht'⟩ : ∃ t, t = (2 : Int) ^ (64 - m) := ⟨_, rfl⟩
     rw [← ha, ← hb, ← ht'] at L1
     rw [← ha, ← hb, ← ht, ← ht']
     rw [← L1]; grind
   have U1 : h * 2 ^ m + l / 2 ^ (64 - m) < y * 2 ^ m := by omega
   have U0 : 0 ≤ h * 2 ^ m + l / 2 ^ (64 - m) := by omega
   rw [fd, w1, w2, w3, w4]
   have b5 : (!(decide ((m : Int) < 0))) = true := by rw [decide_eq_false (by omega)]; rfl
   have b6 : (!(decide (((64 - m : Nat) : Int) < 0))) = true := by rw [decide_eq_false (by omega)]; rfl
   rw [b5, b6, asr_true, asr_true, asr_true, asr_true]
   generalize h * 2 ^ m + l / 2 ^ (64 - m) = u at *
   generalize hl0 : l % 2 ^ (64 - m) * 2 ^ m = v at *
   generalize hY : y * 2 ^ m = Y at *
   rw [fdivn Y _ (by omega), fdivn v _ (by omega), mask32 ⟨by omega, by omega⟩, mask32 ⟨by omega, by omega⟩, tdivn U0]
   have b7 : (!(decide (Y / 4294967296 = (0 : Int)))) = true := by rw [decide_eq_false (by omega)]; rfl
   rw [b7, asr_true]
   obtain ⟨yn1, hyn1⟩ : ∃ a, a = Y / 4294967296 := ⟨_, rfl⟩
   obtain ⟨yn0, hyn0⟩ : ∃ a, a = Y % 4294967296 := ⟨_, rfl⟩
   obtain ⟨un1, hun1⟩ : ∃ a, a = v / 4294967296 := ⟨_, rfl⟩
   obtain ⟨un0, hun0⟩ : ∃ a, a = v % 4294967296 := ⟨_, rfl⟩
   rw [← hyn1, ← hyn0, ← hun1, ← hun0]
   have d1 : 2147483648 ≤ yn1 ∧ yn1 ≤ 4294967295 := by omega
   have d0 : 0 ≤ yn0 ∧ yn0 ≤ 4294967295 := by omega
   have dn1 : 0 ≤ un1 ∧ un1 ≤ 4294967295 := by omega
   have dn0 : 0 ≤ un0 ∧ un0 ≤ 4294967295 := by omega
   have dY : Y = yn1 * 4294967296 + yn0 := by omega
   have g1 := DI.init dY d1 d0 dn1 U0 U1
   have x1 : IntKind.u64.wrap (u / yn1) = u / yn1 := wu64 ⟨g1.hq.1, by have := g1.hq.2; omega⟩
   have x2 : IntKind.u64.wrap (u - IntKind.u64.wrap (u / yn1 * yn1)) = u - u / yn1 * yn1 := by
     have r1 := g1.hr.1
     have r2 : 0 ≤ u / yn1 * yn1 := Int.mul_nonneg g1.hq.1 (by omega)
     have r3 := g1.hr.2
     rw [wu64 (n := u / yn1 * yn1) ⟨r2, by omega⟩, wu64 ⟨r1, by omega⟩]
   rw [x1, x2]
   have fin : ∀ q1 : Int, DG Y u un1 q1 → ∀ (un21 : Int), un21 = u * 4294967296 + un1 - q1 * Y → ∀ q0, DG Y un21 un0 q0 →
       K (IntKind.u64.wrap ((IntKind.u64.wrap (q1 * (4294967296 : Int))) + q0)) (Int.fdiv (IntKind.u64.wrap ((IntKind.u64.wrap ((IntKind.u64.wrap (un21 * (4294967296 : Int))) + un0)) - (IntKind.u64.wrap (q0 * Y)))) (2 ^ (min ((m : Int)).toNat IntKind.u64.bits))) := by
     intro q1 G1 un21 e21 q0 G0
     obtain ⟨a1, a2, a3, a4⟩ := G1
     obtain ⟨c1, c2, c3, c4⟩ := G0
     have s1 : (q1 + 1) * Y = q1 * Y + Y := by grind
     have s0 : (q0 + 1) * Y = q0 * Y + Y := by grind
     have w5 : IntKind.u64.wrap (q1 * 4294967296) = q1 * 4294967296 := wu64 ⟨by omega, by omega⟩
     have w6 : IntKind.u64.wrap (q1 * 4294967296 + q0) = q1 * 4294967296 + q0 := wu64 ⟨by omega, by omega⟩
     rw [rest_eq (by omega) (by omega), w5, w6, e3, fdivn _ _ (by omega)]
     have eT : un21 * 4294967296 + un0 - q0 * Y = (h * 18446744073709551616 + l - (q1 * 4294967296 + q0) * y) * 2 ^ m := by
       have f1 : (q1 * 4294967296 + q0) * Y = q1 * Y * 4294967296 + q0 * Y := by grind
       have f2 : (h * 18446744073709551616 + l - (q1 * 4294967296 + q0) * y) * 2 ^ m = (h * 18446744073709551616 + l) * 2 ^ m - (q1 * 4294967296 + q0) * Y := by
         rw [← hY, Int.sub_mul, Int.mul_assoc (q1 * 4294967296 + q0)]
       rw [f2, f1, eN]
       omega
     rw [eT, Int.mul_ediv_cancel _ (by omega)]
     have r0 : 0 ≤ h * 18446744073709551616 + l - (q1 * 4294967296 + q0) * y := by
       refine Int.not_lt.1 fun hc => ?_
       have := Int.mul_neg_of_neg_of_pos hc tp
       omega
     have r1 : h * 18446744073709551616 + l - (q1 * 4294967296 + q0) * y < y := by
       refine Int.not_le.1 fun hc => ?_
       have := Int.mul_le_mul_of_nonneg_right hc (show (0 : Int) ≤ 2 ^ m by omega)
       omega
     obtain ⟨Q, hQ⟩ : ∃ Q, Q = q1 * 4294967296 + q0 := ⟨_, rfl⟩
     rw [← hQ] at r0 r1 ⊢
     have z1 : (h * 18446744073709551616 + l) / y = Q := by
       have : h * 18446744073709551616 + l = (h * 18446744073709551616 + l - Q * y) + Q * y := by omega
       rw [this, Int.add_mul_ediv_right _ _ (by omega), Int.ediv_eq_zero_of_lt r0 r1]; omega
     have z2 : (h * 18446744073709551616 + l) % y = h * 18446744073709551616 + l - Q * y := by
       have := Int.mul_ediv_add_emod (h * 18446744073709551616 + l) y
       rw [z1, Int.mul_comm] at this
       omega
     rw [z1, z2] at k
     exact k
   have mid : ∀ q : Int, DG Y u un1 q → ∀ (X : Int → Int → Int → Int → Int → Int → Int → Int → Int → Bool → Prop), (∀ q0 r0 b0, DG Y (u * 4294967296 + un1 - q * Y) un0 q0 → X Y m yn1 yn0 un0 q r0 (u * 4294967296 + un1 - q * Y) q0 b0) →
       asr (!(decide (yn1 = (0 : Int)))) (∃ n : Nat, L_m_Div64_1_0 w_m_LeadingZeros64 X X n Y m yn1 yn0 un0 q ((IntKind.u64.wrap ((IntKind.u64.wrap ((IntKind.u64.wrap ((IntKind.u64.wrap (u * (4294967296 : Int))) + un1)) - (IntKind.u64.wrap (q * Y)))) - (IntKind.u64.wrap ((IntKind.u64.wrap (Int.tdiv (IntKind.u64.wrap ((IntKind.u64.wrap ((IntKind.u64.wrap (u * (4294967296 : Int))) + un1)) - (IntKind.u64.wrap (q * Y)))) yn1)) * yn1))))) (IntKind.u64.wrap ((IntKind.u64.wrap ((IntKind.u64.wrap (u * (4294967296 : Int))) + un1)) - (IntKind.u64.wrap (q * Y)))) (IntKind.u64.wrap (Int.tdiv (IntKind.u64.wrap ((IntKind.u64.wrap ((IntKind.u64.wrap (u * (4294967296 : Int))) + un1)) - (IntKind.u64.wrap (q * Y)))) yn1))) := by
     intro q G X hX
     obtain ⟨a1, a2, a3, a4⟩ := G
     have s1 : (q + 1) * Y = q * Y + Y := by grind
     have b8 : (!(decide (yn1 = (0 : Int)))) = true := by rw [decide_eq_false (by omega)]; rfl
     rw [b8, asr_true, rest_eq (by omega) (by omega), tdivn (by omega)]
     have g0 := DI.init dY d1 d0 dn0 (u := u * 4294967296 + un1 - q * Y) (by omega) (by omega)
     generalize u * 4294967296 + un1 - q * Y = u2 at *
     have x1 : IntKind.u64.wrap (u2 / yn1) = u2 / yn1 := wu64 ⟨g0.hq.1, by have := g0.hq.2; omega⟩
     have x2 : IntKind.u64.wrap (u2 - IntKind.u64.wrap (u2 / yn1 * yn1)) = u2 - u2 / yn1 * yn1 := by
       have r1 := g0.hr.1
       have r2 : 0 ≤ u2 / yn1 * yn1 := Int.mul_nonneg g0.hq.1 (by omega)
       have r3 := g0.hr.2
       have r4 := g0.hlt
       rw [wu64 (n := u2 / yn1 * yn1) ⟨r2, by omega⟩, wu64 ⟨r1, by omega⟩]
     rw [x1, x2]
     exact ⟨3, L1_of' _ _ _ _ (fun q0 r0 b0 g => hX q0 r0 b0 g) (fun q0 r0 b0 g => hX q0 r0 b0 g) _ _ g0⟩
   have leaf : ∀ {P : Prop}, P → asr (!(decide ((m : Int) < 0))) P := fun p => by rw [b5, asr_true]; exact p
   refine ⟨3, L0_of' _ _ _ _ (fun q r b G => ?_) (fun q r b G => ?_) _ _ g1⟩
   · exact mid q G _ (fun q0 r0 b0 G0 => leaf (fin q G _ rfl q0 G0))
   · exact mid q G _ (fun q0 r0 b0 G0 => leaf (fin q G _ rfl q0 G0))
end Go.Pf.Vc
namespace Go.Pf.Vc
open Go Go.Pf
theorem Rem64_of {h l y : Int} (hh : U64 h) (hl : U64 l) (hy : U64 y) (h0 : 0 < y) {K : Int → Prop}
   (k : K ((h * 18446744073709551616 + l) % y)) : w_m_Rem64 h l y K := by
 unfold w_m_Rem64 wv_m_Rem64
 have b3 : (!(decide (y = (0 : Int)))) = true := by rw [decide_eq_false (by omega)]; rfl
 have a1 := Int.emod_nonneg h (show y ≠ 0 by omega)
 have a2 := Int.emod_lt_of_pos h h0
 have hh' := hh
 unfold U64 at hh hy
 rw [b3, asr_true, tmodn hh.1]
 refine Div64_of ⟨a1, by omega⟩ hl ⟨by omega, by omega⟩ a2 ?_
 have e : (h % y * 18446744073709551616 + l) % y = (h * 18446744073709551616 + l) % y := by
   rw [Int.add_emod, Int.mul_emod, Int.emod_emod, ← Int.mul_emod, ← Int.add_emod]
 rw [e]
 exact k
def outS (s : Bool) (a b : Int) (K : Int → Int → Int → Prop) : Prop :=
 if a ≤ 1000000000000000000 ∧ b ≤ 1000000000000000000 then K (if s then -a else a) b 0 else K 0 0 16
theorem signed_eq {s : Bool} {a b : Int} (ha : 0 ≤ a) (hb : 0 ≤ b) (K : Int → Int → Int → Prop) : w_ratio_signed s a b K = outS s a b K := by
 unfold w_ratio_signed wv_ratio_signed outS
 by_cases h : a ≤ 1000000000000000000 ∧ b ≤ 1000000000000000000
 · have e : decide ((if b > a then b else a) > (1000000000000000000 : Int)) = false := by
     refine decide_eq_false ?_
     split <;> omega
   have w1 : IntKind.i64.wrap a = a := wi64 ⟨by omega, by omega⟩
   have w2 : IntKind.i64.wrap b = b := wi64 ⟨by omega, by omega⟩
   have w3 : IntKind.i64.wrap (0 - a) = -a := by rw [wi64 ⟨by omega, by omega⟩]; omega
   rw [e, cbr_false, if_pos h, w1, w2, w3]
   cases s
   · rfl
   · rfl
 · have e : decide ((if b > a then b else a) > (1000000000000000000 : Int)) = true := by
     refine decide_eq_true ?_
     split <;> omega
   rw [e, cbr_true, if_neg h]
theorem Make_of {n d : Int} (hn : I64 n) (hd : I64 d) {K : Int → Int → Int → Prop}
   (k : if d = 0 then K 0 0 18 else outS (decide (n < 0) != decide (d < 0)) ((n.natAbs / Nat.gcd n.natAbs d.natAbs : Nat) : Int) ((d.natAbs / Nat.gcd n.natAbs d.natAbs : Nat) : Int) K) : w_ratio_Make n d K := by
 unfold w_ratio_Make wv_ratio_Make
 by_cases h : d = 0
 · rw [if_pos h] at k
   have : (d == (0 : Int)) = true := beq_iff_eq.2 h
   rw [this, cbr_true]
   exact k
 · rw [if_neg h] at k
   have : (d == (0 : Int)) = false := beq_eq_false_iff_ne.2 h
   rw [this, cbr_false, size_eq hn, size_eq hd]
   refine gcd_of _ _ _ ?_
   have gp : 0 < Nat.gcd n.natAbs d.natAbs := Nat.gcd_pos_of_pos_right _ (by omega)
   have b3 : (!(decide (((Nat.gcd n.natAbs d.natAbs : Nat) : Int) = (0 : Int)))) = true := by rw [decide_eq_false (by omega)]; rfl
   unfold I64 at hn hd
   have u1 : n.natAbs / Nat.gcd n.natAbs d.natAbs ≤ n.natAbs := Nat.div_le_self _ _
   have u2 : d.natAbs / Nat.gcd n.natAbs d.natAbs ≤ d.natAbs := Nat.div_le_self _ _
   rw [b3, asr_true, asr_true, tdivn (by omega), tdivn (by omega), ← Int.natCast_ediv, ← Int.natCast_ediv]
   generalize n.natAbs / Nat.gcd n.natAbs d.natAbs = A at *
   generalize d.natAbs / Nat.gcd n.natAbs d.natAbs = B at *
   rw [wu64 (n := (A : Int)) ⟨by omega, by omega⟩, wu64 (n := (B : Int)) ⟨by omega, by omega⟩, signed_eq (by omega) (by omega)]
   exact k
end Go.Pf.Vc
namespace Go.Pf.Vc
open Go Go.Pf
theorem tail_of {s : Bool} {hi lo p1 p3 : Int} {g : Nat} (hh : U64 hi) (hl : U64 lo) (hg : 0 < g) (g1 : (g : Int) ≤ 1000000000000000000)
    (h1 : 0 ≤ p1 ∧ p1 ≤ 1000000000000000000) (h3 : 0 ≤ p3 ∧ p3 ≤ 1000000000000000000) {K : Int → Int → Int → Prop}
    (k : outS s (((hi * 18446744073709551616 + lo).toNat / Nat.gcd (hi * 18446744073709551616 + lo).toNat g : Nat) : Int)
      (((p1.toNat / g) * (p3.toNat / Nat.gcd (hi * 18446744073709551616 + lo).toNat g) : Nat) : Int) K) :
    (w_m_Rem64 hi lo (g : Int) (fun (yi12 : Int) => 
 (w_ratio_gcd yi12 (g : Int) (fun (yi13 : Int) => 
 (cbr (decide (hi ≥ yi13))
 (K (0 : Int) (0 : Int) (16 : Int))
 (w_m_Div64 hi lo yi13 (fun (yi14 : Int) (_ : Int) => 
 (asr (!(decide ((g : Int) = (0 : Int))))
 (asr (!(decide (yi13 = (0 : Int))))
 (w_m_Mul64 (IntKind.u64.wrap (Int.tdiv (IntKind.u64.wrap p1) (g : Int))) (IntKind.u64.wrap (Int.tdiv (IntKind.u64.wrap p3) yi13)) (fun (yi16 : Int) (yi17 : Int) => 
 (cbr (decide (yi16 > (0 : Int)))
 (K (0 : Int) (0 : Int) (16 : Int))
 (w_ratio_signed s yi14 yi17 (fun (yi18 : Int) (yi19 : Int) (yi20 : Int) => 
 (K yi18 yi19 yi20))))))))))))))) := by
  unfold U64 at hh hl
  obtain ⟨X, hX⟩ : ∃ X : Nat, X = (hi * 18446744073709551616 + lo).toNat := ⟨_, rfl⟩
  have eX : hi * 18446744073709551616 + lo = (X : Int) := by omega
  rw [← hX] at k
  refine Rem64_of hh hl ⟨by omega, by omega⟩ (by omega) ?_
  rw [eX, ← Int.natCast_emod]
  refine gcd_of _ _ _ ?_
  have eg : Nat.gcd (X % g) g = Nat.gcd X g := by rw [Nat.gcd_comm, Nat.gcd_comm X, Nat.gcd_rec g X, Nat.gcd_comm]
  rw [eg]
  have gp : 0 < Nat.gcd X g := Nat.gcd_pos_of_pos_right _ hg
  have gl : Nat.gcd X g ≤ g := Nat.le_of_dvd hg (Nat.gcd_dvd_right _ _)
  generalize Nat.gcd X g = G at *
  by_cases hb : hi ≥ (G : Int)
  · rw [decide_eq_true hb, cbr_true]
    unfold outS at k
    have : 18446744073709551616 ≤ X / G := by
      rw [Nat.le_div_iff_mul_le gp]
      omega
    rw [if_neg (by omega)] at k
    exact k
  · rw [decide_eq_false hb, cbr_false]
    refine Div64_of hh hl ⟨by omega, by omega⟩ (by omega) ?_
    rw [eX]
    have n3 : (!(decide ((g : Int) = (0 : Int)))) = true := by rw [decide_eq_false (by omega)]; rfl
    have n4 : (!(decide ((G : Int) = (0 : Int)))) = true := by rw [decide_eq_false (by omega)]; rfl
    have e1 : IntKind.u64.wrap p1 = (p1.toNat : Int) := by rw [wu64 ⟨by omega, by omega⟩]; omega
    have e3 : IntKind.u64.wrap p3 = (p3.toNat : Int) := by rw [wu64 ⟨by omega, by omega⟩]; omega
    rw [n3, n4, asr_true, asr_true, e1, e3, tdivn (by omega), tdivn (by omega), ← Int.natCast_ediv, ← Int.natCast_ediv, ← Int.natCast_ediv]
    have q1 : p1.toNat / g ≤ p1.toNat := Nat.div_le_self _ _
    have q3 : p3.toNat / G ≤ p3.toNat := Nat.div_le_self _ _
    generalize p1.toNat / g = A at *
    generalize p3.toNat / G = B at *
    generalize X / G = N at *
    rw [wu64 (n := (A : Int)) ⟨by omega, by omega⟩, wu64 (n := (B : Int)) ⟨by omega, by omega⟩, Mul64_eq ⟨by omega, by omega⟩ ⟨by omega, by omega⟩, ← Int.natCast_mul]
    generalize A * B = D at *
    by_cases hd : ((D : Int) / 18446744073709551616) > 0
    · rw [decide_eq_true hd, cbr_true]
      unfold outS at k
      rw [if_neg (by omega)] at k
      exact k
    · rw [decide_eq_false hd, cbr_false]
      have eD : (D : Int) % 18446744073709551616 = D := by omega
      rw [eD, signed_eq (by omega) (by omega)]
      exact k
end Go.Pf.Vc
namespace Go.Pf.Vc
open Go Go.Pf
theorem Add64_of {p q c : Int} {K : Int → Int → Prop} (hc : c.toNat ≤ 1) (k : K (((p.toNat + q.toNat + c.toNat) % 18446744073709551616 : Nat) : Int) (((p.toNat + q.toNat + c.toNat) / 18446744073709551616 : Nat) : Int)) : w_m_Add64 p q c K := by
 unfold w_m_Add64
 rw [decide_eq_true hc, asr_true]
 exact k
theorem Sub64_of {p q c : Int} {K : Int → Int → Prop} (hc : c.toNat ≤ 1) (k : K (((p.toNat + 18446744073709551616 - q.toNat - c.toNat) % 18446744073709551616 : Nat) : Int) ((if q.toNat + c.toNat ≤ p.toNat then 0 else 1 : Nat) : Int)) : w_m_Sub64 p q c K := by
 unfold w_m_Sub64
 rw [decide_eq_true hc, asr_true]
 have e : (bif Nat.ble (q.toNat + c.toNat) p.toNat then 0 else 1 : Nat) = (if q.toNat + c.toNat ≤ p.toNat then 0 else 1 : Nat) := by
   by_cases h : q.toNat + c.toNat ≤ p.toNat
   · rw [if_pos h, show Nat.ble (q.toNat + c.toNat) p.toNat = true from Nat.ble_eq_true_of_le h]; rfl
   · rw [if_neg h]
     cases hb : Nat.ble (q.toNat + c.toNat) p.toNat
     · rfl
     · exact absurd (Nat.le_of_ble_eq_true hb) h
 rw [e]
 exact k
theorem add_wide {X Y : Int} (hx : 0 ≤ X) (hy : 0 ≤ Y) (hs : X + Y < 340282366920938463463374607431768211456) {F : Int → Int → Int → Int → Prop}
   (h : ∀ c1 c2, F ((X + Y) % 18446744073709551616) c1 ((X + Y) / 18446744073709551616) c2) :
   w_m_Add64 (X % 18446744073709551616) (Y % 18446744073709551616) 0 (fun lo c1 => w_m_Add64 (X / 18446744073709551616) (Y / 18446744073709551616) c1 (fun hi c2 => F lo c1 hi c2)) := by
 obtain ⟨x, rfl⟩ : ∃ x : Nat, X = x := ⟨X.toNat, by omega⟩
 obtain ⟨y, rfl⟩ : ∃ y : Nat, Y = y := ⟨Y.toNat, by omega⟩
 refine Add64_of (by decide) (Add64_of (by omega) ?_)
 have e1 : (((((x : Int) % 18446744073709551616).toNat + ((y : Int) % 18446744073709551616).toNat + (0 : Int).toNat) % 18446744073709551616 : Nat) : Int) = ((x : Int) + y) % 18446744073709551616 := by omega
 have e2 : (((((x : Int) / 18446744073709551616).toNat + ((y : Int) / 18446744073709551616).toNat + (((((x : Int) % 18446744073709551616).toNat + ((y : Int) % 18446744073709551616).toNat + (0 : Int).toNat) / 18446744073709551616 : Nat) : Int).toNat) % 18446744073709551616 : Nat) : Int) = ((x : Int) + y) / 18446744073709551616 := by omega
 rw [e1, e2]
 exact h _ _
theorem sub_wide {X Y : Int} (hy : 0 ≤ Y) (hxy : Y ≤ X) (hs : X < 340282366920938463463374607431768211456) {F : Int → Int → Int → Int → Prop}
   (h : ∀ c1 c2, F ((X - Y) % 18446744073709551616) c1 ((X - Y) / 18446744073709551616) c2) :
   w_m_Sub64 (X % 18446744073709551616) (Y % 18446744073709551616) 0 (fun lo c1 => w_m_Sub64 (X / 18446744073709551616) (Y / 18446744073709551616) c1 (fun hi c2 => F lo c1 hi c2)) := by
 obtain ⟨x, rfl⟩ : ∃ x : Nat, X = x := ⟨X.toNat, by omega⟩
 obtain ⟨y, rfl⟩ : ∃ y : Nat, Y = y := ⟨Y.toNat, by omega⟩
 refine Sub64_of (by decide) (Sub64_of (by split <;> omega) ?_)
 have e1 : (((((x : Int) % 18446744073709551616).toNat + 18446744073709551616 - ((y : Int) % 18446744073709551616).toNat - (0 : Int).toNat) % 18446744073709551616 : Nat) : Int) = ((x : Int) - y) % 18446744073709551616 := by omega
 rw [e1]
 by_cases hb : ((y : Int) % 18446744073709551616).toNat + (0 : Int).toNat ≤ ((x : Int) % 18446744073709551616).toNat
 · rw [if_pos hb]
   have e2 : (((((x : Int) / 18446744073709551616).toNat + 18446744073709551616 - ((y : Int) / 18446744073709551616).toNat - ((0 : Nat) : Int).toNat) % 18446744073709551616 : Nat) : Int) = ((x : Int) - y) / 18446744073709551616 := by omega
   rw [e2]
   exact h _ _
 · rw [if_neg hb]
   have e2 : (((((x : Int) / 18446744073709551616).toNat + 18446744073709551616 - ((y : Int) / 18446744073709551616).toNat - ((1 : Nat) : Int).toNat) % 18446744073709551616 : Nat) : Int) = ((x : Int) - y) / 18446744073709551616 := by omega
   rw [e2]
   exact h _ _
end Go.Pf.Vc
namespace Go.Pf.Vc
open Go Go.Pf
def outA (s : Bool) (Z p1 p3 : Int) (g : Nat) (K : Int → Int → Int → Prop) : Prop :=
 if Z = 0 then K 0 1 0 else outS s ((Z.toNat / Nat.gcd Z.toNat g : Nat) : Int) (((p1.toNat / g) * (p3.toNat / Nat.gcd Z.toNat g) : Nat) : Int) K
theorem fin_of {s : Bool} {Z p1 p3 : Int} {g : Nat} (hz : 0 ≤ Z) (hz2 : Z < 340282366920938463463374607431768211456) (hg : 0 < g) (g1 : (g : Int) ≤ 1000000000000000000)
    (h1 : 0 ≤ p1 ∧ p1 ≤ 1000000000000000000) (h3 : 0 ≤ p3 ∧ p3 ≤ 1000000000000000000) {K : Int → Int → Int → Prop}
    (k : outA s Z p1 p3 g K) :
    cbr (Z / 18446744073709551616 == (0 : Int)) (cbr (Z % 18446744073709551616 == (0 : Int)) (K 0 1 0) (w_m_Rem64 (Z / 18446744073709551616) (Z % 18446744073709551616) (g : Int) (fun (yi12 : Int) => 
 (w_ratio_gcd yi12 (g : Int) (fun (yi13 : Int) => 
 (cbr (decide ((Z / 18446744073709551616) ≥ yi13))
 (K (0 : Int) (0 : Int) (16 : Int))
 (w_m_Div64 (Z / 18446744073709551616) (Z % 18446744073709551616) yi13 (fun (yi14 : Int) (_ : Int) => 
 (asr (!(decide ((g : Int) = (0 : Int))))
 (asr (!(decide (yi13 = (0 : Int))))
 (w_m_Mul64 (IntKind.u64.wrap (Int.tdiv (IntKind.u64.wrap p1) (g : Int))) (IntKind.u64.wrap (Int.tdiv (IntKind.u64.wrap p3) yi13)) (fun (yi16 : Int) (yi17 : Int) => 
 (cbr (decide (yi16 > (0 : Int)))
 (K (0 : Int) (0 : Int) (16 : Int))
 (w_ratio_signed s yi14 yi17 (fun (yi18 : Int) (yi19 : Int) (yi20 : Int) => 
 (K yi18 yi19 yi20)))))))))))))))) (w_m_Rem64 (Z / 18446744073709551616) (Z % 18446744073709551616) (g : Int) (fun (yi12 : Int) => 
 (w_ratio_gcd yi12 (g : Int) (fun (yi13 : Int) => 
 (cbr (decide ((Z / 18446744073709551616) ≥ yi13))
 (K (0 : Int) (0 : Int) (16 : Int))
 (w_m_Div64 (Z / 18446744073709551616) (Z % 18446744073709551616) yi13 (fun (yi14 : Int) (_ : Int) => 
 (asr (!(decide ((g : Int) = (0 : Int))))
 (asr (!(decide (yi13 = (0 : Int))))
 (w_m_Mul64 (IntKind.u64.wrap (Int.tdiv (IntKind.u64.wrap p1) (g : Int))) (IntKind.u64.wrap (Int.tdiv (IntKind.u64.wrap p3) yi13)) (fun (yi16 : Int) (yi17 : Int) => 
 (cbr (decide (yi16 > (0 : Int)))
 (K (0 : Int) (0 : Int) (16 : Int))
 (w_ratio_signed s yi14 yi17 (fun (yi18 : Int) (yi19 : Int) (yi20 : Int) => 
 (K yi18 yi19 yi20))))))))))))))) := by
  unfold outA at k
  have eZ : Z / 18446744073709551616 * 18446744073709551616 + Z % 18446744073709551616 = Z := by omega
  by_cases h0 : Z = 0
  · rw [if_pos h0] at k
    subst h0
    have e1 : ((0 : Int) / 18446744073709551616 == (0 : Int)) = true := by decide
    have e2 : ((0 : Int) % 18446744073709551616 == (0 : Int)) = true := by decide
    rw [e1, cbr_true, e2, cbr_true]
    exact k
  · rw [if_neg h0] at k
    have t := tail_of (s := s) (hi := Z / 18446744073709551616) (lo := Z % 18446744073709551616) (p1 := p1) (p3 := p3) (g := g) (K := K) ⟨by omega, by omega⟩ ⟨by omega, by omega⟩ hg g1 h1 h3 (by rw [eZ]; exact k)
    cases h4 : (Z / 18446744073709551616 == (0 : Int))
    · rw [cbr_false]; exact t
    · rw [cbr_true]
      cases h2 : (Z % 18446744073709551616 == (0 : Int))
      · rw [cbr_false]; exact t
      · have := beq_iff_eq.1 h2
        have := beq_iff_eq.1 h4
        exact absurd (show Z = 0 by omega) h0
theorem outA_congr {s s' : Bool} {Z Z' p1 p3 : Int} {g : Nat} {K : Int → Int → Int → Prop} (k : outA s' Z' p1 p3 g K) (hz : Z = Z') (hs : Z ≠ 0 → s = s') : outA s Z p1 p3 g K := by
 subst hz
 unfold outA at k ⊢
 by_cases h : Z = 0
 · rw [if_pos h] at k ⊢; exact k
 · rw [if_neg h] at k ⊢; rw [hs h]; exact k
theorem Add_of {a b c d : Int} (ha : I64 a) (hb : I64 b) (hc : I64 c) (hd : I64 d) {K : Int → Int → Int → Prop}
   (k : if chk2 a b c d = 0 then outA (decide (a * (d / (Nat.gcd b.natAbs d.natAbs : Nat)) + c * (b / (Nat.gcd b.natAbs d.natAbs : Nat)) < 0))
       ((a * (d / (Nat.gcd b.natAbs d.natAbs : Nat)) + c * (b / (Nat.gcd b.natAbs d.natAbs : Nat))).natAbs : Int) b d (Nat.gcd b.natAbs d.natAbs) K
     else K 0 0 (chk2 a b c d)) : w_ratio_Add a b c d K := by
 unfold w_ratio_Add wv_ratio_Add
 refine check_of ha hb hc hd ?_
 by_cases h : chk2 a b c d = 0
 · rw [if_pos h] at k
   have : (chk2 a b c d != (0 : Int)) = false := by rw [h]; rfl
   rw [this, cbr_false]
   obtain ⟨⟨b1, b2, a1, a2, _⟩, d1, d2, c1, c2, _⟩ := chk2_zero.1 h
   have wb : IntKind.u64.wrap b = ((b.natAbs : Nat) : Int) := by rw [wu64 ⟨by omega, by omega⟩]; omega
   have wd : IntKind.u64.wrap d = ((d.natAbs : Nat) : Int) := by rw [wu64 ⟨by omega, by omega⟩]; omega
   have g1 : 0 < Nat.gcd b.natAbs d.natAbs := Nat.gcd_pos_of_pos_right _ (by omega)
   have g2 : Nat.gcd b.natAbs d.natAbs ≤ d.natAbs := Nat.le_of_dvd (by omega) (Nat.gcd_dvd_right _ _)
   have go : w_ratio_gcd (IntKind.u64.wrap b) (IntKind.u64.wrap d) = w_ratio_gcd ((b.natAbs : Nat) : Int) ((d.natAbs : Nat) : Int) := by rw [wb, wd]
   rw [go]
   refine gcd_of _ _ _ ?_
   generalize Nat.gcd b.natAbs d.natAbs = g at *
   have n3 : (!(decide ((g : Int) = (0 : Int)))) = true := by rw [decide_eq_false (by omega)]; rfl
   have q1 : 0 ≤ b / (g : Int) := Int.ediv_nonneg (by omega) (by omega)
   have q2 : 0 ≤ d / (g : Int) := Int.ediv_nonneg (by omega) (by omega)
   have q3 : b / (g : Int) ≤ b := Int.ediv_le_self _ (by omega)
   have q4 : d / (g : Int) ≤ d := Int.ediv_le_self _ (by omega)
   have ed : IntKind.u64.wrap (Int.tdiv (IntKind.u64.wrap d) (g : Int)) = d / (g : Int) := by
     rw [wu64 (n := d) ⟨by omega, by omega⟩, tdivn (by omega), wu64 ⟨by omega, by omega⟩]
   have eb : IntKind.u64.wrap (Int.tdiv (IntKind.u64.wrap b) (g : Int)) = b / (g : Int) := by
     rw [wu64 (n := b) ⟨by omega, by omega⟩, tdivn (by omega), wu64 ⟨by omega, by omega⟩]
   have asr_of : ∀ {c : Bool} {P : Prop}, c = true → P → asr c P := fun h p => by rw [h, asr_true]; exact p
   rw [size_eq ha]
   refine asr_of n3 ?_
   rw [Mul64_eq (U64.abs ha) (by rw [ed]; exact ⟨by omega, by omega⟩), size_eq hc]
   refine asr_of n3 ?_
   rw [Mul64_eq (U64.abs hc) (by rw [eb]; exact ⟨by omega, by omega⟩)]
   obtain ⟨X, hX⟩ : ∃ X, X = ((a.natAbs : Nat) : Int) * IntKind.u64.wrap (Int.tdiv (IntKind.u64.wrap d) (g : Int)) := ⟨_, rfl⟩
   obtain ⟨Y, hY⟩ : ∃ Y, Y = ((c.natAbs : Nat) : Int) * IntKind.u64.wrap (Int.tdiv (IntKind.u64.wrap b) (g : Int)) := ⟨_, rfl⟩
   rw [← hX, ← hY]
   rw [ed] at hX; rw [eb] at hY
   have X0 : 0 ≤ X := by rw [hX]; exact Int.mul_nonneg (by omega) q2
   have Y0 : 0 ≤ Y := by rw [hY]; exact Int.mul_nonneg (by omega) q1
   have X1 : X ≤ 1000000000000000000 * 1000000000000000000 := by rw [hX]; exact Int.mul_le_mul (by omega) (by omega) q2 (by omega)
   have Y1 : Y ≤ 1000000000000000000 * 1000000000000000000 := by rw [hY]; exact Int.mul_le_mul (by omega) (by omega) q1 (by omega)
   have ax : a * (d / (g : Int)) = if a < 0 then -X else X := by
     split
     · rw [hX, show ((a.natAbs : Nat) : Int) = -a by omega, Int.neg_mul, Int.neg_neg]
     · rw [hX, show ((a.natAbs : Nat) : Int) = a by omega]
   have cy : c * (b / (g : Int)) = if c < 0 then -Y else Y := by
     split
     · rw [hY, show ((c.natAbs : Nat) : Int) = -c by omega, Int.neg_mul, Int.neg_neg]
     · rw [hY, show ((c.natAbs : Nat) : Int) = c by omega]
   rw [ax, cy] at k
   clear hX hY ax cy ed eb n3
   by_cases hs : decide (a < 0) = decide (c < 0)
   · have e : (decide (a < 0) == decide (c < 0)) = true := beq_iff_eq.2 hs
     rw [e, cbr_true]
     refine add_wide X0 Y0 (by omega) (fun c1 c2 => ?_)
     refine fin_of (by omega) (by omega) g1 (by omega) ⟨by omega, b2⟩ ⟨by omega, d2⟩ (outA_congr k ?_ ?_)
     · by_cases h1 : a < 0
       · have h2 : c < 0 := by simpa [h1] using hs.symm
         rw [if_pos h1, if_pos h2]; omega
       · have h2 : ¬ c < 0 := by simpa [h1] using hs.symm
         rw [if_neg h1, if_neg h2]; omega
     · intro h0
       by_cases h1 : a < 0
       · have h2 : c < 0 := by simpa [h1] using hs.symm
         rw [if_pos h1, if_pos h2, decide_eq_true h1, decide_eq_true (by omega)]
       · have h2 : ¬ c < 0 := by simpa [h1] using hs.symm
         rw [if_neg h1, if_neg h2, decide_eq_false h1, decide_eq_false (by omega)]
   · have e : (decide (a < 0) == decide (c < 0)) = false := beq_eq_false_iff_ne.2 hs
     rw [e, cbr_false]
     have h12 : (a < 0 ∧ ¬ c < 0) ∨ (¬ a < 0 ∧ c < 0) := by
       by_cases h1 : a < 0 <;> by_cases h2 : c < 0 <;> simp [h1, h2] at hs ⊢
     by_cases hlt : X < Y
     · have kk : outA (!decide (a < 0)) (Y - X) b d g K := by
         refine outA_congr k ?_ ?_
         · rcases h12 with ⟨h1, h2⟩ | ⟨h1, h2⟩
           · rw [if_pos h1, if_neg h2]; omega
           · rw [if_neg h1, if_pos h2]; omega
         · intro h0
           rcases h12 with ⟨h1, h2⟩ | ⟨h1, h2⟩
           · rw [if_pos h1, if_neg h2, decide_eq_true h1, decide_eq_false (by omega)]; rfl
           · rw [if_neg h1, if_pos h2, decide_eq_false h1, decide_eq_true (by omega)]; rfl
       by_cases h1 : X / 18446744073709551616 < Y / 18446744073709551616
       · rw [decide_eq_true h1, cbr_true]
         refine sub_wide X0 (by omega) (by omega) (fun c1 c2 => ?_)
         exact fin_of (by omega) (by omega) g1 (by omega) ⟨by omega, b2⟩ ⟨by omega, d2⟩ kk
       · have e1 : (X / 18446744073709551616 == Y / 18446744073709551616) = true := beq_iff_eq.2 (by omega)
         rw [decide_eq_false h1, cbr_false, e1, cbr_true, decide_eq_true (show X % 18446744073709551616 < Y % 18446744073709551616 by have := beq_iff_eq.1 e1; omega), cbr_true]
         refine sub_wide X0 (by omega) (by omega) (fun c1 c2 => ?_)
         exact fin_of (by omega) (by omega) g1 (by omega) ⟨by omega, b2⟩ ⟨by omega, d2⟩ kk
     · have kk : outA (decide (a < 0)) (X - Y) b d g K := by
         refine outA_congr k ?_ ?_
         · rcases h12 with ⟨h1, h2⟩ | ⟨h1, h2⟩
           · rw [if_pos h1, if_neg h2]; omega
           · rw [if_neg h1, if_pos h2]; omega
         · intro h0
           rcases h12 with ⟨h1, h2⟩ | ⟨h1, h2⟩
           · rw [if_pos h1, if_neg h2, decide_eq_true h1, decide_eq_true (by omega)]
           · rw [if_neg h1, if_pos h2, decide_eq_false h1, decide_eq_false (by omega)]
       have h1 : ¬ X / 18446744073709551616 < Y / 18446744073709551616 := by omega
       rw [decide_eq_false h1, cbr_false]
       cases e1 : (X / 18446744073709551616 == Y / 18446744073709551616)
       · rw [cbr_false]
         refine sub_wide Y0 (by omega) (by omega) (fun c1 c2 => ?_)
         exact fin_of (by omega) (by omega) g1 (by omega) ⟨by omega, b2⟩ ⟨by omega, d2⟩ kk
       · rw [cbr_true, decide_eq_false (show ¬ X % 18446744073709551616 < Y % 18446744073709551616 by have := beq_iff_eq.1 e1; omega), cbr_false]
         refine sub_wide Y0 (by omega) (by omega) (fun c1 c2 => ?_)
         exact fin_of (by omega) (by omega) g1 (by omega) ⟨by omega, b2⟩ ⟨by omega, d2⟩ kk
 · rw [if_neg h] at k
   have : (chk2 a b c d != (0 : Int)) = true := by rw [bne_iff_ne]; exact h
   rw [this, cbr_true]
   exact k
end Go.Pf.Vc
namespace Go.Pf.Vc
open Go Go.Pf
theorem RV.neg {c d : Int} (h : RV c d) : RV (-c) d := by
 obtain ⟨d1, d2, c1, c2, g⟩ := h
 exact ⟨d1, d2, by omega, by omega, by rw [Int.natAbs_neg]; exact g⟩
end Go.Pf.Vc
namespace Go.Pf.Vc
open Go Go.Pf
def ints (l : List Int) : List PV := l.map (PV.int .i64)
theorem ints_len (l : List Int) : (ints l).length = l.length := List.length_map ..
theorem ints_at {l : List Int} {i : Nat} (h : i < l.length) : List.getD (ints l) i .nils = .int .i64 (l.getD i 0) := by
 unfold ints
 rw [List.getD_eq_getElem?_getD, List.getD_eq_getElem?_getD, List.getElem?_map, List.getElem?_eq_getElem h]
 rfl
theorem asr_of {c : Bool} {P : Prop} (h : c = true) (p : P) : asr c P := by rw [h, asr_true]; exact p
end Go.Pf.Vc
namespace Go.Pf.Vc
open Go Go.Pf
def incr (l : List Int) (i : Nat) : Prop := ∀ j, i ≤ j → j + 1 < l.length → l.getD j 0 < l.getD (j + 1) 0
end Go.Pf.Vc
namespace Go.Pf.Vc
open Go Go.Pf
def small (q : Rat) : Prop := -1000000000000000000 ≤ q.num ∧ q.num ≤ 1000000000000000000 ∧ (q.den : Int) ≤ 1000000000000000000
instance (q : Rat) : Decidable (small q) := by unfold small; infer_instance
theorem small.rv {q : Rat} (h : small q) : RV q.num q.den := by
 obtain ⟨h1, h2, h3⟩ := h
 have := q.den_pos
 exact ⟨by omega, h3, h1, h2, q.reduced⟩
theorem rv_rat {n d : Int} (h : RV n d) : ∃ q : Rat, small q ∧ q.num = n ∧ (q.den : Int) = d := by
 obtain ⟨h1, h2, h3, h4, h5⟩ := h
 refine ⟨⟨n, d.toNat, by omega, ?_⟩, ⟨h3, h4, by show ((d.toNat : Nat) : Int) ≤ _; omega⟩, rfl, by show ((d.toNat : Nat) : Int) = _; omega⟩
 have : d.natAbs = d.toNat := by omega
 rw [this] at h5
 exact h5
theorem small.i1 {q : Rat} (h : small q) : I64 q.num := ⟨by have := h.1; omega, by have := h.2.1; omega⟩
theorem small.i2 {q : Rat} (h : small q) : I64 (q.den : Int) := ⟨by omega, by have := h.2.2; omega⟩
theorem small_chk2 {q r : Rat} (h : small q) (k : small r) : chk2 q.num q.den r.num r.den = 0 := chk2_zero.2 ⟨h.rv, k.rv⟩
def fitK (q : Rat) (K : Int → Int → Int → Prop) : Prop := if small q then K q.num q.den 0 else K 0 0 16
theorem outS_fit {q : Rat} {s : Bool} {a b : Int} (ha : a = (q.num.natAbs : Int)) (hb : b = (q.den : Int)) (hs : q.num ≠ 0 → s = decide (q.num < 0)) (K : Int → Int → Int → Prop) : outS s a b K = fitK q K := by
 unfold outS fitK
 subst ha hb
 by_cases h : small q
 · have h' := h
   obtain ⟨h1, h2, h3⟩ := h
   rw [if_pos (show _ ∧ _ from ⟨by omega, h3⟩), if_pos h']
   have e : (if s = true then -((q.num.natAbs : Nat) : Int) else ((q.num.natAbs : Nat) : Int)) = q.num := by
     by_cases h0 : q.num = 0
     · rw [h0]; cases s <;> rfl
     · rw [hs h0]
       by_cases h1 : q.num < 0
       · rw [decide_eq_true h1, if_pos rfl]; omega
       · rw [decide_eq_false h1, if_neg (by simp)]; omega
   rw [e]
 · rw [if_neg h, if_neg]
   intro h2
   exact h ⟨by omega, by omega, h2.2⟩
theorem dvd_gcd_l (x : Int) (d : Nat) : ((Nat.gcd x.natAbs d : Nat) : Int) ∣ x := by
 rw [← Int.dvd_natAbs, Int.ofNat_dvd]; exact Nat.gcd_dvd_left _ _
theorem det_fit {w : (Int → Int → Int → Prop) → Prop} {q : Rat} (det : ∀ r0 r1 r2, (∀ K : Int → Int → Int → Prop, K r0 r1 r2 → w K) → ∀ K, w K = K r0 r1 r2) (h : ∀ K, fitK q K → w K) (K : Int → Int → Int → Prop) : w K = fitK q K := by
 unfold fitK at h ⊢
 by_cases hs : small q
 · simp only [if_pos hs] at h ⊢
   exact det _ _ _ h K
 · simp only [if_neg hs] at h ⊢
   exact det _ _ _ h K
end Go.Pf.Vc
namespace Go.Pf.Vc
open Go Go.Pf
theorem add_parts (q r : Rat) : (q + r).num = (q.num * (r.den / Nat.gcd q.den r.den : Nat) + r.num * (q.den / Nat.gcd q.den r.den : Nat)) / (Nat.gcd (q.num * (r.den / Nat.gcd q.den r.den : Nat) + r.num * (q.den / Nat.gcd q.den r.den : Nat)).natAbs (Nat.gcd q.den r.den) : Nat) ∧
   (q + r).den = (q.den / Nat.gcd q.den r.den) * r.den / Nat.gcd (q.num * (r.den / Nat.gcd q.den r.den : Nat) + r.num * (q.den / Nat.gcd q.den r.den : Nat)).natAbs (Nat.gcd q.den r.den) := by
 have e : q + r = Rat.add q r := rfl
 rw [e]
 delta Rat.add
 by_cases hg : q.den.gcd r.den = 1
 · simp only [hg, dif_pos, Nat.div_one, Nat.gcd_one_right, Int.natCast_one, Int.ediv_one, and_self]
 · simp only [hg, dif_neg, not_false_eq_true, Rat.maybeNormalize_eq]
   constructor
   · first | rfl | simp only [Int.divExact_eq_tdiv]
   · first | rfl | simp only []
theorem outA_fit {q r : Rat} {Z : Int} {g : Nat} (e1 : (q + r).num = Z / (Nat.gcd Z.natAbs g : Nat)) (e2 : (q + r).den = (q.den / g) * r.den / Nat.gcd Z.natAbs g) (hgp : 0 < g) (hgd : g ∣ r.den) (K : Int → Int → Int → Prop) :
   outA (decide (Z < 0)) (Z.natAbs : Int) q.den r.den g K = fitK (q + r) K := by
 unfold outA
 by_cases h0 : Z = 0
 · subst h0
   have : (q + r) = 0 := by
     apply Rat.num_eq_zero.1
     rw [e1]; simp
   rw [this, if_pos (by rfl)]
   unfold fitK
   rw [if_pos (by decide)]; rfl
 · have hne : ¬ ((Z.natAbs : Nat) : Int) = 0 := by omega
   rw [if_neg hne]
   have hdv : ((Nat.gcd Z.natAbs g : Nat) : Int) ∣ Z := dvd_gcd_l _ _
   have hhp : 0 < Nat.gcd Z.natAbs g := Nat.gcd_pos_of_pos_right _ hgp
   have hhg : Nat.gcd Z.natAbs g ∣ r.den := Nat.dvd_trans (Nat.gcd_dvd_right _ _) hgd
   refine outS_fit ?_ ?_ ?_ K
   · rw [e1, Int.natAbs_ediv_of_dvd hdv]; simp
   · rw [e2]; simp only [Int.toNat_natCast]; rw [Nat.mul_div_assoc _ hhg]
   · intro h
     rw [e1]
     obtain ⟨k, hk⟩ := hdv
     revert hhp hk
     generalize Nat.gcd Z.natAbs g = h
     intro hhp hk
     have e : Z / (h : Int) = k := by rw [hk, Int.mul_ediv_cancel_left _ (by omega)]
     rw [e]
     have : Z < 0 ↔ k < 0 := by
       rw [hk]
       constructor
       · intro hk; refine Int.not_le.1 fun hk2 => ?_
         have := Int.mul_nonneg (show 0 ≤ (h : Int) by omega) hk2
         omega
       · intro hk; exact Int.mul_neg_of_pos_of_neg (by omega) hk
     simp only [this]
theorem add_fit (q r : Rat) (K : Int → Int → Int → Prop) :
   outA (decide (q.num * ((r.den : Int) / (Nat.gcd (q.den : Int).natAbs (r.den : Int).natAbs : Nat)) + r.num * ((q.den : Int) / (Nat.gcd (q.den : Int).natAbs (r.den : Int).natAbs : Nat)) < 0))
     ((q.num * ((r.den : Int) / (Nat.gcd (q.den : Int).natAbs (r.den : Int).natAbs : Nat)) + r.num * ((q.den : Int) / (Nat.gcd (q.den : Int).natAbs (r.den : Int).natAbs : Nat))).natAbs : Int) q.den r.den (Nat.gcd (q.den : Int).natAbs (r.den : Int).natAbs) K = fitK (q + r) K := by
 obtain ⟨e1, e2⟩ := add_parts q r
 rw [Int.natCast_ediv, Int.natCast_ediv] at e1 e2
 exact outA_fit e1 e2 (Nat.gcd_pos_of_pos_left _ q.den_pos) (Nat.gcd_dvd_right _ _) K
theorem rAdd_eq {q r : Rat} (hq : small q) (hr : small r) (K : Int → Int → Int → Prop) : w_ratio_Add q.num q.den r.num r.den K = fitK (q + r) K :=
 det_fit (fun r0 r1 r2 h K => det_ratio_Add _ _ _ _ r0 r1 r2 h K) (fun K k => Add_of hq.i1 hq.i2 hr.i1 hr.i2 (by rw [if_pos (small_chk2 hq hr), add_fit]; exact k)) K
theorem make_fit {n d : Int} (hd : d ≠ 0) (K : Int → Int → Int → Prop) : outS (decide (n < 0) != decide (d < 0)) ((n.natAbs / Nat.gcd n.natAbs d.natAbs : Nat) : Int) ((d.natAbs / Nat.gcd n.natAbs d.natAbs : Nat) : Int) K = fitK ((n : Rat) / (d : Rat)) K := by
 have e : (n : Rat) / (d : Rat) = mkRat (if d < 0 then -n else n) d.natAbs := by
   rw [Rat.mkRat_eq_div]
   split
   · rename_i h
     have h1 : ((d.natAbs : Nat) : Int) = -d := by omega
     have h2 : ((d.natAbs : Nat) : Rat) = -(d : Rat) := by rw [← Rat.intCast_natCast, h1, Rat.intCast_neg]
     rw [h2, Rat.intCast_neg]
     have h3 : (d : Rat) ≠ 0 := fun e => hd (Rat.intCast_eq_zero_iff.1 e)
     grind
   · rename_i h
     have h1 : ((d.natAbs : Nat) : Int) = d := by omega
     have h2 : ((d.natAbs : Nat) : Rat) = (d : Rat) := by rw [← Rat.intCast_natCast, h1]
     rw [h2]
 have h0 : d.natAbs ≠ 0 := by omega
 have hab : (if d < 0 then -n else n).natAbs = n.natAbs := by split <;> omega
 rw [e]
 refine outS_fit ?_ ?_ ?_ K
 · rw [Rat.num_mkRat, if_neg h0, hab, Int.natAbs_ediv_of_dvd, Int.natAbs_natCast, hab, Nat.gcd_comm]
   rw [← Int.dvd_natAbs, Int.ofNat_dvd, hab]; exact Nat.gcd_dvd_right _ _
 · rw [Rat.den_mkRat, if_neg h0, hab, Nat.gcd_comm]
 · rw [Rat.num_mkRat, if_neg h0, hab]
   have hdv : ((Nat.gcd d.natAbs n.natAbs : Nat) : Int) ∣ (if d < 0 then -n else n) := by
     rw [← Int.dvd_natAbs, Int.ofNat_dvd, hab]; exact Nat.gcd_dvd_right _ _
   have hp : 0 < Nat.gcd d.natAbs n.natAbs := Nat.gcd_pos_of_pos_left _ (by omega)
   obtain ⟨k, hk⟩ := hdv
   rw [hk, Int.mul_ediv_cancel_left _ (by omega)]
   intro hk0
   generalize Nat.gcd d.natAbs n.natAbs = g at *
   have h1 : (g : Int) * k < 0 ↔ k < 0 := by
     constructor
     · intro hk; refine Int.not_le.1 fun hk2 => ?_
       have := Int.mul_nonneg (show 0 ≤ (g : Int) by omega) hk2
       omega
     · intro hk; exact Int.mul_neg_of_pos_of_neg (by omega) hk
   have h2 : (g : Int) * k ≠ 0 := fun e => by rcases Int.mul_eq_zero.1 e with e | e <;> omega
   by_cases hd2 : d < 0
   · rw [if_pos hd2] at hk
     by_cases hn : n < 0
     · have : ¬ k < 0 := by omega
       simp [hd2, hn, this]
     · have : k < 0 := by omega
       simp [hd2, this]; omega
   · rw [if_neg hd2] at hk
     by_cases hn : n < 0
     · have : k < 0 := by omega
       simp [hd2, hn, this]
     · have : ¬ k < 0 := by omega
       simp [hd2, this]; omega
theorem rMake_eq {n d : Int} (hn : I64 n) (hd : I64 d) (h0 : d ≠ 0) (K : Int → Int → Int → Prop) : w_ratio_Make n d K = fitK ((n : Rat) / (d : Rat)) K :=
 det_fit (fun r0 r1 r2 h K => det_ratio_Make _ _ r0 r1 r2 h K) (fun K k => Make_of hn hd (by rw [if_neg h0, make_fit h0]; exact k)) K
def cmpQ (q r : Rat) : Int := if q < r then -1 else if r < q then 1 else 0
theorem cmpR_eq (q r : Rat) : cmpR q.num q.den r.num r.den = cmpQ q r := by
 unfold cmpR cmp3 cmpQ
 simp only [Rat.lt_iff]
theorem rCmp_eq {q r : Rat} (hq : small q) (hr : small r) (K : Int → Int → Prop) : w_ratio_Cmp q.num q.den r.num r.den K = K (cmpQ q r) 0 :=
 det_ratio_Cmp _ _ _ _ _ _ (fun K k => Cmp_of hq.i1 hq.i2 hr.i1 hr.i2 (by rw [small_chk2 hq hr, if_pos rfl, cmpR_eq]; exact k)) K
theorem rCheck_eq {n d : Int} (hn : I64 n) (hd : I64 d) (K : Int → Prop) : w_ratio_Check n d K = K (chk n d) :=
 det_ratio_Check _ _ _ (fun _ k => Check_of hn hd k) K
end Go.Pf.Vc
namespace Go.Pf.Vc
open Go Go.Pf
theorem sAbs_eq {p : Int} (h : I64 p) (K : Int → Prop) : w_r01_abs p K = K (p.natAbs : Int) := by
 unfold I64 at h
 unfold w_r01_abs wv_r01_abs
 by_cases hp : p < 0
 · have e0 : IntKind.i64.wrap (p + 1) = p + 1 := wi64 ⟨by omega, by omega⟩
   have e1 : IntKind.i64.wrap ((0 : Int) - (p + 1)) = -(p + 1) := by rw [wi64 ⟨by omega, by omega⟩]; omega
   have e2 : IntKind.u64.wrap (-(p + 1)) = -(p + 1) := wu64 ⟨by omega, by omega⟩
   have e3 : IntKind.u64.wrap (-(p + 1) + 1) = (p.natAbs : Int) := by rw [wu64 ⟨by omega, by omega⟩]; omega
   rw [decide_eq_true hp, cbr_true, e0, e1, e2, e3]
 · rw [decide_eq_false hp, cbr_false, wu64 ⟨by omega, by omega⟩]
   congr 1
   omega
theorem sgcd_loop (x : Int → Int → Bool → Prop) : ∀ (n a b : Nat), b < n → L_r01_gcd_0_0 x n (a : Int) (b : Int) = x ((Nat.gcd a b : Nat) : Int) 0 false
 | 0, a, b, h => by omega
 | n + 1, a, b, h => by
   unfold L_r01_gcd_0_0
   by_cases hb : b = 0
   · subst hb
     simp [cbr]
   · have h1 : ((b : Int) != 0) = true := by simp; omega
     have h2 : ¬ ((b : Int) = 0) := by omega
     rw [h1, cbr_true, decide_eq_false h2, Bool.not_false, asr_true]
     have e : Int.tmod (a : Int) (b : Int) = ((a % b : Nat) : Int) := by rw [Int.tmod_eq_emod_of_nonneg (by omega)]; omega
     rw [e, sgcd_loop x n b (a % b) (by have := Nat.mod_lt a (show b > 0 by omega); omega)]
     rw [Nat.gcd_comm a b, Nat.gcd_rec b a, Nat.gcd_comm]
theorem sgcd_eq (a b : Nat) (K : Int → Prop) : w_r01_gcd (a : Int) (b : Int) K = K ((Nat.gcd a b : Nat) : Int) := by
 refine det_r01_gcd _ _ _ (fun K h => ?_) K
 unfold w_r01_gcd wv_r01_gcd
 exact ⟨b + 1, by rw [sgcd_loop _ (b + 1) a b (by omega)]; exact h⟩
theorem bne_f {a b : Int} (h : a = b) : (a != b) = false := by simp [h]
theorem bne_t {a b : Int} (h : a ≠ b) : (a != b) = true := by simp [h]
theorem beq_f {a b : Int} (h : a ≠ b) : (a == b) = false := by simp [h]
theorem beq_t {a b : Int} (h : a = b) : (a == b) = true := by simp [h]
theorem sCheck_eq {n d : Int} (hn : I64 n) (_ : I64 d) (K : Int → Prop) : w_r01_Check n d K = K (chk n d) := by
 unfold w_r01_Check wv_r01_Check
 by_cases h1 : d < 1
 · rw [decide_eq_true h1, cbr_true, chk, if_neg (fun h => by have := h.1; omega)]
 · rw [decide_eq_false h1, cbr_false]
   by_cases h2 : d > 1000000000000000000
   · rw [decide_eq_true h2, cbr_true, chk, if_neg (fun h => by have := h.2.1; omega)]
   · rw [decide_eq_false h2, cbr_false]
     by_cases h3 : n < -1000000000000000000
     · rw [decide_eq_true h3, cbr_true, chk, if_neg (fun h => by have := h.2.2.1; omega)]
     · rw [decide_eq_false h3, cbr_false]
       by_cases h4 : n > 1000000000000000000
       · rw [decide_eq_true h4, cbr_true, chk, if_neg (fun h => by have := h.2.2.2.1; omega)]
       · have ed : IntKind.u64.wrap d = ((d.natAbs : Nat) : Int) := by rw [wu64 ⟨by omega, by omega⟩]; omega
         rw [decide_eq_false h4, cbr_false, sAbs_eq hn, ed, sgcd_eq]
         by_cases h5 : Nat.gcd n.natAbs d.natAbs = 1
         · rw [h5, bne_f (by rfl), cbr_false, chk, if_pos ⟨by omega, by omega, by omega, by omega, h5⟩]
         · rw [bne_t (by omega), cbr_true, chk, if_neg (fun h => h5 h.2.2.2.2)]
theorem sBoth_eq {a b c d : Int} (ha : I64 a) (hb : I64 b) (hc : I64 c) (hd : I64 d) (K : Int → Prop) : w_r01_Both a b c d K = K (chk2 a b c d) := by
 unfold w_r01_Both wv_r01_Both
 rw [sCheck_eq ha hb, sCheck_eq ha hb, sCheck_eq hc hd, chk2]
 by_cases h : chk a b = 0
 · rw [bne_f h, cbr_false, if_pos h]
 · rw [bne_t h, cbr_true, if_neg h]
theorem or32 {m s : Int} (_ : 0 ≤ m) (hs : 0 ≤ s ∧ s < 4294967296) : IntKind.u64.wrap (BitVec.ofInt IntKind.u64.bits (IntKind.u64.wrap (m * 4294967296)) ||| BitVec.ofInt IntKind.u64.bits s).toNat = m % 4294967296 * 4294967296 + s := by
 have e : IntKind.u64.wrap (m * 4294967296) = m % 4294967296 * 2 ^ 32 := by rw [wu64']; omega
 rw [e, or_eq (k := 32) (by omega) ⟨hs.1, by omega⟩ ⟨by omega, by omega⟩ (by omega)]
 omega
theorem times_eq {a b : Int} (ha : U64 a) (hb : U64 b) (K : Int → Int → Prop) : w_r01_times a b K = K (a * b / 18446744073709551616) (a * b % 18446744073709551616) := by
 unfold w_r01_times wv_r01_times
 simp only [fdiv32]
 rw [mask32 ha, mask32 hb]
 unfold U64 at ha hb
 have ha' := ha; have hb' := hb
 obtain ⟨x1, hx1⟩ : ∃ x, x = a / 4294967296 := ⟨_, rfl⟩
 obtain ⟨x0, hx0⟩ : ∃ x, x = a % 4294967296 := ⟨_, rfl⟩
 obtain ⟨y1, hy1⟩ : ∃ x, x = b / 4294967296 := ⟨_, rfl⟩
 obtain ⟨y0, hy0⟩ : ∃ x, x = b % 4294967296 := ⟨_, rfl⟩
 rw [← hx1, ← hx0, ← hy1, ← hy0]
 have b1 : 0 ≤ x1 ∧ x1 ≤ 4294967295 := by omega
 have b2 : 0 ≤ x0 ∧ x0 ≤ 4294967295 := by omega
 have b3 : 0 ≤ y1 ∧ y1 ≤ 4294967295 := by omega
 have b4 : 0 ≤ y0 ∧ y0 ≤ 4294967295 := by omega
 have pb : ∀ x y : Int, 0 ≤ x ∧ x ≤ 4294967295 → 0 ≤ y ∧ y ≤ 4294967295 → 0 ≤ x * y ∧ x * y ≤ 18446744065119617025 := by
   intro x y hx hy
   refine ⟨Int.mul_nonneg hx.1 hy.1, ?_⟩
   have := Int.mul_le_mul hx.2 hy.2 hy.1 (by omega : (0 : Int) ≤ 4294967295)
   omega
 have p1 := pb x1 y1 b1 b3
 have p2 := pb x1 y0 b1 b4
 have p3 := pb x0 y1 b2 b3
 have p4 := pb x0 y0 b2 b4
 have ea : a = x1 * 4294967296 + x0 := by omega
 have eb : b = y1 * 4294967296 + y0 := by omega
 have eab : a * b = x1 * y1 * 18446744073709551616 + x1 * y0 * 4294967296 + x0 * y1 * 4294967296 + x0 * y0 := by
   rw [ea, eb]; grind
 obtain ⟨P, hP⟩ : ∃ x, x = x1 * y1 := ⟨_, rfl⟩
 obtain ⟨Q, hQ⟩ : ∃ x, x = x1 * y0 := ⟨_, rfl⟩
 obtain ⟨R, hR⟩ : ∃ x, x = x0 * y1 := ⟨_, rfl⟩
 obtain ⟨S, hS⟩ : ∃ x, x = x0 * y0 := ⟨_, rfl⟩
 rw [← hP] at p1; rw [← hQ] at p2; rw [← hR] at p3; rw [← hS] at p4
 rw [← hP, ← hQ, ← hR, ← hS] at eab ⊢
 have w1 : IntKind.u64.wrap S = S := wu64 ⟨by omega, by omega⟩
 have w2 : IntKind.u64.wrap Q = Q := wu64 ⟨by omega, by omega⟩
 have w3 : IntKind.u64.wrap R = R := wu64 ⟨by omega, by omega⟩
 have w4 : IntKind.u64.wrap P = P := wu64 ⟨by omega, by omega⟩
 rw [w1, w2, w3, w4, mask32 (p := Q) ⟨by omega, by omega⟩, mask32 (p := S) ⟨by omega, by omega⟩]
 have w5 : IntKind.u64.wrap (Q % 4294967296 + R) = Q % 4294967296 + R := wu64 ⟨by omega, by omega⟩
 rw [w5]
 have w6 : IntKind.u64.wrap (Q % 4294967296 + R + S / 4294967296) = Q % 4294967296 + R + S / 4294967296 := wu64 ⟨by omega, by omega⟩
 rw [w6, or32 (by omega) ⟨by omega, by omega⟩]
 have hab : a * b ≤ 18446744073709551615 * 18446744073709551615 := Int.mul_le_mul ha'.2 hb'.2 hb'.1 (by omega : (0 : Int) ≤ 18446744073709551615)
 rw [eab] at hab ⊢
 have w7 : IntKind.u64.wrap (P + Q / 4294967296) = P + Q / 4294967296 := wu64 ⟨by omega, by omega⟩
 rw [w7, wu64 ⟨by omega, by omega⟩]
 congr 1 <;> omega
theorem lessW_eq {X Y : Int} (_ : 0 ≤ X) (_ : 0 ≤ Y) (K : Bool → Prop) :
   w_r01_less (X / 18446744073709551616) (X % 18446744073709551616) (Y / 18446744073709551616) (Y % 18446744073709551616) K = K (decide (X < Y)) := by
 unfold w_r01_less wv_r01_less
 by_cases h : X / 18446744073709551616 < Y / 18446744073709551616
 · rw [decide_eq_true h, cbr_true, decide_eq_true (by omega)]
 · rw [decide_eq_false h, cbr_false]
   by_cases h2 : X / 18446744073709551616 = Y / 18446744073709551616
   · rw [beq_t h2, cbr_true]
     congr 1
     rw [decide_eq_decide]; omega
   · rw [beq_f h2, cbr_false, decide_eq_false (by omega)]
end Go.Pf.Vc
namespace Go.Pf.Vc
open Go Go.Pf
theorem wuN {n : Nat} (h : (n : Int) ≤ 18446744073709551615) : IntKind.u64.wrap (n : Int) = n := wu64 ⟨by omega, h⟩
theorem times_nat {a b : Nat} (ha : a ≤ 18446744073709551615) (hb : b ≤ 18446744073709551615) (K : Int → Int → Prop) :
   w_r01_times (a : Int) (b : Int) K = K (((a * b : Nat) : Int) / 18446744073709551616) (((a * b : Nat) : Int) % 18446744073709551616) := by
 rw [times_eq ⟨by omega, by omega⟩ ⟨by omega, by omega⟩, Int.natCast_mul]
theorem small.neg {q : Rat} (hq : small q) : small (-q) := by
 obtain ⟨a1, a2, a3⟩ := hq
 unfold small
 rw [Rat.neg_num, Rat.neg_den]
 omega
theorem sLess_eq {q r : Rat} (hq : small q) (hr : small r) (K : Bool → Prop) : w_r01_Less q.num q.den r.num r.den K = K (decide (q < r)) := by
 unfold w_r01_Less wv_r01_Less
 have hq' := hq; have hr' := hr
 obtain ⟨a1, a2, a3⟩ := hq
 obtain ⟨b1, b2, b3⟩ := hr
 have dq := q.den_pos
 have dr := r.den_pos
 have e : decide (q < r) = decide (q.num * r.den < r.num * q.den) := by rw [decide_eq_decide]; exact Rat.lt_iff q r
 rw [e]
 by_cases hs : (decide (q.num < 0) != decide (r.num < 0)) = true
 · rw [hs, cbr_true]
   by_cases h1 : q.num < 0
   · have h2 : ¬ r.num < 0 := by simpa [h1] using hs
     have p1 : q.num * r.den < 0 := Int.mul_neg_of_neg_of_pos h1 (by omega)
     have p2 : 0 ≤ r.num * q.den := Int.mul_nonneg (by omega) (by omega)
     rw [decide_eq_true h1, decide_eq_true (by omega)]
   · have h2 : r.num < 0 := by simpa [h1] using hs
     have p1 : r.num * q.den < 0 := Int.mul_neg_of_neg_of_pos h2 (by omega)
     have p2 : 0 ≤ q.num * r.den := Int.mul_nonneg (by omega) (by omega)
     rw [decide_eq_false h1, decide_eq_false (by omega)]
 · have hs' : (decide (q.num < 0) != decide (r.num < 0)) = false := by simpa using hs
   rw [hs', cbr_false, sAbs_eq hq'.i1, wuN (by omega), times_nat (by omega) (by omega), sAbs_eq hr'.i1, wuN (by omega), times_nat (by omega) (by omega), lessW_eq (Int.natCast_nonneg _) (Int.natCast_nonneg _), lessW_eq (Int.natCast_nonneg _) (Int.natCast_nonneg _), Int.natCast_mul, Int.natCast_mul]
   by_cases h1 : q.num < 0
   · have h2 : r.num < 0 := by simpa [h1] using hs'
     rw [decide_eq_true h1, cbr_true, show ((q.num.natAbs : Nat) : Int) = -q.num by omega, show ((r.num.natAbs : Nat) : Int) = -r.num by omega, Int.neg_mul, Int.neg_mul]
     congr 1
     rw [decide_eq_decide]; omega
   · have h2 : ¬ r.num < 0 := by simpa [h1] using hs'
     rw [decide_eq_false h1, cbr_false, show ((q.num.natAbs : Nat) : Int) = q.num by omega, show ((r.num.natAbs : Nat) : Int) = r.num by omega]
theorem sOf_eq (n : Int) (K : Int → Int → Prop) : w_r01_Of n K = K (n : Rat).num (n : Rat).den := rfl
end Go.Pf.Vc
namespace Go.Pf.Vc
open Go Go.Pf
theorem cbT {c : Prop} [Decidable c] {P Q : Prop} (h : c) : cbr (decide c) P Q = P := by rw [decide_eq_true h, cbr_true]
theorem cbF {c : Prop} [Decidable c] {P Q : Prop} (h : ¬ c) : cbr (decide c) P Q = Q := by rw [decide_eq_false h, cbr_false]
theorem cnT {a b : Int} {P Q : Prop} (h : a ≠ b) : cbr (a != b) P Q = P := by rw [bne_t h, cbr_true]
theorem cnF {a b : Int} {P Q : Prop} (h : a = b) : cbr (a != b) P Q = Q := by rw [bne_f h, cbr_false]
theorem ceT {a b : Int} {P Q : Prop} (h : a = b) : cbr (a == b) P Q = P := by rw [beq_t h, cbr_true]
theorem ceF {a b : Int} {P Q : Prop} (h : a ≠ b) : cbr (a == b) P Q = Q := by rw [beq_f h, cbr_false]
theorem asT {c : Prop} [Decidable c] {P : Prop} (h : c) : asr (decide c) P = P := by rw [decide_eq_true h, asr_true]
theorem wib {n : Int} (h1 : -9223372036854775808 ≤ n) (h2 : n ≤ 9223372036854775807) : IntKind.i64.wrap n = n := wi64 ⟨h1, h2⟩
theorem cast1 (i : Nat) : (i : Int) + 1 = ((i + 1 : Nat) : Int) := by omega
theorem small_int {x : Int} (h : -1000000000000000000 ≤ x ∧ x ≤ 1000000000000000000) : small (x : Rat) := by
 unfold small
 rw [Rat.num_intCast, Rat.den_intCast]
 omega
def allD (dens : List Int) : Prop := ∀ d ∈ dens, 0 ≤ d ∧ d ≤ 12
def someD (dens : List Int) : Prop := ∃ d ∈ dens, 0 < d
instance (l : List Int) : Decidable (allD l) := by unfold allD; infer_instance
instance (l : List Int) : Decidable (someD l) := by unfold someD; infer_instance
def VC (len : Int) (cuts dens : List Int) : Prop :=
 1 ≤ len ∧ len ≤ 1000 ∧ 2 ≤ cuts.length ∧ cuts.length ≤ 40 ∧ dens.length + 1 = cuts.length ∧ cuts.getD 0 0 = 0 ∧ cuts.getD (cuts.length - 1) 0 = len ∧ incr cuts 0 ∧ allD dens ∧ someD dens
theorem incr_iff (l : List Int) : incr l 0 ↔ ∀ j, j < l.length → j + 1 < l.length → l.getD j 0 < l.getD (j + 1) 0 := ⟨fun h j _ h2 => h j (by omega) h2, fun h j _ h2 => h j (by omega) h2⟩
instance (l : List Int) : Decidable (incr l 0) := decidable_of_iff _ (incr_iff l).symm
instance (len : Int) (cuts dens : List Int) : Decidable (VC len cuts dens) := by unfold VC; infer_instance
def ckC (len : Int) (cuts dens : List Int) : Int := if len > 1000 ∨ cuts.length > 40 then 4 else if VC len cuts dens then 0 else 8
def PT (len : Int) (n d : Int) : Prop := RV n d ∧ 0 ≤ n ∧ n ≤ len * d
instance (len n d : Int) : Decidable (PT len n d) := by unfold PT; infer_instance
theorem PT_rat {len n d : Int} (h : PT len n d) : ∃ q : Rat, small q ∧ q.num = n ∧ (q.den : Int) = d ∧ 0 ≤ q ∧ q ≤ (len : Rat) := by
 obtain ⟨h1, h2, h3⟩ := h
 obtain ⟨q, e1, e2, e3⟩ := rv_rat h1
 refine ⟨q, e1, e2, e3, ?_, ?_⟩
 · rw [← Rat.num_nonneg, e2]; exact h2
 · rw [Rat.le_iff, e2, e3, Rat.num_intCast, Rat.den_intCast]; simpa using h3
theorem int_lt_iff (x : Int) (q : Rat) : ((x : Rat) < q) ↔ x * (q.den : Int) < q.num := by
 rw [Rat.lt_iff, Rat.num_intCast, Rat.den_intCast]; simp
end Go.Pf.Vc
namespace Go.Pf.Vc
open Go Go.Pf
section
variable {len : Int} {cuts dens : List Int}
theorem VC.step (h : VC len cuts dens) {i : Nat} (hi : i + 1 < cuts.length) : cuts.getD i 0 < cuts.getD (i + 1) 0 := h.2.2.2.2.2.2.2.1 i (Nat.zero_le _) hi
theorem VC.mono (h : VC len cuts dens) {i : Nat} : ∀ {j : Nat}, i ≤ j → j < cuts.length → cuts.getD i 0 ≤ cuts.getD j 0
 | 0, hij, _ => by have : i = 0 := by omega
                   subst this; exact Int.le_refl _
 | j + 1, hij, hj => by
   by_cases e : i = j + 1
   · subst e; exact Int.le_refl _
   · have h1 := h.mono (i := i) (j := j) (by omega) (by omega)
     have h2 := h.step (i := j) hj
     omega
theorem VC.lo (h : VC len cuts dens) {i : Nat} (hi : i < cuts.length) : 0 ≤ cuts.getD i 0 := by
 have := h.mono (Nat.zero_le i) hi
 rw [h.2.2.2.2.2.1] at this; exact this
theorem VC.hi (h : VC len cuts dens) {i : Nat} (hi : i < cuts.length) : cuts.getD i 0 ≤ len := by
 have := h.mono (i := i) (j := cuts.length - 1) (by omega) (by omega)
 rw [h.2.2.2.2.2.2.1] at this; exact this
theorem VC.den (h : VC len cuts dens) {i : Nat} (hi : i < dens.length) : 0 ≤ dens.getD i 0 ∧ dens.getD i 0 ≤ 12 := by
 rw [List.getD_eq_getElem?_getD, List.getElem?_eq_getElem hi]
 exact h.2.2.2.2.2.2.2.2.1 _ (List.getElem_mem hi)
theorem VC.l1 (h : VC len cuts dens) : dens.length + 1 = cuts.length := h.2.2.2.2.1
theorem VC.l2 (h : VC len cuts dens) : cuts.length ≤ 40 := h.2.2.2.1
theorem VC.len0 (h : VC len cuts dens) : 1 ≤ len ∧ len ≤ 1000 := ⟨h.1, h.2.1⟩
theorem VC.sc (h : VC len cuts dens) {i : Nat} (hi : i < cuts.length) : small ((cuts.getD i 0 : Int) : Rat) := small_int (by have := h.lo hi; have := h.hi hi; have := h.len0; omega)
def totS (cuts dens : List Int) : Nat → Nat → Int → Int
 | 0, _, s => s
 | r + 1, i, s => totS cuts dens r (i + 1) (s + dens.getD i 0 * (cuts.getD (i + 1) 0 - cuts.getD i 0))
def totC (cuts dens : List Int) : Int := totS cuts dens dens.length 0 0
def fit {α : Type} (q : Rat) (k : Rat → Except Int α) : Except Int α := if small q then k q else .error 16
def valS (cuts dens : List Int) (b : Rat) : Nat → Nat → Rat → Rat → Except Int Rat
 | 0, _, _, sum => .ok sum
 | r + 1, i, p, sum =>
   let en : Rat := if b < (cuts.getD (i + 1) 0 : Int) then b else (cuts.getD (i + 1) 0 : Int)
   if dens.getD i 0 = 0 ∨ ¬ p < en then valS cuts dens b r (i + 1) (if p < en then en else p) sum
   else fit (en - p) fun l => fit (l * (dens.getD i 0 : Int)) fun w => fit (sum + w) fun s => valS cuts dens b r (i + 1) en s
def valC (cuts dens : List Int) (a b : Rat) : Except Int Rat := valS cuts dens b dens.length 0 a 0
end
end Go.Pf.Vc
namespace Go.Pf.Vc
open Go Go.Pf
def rt (n d : Int) : Rat := mkRat n d.toNat
theorem rt_self (q : Rat) : rt q.num q.den = q := by unfold rt; rw [Int.toNat_natCast, Rat.mkRat_self]
theorem rt_of {n d : Int} (h : RV n d) : small (rt n d) ∧ (rt n d).num = n ∧ ((rt n d).den : Int) = d := by
 obtain ⟨q, h1, h2, h3⟩ := rv_rat h
 subst h2 h3
 rw [rt_self]; exact ⟨h1, rfl, rfl⟩
theorem PT.pt {len n d : Int} (h : PT len n d) : small (rt n d) ∧ (rt n d).num = n ∧ ((rt n d).den : Int) = d ∧ 0 ≤ rt n d ∧ rt n d ≤ (len : Rat) := by
 obtain ⟨q, h1, h2, h3, h4, h5⟩ := PT_rat h
 subst h2 h3
 rw [rt_self]; exact ⟨h1, rfl, rfl, h4, h5⟩
theorem PT_of {len : Int} {q : Rat} (h : small q) (h0 : 0 ≤ q) (h1 : q ≤ (len : Rat)) : PT len q.num q.den := by
 refine ⟨h.rv, Rat.num_nonneg.2 h0, ?_⟩
 rw [Rat.le_iff, Rat.num_intCast, Rat.den_intCast] at h1
 simpa using h1
section
variable {len : Int} {cuts dens : List Int}
def valR (len : Int) (cuts dens : List Int) (an ad bn bd : Int) : Except Int Rat :=
 if ckC len cuts dens = 0 then (if PT len an ad ∧ PT len bn bd ∧ ¬ rt bn bd < rt an ad then valC cuts dens (rt an ad) (rt bn bd) else .error 2) else .error (ckC len cuts dens)
end
end Go.Pf.Vc
namespace Go.Pf.Vc
open Go Go.Pf
section
variable {len : Int} {cuts dens : List Int}
theorem dPoint_eq (hl : -1000000000000000000 ≤ len ∧ len ≤ 1000000000000000000) {n d : Int} (hn : I64 n) (hd : I64 d) (K : Bool → Prop) :
   w_r02_Point len n d K = K (decide (PT len n d)) := by
 unfold w_r02_Point wv_r02_Point
 rw [sCheck_eq hn hd]
 by_cases h : RV n d
 · obtain ⟨q, e1, e2, e3⟩ := rv_rat h
   rw [chk, if_pos h, ceT rfl]
   by_cases h0 : n ≥ 0
   · rw [cbT h0, sOf_eq, ← e2, ← e3, sLess_eq (small_int hl) e1]
     congr 1
     have : ((len : Rat) < q) ↔ len * (q.den : Int) < q.num := int_lt_iff _ _
     by_cases h3 : (len : Rat) < q
     · have h4 := this.1 h3
       rw [decide_eq_true h3, decide_eq_false]; rfl
       intro hp; have := hp.2.2; omega
     · have h4 : ¬ _ := fun x => h3 (this.2 x)
       rw [decide_eq_false h3, decide_eq_true]; rfl
       exact ⟨e1.rv, by omega, by omega⟩
   · rw [cbF h0, decide_eq_false]
     intro hp; have := hp.2.1; omega
 · rw [chk, if_neg h, ceF (by decide), decide_eq_false]
   intro hp; exact h hp.1
end
end Go.Pf.Vc
namespace Go.Pf.Vc
open Go Go.Pf
section
variable {len : Int} {cuts dens : List Int}
theorem add_zero (q : Rat) : q + 0 = q := by grind
end
end Go.Pf.Vc
namespace Go.Pf.Vc
open Go Go.Pf
structure Ck where
 len : Int
 cuts : List Int
 dens : List Int
instance : Inhabited Ck := ⟨⟨0, [], []⟩⟩
def Ck.fin (c : Ck) : Prop := c.cuts.length < 4611686018427387904 ∧ c.dens.length < 4611686018427387904
def Ck.ok (c : Ck) : Prop := VC c.len c.cuts c.dens
instance (c : Ck) : Decidable c.ok := by unfold Ck.ok; infer_instance
theorem drop_cons {α : Type} {l : List α} {i : Nat} (d : α) (h : i < l.length) : l.drop i = l.getD i d :: l.drop (i + 1) := by
 rw [List.drop_eq_getElem_cons h, List.getD_eq_getElem?_getD, List.getElem?_eq_getElem h]; rfl
section
variable {l : List Ck}
def finC (l : List Ck) : Prop := ∀ i, i < l.length → (l.getD i default).fin
end
end Go.Pf.Vc
namespace Go.Pf.Vc
open Go Go.Pf
section
variable {l : List Ck}
structure DK (l : List Ck) : Prop where
 n6 : l.length ≤ 6
 n0 : 1 ≤ l.length
 ok : ∀ i, i < l.length → (l.getD i default).ok
 len : ∀ i, i < l.length → (l.getD i default).len = (l.getD 0 default).len
theorem DK.fin {l : List Ck} (h : DK l) : finC l := fun i hi => by
 have h1 := (h.ok i hi).l1; have h2 := (h.ok i hi).l2
 exact ⟨by omega, by omega⟩
def qrow (agent kind an ad bn bd cn cd : Int) : PV := .agg [.int .i64 agent, .int .u8 kind, .int .i64 an, .int .i64 ad, .int .i64 bn, .int .i64 bd, .int .i64 cn, .int .i64 cd]
def Ck.value (an ad bn bd : Int) (c : Ck) : Except Int Rat := valR c.len c.cuts c.dens an ad bn bd
end
end Go.Pf.Vc
namespace Go.Pf.Vc
open Go Go.Pf
section
variable {l : List Ck}
def shr (c : Ck) (n : Int) : Rat := (totC c.cuts c.dens : Rat) / (n : Rat)
theorem small_div {n d : Int} (hn : -1000000000000000000 ≤ n ∧ n ≤ 1000000000000000000) (hd : 1 ≤ d ∧ d ≤ 1000000000000000000) : small ((n : Rat) / (d : Rat)) := by
 have e : (n : Rat) / (d : Rat) = mkRat n d.toNat := by
   rw [Rat.mkRat_eq_div]
   have h1 : ((d.toNat : Nat) : Int) = d := by omega
   have h2 : ((d.toNat : Nat) : Rat) = (d : Rat) := by rw [← Rat.intCast_natCast, h1]
   rw [h2]
 rw [e]
 unfold small
 rw [Rat.num_mkRat, Rat.den_mkRat, if_neg (by omega), if_neg (by omega)]
 have g0 : 0 < d.toNat.gcd n.natAbs := Nat.gcd_pos_of_pos_left _ (by omega)
 have h1 : (n / (d.toNat.gcd n.natAbs : Nat)).natAbs ≤ n.natAbs := by
   rw [Int.natAbs_ediv_of_dvd, Int.natAbs_natCast]
   · exact Nat.div_le_self _ _
   · rw [← Int.dvd_natAbs, Int.ofNat_dvd]; exact Nat.gcd_dvd_right _ _
 have h2 : d.toNat / d.toNat.gcd n.natAbs ≤ d.toNat := Nat.div_le_self _ _
 generalize n / (d.toNat.gcd n.natAbs : Nat) = x at *
 generalize d.toNat / d.toNat.gcd n.natAbs = y at *
 omega
end
end Go.Pf.Vc
namespace Go.Pf.Vc
open Go Go.Pf
def Fr (D B : Int) (q : Rat) : Prop := ∃ n : Int, -B ≤ n ∧ n ≤ B ∧ q = (n : Rat) / (D : Rat)
theorem Fr.small {D B : Int} {q : Rat} (h : Fr D B q) (hD : 1 ≤ D ∧ D ≤ 1000000000000000000) (hB : B ≤ 1000000000000000000) : small q := by
 obtain ⟨n, h1, h2, rfl⟩ := h
 exact small_div ⟨by omega, by omega⟩ hD
theorem Fr.add {D B1 B2 : Int} {q r : Rat} (h : Fr D B1 q) (k : Fr D B2 r) : Fr D (B1 + B2) (q + r) := by
 obtain ⟨n, h1, h2, rfl⟩ := h
 obtain ⟨m, k1, k2, rfl⟩ := k
 exact ⟨n + m, by omega, by omega, by rw [Rat.intCast_add]; grind⟩
theorem Fr.sub {D B1 B2 : Int} {q r : Rat} (h : Fr D B1 q) (k : Fr D B2 r) : Fr D (B1 + B2) (q - r) := by
 obtain ⟨n, h1, h2, rfl⟩ := h
 obtain ⟨m, k1, k2, rfl⟩ := k
 exact ⟨n - m, by omega, by omega, by rw [Rat.intCast_sub]; grind⟩
theorem Fr.mono {D B1 B2 : Int} {q : Rat} (h : Fr D B1 q) (hb : B1 ≤ B2) : Fr D B2 q := by
 obtain ⟨n, h1, h2, e⟩ := h
 exact ⟨n, by omega, by omega, e⟩
section
variable {len : Int} {cuts dens : List Int}
def rem (cuts dens : List Int) : Nat → Nat → Int
 | 0, _ => 0
 | r + 1, i => dens.getD i 0 * (cuts.getD (i + 1) 0 - cuts.getD i 0) + rem cuts dens r (i + 1)
end
end Go.Pf.Vc
namespace Go.Pf.Vc
open Go Go.Pf
structure Qy where
 agent : Int
 kind : Int
 an : Int
 ad : Int
 bn : Int
 bd : Int
 cn : Int
 cd : Int
 deriving DecidableEq
instance : Inhabited Qy := ⟨⟨0, 0, 0, 0, 0, 0, 0, 0⟩⟩
def encQ (q : Qy) : PV := qrow q.agent q.kind q.an q.ad q.bn q.bd q.cn q.cd
def logs (l : List Qy) : List PV := l.map encQ
theorem logs_len (l : List Qy) : (logs l).length = l.length := List.length_map ..
theorem logs_at {l : List Qy} {i : Nat} (h : i < l.length) : List.getD (logs l) i .nils = encQ (l.getD i default) := by
 unfold logs
 rw [List.getD_eq_getElem?_getD, List.getD_eq_getElem?_getD, List.getElem?_map, List.getElem?_eq_getElem h]
 rfl
theorem asQ {q : Qy} {P : Prop} : asr (conf (.agg [.i .i64, .i .u8, .i .i64, .i .i64, .i .i64, .i .i64, .i .i64, .i .i64]) (encQ q)) P = P := rfl
structure Sp where
 a : Int
 b : Int
 c : Int
 d : Int
 deriving DecidableEq
instance : Inhabited Sp := ⟨⟨0, 0, 0, 0⟩⟩
def encS (s : Sp) : PV := .agg [.int .i64 s.a, .int .i64 s.b, .int .i64 s.c, .int .i64 s.d]
def spans (l : List Sp) : List PV := l.map encS
theorem spans_len (l : List Sp) : (spans l).length = l.length := List.length_map ..
theorem spans_at {l : List Sp} {i : Nat} (h : i < l.length) : List.getD (spans l) i .nils = encS (l.getD i default) := by
 unfold spans
 rw [List.getD_eq_getElem?_getD, List.getD_eq_getElem?_getD, List.getElem?_map, List.getElem?_eq_getElem h]
 rfl
theorem asS {s : Sp} {P : Prop} : asr (conf (.agg [.i .i64, .i .i64, .i .i64, .i .i64]) (encS s)) P = P := rfl
end Go.Pf.Vc
