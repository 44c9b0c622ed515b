/- Part 3 of what the statement rests on: a verified evaluator over pure values, the conditions of the program's functions, and their plain laws. -/
import Derived.Test.YtnbebjhmfpchcaaPkW2
namespace Go.Pf.Vc
open Go Go.Pf
set_option maxRecDepth 100000
mutual
def L_piece_Cut_0_0 (a0 : T_piece_Check) (a1 : T_ratio_Check) (a2 : T_piece_sooner) (a3 : T_piece_valid) (a4 : T_piece_later) (x0 : Int → Int → List PV → Int → Int → Bool → Prop) (x1 : List PV → List PV → Int → Int → List PV → Int → Int → Bool → Prop) (x2 : List PV → Int → Int → List PV → Int → Int → Bool → Prop) (x3 : List PV → Int → Int → List PV → Int → Int → Bool → Prop) (x4 : List PV → List PV → Int → Int → List PV → Int → Int → Bool → Prop) : Nat → Int → Int → List PV → Int → Int → Prop
 | 0, _, _, _, _, _ => False
 | n + 1, i0, i1, l2, i3, i4 =>
 (cbr (decide (i4 < i3))
 (asr (decide ((0 : Int) ≤ i4))
 (asr (decide (i4 < (((List.length l2) : Nat) : Int)))
 (lt (List.getD l2 (i4.toNat) .nils) (fun yr35 =>
 (asr (conf (.agg [.i .i64, .i .i64, .i .i64, .i .i64]) yr35)
 (a2 (intOfV (cellAt yr35 2)) (intOfV (cellAt yr35 3)) i0 i1 (fun yi44 yi45 => 
 (a3 (intOfV (cellAt yr35 0)) (intOfV (cellAt yr35 1)) yi44 yi45 (fun yb47 => 
 (cbr yb47
 (a4 (intOfV (cellAt yr35 0)) (intOfV (cellAt yr35 1)) i0 i1 (fun yi50 yi51 => 
 (a3 yi50 yi51 (intOfV (cellAt yr35 2)) (intOfV (cellAt yr35 3)) (fun yb53 => 
 (cbr yb53
 (lt (IntKind.i64.wrap (i4 + (1 : Int))) (fun yi54 =>
 (asr (decide (1 = List.length ([(.agg [(.int .i64 (intOfV (cellAt yr35 0))), (.int .i64 (intOfV (cellAt yr35 1))), (.int .i64 yi44), (.int .i64 yi45)])] : List PV)) && decide (1 = List.length ([(.agg [(.int .i64 (intOfV (cellAt yr35 0))), (.int .i64 (intOfV (cellAt yr35 1))), (.int .i64 yi44), (.int .i64 yi45)])] : List PV)) && decide (1 = List.length ([(.agg [(.int .i64 yi50), (.int .i64 yi51), (.int .i64 (intOfV (cellAt yr35 2))), (.int .i64 (intOfV (cellAt yr35 3)))])] : List PV)) && decide (1 = List.length ([(.agg [(.int .i64 yi50), (.int .i64 yi51), (.int .i64 (intOfV (cellAt yr35 2))), (.int .i64 (intOfV (cellAt yr35 3)))])] : List PV)))
 (L_piece_Cut_0_1 a0 a1 a2 a3 a4 x0 x1 x2 x3 x4 n ([(.agg [(.int .i64 (intOfV (cellAt yr35 0))), (.int .i64 (intOfV (cellAt yr35 1))), (.int .i64 yi44), (.int .i64 yi45)])] : List PV) ([(.agg [(.int .i64 yi50), (.int .i64 yi51), (.int .i64 (intOfV (cellAt yr35 2))), (.int .i64 (intOfV (cellAt yr35 3)))])] : List PV) i0 i1 l2 i3 yi54))))
 (lt (IntKind.i64.wrap (i4 + (1 : Int))) (fun yi103 =>
 (asr (decide (1 = List.length ([(.agg [(.int .i64 (intOfV (cellAt yr35 0))), (.int .i64 (intOfV (cellAt yr35 1))), (.int .i64 yi44), (.int .i64 yi45)])] : List PV)) && decide (1 = List.length ([(.agg [(.int .i64 (intOfV (cellAt yr35 0))), (.int .i64 (intOfV (cellAt yr35 1))), (.int .i64 yi44), (.int .i64 yi45)])] : List PV)))
 (L_piece_Cut_0_2 a0 a1 a2 a3 a4 x0 x1 x2 x3 x4 n ([(.agg [(.int .i64 (intOfV (cellAt yr35 0))), (.int .i64 (intOfV (cellAt yr35 1))), (.int .i64 yi44), (.int .i64 yi45)])] : List PV) i0 i1 l2 i3 yi103)))))))))
 (a4 (intOfV (cellAt yr35 0)) (intOfV (cellAt yr35 1)) i0 i1 (fun yi152 yi153 => 
 (a3 yi152 yi153 (intOfV (cellAt yr35 2)) (intOfV (cellAt yr35 3)) (fun yb155 => 
 (cbr yb155
 (lt (IntKind.i64.wrap (i4 + (1 : Int))) (fun yi156 =>
 (asr (decide (1 = List.length ([(.agg [(.int .i64 yi152), (.int .i64 yi153), (.int .i64 (intOfV (cellAt yr35 2))), (.int .i64 (intOfV (cellAt yr35 3)))])] : List PV)) && decide (1 = List.length ([(.agg [(.int .i64 yi152), (.int .i64 yi153), (.int .i64 (intOfV (cellAt yr35 2))), (.int .i64 (intOfV (cellAt yr35 3)))])] : List PV)))
 (L_piece_Cut_0_3 a0 a1 a2 a3 a4 x0 x1 x2 x3 x4 n ([(.agg [(.int .i64 yi152), (.int .i64 yi153), (.int .i64 (intOfV (cellAt yr35 2))), (.int .i64 (intOfV (cellAt yr35 3)))])] : List PV) i0 i1 l2 i3 yi156))))
 (lt (IntKind.i64.wrap (i4 + (1 : Int))) (fun yi264 =>
 (L_piece_Cut_0_0 a0 a1 a2 a3 a4 x0 x1 x2 x3 x4 n i0 i1 l2 i3 yi264))))))))))))))))))
 (x0 i0 i1 l2 i3 i4 false))
def L_piece_Cut_0_1 (a0 : T_piece_Check) (a1 : T_ratio_Check) (a2 : T_piece_sooner) (a3 : T_piece_valid) (a4 : T_piece_later) (x0 : Int → Int → List PV → Int → Int → Bool → Prop) (x1 : List PV → List PV → Int → Int → List PV → Int → Int → Bool → Prop) (x2 : List PV → Int → Int → List PV → Int → Int → Bool → Prop) (x3 : List PV → Int → Int → List PV → Int → Int → Bool → Prop) (x4 : List PV → List PV → Int → Int → List PV → Int → Int → Bool → Prop) : Nat → List PV → List PV → Int → Int → List PV → Int → Int → Prop
 | 0, _, _, _, _, _, _, _ => False
 | n + 1, l0, l1, i2, i3, l8, i9, i10 =>
 (cbr (decide (i10 < i9))
 (jn (fun (yj79 : List PV → List PV → Prop) =>
 (asr (decide ((0 : Int) ≤ i10))
 (asr (decide (i10 < (((List.length l8) : Nat) : Int)))
 (lt (List.getD l8 (i10.toNat) .nils) (fun yr82 =>
 (asr (conf (.agg [.i .i64, .i .i64, .i .i64, .i .i64]) yr82)
 (jn (fun (yj90 : List PV → Prop) =>
 (a2 (intOfV (cellAt yr82 2)) (intOfV (cellAt yr82 3)) i2 i3 (fun yi99 yi100 => 
 (a3 (intOfV (cellAt yr82 0)) (intOfV (cellAt yr82 1)) yi99 yi100 (fun yb102 => 
 (cbr yb102
 (asr (decide ((List.length l0) = (List.length l0)))
 (asr (decide ((0 + (List.length l0)) ≤ (List.length l0)))
 (asr (!(decide (((0 + (List.length l0)) + 1) ≤ (List.length l0))))
 (asr (decide ((List.length l0) = (List.length l0)))
 (asr (decide ((((List.length l0) + 1) + 64) * (32 + 1) ≤ room))
 (yj90 (l0 ++ ([(.agg [(.int .i64 (intOfV (cellAt yr82 0))), (.int .i64 (intOfV (cellAt yr82 1))), (.int .i64 yi99), (.int .i64 yi100)])] : List PV))))))))
 (yj90 l0)))))))
 (fun yl89 => (a4 (intOfV (cellAt yr82 0)) (intOfV (cellAt yr82 1)) i2 i3 (fun yi93 yi94 => 
 (a3 yi93 yi94 (intOfV (cellAt yr82 2)) (intOfV (cellAt yr82 3)) (fun yb96 => 
 (cbr yb96
 (asr (decide ((List.length l1) = (List.length l1)))
 (asr (decide ((0 + (List.length l1)) ≤ (List.length l1)))
 (asr (!(decide (((0 + (List.length l1)) + 1) ≤ (List.length l1))))
 (asr (decide ((List.length l1) = (List.length l1)))
 (asr (decide ((((List.length l1) + 1) + 64) * (32 + 1) ≤ room))
 (yj79 yl89 (l1 ++ ([(.agg [(.int .i64 yi93), (.int .i64 yi94), (.int .i64 (intOfV (cellAt yr82 2))), (.int .i64 (intOfV (cellAt yr82 3)))])] : List PV))))))))
 (yj79 yl89 l1))))))))))))))
 (fun yl77 yl78 => (lt (IntKind.i64.wrap (i10 + (1 : Int))) (fun yi80 =>
 (asr (decide ((List.length yl77) = List.length yl77) && decide ((List.length yl77) = List.length yl77) && decide ((List.length yl78) = List.length yl78) && decide ((List.length yl78) = List.length yl78))
 (L_piece_Cut_0_1 a0 a1 a2 a3 a4 x0 x1 x2 x3 x4 n yl77 yl78 i2 i3 l8 i9 yi80))))))
 (x1 l0 l1 i2 i3 l8 i9 i10 false))
def L_piece_Cut_0_2 (a0 : T_piece_Check) (a1 : T_ratio_Check) (a2 : T_piece_sooner) (a3 : T_piece_valid) (a4 : T_piece_later) (x0 : Int → Int → List PV → Int → Int → Bool → Prop) (x1 : List PV → List PV → Int → Int → List PV → Int → Int → Bool → Prop) (x2 : List PV → Int → Int → List PV → Int → Int → Bool → Prop) (x3 : List PV → Int → Int → List PV → Int → Int → Bool → Prop) (x4 : List PV → List PV → Int → Int → List PV → Int → Int → Bool → Prop) : Nat → List PV → Int → Int → List PV → Int → Int → Prop
 | 0, _, _, _, _, _, _ => False
 | n + 1, l0, i1, i2, l5, i6, i7 =>
 (cbr (decide (i7 < i6))
 (asr (decide ((0 : Int) ≤ i7))
 (asr (decide (i7 < (((List.length l5) : Nat) : Int)))
 (lt (List.getD l5 (i7.toNat) .nils) (fun yr127 =>
 (asr (conf (.agg [.i .i64, .i .i64, .i .i64, .i .i64]) yr127)
 (jn (fun (yj135 : List PV → Prop) =>
 (a2 (intOfV (cellAt yr127 2)) (intOfV (cellAt yr127 3)) i1 i2 (fun yi146 yi147 => 
 (a3 (intOfV (cellAt yr127 0)) (intOfV (cellAt yr127 1)) yi146 yi147 (fun yb149 => 
 (cbr yb149
 (asr (decide ((List.length l0) = (List.length l0)))
 (asr (decide ((0 + (List.length l0)) ≤ (List.length l0)))
 (asr (!(decide (((0 + (List.length l0)) + 1) ≤ (List.length l0))))
 (asr (decide ((List.length l0) = (List.length l0)))
 (asr (decide ((((List.length l0) + 1) + 64) * (32 + 1) ≤ room))
 (yj135 (l0 ++ ([(.agg [(.int .i64 (intOfV (cellAt yr127 0))), (.int .i64 (intOfV (cellAt yr127 1))), (.int .i64 yi146), (.int .i64 yi147)])] : List PV))))))))
 (yj135 l0)))))))
 (fun yl134 => (a4 (intOfV (cellAt yr127 0)) (intOfV (cellAt yr127 1)) i1 i2 (fun yi138 yi139 => 
 (a3 yi138 yi139 (intOfV (cellAt yr127 2)) (intOfV (cellAt yr127 3)) (fun yb141 => 
 (cbr yb141
 (lt (IntKind.i64.wrap (i7 + (1 : Int))) (fun yi142 =>
 (asr (decide ((List.length yl134) = List.length yl134) && decide ((List.length yl134) = List.length yl134) && decide (1 = List.length ([(.agg [(.int .i64 yi138), (.int .i64 yi139), (.int .i64 (intOfV (cellAt yr127 2))), (.int .i64 (intOfV (cellAt yr127 3)))])] : List PV)) && decide (1 = List.length ([(.agg [(.int .i64 yi138), (.int .i64 yi139), (.int .i64 (intOfV (cellAt yr127 2))), (.int .i64 (intOfV (cellAt yr127 3)))])] : List PV)))
 (L_piece_Cut_0_1 a0 a1 a2 a3 a4 x0 x1 x2 x3 x4 n yl134 ([(.agg [(.int .i64 yi138), (.int .i64 yi139), (.int .i64 (intOfV (cellAt yr127 2))), (.int .i64 (intOfV (cellAt yr127 3)))])] : List PV) i1 i2 l5 i6 yi142))))
 (lt (IntKind.i64.wrap (i7 + (1 : Int))) (fun yi143 =>
 (asr (decide ((List.length yl134) = List.length yl134) && decide ((List.length yl134) = List.length yl134))
 (L_piece_Cut_0_2 a0 a1 a2 a3 a4 x0 x1 x2 x3 x4 n yl134 i1 i2 l5 i6 yi143))))))))))))))))
 (x2 l0 i1 i2 l5 i6 i7 false))
def L_piece_Cut_0_3 (a0 : T_piece_Check) (a1 : T_ratio_Check) (a2 : T_piece_sooner) (a3 : T_piece_valid) (a4 : T_piece_later) (x0 : Int → Int → List PV → Int → Int → Bool → Prop) (x1 : List PV → List PV → Int → Int → List PV → Int → Int → Bool → Prop) (x2 : List PV → Int → Int → List PV → Int → Int → Bool → Prop) (x3 : List PV → Int → Int → List PV → Int → Int → Bool → Prop) (x4 : List PV → List PV → Int → Int → List PV → Int → Int → Bool → Prop) : Nat → List PV → Int → Int → List PV → Int → Int → Prop
 | 0, _, _, _, _, _, _ => False
 | n + 1, l0, i1, i2, l5, i6, i7 =>
 (cbr (decide (i7 < i6))
 (jn (fun (yj185 : List PV → List PV → Prop) =>
 (jn (fun (yj236 : List PV → Prop) =>
 (asr (decide ((0 : Int) ≤ i7))
 (asr (decide (i7 < (((List.length l5) : Nat) : Int)))
 (lt (List.getD l5 (i7.toNat) .nils) (fun yr239 =>
 (asr (conf (.agg [.i .i64, .i .i64, .i .i64, .i .i64]) yr239)
 (a2 (intOfV (cellAt yr239 2)) (intOfV (cellAt yr239 3)) i1 i2 (fun yi248 yi249 => 
 (a3 (intOfV (cellAt yr239 0)) (intOfV (cellAt yr239 1)) yi248 yi249 (fun yb251 => 
 (cbr yb251
 (a4 (intOfV (cellAt yr239 0)) (intOfV (cellAt yr239 1)) i1 i2 (fun yi254 yi255 => 
 (a3 yi254 yi255 (intOfV (cellAt yr239 2)) (intOfV (cellAt yr239 3)) (fun yb257 => 
 (cbr yb257
 (asr (decide ((List.length l0) = (List.length l0)))
 (asr (decide ((0 + (List.length l0)) ≤ (List.length l0)))
 (asr (!(decide (((0 + (List.length l0)) + 1) ≤ (List.length l0))))
 (asr (decide ((List.length l0) = (List.length l0)))
 (asr (decide ((((List.length l0) + 1) + 64) * (32 + 1) ≤ room))
 (yj185 (l0 ++ ([(.agg [(.int .i64 yi254), (.int .i64 yi255), (.int .i64 (intOfV (cellAt yr239 2))), (.int .i64 (intOfV (cellAt yr239 3)))])] : List PV)) ([(.agg [(.int .i64 (intOfV (cellAt yr239 0))), (.int .i64 (intOfV (cellAt yr239 1))), (.int .i64 yi248), (.int .i64 yi249)])] : List PV)))))))
 (yj185 l0 ([(.agg [(.int .i64 (intOfV (cellAt yr239 0))), (.int .i64 (intOfV (cellAt yr239 1))), (.int .i64 yi248), (.int .i64 yi249)])] : List PV)))))))
 (a4 (intOfV (cellAt yr239 0)) (intOfV (cellAt yr239 1)) i1 i2 (fun yi260 yi261 => 
 (a3 yi260 yi261 (intOfV (cellAt yr239 2)) (intOfV (cellAt yr239 3)) (fun yb263 => 
 (cbr yb263
 (asr (decide ((List.length l0) = (List.length l0)))
 (asr (decide ((0 + (List.length l0)) ≤ (List.length l0)))
 (asr (!(decide (((0 + (List.length l0)) + 1) ≤ (List.length l0))))
 (asr (decide ((List.length l0) = (List.length l0)))
 (asr (decide ((((List.length l0) + 1) + 64) * (32 + 1) ≤ room))
 (yj236 (l0 ++ ([(.agg [(.int .i64 yi260), (.int .i64 yi261), (.int .i64 (intOfV (cellAt yr239 2))), (.int .i64 (intOfV (cellAt yr239 3)))])] : List PV))))))))
 (yj236 l0)))))))))))))))))
 (fun yl235 => (lt (IntKind.i64.wrap (i7 + (1 : Int))) (fun yi237 =>
 (asr (decide ((List.length yl235) = List.length yl235) && decide ((List.length yl235) = List.length yl235))
 (L_piece_Cut_0_3 a0 a1 a2 a3 a4 x0 x1 x2 x3 x4 n yl235 i1 i2 l5 i6 yi237)))))))
 (fun yl183 yl184 => (lt (IntKind.i64.wrap (i7 + (1 : Int))) (fun yi186 =>
 (asr (decide ((List.length yl184) = List.length yl184) && decide ((List.length yl184) = List.length yl184) && decide ((List.length yl183) = List.length yl183) && decide ((List.length yl183) = List.length yl183))
 (L_piece_Cut_0_4 a0 a1 a2 a3 a4 x0 x1 x2 x3 x4 n yl183 yl184 i1 i2 l5 i6 yi186))))))
 (x3 l0 i1 i2 l5 i6 i7 false))
def L_piece_Cut_0_4 (a0 : T_piece_Check) (a1 : T_ratio_Check) (a2 : T_piece_sooner) (a3 : T_piece_valid) (a4 : T_piece_later) (x0 : Int → Int → List PV → Int → Int → Bool → Prop) (x1 : List PV → List PV → Int → Int → List PV → Int → Int → Bool → Prop) (x2 : List PV → Int → Int → List PV → Int → Int → Bool → Prop) (x3 : List PV → Int → Int → List PV → Int → Int → Bool → Prop) (x4 : List PV → List PV → Int → Int → List PV → Int → Int → Bool → Prop) : Nat → List PV → List PV → Int → Int → List PV → Int → Int → Prop
 | 0, _, _, _, _, _, _, _ => False
 | n + 1, l0, l1, i2, i3, l8, i9, i10 =>
 (cbr (decide (i10 < i9))
 (jn (fun (yj211 : List PV → List PV → Prop) =>
 (asr (decide ((0 : Int) ≤ i10))
 (asr (decide (i10 < (((List.length l8) : Nat) : Int)))
 (lt (List.getD l8 (i10.toNat) .nils) (fun yr214 =>
 (asr (conf (.agg [.i .i64, .i .i64, .i .i64, .i .i64]) yr214)
 (jn (fun (yj222 : List PV → Prop) =>
 (a2 (intOfV (cellAt yr214 2)) (intOfV (cellAt yr214 3)) i2 i3 (fun yi231 yi232 => 
 (a3 (intOfV (cellAt yr214 0)) (intOfV (cellAt yr214 1)) yi231 yi232 (fun yb234 => 
 (cbr yb234
 (asr (decide ((List.length l1) = (List.length l1)))
 (asr (decide ((0 + (List.length l1)) ≤ (List.length l1)))
 (asr (!(decide (((0 + (List.length l1)) + 1) ≤ (List.length l1))))
 (asr (decide ((List.length l1) = (List.length l1)))
 (asr (decide ((((List.length l1) + 1) + 64) * (32 + 1) ≤ room))
 (yj222 (l1 ++ ([(.agg [(.int .i64 (intOfV (cellAt yr214 0))), (.int .i64 (intOfV (cellAt yr214 1))), (.int .i64 yi231), (.int .i64 yi232)])] : List PV))))))))
 (yj222 l1)))))))
 (fun yl221 => (a4 (intOfV (cellAt yr214 0)) (intOfV (cellAt yr214 1)) i2 i3 (fun yi225 yi226 => 
 (a3 yi225 yi226 (intOfV (cellAt yr214 2)) (intOfV (cellAt yr214 3)) (fun yb228 => 
 (cbr yb228
 (asr (decide ((List.length l0) = (List.length l0)))
 (asr (decide ((0 + (List.length l0)) ≤ (List.length l0)))
 (asr (!(decide (((0 + (List.length l0)) + 1) ≤ (List.length l0))))
 (asr (decide ((List.length l0) = (List.length l0)))
 (asr (decide ((((List.length l0) + 1) + 64) * (32 + 1) ≤ room))
 (yj211 (l0 ++ ([(.agg [(.int .i64 yi225), (.int .i64 yi226), (.int .i64 (intOfV (cellAt yr214 2))), (.int .i64 (intOfV (cellAt yr214 3)))])] : List PV)) yl221))))))
 (yj211 l0 yl221))))))))))))))
 (fun yl209 yl210 => (lt (IntKind.i64.wrap (i10 + (1 : Int))) (fun yi212 =>
 (asr (decide ((List.length yl210) = List.length yl210) && decide ((List.length yl210) = List.length yl210) && decide ((List.length yl209) = List.length yl209) && decide ((List.length yl209) = List.length yl209))
 (L_piece_Cut_0_4 a0 a1 a2 a3 a4 x0 x1 x2 x3 x4 n yl209 yl210 i2 i3 l8 i9 yi212))))))
 (x4 l0 l1 i2 i3 l8 i9 i10 false))
end
def wv_piece_Cut (a0 : T_piece_Check) (a1 : T_ratio_Check) (a2 : T_piece_sooner) (a3 : T_piece_valid) (a4 : T_piece_later) (p0 : List PV) (p1 p2 : Int) (K : List PV → List PV → Int → Prop) : Prop :=
 (a0 p0 (fun yi3 => 
 (cbr (yi3 != (0 : Int))
 (K ([] : List PV) ([] : List PV) yi3)
 (a1 p1 p2 (fun yi7 => 
 (cbr (yi7 != (0 : Int))
 (K ([] : List PV) ([] : List PV) (2 : Int))
 (∃ n : Nat, L_piece_Cut_0_0 a0 a1 a2 a3 a4
 (fun _ _ _ _ _ _ => (K ([] : List PV) ([] : List PV) (0 : Int)))
 (fun yl307 yl308 _ _ _ _ _ _ => (asr (decide ((List.length yl307) = (List.length yl307)))
 (asr (decide ((0 + (List.length yl307)) ≤ (List.length yl307)))
 (asr (decide ((List.length yl308) = (List.length yl308)))
 (asr (decide ((0 + (List.length yl308)) ≤ (List.length yl308)))
 (K (List.take (List.length yl307) yl307) (List.take (List.length yl308) yl308) (0 : Int)))))))
 (fun yl315 _ _ _ _ _ _ => (asr (decide ((List.length yl315) = (List.length yl315)))
 (asr (decide ((0 + (List.length yl315)) ≤ (List.length yl315)))
 (K (List.take (List.length yl315) yl315) ([] : List PV) (0 : Int)))))
 (fun yl322 _ _ _ _ _ _ => (asr (decide ((List.length yl322) = (List.length yl322)))
 (asr (decide ((0 + (List.length yl322)) ≤ (List.length yl322)))
 (K ([] : List PV) (List.take (List.length yl322) yl322) (0 : Int)))))
 (fun yl329 yl330 _ _ _ _ _ _ => (asr (decide ((List.length yl330) = (List.length yl330)))
 (asr (decide ((0 + (List.length yl330)) ≤ (List.length yl330)))
 (asr (decide ((List.length yl329) = (List.length yl329)))
 (asr (decide ((0 + (List.length yl329)) ≤ (List.length yl329)))
 (K (List.take (List.length yl330) yl330) (List.take (List.length yl329) yl329) (0 : Int)))))))
 n p1 p2 p0 (((List.length p0) : Nat) : Int) (0 : Int))))))))
def w_piece_Cut (p0 : List PV) (p1 p2 : Int) (K : List PV → List PV → Int → Prop) : Prop := wv_piece_Cut w_piece_Check w_ratio_Check w_piece_sooner w_piece_valid w_piece_later p0 p1 p2 K
def pw_piece_Cut (w : T_piece_Cut) (as : List PV) (K : PV → Prop) : Prop :=
 match as with
 | [(.data p0), (.agg [(.int .i64 p1), (.int .i64 p2)])] => w p0 p1 p2 (fun r0 r1 r2 => K (.tup [(.data r0), (.data r1), (.int .i64 r2)]))
 | _ => False
def wp_piece_Cut (as : List PV) (K : PV → Prop) : Prop := pw_piece_Cut w_piece_Cut as K
def D_piece_Cut_0 (F : Frm) (H : Hp) (A0 : Int → Int → List PV → Int → Int → Prop) (A1 : List PV → List PV → Int → Int → List PV → Int → Int → Prop) (A2 : List PV → Int → Int → List PV → Int → Int → Prop) (A3 : List PV → Int → Int → List PV → Int → Int → Prop) (A4 : List PV → List PV → Int → Int → List PV → Int → Int → Prop) : Prop :=
 match F, H with
 | [(3, .box (.agg [(.int .i64 i0), (.int .i64 i1)])), (4, .v .nils), (5, .v .nils), (20, .v (.data l2)), (21, .v (.int .i64 i3)), (22, .v (.int .i64 i4))], [] => (A0 i0 i1 l2 i3 i4)
 | [(3, .box (.agg [(.int .i64 i2), (.int .i64 i3)])), (4, .v (.own 0 0 t4 t5 none)), (5, .v (.own 1 0 t6 t7 none)), (20, .v (.data l8)), (21, .v (.int .i64 i9)), (22, .v (.int .i64 i10))], [⟨false, true, 4, l0⟩, ⟨false, true, 4, l1⟩] => asr (decide (t4 = List.length l0) && decide (t5 = List.length l0) && decide (t6 = List.length l1) && decide (t7 = List.length l1)) (A1 l0 l1 i2 i3 l8 i9 i10)
 | [(3, .box (.agg [(.int .i64 i1), (.int .i64 i2)])), (4, .v (.own 0 0 t3 t4 none)), (5, .v .nils), (20, .v (.data l5)), (21, .v (.int .i64 i6)), (22, .v (.int .i64 i7))], [⟨false, true, 4, l0⟩] => asr (decide (t3 = List.length l0) && decide (t4 = List.length l0)) (A2 l0 i1 i2 l5 i6 i7)
 | [(3, .box (.agg [(.int .i64 i1), (.int .i64 i2)])), (4, .v .nils), (5, .v (.own 0 0 t3 t4 none)), (20, .v (.data l5)), (21, .v (.int .i64 i6)), (22, .v (.int .i64 i7))], [⟨false, true, 4, l0⟩] => asr (decide (t3 = List.length l0) && decide (t4 = List.length l0)) (A3 l0 i1 i2 l5 i6 i7)
 | [(3, .box (.agg [(.int .i64 i2), (.int .i64 i3)])), (4, .v (.own 1 0 t4 t5 none)), (5, .v (.own 0 0 t6 t7 none)), (20, .v (.data l8)), (21, .v (.int .i64 i9)), (22, .v (.int .i64 i10))], [⟨false, true, 4, l0⟩, ⟨false, true, 4, l1⟩] => asr (decide (t4 = List.length l1) && decide (t5 = List.length l1) && decide (t6 = List.length l0) && decide (t7 = List.length l0)) (A4 l0 l1 i2 i3 l8 i9 i10)
 | _, _ => False
def X_piece_Cut_0_0 (Q : Ex → Frm → Hp → Prop) : Int → Int → List PV → Int → Int → Bool → Prop := (fun i0 i1 l2 i3 i4 b5 => Q (.exit 0) [(3, .box (.agg [(.int .i64 i0), (.int .i64 i1)])), (4, .v .nils), (5, .v .nils), (20, .v (.data l2)), (21, .v (.int .i64 i3)), (22, .v (.int .i64 i4)), (23, .v (.bool b5))] [])
def X_piece_Cut_0_1 (Q : Ex → Frm → Hp → Prop) : List PV → List PV → Int → Int → List PV → Int → Int → Bool → Prop := (fun l0 l1 i2 i3 l8 i9 i10 b11 => Q (.exit 0) [(3, .box (.agg [(.int .i64 i2), (.int .i64 i3)])), (4, .v (.own 0 0 (List.length l0) (List.length l0) none)), (5, .v (.own 1 0 (List.length l1) (List.length l1) none)), (20, .v (.data l8)), (21, .v (.int .i64 i9)), (22, .v (.int .i64 i10)), (23, .v (.bool b11))] [⟨false, true, 4, l0⟩, ⟨false, true, 4, l1⟩])
def X_piece_Cut_0_2 (Q : Ex → Frm → Hp → Prop) : List PV → Int → Int → List PV → Int → Int → Bool → Prop := (fun l0 i1 i2 l5 i6 i7 b8 => Q (.exit 0) [(3, .box (.agg [(.int .i64 i1), (.int .i64 i2)])), (4, .v (.own 0 0 (List.length l0) (List.length l0) none)), (5, .v .nils), (20, .v (.data l5)), (21, .v (.int .i64 i6)), (22, .v (.int .i64 i7)), (23, .v (.bool b8))] [⟨false, true, 4, l0⟩])
def X_piece_Cut_0_3 (Q : Ex → Frm → Hp → Prop) : List PV → Int → Int → List PV → Int → Int → Bool → Prop := (fun l0 i1 i2 l5 i6 i7 b8 => Q (.exit 0) [(3, .box (.agg [(.int .i64 i1), (.int .i64 i2)])), (4, .v .nils), (5, .v (.own 0 0 (List.length l0) (List.length l0) none)), (20, .v (.data l5)), (21, .v (.int .i64 i6)), (22, .v (.int .i64 i7)), (23, .v (.bool b8))] [⟨false, true, 4, l0⟩])
def X_piece_Cut_0_4 (Q : Ex → Frm → Hp → Prop) : List PV → List PV → Int → Int → List PV → Int → Int → Bool → Prop := (fun l0 l1 i2 i3 l8 i9 i10 b11 => Q (.exit 0) [(3, .box (.agg [(.int .i64 i2), (.int .i64 i3)])), (4, .v (.own 1 0 (List.length l1) (List.length l1) none)), (5, .v (.own 0 0 (List.length l0) (List.length l0) none)), (20, .v (.data l8)), (21, .v (.int .i64 i9)), (22, .v (.int .i64 i10)), (23, .v (.bool b11))] [⟨false, true, 4, l0⟩, ⟨false, true, 4, l1⟩])
def R_piece_Cut_0 (a0 : T_piece_Check) (a1 : T_ratio_Check) (a2 : T_piece_sooner) (a3 : T_piece_valid) (a4 : T_piece_later) (Q : Ex → Frm → Hp → Prop) (n : Nat) (F : Frm) (H : Hp) : Prop := D_piece_Cut_0 F H (fun i0 i1 l2 i3 i4 => L_piece_Cut_0_0 a0 a1 a2 a3 a4 (X_piece_Cut_0_0 Q) (X_piece_Cut_0_1 Q) (X_piece_Cut_0_2 Q) (X_piece_Cut_0_3 Q) (X_piece_Cut_0_4 Q) n i0 i1 l2 i3 i4) (fun l0 l1 i2 i3 l8 i9 i10 => L_piece_Cut_0_1 a0 a1 a2 a3 a4 (X_piece_Cut_0_0 Q) (X_piece_Cut_0_1 Q) (X_piece_Cut_0_2 Q) (X_piece_Cut_0_3 Q) (X_piece_Cut_0_4 Q) n l0 l1 i2 i3 l8 i9 i10) (fun l0 i1 i2 l5 i6 i7 => L_piece_Cut_0_2 a0 a1 a2 a3 a4 (X_piece_Cut_0_0 Q) (X_piece_Cut_0_1 Q) (X_piece_Cut_0_2 Q) (X_piece_Cut_0_3 Q) (X_piece_Cut_0_4 Q) n l0 i1 i2 l5 i6 i7) (fun l0 i1 i2 l5 i6 i7 => L_piece_Cut_0_3 a0 a1 a2 a3 a4 (X_piece_Cut_0_0 Q) (X_piece_Cut_0_1 Q) (X_piece_Cut_0_2 Q) (X_piece_Cut_0_3 Q) (X_piece_Cut_0_4 Q) n l0 i1 i2 l5 i6 i7) (fun l0 l1 i2 i3 l8 i9 i10 => L_piece_Cut_0_4 a0 a1 a2 a3 a4 (X_piece_Cut_0_0 Q) (X_piece_Cut_0_1 Q) (X_piece_Cut_0_2 Q) (X_piece_Cut_0_3 Q) (X_piece_Cut_0_4 Q) n l0 l1 i2 i3 l8 i9 i10)
def lp_piece_Cut (a0 : T_piece_Check) (a1 : T_ratio_Check) (a2 : T_piece_sooner) (a3 : T_piece_valid) (a4 : T_piece_later) : LP := fun id F H Q =>
 bif Nat.beq id 4793600 then D_piece_Cut_0 F H (fun i0 i1 l2 i3 i4 => ∃ n : Nat, L_piece_Cut_0_0 a0 a1 a2 a3 a4 (X_piece_Cut_0_0 Q) (X_piece_Cut_0_1 Q) (X_piece_Cut_0_2 Q) (X_piece_Cut_0_3 Q) (X_piece_Cut_0_4 Q) n i0 i1 l2 i3 i4) (fun l0 l1 i2 i3 l8 i9 i10 => ∃ n : Nat, L_piece_Cut_0_1 a0 a1 a2 a3 a4 (X_piece_Cut_0_0 Q) (X_piece_Cut_0_1 Q) (X_piece_Cut_0_2 Q) (X_piece_Cut_0_3 Q) (X_piece_Cut_0_4 Q) n l0 l1 i2 i3 l8 i9 i10) (fun l0 i1 i2 l5 i6 i7 => ∃ n : Nat, L_piece_Cut_0_2 a0 a1 a2 a3 a4 (X_piece_Cut_0_0 Q) (X_piece_Cut_0_1 Q) (X_piece_Cut_0_2 Q) (X_piece_Cut_0_3 Q) (X_piece_Cut_0_4 Q) n l0 i1 i2 l5 i6 i7) (fun l0 i1 i2 l5 i6 i7 => ∃ n : Nat, L_piece_Cut_0_3 a0 a1 a2 a3 a4 (X_piece_Cut_0_0 Q) (X_piece_Cut_0_1 Q) (X_piece_Cut_0_2 Q) (X_piece_Cut_0_3 Q) (X_piece_Cut_0_4 Q) n l0 i1 i2 l5 i6 i7) (fun l0 l1 i2 i3 l8 i9 i10 => ∃ n : Nat, L_piece_Cut_0_4 a0 a1 a2 a3 a4 (X_piece_Cut_0_0 Q) (X_piece_Cut_0_1 Q) (X_piece_Cut_0_2 Q) (X_piece_Cut_0_3 Q) (X_piece_Cut_0_4 Q) n l0 l1 i2 i3 l8 i9 i10) else
 False
def S0_piece_Cut (e : List (Nat × EffF)) (a0 : T_piece_Check) (a1 : T_ratio_Check) (a2 : T_piece_sooner) (a3 : T_piece_valid) (a4 : T_piece_later) : SE := ⟨(E e), lookS [(n_piece_Check, pw_piece_Check a0), (n_ratio_Check, pw_ratio_Check a1), (n_piece_sooner, pw_piece_sooner a2), (n_piece_valid, pw_piece_valid a3), (n_piece_later, pw_piece_later a4)], lookI [], lp_piece_Cut a0 a1 a2 a3 a4⟩
theorem se0_piece_Cut (e : List (Nat × EffF)) (he : EG e) : SEOk (S0_piece_Cut e w_piece_Check w_ratio_Check w_piece_sooner w_piece_valid w_piece_later) := seOk_of ⟨(ok_piece_Check e he), (ok_ratio_Check e he), (ok_piece_sooner e he), (ok_piece_valid e he), (ok_piece_later e he), trivial⟩ trivial he.ok
theorem body_piece_Cut_0_0 (e : List (Nat × EffF)) (a0 a1 a2 a3 a4 Q n i0 i1 l2 i3 i4) : WC (E e) (callW (S0_piece_Cut e a0 a1 a2 a3 a4) 5) (lp_piece_Cut a0 a1 a2 a3 a4) b_4793600 [(3, .box (.agg [(.int .i64 i0), (.int .i64 i1)])), (4, .v .nils), (5, .v .nils), (20, .v (.data l2)), (21, .v (.int .i64 i3)), (22, .v (.int .i64 i4))] [] (fun x F' H' => match x with | .norm => R_piece_Cut_0 a0 a1 a2 a3 a4 Q n F' H' | .exit i => Q (.exit i) F' H' | .ret => Q .ret F' H') = L_piece_Cut_0_0 a0 a1 a2 a3 a4 (X_piece_Cut_0_0 Q) (X_piece_Cut_0_1 Q) (X_piece_Cut_0_2 Q) (X_piece_Cut_0_3 Q) (X_piece_Cut_0_4 Q) (n + 1) i0 i1 l2 i3 i4 := by kernel_rfl
theorem body_piece_Cut_0_1 (e : List (Nat × EffF)) (a0 a1 a2 a3 a4 Q n l0 l1 i2 i3 l8 i9 i10) : WC (E e) (callW (S0_piece_Cut e a0 a1 a2 a3 a4) 5) (lp_piece_Cut a0 a1 a2 a3 a4) b_4793600 [(3, .box (.agg [(.int .i64 i2), (.int .i64 i3)])), (4, .v (.own 0 0 (List.length l0) (List.length l0) none)), (5, .v (.own 1 0 (List.length l1) (List.length l1) none)), (20, .v (.data l8)), (21, .v (.int .i64 i9)), (22, .v (.int .i64 i10))] [⟨false, true, 4, l0⟩, ⟨false, true, 4, l1⟩] (fun x F' H' => match x with | .norm => R_piece_Cut_0 a0 a1 a2 a3 a4 Q n F' H' | .exit i => Q (.exit i) F' H' | .ret => Q .ret F' H') = L_piece_Cut_0_1 a0 a1 a2 a3 a4 (X_piece_Cut_0_0 Q) (X_piece_Cut_0_1 Q) (X_piece_Cut_0_2 Q) (X_piece_Cut_0_3 Q) (X_piece_Cut_0_4 Q) (n + 1) l0 l1 i2 i3 l8 i9 i10 := by kernel_rfl
theorem body_piece_Cut_0_2 (e : List (Nat × EffF)) (a0 a1 a2 a3 a4 Q n l0 i1 i2 l5 i6 i7) : WC (E e) (callW (S0_piece_Cut e a0 a1 a2 a3 a4) 5) (lp_piece_Cut a0 a1 a2 a3 a4) b_4793600 [(3, .box (.agg [(.int .i64 i1), (.int .i64 i2)])), (4, .v (.own 0 0 (List.length l0) (List.length l0) none)), (5, .v .nils), (20, .v (.data l5)), (21, .v (.int .i64 i6)), (22, .v (.int .i64 i7))] [⟨false, true, 4, l0⟩] (fun x F' H' => match x with | .norm => R_piece_Cut_0 a0 a1 a2 a3 a4 Q n F' H' | .exit i => Q (.exit i) F' H' | .ret => Q .ret F' H') = L_piece_Cut_0_2 a0 a1 a2 a3 a4 (X_piece_Cut_0_0 Q) (X_piece_Cut_0_1 Q) (X_piece_Cut_0_2 Q) (X_piece_Cut_0_3 Q) (X_piece_Cut_0_4 Q) (n + 1) l0 i1 i2 l5 i6 i7 := by kernel_rfl
theorem body_piece_Cut_0_3 (e : List (Nat × EffF)) (a0 a1 a2 a3 a4 Q n l0 i1 i2 l5 i6 i7) : WC (E e) (callW (S0_piece_Cut e a0 a1 a2 a3 a4) 5) (lp_piece_Cut a0 a1 a2 a3 a4) b_4793600 [(3, .box (.agg [(.int .i64 i1), (.int .i64 i2)])), (4, .v .nils), (5, .v (.own 0 0 (List.length l0) (List.length l0) none)), (20, .v (.data l5)), (21, .v (.int .i64 i6)), (22, .v (.int .i64 i7))] [⟨false, true, 4, l0⟩] (fun x F' H' => match x with | .norm => R_piece_Cut_0 a0 a1 a2 a3 a4 Q n F' H' | .exit i => Q (.exit i) F' H' | .ret => Q .ret F' H') = L_piece_Cut_0_3 a0 a1 a2 a3 a4 (X_piece_Cut_0_0 Q) (X_piece_Cut_0_1 Q) (X_piece_Cut_0_2 Q) (X_piece_Cut_0_3 Q) (X_piece_Cut_0_4 Q) (n + 1) l0 i1 i2 l5 i6 i7 := by kernel_rfl
theorem body_piece_Cut_0_4 (e : List (Nat × EffF)) (a0 a1 a2 a3 a4 Q n l0 l1 i2 i3 l8 i9 i10) : WC (E e) (callW (S0_piece_Cut e a0 a1 a2 a3 a4) 5) (lp_piece_Cut a0 a1 a2 a3 a4) b_4793600 [(3, .box (.agg [(.int .i64 i2), (.int .i64 i3)])), (4, .v (.own 1 0 (List.length l1) (List.length l1) none)), (5, .v (.own 0 0 (List.length l0) (List.length l0) none)), (20, .v (.data l8)), (21, .v (.int .i64 i9)), (22, .v (.int .i64 i10))] [⟨false, true, 4, l0⟩, ⟨false, true, 4, l1⟩] (fun x F' H' => match x with | .norm => R_piece_Cut_0 a0 a1 a2 a3 a4 Q n F' H' | .exit i => Q (.exit i) F' H' | .ret => Q .ret F' H') = L_piece_Cut_0_4 a0 a1 a2 a3 a4 (X_piece_Cut_0_0 Q) (X_piece_Cut_0_1 Q) (X_piece_Cut_0_2 Q) (X_piece_Cut_0_3 Q) (X_piece_Cut_0_4 Q) (n + 1) l0 l1 i2 i3 l8 i9 i10 := by kernel_rfl
theorem lpb_piece_Cut_0 (e : List (Nat × EffF)) (_ : EG e) : LpOk (E e) (lp_piece_Cut w_piece_Check w_ratio_Check w_piece_sooner w_piece_valid w_piece_later) b_4793600 := (LpOk_no (by kernel_rfl))
theorem loop_piece_Cut_0 (e : List (Nat × EffF)) (he : EG e) : ∀ F H Q, lp_piece_Cut w_piece_Check w_ratio_Check w_piece_sooner w_piece_valid w_piece_later 4793600 F H Q → LoopT (E e) b_4793600 F H Q := by
 intro F H Q h
 have go := LoopT.intro (callW_ok (se0_piece_Cut e he) 5) (lpb_piece_Cut_0 e he) (R_piece_Cut_0 w_piece_Check w_ratio_Check w_piece_sooner w_piece_valid w_piece_later Q) (by
   intro F H h
   unfold R_piece_Cut_0 D_piece_Cut_0 at h
   split at h
   · exact h
   · obtain ⟨hg, k⟩ := asr_iff.1 h
     clear h
     have h := k
     clear k
     try simp only [Bool.and_eq_true, decide_eq_true_eq] at hg
     obtain ⟨⟨⟨g0, g1⟩, g2⟩, g3⟩ := hg; subst g0; subst g1; subst g2; subst g3; exact h
   · obtain ⟨hg, k⟩ := asr_iff.1 h
     clear h
     have h := k
     clear k
     try simp only [Bool.and_eq_true, decide_eq_true_eq] at hg
     obtain ⟨g0, g1⟩ := hg; subst g0; subst g1; exact h
   · obtain ⟨hg, k⟩ := asr_iff.1 h
     clear h
     have h := k
     clear k
     try simp only [Bool.and_eq_true, decide_eq_true_eq] at hg
     obtain ⟨g0, g1⟩ := hg; subst g0; subst g1; exact h
   · obtain ⟨hg, k⟩ := asr_iff.1 h
     clear h
     have h := k
     clear k
     try simp only [Bool.and_eq_true, decide_eq_true_eq] at hg
     obtain ⟨⟨⟨g0, g1⟩, g2⟩, g3⟩ := hg; subst g0; subst g1; subst g2; subst g3; exact h
   · exact h) (by
   intro n F H h
   unfold R_piece_Cut_0 D_piece_Cut_0 at h
   split at h
   · exact (body_piece_Cut_0_0 ..).mpr h
   · obtain ⟨hg, k⟩ := asr_iff.1 h
     clear h
     have h := k
     clear k
     try simp only [Bool.and_eq_true, decide_eq_true_eq] at hg
     obtain ⟨⟨⟨g0, g1⟩, g2⟩, g3⟩ := hg; subst g0; subst g1; subst g2; subst g3; exact (body_piece_Cut_0_1 ..).mpr h
   · obtain ⟨hg, k⟩ := asr_iff.1 h
     clear h
     have h := k
     clear k
     try simp only [Bool.and_eq_true, decide_eq_true_eq] at hg
     obtain ⟨g0, g1⟩ := hg; subst g0; subst g1; exact (body_piece_Cut_0_2 ..).mpr h
   · obtain ⟨hg, k⟩ := asr_iff.1 h
     clear h
     have h := k
     clear k
     try simp only [Bool.and_eq_true, decide_eq_true_eq] at hg
     obtain ⟨g0, g1⟩ := hg; subst g0; subst g1; exact (body_piece_Cut_0_3 ..).mpr h
   · obtain ⟨hg, k⟩ := asr_iff.1 h
     clear h
     have h := k
     clear k
     try simp only [Bool.and_eq_true, decide_eq_true_eq] at hg
     obtain ⟨⟨⟨g0, g1⟩, g2⟩, g3⟩ := hg; subst g0; subst g1; subst g2; subst g3; exact (body_piece_Cut_0_4 ..).mpr h
   · exact h.elim)
 have h : D_piece_Cut_0 F H _ _ _ _ _ := h
 unfold D_piece_Cut_0 at h
 split at h
 · obtain ⟨n, h⟩ := h; exact go n _ _ h
 · obtain ⟨hg, n, h⟩ := asr_iff.1 h; exact go n _ _ (asr_iff.2 ⟨hg, h⟩)
 · obtain ⟨hg, n, h⟩ := asr_iff.1 h; exact go n _ _ (asr_iff.2 ⟨hg, h⟩)
 · obtain ⟨hg, n, h⟩ := asr_iff.1 h; exact go n _ _ (asr_iff.2 ⟨hg, h⟩)
 · obtain ⟨hg, n, h⟩ := asr_iff.1 h; exact go n _ _ (asr_iff.2 ⟨hg, h⟩)
 · exact h.elim
theorem eq_piece_Cut (e : List (Nat × EffF)) (a0 a1 a2 a3 a4 p0 p1 p2 K) : WP (S0_piece_Cut e a0 a1 a2 a3 a4) 6 t_piece_Cut [(.data p0), (.agg [(.int .i64 p1), (.int .i64 p2)])] K = wv_piece_Cut a0 a1 a2 a3 a4 p0 p1 p2 (fun r0 r1 r2 => K (.tup [(.data r0), (.data r1), (.int .i64 r2)])) := by kernel_rfl
theorem ok_piece_Cut (e : List (Nat × EffF)) (he : EG e) : OkF (E e) wp_piece_Cut n_piece_Cut := by
 intro as K h
 unfold wp_piece_Cut pw_piece_Cut at h
 split at h
 · exact WP_ok (se0_piece_Cut e he) (LpOk_by (l := [(4793600, b_4793600)]) ⟨loop_piece_Cut_0 e he, trivial⟩ (by kernel_rfl)) (by kernel_rfl) (by kernel_rfl) (fun _ => baseS_none (by kernel_rfl) _) (he.num _ (by kernel_rfl)) ((eq_piece_Cut ..).mpr h)
 · exact h.elim
end Go.Pf.Vc
namespace Go.Pf.Vc
open Go Go.Pf
set_option linter.unusedVariables false
theorem det_piece_valid (p0 : Int) (p1 : Int) (p2 : Int) (p3 : Int) (r0 : Bool) (h : ∀ K : Bool → Prop, K r0 → w_piece_valid p0 p1 p2 p3 K) (K : Bool → Prop) : w_piece_valid p0 p1 p2 p3 K = K r0 :=
 propext ⟨fun k => detC (ok_piece_valid [] effG_nil) (as := [(.agg [(.int .i64 p0), (.int .i64 p1), (.int .i64 p2), (.int .i64 p3)])]) (x := (.bool r0)) (fun K' k' => h (fun r0 => K' (.bool r0)) k') (K := fun x => match x with | (.bool r0) => K r0 | _ => False) k, h K⟩
theorem det_piece_all (p0 : List PV) (r0 : Int) (h : ∀ K : Int → Prop, K r0 → w_piece_all p0 K) (K : Int → Prop) : w_piece_all p0 K = K r0 :=
 propext ⟨fun k => detC (ok_piece_all [] effG_nil) (as := [(.data p0)]) (x := (.int .i64 r0)) (fun K' k' => h (fun r0 => K' (.int .i64 r0)) k') (K := fun x => match x with | (.int .i64 r0) => K r0 | _ => False) k, h K⟩
theorem det_piece_merged (p0 : List PV) (r0 : List PV) (h : ∀ K : List PV → Prop, K r0 → w_piece_merged p0 K) (K : List PV → Prop) : w_piece_merged p0 K = K r0 :=
 propext ⟨fun k => detC ok_piece_merged (as := [(.data p0)]) (x := (.data r0)) (fun K' k' => h (fun r0 => K' (.data r0)) k') (K := fun x => match x with | (.data r0) => K r0 | _ => False) k, h K⟩
theorem det_piece_Check (p0 : List PV) (r0 : Int) (h : ∀ K : Int → Prop, K r0 → w_piece_Check p0 K) (K : Int → Prop) : w_piece_Check p0 K = K r0 :=
 propext ⟨fun k => detC (ok_piece_Check [] effG_nil) (as := [(.data p0)]) (x := (.int .i64 r0)) (fun K' k' => h (fun r0 => K' (.int .i64 r0)) k') (K := fun x => match x with | (.int .i64 r0) => K r0 | _ => False) k, h K⟩
theorem det_piece_Has (p0 : List PV) (p1 : Int) (p2 : Int) (r0 : Bool) (r1 : Int) (h : ∀ K : Bool → Int → Prop, K r0 r1 → w_piece_Has p0 p1 p2 K) (K : Bool → Int → Prop) : w_piece_Has p0 p1 p2 K = K r0 r1 :=
 propext ⟨fun k => detC (ok_piece_Has [] effG_nil) (as := [(.data p0), (.agg [(.int .i64 p1), (.int .i64 p2)])]) (x := (.tup [(.bool r0), (.int .i64 r1)])) (fun K' k' => h (fun r0 r1 => K' (.tup [(.bool r0), (.int .i64 r1)])) k') (K := fun x => match x with | (.tup [(.bool r0), (.int .i64 r1)]) => K r0 r1 | _ => False) k, h K⟩
theorem det_piece_Minus (p0 : List PV) (p1 : List PV) (r0 : List PV) (r1 : Int) (h : ∀ K : List PV → Int → Prop, K r0 r1 → w_piece_Minus p0 p1 K) (K : List PV → Int → Prop) : w_piece_Minus p0 p1 K = K r0 r1 :=
 propext ⟨fun k => detC (ok_piece_Minus [] effG_nil) (as := [(.data p0), (.data p1)]) (x := (.tup [(.data r0), (.int .i64 r1)])) (fun K' k' => h (fun r0 r1 => K' (.tup [(.data r0), (.int .i64 r1)])) k') (K := fun x => match x with | (.tup [(.data r0), (.int .i64 r1)]) => K r0 r1 | _ => False) k, h K⟩
theorem det_piece_Length (p0 : List PV) (r0 : Int) (r1 : Int) (r2 : Int) (h : ∀ K : Int → Int → Int → Prop, K r0 r1 r2 → w_piece_Length p0 K) (K : Int → Int → Int → Prop) : w_piece_Length p0 K = K r0 r1 r2 :=
 propext ⟨fun k => detC (ok_piece_Length [] effG_nil) (as := [(.data p0)]) (x := (.tup [(.agg [(.int .i64 r0), (.int .i64 r1)]), (.int .i64 r2)])) (fun K' k' => h (fun r0 r1 r2 => K' (.tup [(.agg [(.int .i64 r0), (.int .i64 r1)]), (.int .i64 r2)])) k') (K := fun x => match x with | (.tup [(.agg [(.int .i64 r0), (.int .i64 r1)]), (.int .i64 r2)]) => K r0 r1 r2 | _ => False) k, h K⟩
theorem det_piece_Cut (p0 : List PV) (p1 : Int) (p2 : Int) (r0 : List PV) (r1 : List PV) (r2 : Int) (h : ∀ K : List PV → List PV → Int → Prop, K r0 r1 r2 → w_piece_Cut p0 p1 p2 K) (K : List PV → List PV → Int → Prop) : w_piece_Cut p0 p1 p2 K = K r0 r1 r2 :=
 propext ⟨fun k => detC (ok_piece_Cut [] effG_nil) (as := [(.data p0), (.agg [(.int .i64 p1), (.int .i64 p2)])]) (x := (.tup [(.data r0), (.data r1), (.int .i64 r2)])) (fun K' k' => h (fun r0 r1 r2 => K' (.tup [(.data r0), (.data r1), (.int .i64 r2)])) k') (K := fun x => match x with | (.tup [(.data r0), (.data r1), (.int .i64 r2)]) => K r0 r1 r2 | _ => False) k, h K⟩
end Go.Pf.Vc
namespace Go.Pf.Vc
open Go Go.Pf
set_option maxRecDepth 100000
abbrev T_r01_abs : Type := Int → (Int → Prop) → Prop
def wv_r01_abs (p0 : Int) (K : Int → Prop) : Prop :=
 (cbr (decide (p0 < (0 : Int)))
 (K (IntKind.u64.wrap ((IntKind.u64.wrap (IntKind.i64.wrap ((0 : Int) - (IntKind.i64.wrap (p0 + (1 : Int)))))) + (1 : Int))))
 (K (IntKind.u64.wrap p0)))
def w_r01_abs (p0 : Int) (K : Int → Prop) : Prop := wv_r01_abs p0 K
def pw_r01_abs (w : T_r01_abs) (as : List PV) (K : PV → Prop) : Prop :=
 match as with
 | [(.int .i64 p0)] => w p0 (fun r0 => K (.int .u64 r0))
 | _ => False
def wp_r01_abs (as : List PV) (K : PV → Prop) : Prop := pw_r01_abs w_r01_abs as K
def lp_r01_abs : LP := fun _ _ _ _ =>
 False
def S0_r01_abs (e : List (Nat × EffF)) : SE := ⟨(E e), lookS [], lookI [], lp_r01_abs⟩
theorem se0_r01_abs (e : List (Nat × EffF)) (he : EG e) : SEOk (S0_r01_abs e) := seOk_of trivial trivial he.ok
theorem eq_r01_abs (e : List (Nat × EffF)) ( p0 K) : WP (S0_r01_abs e) 6 t_r01_abs [(.int .i64 p0)] K = wv_r01_abs p0 (fun r0 => K (.int .u64 r0)) := by kernel_rfl
theorem ok_r01_abs (e : List (Nat × EffF)) (he : EG e) : OkF (E e) wp_r01_abs n_r01_abs := by
 intro as K h
 unfold wp_r01_abs pw_r01_abs at h
 split at h
 · exact WP_ok (se0_r01_abs e he) (LpOk_no (by kernel_rfl)) (by kernel_rfl) (by kernel_rfl) (fun _ => baseS_none (by kernel_rfl) _) (he.num _ (by kernel_rfl)) ((eq_r01_abs ..).mpr h)
 · exact h.elim
abbrev T_r01_gcd : Type := Int → Int → (Int → Prop) → Prop
def L_r01_gcd_0_0 (x0 : Int → Int → Bool → Prop) : Nat → Int → Int → Prop
 | 0, _, _ => False
 | n + 1, i0, i1 =>
 (cbr (i1 != (0 : Int))
 (asr (!(decide (i1 = (0 : Int))))
 (L_r01_gcd_0_0 x0 n i1 (Int.tmod i0 i1)))
 (x0 i0 i1 false))
def wv_r01_gcd (p0 p1 : Int) (K : Int → Prop) : Prop :=
 (∃ n : Nat, L_r01_gcd_0_0
 (fun yi0 _ _ => (K yi0))
 n p0 p1)
def w_r01_gcd (p0 p1 : Int) (K : Int → Prop) : Prop := wv_r01_gcd p0 p1 K
def pw_r01_gcd (w : T_r01_gcd) (as : List PV) (K : PV → Prop) : Prop :=
 match as with
 | [(.int .u64 p0), (.int .u64 p1)] => w p0 p1 (fun r0 => K (.int .u64 r0))
 | _ => False
def wp_r01_gcd (as : List PV) (K : PV → Prop) : Prop := pw_r01_gcd w_r01_gcd as K
def D_r01_gcd_0 (F : Frm) (H : Hp) (A0 : Int → Int → Prop) : Prop :=
 match F, H with
 | [(0, .v (.int .u64 i0)), (1, .v (.int .u64 i1))], [] => (A0 i0 i1)
 | _, _ => False
def X_r01_gcd_0_0 (Q : Ex → Frm → Hp → Prop) : Int → Int → Bool → Prop := (fun i0 i1 b2 => Q (.exit 0) [(0, .v (.int .u64 i0)), (1, .v (.int .u64 i1)), (6, .v (.bool b2))] [])
def R_r01_gcd_0 (Q : Ex → Frm → Hp → Prop) (n : Nat) (F : Frm) (H : Hp) : Prop := D_r01_gcd_0 F H (fun i0 i1 => L_r01_gcd_0_0 (X_r01_gcd_0_0 Q) n i0 i1)
def lp_r01_gcd : LP := fun id F H Q =>
 bif Nat.beq id 16774900 then D_r01_gcd_0 F H (fun i0 i1 => ∃ n : Nat, L_r01_gcd_0_0 (X_r01_gcd_0_0 Q) n i0 i1) else
 False
def S0_r01_gcd (e : List (Nat × EffF)) : SE := ⟨(E e), lookS [], lookI [], lp_r01_gcd⟩
theorem se0_r01_gcd (e : List (Nat × EffF)) (he : EG e) : SEOk (S0_r01_gcd e) := seOk_of trivial trivial he.ok
theorem body_r01_gcd_0_0 (e : List (Nat × EffF)) ( Q n i0 i1) : WC (E e) (callW (S0_r01_gcd e) 5) (lp_r01_gcd) b_16774900 [(0, .v (.int .u64 i0)), (1, .v (.int .u64 i1))] [] (fun x F' H' => match x with | .norm => R_r01_gcd_0 Q n F' H' | .exit i => Q (.exit i) F' H' | .ret => Q .ret F' H') = L_r01_gcd_0_0 (X_r01_gcd_0_0 Q) (n + 1) i0 i1 := by kernel_rfl
theorem lpb_r01_gcd_0 (e : List (Nat × EffF)) (_ : EG e) : LpOk (E e) (lp_r01_gcd) b_16774900 := (LpOk_no (by kernel_rfl))
theorem loop_r01_gcd_0 (e : List (Nat × EffF)) (he : EG e) : ∀ F H Q, lp_r01_gcd 16774900 F H Q → LoopT (E e) b_16774900 F H Q := by
 intro F H Q h
 have go := LoopT.intro (callW_ok (se0_r01_gcd e he) 5) (lpb_r01_gcd_0 e he) (R_r01_gcd_0 Q) (by
   intro F H h
   unfold R_r01_gcd_0 D_r01_gcd_0 at h
   split at h
   · exact h
   · exact h) (by
   intro n F H h
   unfold R_r01_gcd_0 D_r01_gcd_0 at h
   split at h
   · exact (body_r01_gcd_0_0 ..).mpr h
   · exact h.elim)
 have h : D_r01_gcd_0 F H _ := h
 unfold D_r01_gcd_0 at h
 split at h
 · obtain ⟨n, h⟩ := h; exact go n _ _ h
 · exact h.elim
theorem eq_r01_gcd (e : List (Nat × EffF)) ( p0 p1 K) : WP (S0_r01_gcd e) 6 t_r01_gcd [(.int .u64 p0), (.int .u64 p1)] K = wv_r01_gcd p0 p1 (fun r0 => K (.int .u64 r0)) := by kernel_rfl
theorem ok_r01_gcd (e : List (Nat × EffF)) (he : EG e) : OkF (E e) wp_r01_gcd n_r01_gcd := by
 intro as K h
 unfold wp_r01_gcd pw_r01_gcd at h
 split at h
 · exact WP_ok (se0_r01_gcd e he) (LpOk_by (l := [(16774900, b_16774900)]) ⟨loop_r01_gcd_0 e he, trivial⟩ (by kernel_rfl)) (by kernel_rfl) (by kernel_rfl) (fun _ => baseS_none (by kernel_rfl) _) (he.num _ (by kernel_rfl)) ((eq_r01_gcd ..).mpr h)
 · exact h.elim
abbrev T_r01_Check : Type := Int → Int → (Int → Prop) → Prop
def wv_r01_Check (a0 : T_r01_abs) (a1 : T_r01_gcd) (p0 p1 : Int) (K : Int → Prop) : Prop :=
 (cbr (decide (p1 < (1 : Int)))
 (K (8 : Int))
 (cbr (decide (p1 > (1000000000000000000 : Int)))
 (K (8 : Int))
 (cbr (decide (p0 < (-1000000000000000000 : Int)))
 (K (8 : Int))
 (cbr (decide (p0 > (1000000000000000000 : Int)))
 (K (8 : Int))
 (a0 p0 (fun yi0 => 
 (a1 yi0 (IntKind.u64.wrap p1) (fun yi1 => 
 (cbr (yi1 != (1 : Int))
 (K (8 : Int))
 (K (0 : Int)))))))))))
def w_r01_Check (p0 p1 : Int) (K : Int → Prop) : Prop := wv_r01_Check w_r01_abs w_r01_gcd p0 p1 K
def pw_r01_Check (w : T_r01_Check) (as : List PV) (K : PV → Prop) : Prop :=
 match as with
 | [(.agg [(.int .i64 p0), (.int .i64 p1)])] => w p0 p1 (fun r0 => K (.int .i64 r0))
 | _ => False
def wp_r01_Check (as : List PV) (K : PV → Prop) : Prop := pw_r01_Check w_r01_Check as K
def lp_r01_Check (_ : T_r01_abs) (_ : T_r01_gcd) : LP := fun _ _ _ _ =>
 False
def S0_r01_Check (e : List (Nat × EffF)) (a0 : T_r01_abs) (a1 : T_r01_gcd) : SE := ⟨(E e), lookS [(n_r01_abs, pw_r01_abs a0), (n_r01_gcd, pw_r01_gcd a1)], lookI [], lp_r01_Check a0 a1⟩
theorem se0_r01_Check (e : List (Nat × EffF)) (he : EG e) : SEOk (S0_r01_Check e w_r01_abs w_r01_gcd) := seOk_of ⟨(ok_r01_abs e he), (ok_r01_gcd e he), trivial⟩ trivial he.ok
theorem eq_r01_Check (e : List (Nat × EffF)) (a0 a1 p0 p1 K) : WP (S0_r01_Check e a0 a1) 6 t_r01_Check [(.agg [(.int .i64 p0), (.int .i64 p1)])] K = wv_r01_Check a0 a1 p0 p1 (fun r0 => K (.int .i64 r0)) := by kernel_rfl
theorem ok_r01_Check (e : List (Nat × EffF)) (he : EG e) : OkF (E e) wp_r01_Check n_r01_Check := by
 intro as K h
 unfold wp_r01_Check pw_r01_Check at h
 split at h
 · exact WP_ok (se0_r01_Check e he) (LpOk_no (by kernel_rfl)) (by kernel_rfl) (by kernel_rfl) (fun _ => baseS_none (by kernel_rfl) _) (he.num _ (by kernel_rfl)) ((eq_r01_Check ..).mpr h)
 · exact h.elim
abbrev T_r01_Both : Type := Int → Int → Int → Int → (Int → Prop) → Prop
def wv_r01_Both (a0 : T_r01_Check) (p0 p1 p2 p3 : Int) (K : Int → Prop) : Prop :=
 (a0 p0 p1 (fun yi0 => 
 (cbr (yi0 != (0 : Int))
 (a0 p0 p1 (fun yi1 => 
 (K yi1)))
 (a0 p2 p3 (fun yi2 => 
 (K yi2))))))
def w_r01_Both (p0 p1 p2 p3 : Int) (K : Int → Prop) : Prop := wv_r01_Both w_r01_Check p0 p1 p2 p3 K
def pw_r01_Both (w : T_r01_Both) (as : List PV) (K : PV → Prop) : Prop :=
 match as with
 | [(.agg [(.int .i64 p0), (.int .i64 p1)]), (.agg [(.int .i64 p2), (.int .i64 p3)])] => w p0 p1 p2 p3 (fun r0 => K (.int .i64 r0))
 | _ => False
def wp_r01_Both (as : List PV) (K : PV → Prop) : Prop := pw_r01_Both w_r01_Both as K
def lp_r01_Both (_ : T_r01_Check) : LP := fun _ _ _ _ =>
 False
def S0_r01_Both (e : List (Nat × EffF)) (a0 : T_r01_Check) : SE := ⟨(E e), lookS [(n_r01_Check, pw_r01_Check a0)], lookI [], lp_r01_Both a0⟩
theorem se0_r01_Both (e : List (Nat × EffF)) (he : EG e) : SEOk (S0_r01_Both e w_r01_Check) := seOk_of ⟨(ok_r01_Check e he), trivial⟩ trivial he.ok
theorem eq_r01_Both (e : List (Nat × EffF)) (a0 p0 p1 p2 p3 K) : WP (S0_r01_Both e a0) 6 t_r01_Both [(.agg [(.int .i64 p0), (.int .i64 p1)]), (.agg [(.int .i64 p2), (.int .i64 p3)])] K = wv_r01_Both a0 p0 p1 p2 p3 (fun r0 => K (.int .i64 r0)) := by kernel_rfl
theorem ok_r01_Both (e : List (Nat × EffF)) (he : EG e) : OkF (E e) wp_r01_Both n_r01_Both := by
 intro as K h
 unfold wp_r01_Both pw_r01_Both at h
 split at h
 · exact WP_ok (se0_r01_Both e he) (LpOk_no (by kernel_rfl)) (by kernel_rfl) (by kernel_rfl) (fun _ => baseS_none (by kernel_rfl) _) (he.num _ (by kernel_rfl)) ((eq_r01_Both ..).mpr h)
 · exact h.elim
abbrev T_r01_times : Type := Int → Int → (Int → Int → Prop) → Prop
def wv_r01_times (p0 p1 : Int) (K : Int → Int → Prop) : Prop :=
 (K (IntKind.u64.wrap ((IntKind.u64.wrap ((IntKind.u64.wrap ((Int.fdiv p0 4294967296) * (Int.fdiv p1 4294967296))) + (Int.fdiv (IntKind.u64.wrap ((Int.fdiv p0 4294967296) * (IntKind.u64.wrap (BitVec.ofInt IntKind.u64.bits p1 &&& BitVec.ofInt IntKind.u64.bits (4294967295 : Int)).toNat))) 4294967296))) + (Int.fdiv (IntKind.u64.wrap ((IntKind.u64.wrap ((IntKind.u64.wrap (BitVec.ofInt IntKind.u64.bits (IntKind.u64.wrap ((Int.fdiv p0 4294967296) * (IntKind.u64.wrap (BitVec.ofInt IntKind.u64.bits p1 &&& BitVec.ofInt IntKind.u64.bits (4294967295 : Int)).toNat))) &&& BitVec.ofInt IntKind.u64.bits (4294967295 : Int)).toNat) + (IntKind.u64.wrap ((IntKind.u64.wrap (BitVec.ofInt IntKind.u64.bits p0 &&& BitVec.ofInt IntKind.u64.bits (4294967295 : Int)).toNat) * (Int.fdiv p1 4294967296))))) + (Int.fdiv (IntKind.u64.wrap ((IntKind.u64.wrap (BitVec.ofInt IntKind.u64.bits p0 &&& BitVec.ofInt IntKind.u64.bits (4294967295 : Int)).toNat) * (IntKind.u64.wrap (BitVec.ofInt IntKind.u64.bits p1 &&& BitVec.ofInt IntKind.u64.bits (4294967295 : Int)).toNat))) 4294967296))) 4294967296))) (IntKind.u64.wrap (BitVec.ofInt IntKind.u64.bits (IntKind.u64.wrap ((IntKind.u64.wrap ((IntKind.u64.wrap ((IntKind.u64.wrap (BitVec.ofInt IntKind.u64.bits (IntKind.u64.wrap ((Int.fdiv p0 4294967296) * (IntKind.u64.wrap (BitVec.ofInt IntKind.u64.bits p1 &&& BitVec.ofInt IntKind.u64.bits (4294967295 : Int)).toNat))) &&& BitVec.ofInt IntKind.u64.bits (4294967295 : Int)).toNat) + (IntKind.u64.wrap ((IntKind.u64.wrap (BitVec.ofInt IntKind.u64.bits p0 &&& BitVec.ofInt IntKind.u64.bits (4294967295 : Int)).toNat) * (Int.fdiv p1 4294967296))))) + (Int.fdiv (IntKind.u64.wrap ((IntKind.u64.wrap (BitVec.ofInt IntKind.u64.bits p0 &&& BitVec.ofInt IntKind.u64.bits (4294967295 : Int)).toNat) * (IntKind.u64.wrap (BitVec.ofInt IntKind.u64.bits p1 &&& BitVec.ofInt IntKind.u64.bits (4294967295 : Int)).toNat))) 4294967296))) * (4294967296 : Int))) ||| BitVec.ofInt IntKind.u64.bits (IntKind.u64.wrap (BitVec.ofInt IntKind.u64.bits (IntKind.u64.wrap ((IntKind.u64.wrap (BitVec.ofInt IntKind.u64.bits p0 &&& BitVec.ofInt IntKind.u64.bits (4294967295 : Int)).toNat) * (IntKind.u64.wrap (BitVec.ofInt IntKind.u64.bits p1 &&& BitVec.ofInt IntKind.u64.bits (4294967295 : Int)).toNat))) &&& BitVec.ofInt IntKind.u64.bits (4294967295 : Int)).toNat)).toNat))
def w_r01_times (p0 p1 : Int) (K : Int → Int → Prop) : Prop := wv_r01_times p0 p1 K
def pw_r01_times (w : T_r01_times) (as : List PV) (K : PV → Prop) : Prop :=
 match as with
 | [(.int .u64 p0), (.int .u64 p1)] => w p0 p1 (fun r0 r1 => K (.agg [(.int .u64 r0), (.int .u64 r1)]))
 | _ => False
def wp_r01_times (as : List PV) (K : PV → Prop) : Prop := pw_r01_times w_r01_times as K
def lp_r01_times : LP := fun _ _ _ _ =>
 False
def S0_r01_times (e : List (Nat × EffF)) : SE := ⟨(E e), lookS [], lookI [], lp_r01_times⟩
theorem se0_r01_times (e : List (Nat × EffF)) (he : EG e) : SEOk (S0_r01_times e) := seOk_of trivial trivial he.ok
theorem eq_r01_times (e : List (Nat × EffF)) ( p0 p1 K) : WP (S0_r01_times e) 6 t_r01_times [(.int .u64 p0), (.int .u64 p1)] K = wv_r01_times p0 p1 (fun r0 r1 => K (.agg [(.int .u64 r0), (.int .u64 r1)])) := by kernel_rfl
theorem ok_r01_times (e : List (Nat × EffF)) (he : EG e) : OkF (E e) wp_r01_times n_r01_times := by
 intro as K h
 unfold wp_r01_times pw_r01_times at h
 split at h
 · exact WP_ok (se0_r01_times e he) (LpOk_no (by kernel_rfl)) (by kernel_rfl) (by kernel_rfl) (fun _ => baseS_none (by kernel_rfl) _) (he.num _ (by kernel_rfl)) ((eq_r01_times ..).mpr h)
 · exact h.elim
abbrev T_r01_less : Type := Int → Int → Int → Int → (Bool → Prop) → Prop
def wv_r01_less (p0 p1 p2 p3 : Int) (K : Bool → Prop) : Prop :=
 (cbr (decide (p0 < p2))
 (K true)
 (cbr (p0 == p2)
 (K (decide (p1 < p3)))
 (K false)))
def w_r01_less (p0 p1 p2 p3 : Int) (K : Bool → Prop) : Prop := wv_r01_less p0 p1 p2 p3 K
def pw_r01_less (w : T_r01_less) (as : List PV) (K : PV → Prop) : Prop :=
 match as with
 | [(.agg [(.int .u64 p0), (.int .u64 p1)]), (.agg [(.int .u64 p2), (.int .u64 p3)])] => w p0 p1 p2 p3 (fun r0 => K (.bool r0))
 | _ => False
def wp_r01_less (as : List PV) (K : PV → Prop) : Prop := pw_r01_less w_r01_less as K
def lp_r01_less : LP := fun _ _ _ _ =>
 False
def S0_r01_less (e : List (Nat × EffF)) : SE := ⟨(E e), lookS [], lookI [], lp_r01_less⟩
theorem se0_r01_less (e : List (Nat × EffF)) (he : EG e) : SEOk (S0_r01_less e) := seOk_of trivial trivial he.ok
theorem eq_r01_less (e : List (Nat × EffF)) ( p0 p1 p2 p3 K) : WP (S0_r01_less e) 6 t_r01_less [(.agg [(.int .u64 p0), (.int .u64 p1)]), (.agg [(.int .u64 p2), (.int .u64 p3)])] K = wv_r01_less p0 p1 p2 p3 (fun r0 => K (.bool r0)) := by kernel_rfl
theorem ok_r01_less (e : List (Nat × EffF)) (he : EG e) : OkF (E e) wp_r01_less n_r01_less := by
 intro as K h
 unfold wp_r01_less pw_r01_less at h
 split at h
 · exact WP_ok (se0_r01_less e he) (LpOk_no (by kernel_rfl)) (by kernel_rfl) (by kernel_rfl) (fun _ => baseS_none (by kernel_rfl) _) (he.num _ (by kernel_rfl)) ((eq_r01_less ..).mpr h)
 · exact h.elim
abbrev T_r01_Less : Type := Int → Int → Int → Int → (Bool → Prop) → Prop
def wv_r01_Less (a0 : T_r01_abs) (a1 : T_r01_times) (a2 : T_r01_less) (p0 p1 p2 p3 : Int) (K : Bool → Prop) : Prop :=
 (cbr ((decide (p0 < (0 : Int))) != (decide (p2 < (0 : Int))))
 (K (decide (p0 < (0 : Int))))
 (a0 p0 (fun yi0 => 
 (a1 yi0 (IntKind.u64.wrap p3) (fun yi1 yi2 => 
 (a0 p2 (fun yi3 => 
 (a1 yi3 (IntKind.u64.wrap p1) (fun yi4 yi5 => 
 (cbr (decide (p0 < (0 : Int)))
 (a2 yi4 yi5 yi1 yi2 (fun yb6 => 
 (K yb6)))
 (a2 yi1 yi2 yi4 yi5 (fun yb7 => 
 (K yb7)))))))))))))
def w_r01_Less (p0 p1 p2 p3 : Int) (K : Bool → Prop) : Prop := wv_r01_Less w_r01_abs w_r01_times w_r01_less p0 p1 p2 p3 K
def pw_r01_Less (w : T_r01_Less) (as : List PV) (K : PV → Prop) : Prop :=
 match as with
 | [(.agg [(.int .i64 p0), (.int .i64 p1)]), (.agg [(.int .i64 p2), (.int .i64 p3)])] => w p0 p1 p2 p3 (fun r0 => K (.bool r0))
 | _ => False
def wp_r01_Less (as : List PV) (K : PV → Prop) : Prop := pw_r01_Less w_r01_Less as K
def lp_r01_Less (_ : T_r01_abs) (_ : T_r01_times) (_ : T_r01_less) : LP := fun _ _ _ _ =>
 False
def S0_r01_Less (e : List (Nat × EffF)) (a0 : T_r01_abs) (a1 : T_r01_times) (a2 : T_r01_less) : SE := ⟨(E e), lookS [(n_r01_abs, pw_r01_abs a0), (n_r01_times, pw_r01_times a1), (n_r01_less, pw_r01_less a2)], lookI [], lp_r01_Less a0 a1 a2⟩
theorem se0_r01_Less (e : List (Nat × EffF)) (he : EG e) : SEOk (S0_r01_Less e w_r01_abs w_r01_times w_r01_less) := seOk_of ⟨(ok_r01_abs e he), (ok_r01_times e he), (ok_r01_less e he), trivial⟩ trivial he.ok
theorem eq_r01_Less (e : List (Nat × EffF)) (a0 a1 a2 p0 p1 p2 p3 K) : WP (S0_r01_Less e a0 a1 a2) 6 t_r01_Less [(.agg [(.int .i64 p0), (.int .i64 p1)]), (.agg [(.int .i64 p2), (.int .i64 p3)])] K = wv_r01_Less a0 a1 a2 p0 p1 p2 p3 (fun r0 => K (.bool r0)) := by kernel_rfl
theorem ok_r01_Less (e : List (Nat × EffF)) (he : EG e) : OkF (E e) wp_r01_Less n_r01_Less := by
 intro as K h
 unfold wp_r01_Less pw_r01_Less at h
 split at h
 · exact WP_ok (se0_r01_Less e he) (LpOk_no (by kernel_rfl)) (by kernel_rfl) (by kernel_rfl) (fun _ => baseS_none (by kernel_rfl) _) (he.num _ (by kernel_rfl)) ((eq_r01_Less ..).mpr h)
 · exact h.elim
end Go.Pf.Vc
namespace Go.Pf.Vc
open Go Go.Pf
set_option linter.unusedVariables false
theorem det_r01_gcd (p0 : Int) (p1 : Int) (r0 : Int) (h : ∀ K : Int → Prop, K r0 → w_r01_gcd p0 p1 K) (K : Int → Prop) : w_r01_gcd p0 p1 K = K r0 :=
 propext ⟨fun k => detC (ok_r01_gcd [] effG_nil) (as := [(.int .u64 p0), (.int .u64 p1)]) (x := (.int .u64 r0)) (fun K' k' => h (fun r0 => K' (.int .u64 r0)) k') (K := fun x => match x with | (.int .u64 r0) => K r0 | _ => False) k, h K⟩
end Go.Pf.Vc
namespace Go.Pf.Vc
open Go Go.Pf
set_option maxRecDepth 100000
abbrev T_r03_Great : Type := List PV → (Bool → Prop) → Prop
def wv_r03_Great (p0 : List PV) (K : Bool → Prop) : Prop :=
 (jn (fun (yj1 : Bool → Prop) =>
 (cbr (decide ((((List.length p0) : Nat) : Int) > (20 : Int)))
 (cbr (decide ((((List.length p0) : Nat) : Int) ≤ (60 : Int)))
 (yj1 true)
 (yj1 (decide ((((List.length p0) : Nat) : Int) > (70 : Int)))))
 (yj1 (decide ((((List.length p0) : Nat) : Int) > (70 : Int))))))
 (fun yb0 => (K yb0)))
def w_r03_Great (p0 : List PV) (K : Bool → Prop) : Prop := wv_r03_Great p0 K
def pw_r03_Great (w : T_r03_Great) (as : List PV) (K : PV → Prop) : Prop :=
 match as with
 | [(.data p0)] => w p0 (fun r0 => K (.bool r0))
 | _ => False
def wp_r03_Great (as : List PV) (K : PV → Prop) : Prop := pw_r03_Great w_r03_Great as K
def lp_r03_Great : LP := fun _ _ _ _ =>
 False
def S0_r03_Great (e : List (Nat × EffF)) : SE := ⟨(E e), lookS [], lookI [], lp_r03_Great⟩
theorem se0_r03_Great (e : List (Nat × EffF)) (he : EG e) : SEOk (S0_r03_Great e) := seOk_of trivial trivial he.ok
theorem eq_r03_Great (e : List (Nat × EffF)) ( p0 K) : WP (S0_r03_Great e) 6 t_r03_Great [(.data p0)] K = wv_r03_Great p0 (fun r0 => K (.bool r0)) := by kernel_rfl
theorem ok_r03_Great (e : List (Nat × EffF)) (he : EG e) : OkF (E e) wp_r03_Great n_r03_Great := by
 intro as K h
 unfold wp_r03_Great pw_r03_Great at h
 split at h
 · exact WP_ok (se0_r03_Great e he) (LpOk_no (by kernel_rfl)) (by kernel_rfl) (by kernel_rfl) (fun _ => baseS_none (by kernel_rfl) _) (he.num _ (by kernel_rfl)) ((eq_r03_Great ..).mpr h)
 · exact h.elim
abbrev T_r03_Valid : Type := Int → Int → Int → Int → (Bool → Prop) → Prop
def wv_r03_Valid (a0 : T_r01_Both) (a1 : T_r01_Less) (p0 p1 p2 p3 : Int) (K : Bool → Prop) : Prop :=
 (jn (fun (yj3 : Bool → Prop) =>
 (a0 p0 p1 p2 p3 (fun yi4 => 
 (cbr (yi4 == (0 : Int))
 (a1 p0 p1 p2 p3 (fun yb5 => 
 (yj3 yb5)))
 (yj3 false)))))
 (fun yb2 => (K yb2)))
def w_r03_Valid (p0 p1 p2 p3 : Int) (K : Bool → Prop) : Prop := wv_r03_Valid w_r01_Both w_r01_Less p0 p1 p2 p3 K
def pw_r03_Valid (w : T_r03_Valid) (as : List PV) (K : PV → Prop) : Prop :=
 match as with
 | [(.agg [(.int .i64 p0), (.int .i64 p1), (.int .i64 p2), (.int .i64 p3)])] => w p0 p1 p2 p3 (fun r0 => K (.bool r0))
 | _ => False
def wp_r03_Valid (as : List PV) (K : PV → Prop) : Prop := pw_r03_Valid w_r03_Valid as K
def lp_r03_Valid (_ : T_r01_Both) (_ : T_r01_Less) : LP := fun _ _ _ _ =>
 False
def S0_r03_Valid (e : List (Nat × EffF)) (a0 : T_r01_Both) (a1 : T_r01_Less) : SE := ⟨(E e), lookS [(n_r01_Both, pw_r01_Both a0), (n_r01_Less, pw_r01_Less a1)], lookI [], lp_r03_Valid a0 a1⟩
theorem se0_r03_Valid (e : List (Nat × EffF)) (he : EG e) : SEOk (S0_r03_Valid e w_r01_Both w_r01_Less) := seOk_of ⟨(ok_r01_Both e he), (ok_r01_Less e he), trivial⟩ trivial he.ok
theorem eq_r03_Valid (e : List (Nat × EffF)) (a0 a1 p0 p1 p2 p3 K) : WP (S0_r03_Valid e a0 a1) 6 t_r03_Valid [(.agg [(.int .i64 p0), (.int .i64 p1), (.int .i64 p2), (.int .i64 p3)])] K = wv_r03_Valid a0 a1 p0 p1 p2 p3 (fun r0 => K (.bool r0)) := by kernel_rfl
theorem ok_r03_Valid (e : List (Nat × EffF)) (he : EG e) : OkF (E e) wp_r03_Valid n_r03_Valid := by
 intro as K h
 unfold wp_r03_Valid pw_r03_Valid at h
 split at h
 · exact WP_ok (se0_r03_Valid e he) (LpOk_no (by kernel_rfl)) (by kernel_rfl) (by kernel_rfl) (fun _ => baseS_none (by kernel_rfl) _) (he.num _ (by kernel_rfl)) ((eq_r03_Valid ..).mpr h)
 · exact h.elim
abbrev T_r03_Check : Type := List PV → (Int → Prop) → Prop
def L_r03_Check_0_0 (a0 : T_r03_Valid) (a1 : T_r01_Less) (x0 : List PV → Int → Bool → Prop) (x1 : Int → Prop) : Nat → List PV → Int → Prop
 | 0, _, _ => False
 | n + 1, l0, i1 =>
 (cbr (decide (i1 < (((List.length l0) : Nat) : Int)))
 (jn (fun (yj21 : Bool → Prop) =>
 (asr (decide ((0 : Int) ≤ i1))
 (asr (decide (i1 < (((List.length l0) : Nat) : Int)))
 (lt (List.getD l0 (i1.toNat) .nils) (fun yr23 =>
 (asr (conf (.agg [.i .i64, .i .i64, .i .i64, .i .i64]) yr23)
 (a0 (intOfV (cellAt yr23 0)) (intOfV (cellAt yr23 1)) (intOfV (cellAt yr23 2)) (intOfV (cellAt yr23 3)) (fun yb24 => 
 (cbr (!yb24)
 (yj21 true)
 (cbr (decide (i1 > (0 : Int)))
 (lt (IntKind.i64.wrap (i1 - (1 : Int))) (fun yi25 =>
 (asr (decide ((0 : Int) ≤ yi25))
 (asr (decide (yi25 < (((List.length l0) : Nat) : Int)))
 (lt (List.getD l0 (yi25.toNat) .nils) (fun yr26 =>
 (asr (conf (.agg [.i .i64, .i .i64, .i .i64, .i .i64]) yr26)
 (asr (decide ((0 : Int) ≤ i1))
 (asr (decide (i1 < (((List.length l0) : Nat) : Int)))
 (lt (List.getD l0 (i1.toNat) .nils) (fun yr27 =>
 (asr (conf (.agg [.i .i64, .i .i64, .i .i64, .i .i64]) yr27)
 (a1 (intOfV (cellAt yr26 2)) (intOfV (cellAt yr26 3)) (intOfV (cellAt yr27 0)) (intOfV (cellAt yr27 1)) (fun yb28 => 
 (yj21 (!yb28))))))))))))))))
 (yj21 false)))))))))))
 (fun yb20 => (cbr yb20
 (x1 (8 : Int))
 (lt (IntKind.i64.wrap (i1 + (1 : Int))) (fun yi22 =>
 (L_r03_Check_0_0 a0 a1 x0 x1 n l0 yi22))))))
 (x0 l0 i1 false))
def wv_r03_Check (a0 : T_r03_Valid) (a1 : T_r01_Less) (p0 : List PV) (K : Int → Prop) : Prop :=
 (cbr (decide ((((List.length p0) : Nat) : Int) > (60 : Int)))
 (K (4 : Int))
 (∃ n : Nat, L_r03_Check_0_0 a0 a1
 (fun _ _ _ => (K (0 : Int)))
 (fun yi36 => (K yi36))
 n p0 (0 : Int)))
def w_r03_Check (p0 : List PV) (K : Int → Prop) : Prop := wv_r03_Check w_r03_Valid w_r01_Less p0 K
def pw_r03_Check (w : T_r03_Check) (as : List PV) (K : PV → Prop) : Prop :=
 match as with
 | [(.data p0)] => w p0 (fun r0 => K (.int .i64 r0))
 | _ => False
def wp_r03_Check (as : List PV) (K : PV → Prop) : Prop := pw_r03_Check w_r03_Check as K
def D_r03_Check_0 (F : Frm) (H : Hp) (A0 : List PV → Int → Prop) : Prop :=
 match F, H with
 | [(0, .v (.data l0)), (3, .v (.int .i64 i1))], [] => (A0 l0 i1)
 | _, _ => False
def X_r03_Check_0_0 (Q : Ex → Frm → Hp → Prop) : List PV → Int → Bool → Prop := (fun l0 i1 b2 => Q (.exit 0) [(0, .v (.data l0)), (3, .v (.int .i64 i1)), (10, .v (.bool b2))] [])
def X_r03_Check_0_1 (Q : Ex → Frm → Hp → Prop) : Int → Prop := (fun i0 => Q .ret [(2, .v (.int .i64 i0))] [])
def R_r03_Check_0 (a0 : T_r03_Valid) (a1 : T_r01_Less) (Q : Ex → Frm → Hp → Prop) (n : Nat) (F : Frm) (H : Hp) : Prop := D_r03_Check_0 F H (fun l0 i1 => L_r03_Check_0_0 a0 a1 (X_r03_Check_0_0 Q) (X_r03_Check_0_1 Q) n l0 i1)
def lp_r03_Check (a0 : T_r03_Valid) (a1 : T_r01_Less) : LP := fun id F H Q =>
 bif Nat.beq id 754900 then D_r03_Check_0 F H (fun l0 i1 => ∃ n : Nat, L_r03_Check_0_0 a0 a1 (X_r03_Check_0_0 Q) (X_r03_Check_0_1 Q) n l0 i1) else
 False
def S0_r03_Check (e : List (Nat × EffF)) (a0 : T_r03_Valid) (a1 : T_r01_Less) : SE := ⟨(E e), lookS [(n_r03_Valid, pw_r03_Valid a0), (n_r01_Less, pw_r01_Less a1)], lookI [], lp_r03_Check a0 a1⟩
theorem se0_r03_Check (e : List (Nat × EffF)) (he : EG e) : SEOk (S0_r03_Check e w_r03_Valid w_r01_Less) := seOk_of ⟨(ok_r03_Valid e he), (ok_r01_Less e he), trivial⟩ trivial he.ok
theorem body_r03_Check_0_0 (e : List (Nat × EffF)) (a0 a1 Q n l0 i1) : WC (E e) (callW (S0_r03_Check e a0 a1) 5) (lp_r03_Check a0 a1) b_754900 [(0, .v (.data l0)), (3, .v (.int .i64 i1))] [] (fun x F' H' => match x with | .norm => R_r03_Check_0 a0 a1 Q n F' H' | .exit i => Q (.exit i) F' H' | .ret => Q .ret F' H') = L_r03_Check_0_0 a0 a1 (X_r03_Check_0_0 Q) (X_r03_Check_0_1 Q) (n + 1) l0 i1 := by kernel_rfl
theorem lpb_r03_Check_0 (e : List (Nat × EffF)) (_ : EG e) : LpOk (E e) (lp_r03_Check w_r03_Valid w_r01_Less) b_754900 := (LpOk_no (by kernel_rfl))
theorem loop_r03_Check_0 (e : List (Nat × EffF)) (he : EG e) : ∀ F H Q, lp_r03_Check w_r03_Valid w_r01_Less 754900 F H Q → LoopT (E e) b_754900 F H Q := by
 intro F H Q h
 have go := LoopT.intro (callW_ok (se0_r03_Check e he) 5) (lpb_r03_Check_0 e he) (R_r03_Check_0 w_r03_Valid w_r01_Less Q) (by
   intro F H h
   unfold R_r03_Check_0 D_r03_Check_0 at h
   split at h
   · exact h
   · exact h) (by
   intro n F H h
   unfold R_r03_Check_0 D_r03_Check_0 at h
   split at h
   · exact (body_r03_Check_0_0 ..).mpr h
   · exact h.elim)
 have h : D_r03_Check_0 F H _ := h
 unfold D_r03_Check_0 at h
 split at h
 · obtain ⟨n, h⟩ := h; exact go n _ _ h
 · exact h.elim
theorem eq_r03_Check (e : List (Nat × EffF)) (a0 a1 p0 K) : WP (S0_r03_Check e a0 a1) 6 t_r03_Check [(.data p0)] K = wv_r03_Check a0 a1 p0 (fun r0 => K (.int .i64 r0)) := by kernel_rfl
theorem ok_r03_Check (e : List (Nat × EffF)) (he : EG e) : OkF (E e) wp_r03_Check n_r03_Check := by
 intro as K h
 unfold wp_r03_Check pw_r03_Check at h
 split at h
 · exact WP_ok (se0_r03_Check e he) (LpOk_by (l := [(754900, b_754900)]) ⟨loop_r03_Check_0 e he, trivial⟩ (by kernel_rfl)) (by kernel_rfl) (by kernel_rfl) (fun _ => baseS_none (by kernel_rfl) _) (he.num _ (by kernel_rfl)) ((eq_r03_Check ..).mpr h)
 · exact h.elim
abbrev T_r03_Same : Type := List PV → List PV → (Bool → Prop) → Prop
def L_r03_Same_0_0 (x0 : Bool → Prop) (x1 : List PV → List PV → Int → Bool → Prop) : Nat → List PV → List PV → Int → Prop
 | 0, _, _, _ => False
 | n + 1, l0, l1, i2 =>
 (cbr (decide (i2 < (((List.length l0) : Nat) : Int)))
 (asr (decide ((0 : Int) ≤ i2))
 (asr (decide (i2 < (((List.length l0) : Nat) : Int)))
 (asr (conf (.agg [.i .i64, .i .i64, .i .i64, .i .i64]) (List.getD l0 (i2.toNat) .nils))
 (asr (decide ((0 : Int) ≤ i2))
 (asr (decide (i2 < (((List.length l1) : Nat) : Int)))
 (asr (conf (.agg [.i .i64, .i .i64, .i .i64, .i .i64]) (List.getD l1 (i2.toNat) .nils))
 (cbr (!(((intOfV (cellAt (List.getD l0 (i2.toNat) .nils) 0)) == (intOfV (cellAt (List.getD l1 (i2.toNat) .nils) 0))) && (((intOfV (cellAt (List.getD l0 (i2.toNat) .nils) 1)) == (intOfV (cellAt (List.getD l1 (i2.toNat) .nils) 1))) && (((intOfV (cellAt (List.getD l0 (i2.toNat) .nils) 2)) == (intOfV (cellAt (List.getD l1 (i2.toNat) .nils) 2))) && (((intOfV (cellAt (List.getD l0 (i2.toNat) .nils) 3)) == (intOfV (cellAt (List.getD l1 (i2.toNat) .nils) 3))) && true)))))
 (x0 false)
 (L_r03_Same_0_0 x0 x1 n l0 l1 (IntKind.i64.wrap (i2 + (1 : Int)))))))))))
 (x1 l0 l1 i2 false))
def wv_r03_Same (p0 p1 : List PV) (K : Bool → Prop) : Prop :=
 (cbr ((((List.length p0) : Nat) : Int) != (((List.length p1) : Nat) : Int))
 (K false)
 (∃ n : Nat, L_r03_Same_0_0
 (fun yb0 => (K yb0))
 (fun _ _ _ _ => (K true))
 n p0 p1 (0 : Int)))
def w_r03_Same (p0 p1 : List PV) (K : Bool → Prop) : Prop := wv_r03_Same p0 p1 K
def pw_r03_Same (w : T_r03_Same) (as : List PV) (K : PV → Prop) : Prop :=
 match as with
 | [(.data p0), (.data p1)] => w p0 p1 (fun r0 => K (.bool r0))
 | _ => False
def wp_r03_Same (as : List PV) (K : PV → Prop) : Prop := pw_r03_Same w_r03_Same as K
def D_r03_Same_0 (F : Frm) (H : Hp) (A0 : List PV → List PV → Int → Prop) : Prop :=
 match F, H with
 | [(0, .v (.data l0)), (1, .v (.data l1)), (5, .v (.int .i64 i2))], [] => (A0 l0 l1 i2)
 | _, _ => False
def X_r03_Same_0_0 (Q : Ex → Frm → Hp → Prop) : Bool → Prop := (fun b0 => Q .ret [(4, .v (.bool b0))] [])
def X_r03_Same_0_1 (Q : Ex → Frm → Hp → Prop) : List PV → List PV → Int → Bool → Prop := (fun l0 l1 i2 b3 => Q (.exit 0) [(0, .v (.data l0)), (1, .v (.data l1)), (5, .v (.int .i64 i2)), (14, .v (.bool b3))] [])
def R_r03_Same_0 (Q : Ex → Frm → Hp → Prop) (n : Nat) (F : Frm) (H : Hp) : Prop := D_r03_Same_0 F H (fun l0 l1 i2 => L_r03_Same_0_0 (X_r03_Same_0_0 Q) (X_r03_Same_0_1 Q) n l0 l1 i2)
def lp_r03_Same : LP := fun id F H Q =>
 bif Nat.beq id 27088800 then D_r03_Same_0 F H (fun l0 l1 i2 => ∃ n : Nat, L_r03_Same_0_0 (X_r03_Same_0_0 Q) (X_r03_Same_0_1 Q) n l0 l1 i2) else
 False
def S0_r03_Same (e : List (Nat × EffF)) : SE := ⟨(E e), lookS [], lookI [], lp_r03_Same⟩
theorem se0_r03_Same (e : List (Nat × EffF)) (he : EG e) : SEOk (S0_r03_Same e) := seOk_of trivial trivial he.ok
theorem body_r03_Same_0_0 (e : List (Nat × EffF)) ( Q n l0 l1 i2) : WC (E e) (callW (S0_r03_Same e) 5) (lp_r03_Same) b_27088800 [(0, .v (.data l0)), (1, .v (.data l1)), (5, .v (.int .i64 i2))] [] (fun x F' H' => match x with | .norm => R_r03_Same_0 Q n F' H' | .exit i => Q (.exit i) F' H' | .ret => Q .ret F' H') = L_r03_Same_0_0 (X_r03_Same_0_0 Q) (X_r03_Same_0_1 Q) (n + 1) l0 l1 i2 := by kernel_rfl
theorem lpb_r03_Same_0 (e : List (Nat × EffF)) (_ : EG e) : LpOk (E e) (lp_r03_Same) b_27088800 := (LpOk_no (by kernel_rfl))
theorem loop_r03_Same_0 (e : List (Nat × EffF)) (he : EG e) : ∀ F H Q, lp_r03_Same 27088800 F H Q → LoopT (E e) b_27088800 F H Q := by
 intro F H Q h
 have go := LoopT.intro (callW_ok (se0_r03_Same e he) 5) (lpb_r03_Same_0 e he) (R_r03_Same_0 Q) (by
   intro F H h
   unfold R_r03_Same_0 D_r03_Same_0 at h
   split at h
   · exact h
   · exact h) (by
   intro n F H h
   unfold R_r03_Same_0 D_r03_Same_0 at h
   split at h
   · exact (body_r03_Same_0_0 ..).mpr h
   · exact h.elim)
 have h : D_r03_Same_0 F H _ := h
 unfold D_r03_Same_0 at h
 split at h
 · obtain ⟨n, h⟩ := h; exact go n _ _ h
 · exact h.elim
theorem eq_r03_Same (e : List (Nat × EffF)) ( p0 p1 K) : WP (S0_r03_Same e) 6 t_r03_Same [(.data p0), (.data p1)] K = wv_r03_Same p0 p1 (fun r0 => K (.bool r0)) := by kernel_rfl
theorem ok_r03_Same (e : List (Nat × EffF)) (he : EG e) : OkF (E e) wp_r03_Same n_r03_Same := by
 intro as K h
 unfold wp_r03_Same pw_r03_Same at h
 split at h
 · exact WP_ok (se0_r03_Same e he) (LpOk_by (l := [(27088800, b_27088800)]) ⟨loop_r03_Same_0 e he, trivial⟩ (by kernel_rfl)) (by kernel_rfl) (by kernel_rfl) (fun _ => baseS_none (by kernel_rfl) _) (he.num _ (by kernel_rfl)) ((eq_r03_Same ..).mpr h)
 · exact h.elim
end Go.Pf.Vc
namespace Go.Pf.Vc
open Go Go.Pf
set_option linter.unusedVariables false
theorem det_r03_Check (p0 : List PV) (r0 : Int) (h : ∀ K : Int → Prop, K r0 → w_r03_Check p0 K) (K : Int → Prop) : w_r03_Check p0 K = K r0 :=
 propext ⟨fun k => detC (ok_r03_Check [] effG_nil) (as := [(.data p0)]) (x := (.int .i64 r0)) (fun K' k' => h (fun r0 => K' (.int .i64 r0)) k') (K := fun x => match x with | (.int .i64 r0) => K r0 | _ => False) k, h K⟩
theorem det_r03_Same (p0 : List PV) (p1 : List PV) (r0 : Bool) (h : ∀ K : Bool → Prop, K r0 → w_r03_Same p0 p1 K) (K : Bool → Prop) : w_r03_Same p0 p1 K = K r0 :=
 propext ⟨fun k => detC (ok_r03_Same [] effG_nil) (as := [(.data p0), (.data p1)]) (x := (.bool r0)) (fun K' k' => h (fun r0 => K' (.bool r0)) k') (K := fun x => match x with | (.bool r0) => K r0 | _ => False) k, h K⟩
end Go.Pf.Vc
namespace Go.Pf.Vc
open Go Go.Pf
set_option maxRecDepth 100000
abbrev T_l03_valid : Type := List PV → (Bool → Prop) → Prop
def wv_l03_valid (a0 : T_r03_Great) (a1 : T_r03_Check) (p0 : List PV) (K : Bool → Prop) : Prop :=
 (jn (fun (yj3 : Bool → Prop) =>
 (a0 p0 (fun yb4 => 
 (cbr (!yb4)
 (a1 p0 (fun yi5 => 
 (yj3 (yi5 == (0 : Int)))))
 (yj3 false)))))
 (fun yb2 => (K yb2)))
def w_l03_valid (p0 : List PV) (K : Bool → Prop) : Prop := wv_l03_valid w_r03_Great w_r03_Check p0 K
def pw_l03_valid (w : T_l03_valid) (as : List PV) (K : PV → Prop) : Prop :=
 match as with
 | [(.data p0)] => w p0 (fun r0 => K (.bool r0))
 | _ => False
def wp_l03_valid (as : List PV) (K : PV → Prop) : Prop := pw_l03_valid w_l03_valid as K
def lp_l03_valid (_ : T_r03_Great) (_ : T_r03_Check) : LP := fun _ _ _ _ =>
 False
def S0_l03_valid (e : List (Nat × EffF)) (a0 : T_r03_Great) (a1 : T_r03_Check) : SE := ⟨(E e), lookS [(n_r03_Great, pw_r03_Great a0), (n_r03_Check, pw_r03_Check a1)], lookI [], lp_l03_valid a0 a1⟩
theorem se0_l03_valid (e : List (Nat × EffF)) (he : EG e) : SEOk (S0_l03_valid e w_r03_Great w_r03_Check) := seOk_of ⟨(ok_r03_Great e he), (ok_r03_Check e he), trivial⟩ trivial he.ok
theorem eq_l03_valid (e : List (Nat × EffF)) (a0 a1 p0 K) : WP (S0_l03_valid e a0 a1) 6 t_l03_valid [(.data p0)] K = wv_l03_valid a0 a1 p0 (fun r0 => K (.bool r0)) := by kernel_rfl
theorem ok_l03_valid (e : List (Nat × EffF)) (he : EG e) : OkF (E e) wp_l03_valid n_l03_valid := by
 intro as K h
 unfold wp_l03_valid pw_l03_valid at h
 split at h
 · exact WP_ok (se0_l03_valid e he) (LpOk_no (by kernel_rfl)) (by kernel_rfl) (by kernel_rfl) (fun _ => baseS_none (by kernel_rfl) _) (he.num _ (by kernel_rfl)) ((eq_l03_valid ..).mpr h)
 · exact h.elim
abbrev T_l03_of : Type := Int → Int → (Int → Int → Int → Int → Prop) → Prop
def wv_l03_of (p0 p1 : Int) (K : Int → Int → Int → Int → Prop) : Prop :=
 (K p0 (1 : Int) p1 (1 : Int))
def w_l03_of (p0 p1 : Int) (K : Int → Int → Int → Int → Prop) : Prop := wv_l03_of p0 p1 K
def pw_l03_of (w : T_l03_of) (as : List PV) (K : PV → Prop) : Prop :=
 match as with
 | [(.int .i64 p0), (.int .i64 p1)] => w p0 p1 (fun r0 r1 r2 r3 => K (.agg [(.int .i64 r0), (.int .i64 r1), (.int .i64 r2), (.int .i64 r3)]))
 | _ => False
def wp_l03_of (as : List PV) (K : PV → Prop) : Prop := pw_l03_of w_l03_of as K
def lp_l03_of : LP := fun _ _ _ _ =>
 False
def S0_l03_of (e : List (Nat × EffF)) : SE := ⟨(E e), lookS [], lookI [], lp_l03_of⟩
theorem se0_l03_of (e : List (Nat × EffF)) (he : EG e) : SEOk (S0_l03_of e) := seOk_of trivial trivial he.ok
theorem eq_l03_of (e : List (Nat × EffF)) ( p0 p1 K) : WP (S0_l03_of e) 6 t_l03_of [(.int .i64 p0), (.int .i64 p1)] K = wv_l03_of p0 p1 (fun r0 r1 r2 r3 => K (.agg [(.int .i64 r0), (.int .i64 r1), (.int .i64 r2), (.int .i64 r3)])) := by kernel_rfl
theorem ok_l03_of (e : List (Nat × EffF)) (he : EG e) : OkF (E e) wp_l03_of n_l03_of := by
 intro as K h
 unfold wp_l03_of pw_l03_of at h
 split at h
 · exact WP_ok (se0_l03_of e he) (LpOk_no (by kernel_rfl)) (by kernel_rfl) (by kernel_rfl) (fun _ => baseS_none (by kernel_rfl) _) (he.num _ (by kernel_rfl)) ((eq_l03_of ..).mpr h)
 · exact h.elim
abbrev T_l03_is : Type := List PV → Int → List PV → (Bool → Prop) → Prop
def wv_l03_is (a0 : T_r03_Same) (p0 : List PV) (p1 : Int) (p2 : List PV) (K : Bool → Prop) : Prop :=
 (jn (fun (yj2 : Bool → Prop) =>
 (cbr (p1 == (0 : Int))
 (a0 p0 p2 (fun yb3 => 
 (yj2 yb3)))
 (yj2 false)))
 (fun yb1 => (K yb1)))
def w_l03_is (p0 : List PV) (p1 : Int) (p2 : List PV) (K : Bool → Prop) : Prop := wv_l03_is w_r03_Same p0 p1 p2 K
def pw_l03_is (w : T_l03_is) (as : List PV) (K : PV → Prop) : Prop :=
 match as with
 | [(.data p0), (.int .i64 p1), (.data p2)] => w p0 p1 p2 (fun r0 => K (.bool r0))
 | _ => False
def wp_l03_is (as : List PV) (K : PV → Prop) : Prop := pw_l03_is w_l03_is as K
def lp_l03_is (_ : T_r03_Same) : LP := fun _ _ _ _ =>
 False
def S0_l03_is (e : List (Nat × EffF)) (a0 : T_r03_Same) : SE := ⟨(E e), lookS [(n_r03_Same, pw_r03_Same a0)], lookI [], lp_l03_is a0⟩
theorem se0_l03_is (e : List (Nat × EffF)) (he : EG e) : SEOk (S0_l03_is e w_r03_Same) := seOk_of ⟨(ok_r03_Same e he), trivial⟩ trivial he.ok
theorem eq_l03_is (e : List (Nat × EffF)) (a0 p0 p1 p2 K) : WP (S0_l03_is e a0) 6 t_l03_is [(.data p0), (.int .i64 p1), (.data p2)] K = wv_l03_is a0 p0 p1 p2 (fun r0 => K (.bool r0)) := by kernel_rfl
theorem ok_l03_is (e : List (Nat × EffF)) (he : EG e) : OkF (E e) wp_l03_is n_l03_is := by
 intro as K h
 unfold wp_l03_is pw_l03_is at h
 split at h
 · exact WP_ok (se0_l03_is e he) (LpOk_no (by kernel_rfl)) (by kernel_rfl) (by kernel_rfl) (fun _ => baseS_none (by kernel_rfl) _) (he.num _ (by kernel_rfl)) ((eq_l03_is ..).mpr h)
 · exact h.elim
abbrev T_l03_alive : Type := (Bool → Prop) → Prop
def wv_l03_alive (a0 : T_l03_of) (a1 : T_piece_Make) (a2 : T_piece_Has) (a3 : T_piece_Minus) (a4 : T_piece_Length) (a5 : T_piece_Cut) (a6 : T_l03_is) (K : Bool → Prop) : Prop :=
 (a0 (2 : Int) (5 : Int) (fun yi14 yi15 yi16 yi17 => 
 (a0 (0 : Int) (1 : Int) (fun yi18 yi19 yi20 yi21 => 
 (a0 (1 : Int) (2 : Int) (fun yi22 yi23 yi24 yi25 => 
 (a1 ([(.agg [(.int .i64 yi14), (.int .i64 yi15), (.int .i64 yi16), (.int .i64 yi17)]), (.agg [(.int .i64 yi18), (.int .i64 yi19), (.int .i64 yi20), (.int .i64 yi21)]), (.agg [(.int .i64 yi22), (.int .i64 yi23), (.int .i64 yi24), (.int .i64 yi25)])] : List PV) (fun yl26 yi27 => 
 (a0 (4 : Int) (5 : Int) (fun yi34 yi35 _ _ => 
 (a2 yl26 yi34 yi35 (fun yb38 yi39 => 
 (a0 (4 : Int) (5 : Int) (fun _ _ yi48 yi49 => 
 (a2 yl26 yi48 yi49 (fun yb50 yi51 => 
 (a0 (1 : Int) (2 : Int) (fun yi58 yi59 yi60 yi61 => 
 (a3 yl26 ([(.agg [(.int .i64 yi58), (.int .i64 yi59), (.int .i64 yi60), (.int .i64 yi61)])] : List PV) (fun yl62 yi63 => 
 (a4 yl62 (fun yi67 yi68 yi69 => 
 (a0 (3 : Int) (4 : Int) (fun yi77 yi78 _ _ => 
 (a5 yl62 yi77 yi78 (fun yl81 yl82 yi83 => 
 (jn (fun (yj113 : Bool → Prop) =>
 (a0 (0 : Int) (5 : Int) (fun yi114 yi115 yi116 yi117 => 
 (a6 yl26 yi27 ([(.agg [(.int .i64 yi114), (.int .i64 yi115), (.int .i64 yi116), (.int .i64 yi117)])] : List PV) (fun yb118 => 
 (cbr yb118
 (cbr (yi39 == (0 : Int))
 (cbr yb38
 (cbr (yi51 == (0 : Int))
 (cbr (!yb50)
 (a0 (0 : Int) (1 : Int) (fun yi119 yi120 yi121 yi122 => 
 (a0 (2 : Int) (5 : Int) (fun yi123 yi124 yi125 yi126 => 
 (a6 yl62 yi63 ([(.agg [(.int .i64 yi119), (.int .i64 yi120), (.int .i64 yi121), (.int .i64 yi122)]), (.agg [(.int .i64 yi123), (.int .i64 yi124), (.int .i64 yi125), (.int .i64 yi126)])] : List PV) (fun yb127 => 
 (cbr yb127
 (cbr (yi69 == (0 : Int))
 (cbr ((yi67 == (4 : Int)) && ((yi68 == (1 : Int)) && true))
 (a0 (0 : Int) (1 : Int) (fun yi128 yi129 yi130 yi131 => 
 (a0 (2 : Int) (3 : Int) (fun yi132 yi133 yi134 yi135 => 
 (a6 yl81 yi83 ([(.agg [(.int .i64 yi128), (.int .i64 yi129), (.int .i64 yi130), (.int .i64 yi131)]), (.agg [(.int .i64 yi132), (.int .i64 yi133), (.int .i64 yi134), (.int .i64 yi135)])] : List PV) (fun yb136 => 
 (cbr yb136
 (a0 (3 : Int) (5 : Int) (fun yi137 yi138 yi139 yi140 => 
 (a6 yl82 yi83 ([(.agg [(.int .i64 yi137), (.int .i64 yi138), (.int .i64 yi139), (.int .i64 yi140)])] : List PV) (fun yb141 => 
 (yj113 yb141)))))
 (yj113 false))))))))
 (yj113 false))
 (yj113 false))
 (yj113 false))))))))
 (yj113 false))
 (yj113 false))
 (yj113 false))
 (yj113 false))
 (yj113 false)))))))
 (fun yb112 => (K yb112)))))))))))))))))))))))))))))
def w_l03_alive (K : Bool → Prop) : Prop := wv_l03_alive w_l03_of w_piece_Make w_piece_Has w_piece_Minus w_piece_Length w_piece_Cut w_l03_is  K
def pw_l03_alive (w : T_l03_alive) (as : List PV) (K : PV → Prop) : Prop :=
 match as with
 | [] => w  (fun r0 => K (.bool r0))
 | _ => False
def wp_l03_alive (as : List PV) (K : PV → Prop) : Prop := pw_l03_alive w_l03_alive as K
def lp_l03_alive (_ : T_l03_of) (_ : T_piece_Make) (_ : T_piece_Has) (_ : T_piece_Minus) (_ : T_piece_Length) (_ : T_piece_Cut) (_ : T_l03_is) : LP := fun _ _ _ _ =>
 False
def S0_l03_alive (a0 : T_l03_of) (a1 : T_piece_Make) (a2 : T_piece_Has) (a3 : T_piece_Minus) (a4 : T_piece_Length) (a5 : T_piece_Cut) (a6 : T_l03_is) : SE := ⟨(E ef0), lookS [(n_l03_of, pw_l03_of a0), (n_piece_Make, pw_piece_Make a1), (n_piece_Has, pw_piece_Has a2), (n_piece_Minus, pw_piece_Minus a3), (n_piece_Length, pw_piece_Length a4), (n_piece_Cut, pw_piece_Cut a5), (n_l03_is, pw_l03_is a6)], lookI [], lp_l03_alive a0 a1 a2 a3 a4 a5 a6⟩
theorem se0_l03_alive : SEOk (S0_l03_alive w_l03_of w_piece_Make w_piece_Has w_piece_Minus w_piece_Length w_piece_Cut w_l03_is) := seOk_of ⟨(ok_l03_of ef0 effG0), ok_piece_Make, (ok_piece_Has ef0 effG0), (ok_piece_Minus ef0 effG0), (ok_piece_Length ef0 effG0), (ok_piece_Cut ef0 effG0), (ok_l03_is ef0 effG0), trivial⟩ trivial effG0.ok
theorem eq_l03_alive (a0 a1 a2 a3 a4 a5 a6 K) : WP (S0_l03_alive a0 a1 a2 a3 a4 a5 a6) 6 t_l03_alive [] K = wv_l03_alive a0 a1 a2 a3 a4 a5 a6  (fun r0 => K (.bool r0)) := by kernel_rfl
theorem ok_l03_alive : OkF (E ef0) wp_l03_alive n_l03_alive := by
 intro as K h
 unfold wp_l03_alive pw_l03_alive at h
 split at h
 · exact WP_ok (se0_l03_alive) (LpOk_no (by kernel_rfl)) (by kernel_rfl) (by kernel_rfl) (fun _ => baseS_none (by kernel_rfl) _) (effG0.num _ (by kernel_rfl)) ((eq_l03_alive ..).mpr h)
 · exact h.elim
abbrev T_l03_PieceCanonical : Type := List PV → Int → Int → List PV → List PV → (Bool → Prop) → Prop
mutual
def L_l03_PieceCanonical_0_0 (a0 : T_r03_Great) (a1 : T_l03_valid) (a2 : T_l03_alive) (a3 : T_piece_Make) (a4 : T_r01_Check) (a5 : T_r01_Less) (a6 : T_piece_Has) (a7 : T_r03_Check) (a8 : T_r03_Same) (a9 : T_piece_Minus) (x0 : List PV → List PV → List PV → Int → Int → List PV → Bool → Int → Bool → Prop) (x1 : List PV → List PV → List PV → List PV → Int → Int → List PV → Bool → Int → Bool → Prop) : Nat → List PV → List PV → List PV → Int → Int → List PV → Bool → Int → Prop
 | 0, _, _, _, _, _, _, _, _ => False
 | n + 1, l0, l1, l2, i3, i4, l5, b6, i7 =>
 (cbr (decide (i7 ≥ (0 : Int)))
 (jn (fun (yj32 : List PV → Bool → Prop) =>
 (asr (decide ((0 : Int) ≤ i7))
 (asr (decide (i7 < (((List.length l0) : Nat) : Int)))
 (lt (List.getD l0 (i7.toNat) .nils) (fun yr53 =>
 (asr (conf (.agg [.i .i64, .i .i64, .i .i64, .i .i64]) yr53)
 (cbr b6
 (yj32 ([(.agg [(.int .i64 (intOfV (cellAt yr53 0))), (.int .i64 (intOfV (cellAt yr53 1))), (.int .i64 (intOfV (cellAt yr53 2))), (.int .i64 (intOfV (cellAt yr53 3)))])] : List PV) true)
 (a4 i3 i4 (fun yi54 => 
 (cbr (yi54 == (0 : Int))
 (asr (decide ((0 : Int) ≤ i7))
 (asr (decide (i7 < (((List.length l0) : Nat) : Int)))
 (lt (List.getD l0 (i7.toNat) .nils) (fun yr55 =>
 (asr (conf (.agg [.i .i64, .i .i64, .i .i64, .i .i64]) yr55)
 (a5 i3 i4 (intOfV (cellAt yr55 0)) (intOfV (cellAt yr55 1)) (fun yb56 => 
 (cbr (!yb56)
 (asr (decide ((0 : Int) ≤ i7))
 (asr (decide (i7 < (((List.length l0) : Nat) : Int)))
 (lt (List.getD l0 (i7.toNat) .nils) (fun yr57 =>
 (asr (conf (.agg [.i .i64, .i .i64, .i .i64, .i .i64]) yr57)
 (a5 i3 i4 (intOfV (cellAt yr57 2)) (intOfV (cellAt yr57 3)) (fun yb58 => 
 (yj32 ([(.agg [(.int .i64 (intOfV (cellAt yr53 0))), (.int .i64 (intOfV (cellAt yr53 1))), (.int .i64 (intOfV (cellAt yr53 2))), (.int .i64 (intOfV (cellAt yr53 3)))])] : List PV) yb58))))))))
 (yj32 ([(.agg [(.int .i64 (intOfV (cellAt yr53 0))), (.int .i64 (intOfV (cellAt yr53 1))), (.int .i64 (intOfV (cellAt yr53 2))), (.int .i64 (intOfV (cellAt yr53 3)))])] : List PV) false)))))))))
 (yj32 ([(.agg [(.int .i64 (intOfV (cellAt yr53 0))), (.int .i64 (intOfV (cellAt yr53 1))), (.int .i64 (intOfV (cellAt yr53 2))), (.int .i64 (intOfV (cellAt yr53 3)))])] : List PV) false)))))))))))
 (fun yl30 yb31 => (lt (IntKind.i64.wrap (i7 - (1 : Int))) (fun yi33 =>
 (asr (decide ((List.length yl30) = List.length yl30) && decide ((List.length yl30) = List.length yl30))
 (L_l03_PieceCanonical_0_1 a0 a1 a2 a3 a4 a5 a6 a7 a8 a9 x0 x1 n yl30 l0 l1 l2 i3 i4 l5 yb31 yi33))))))
 (x0 l0 l1 l2 i3 i4 l5 b6 i7 false))
def L_l03_PieceCanonical_0_1 (a0 : T_r03_Great) (a1 : T_l03_valid) (a2 : T_l03_alive) (a3 : T_piece_Make) (a4 : T_r01_Check) (a5 : T_r01_Less) (a6 : T_piece_Has) (a7 : T_r03_Check) (a8 : T_r03_Same) (a9 : T_piece_Minus) (x0 : List PV → List PV → List PV → Int → Int → List PV → Bool → Int → Bool → Prop) (x1 : List PV → List PV → List PV → List PV → Int → Int → List PV → Bool → Int → Bool → Prop) : Nat → List PV → List PV → List PV → List PV → Int → Int → List PV → Bool → Int → Prop
 | 0, _, _, _, _, _, _, _, _, _ => False
 | n + 1, l0, l1, l2, l3, i4, i5, l6, b9, i10 =>
 (cbr (decide (i10 ≥ (0 : Int)))
 (jn (fun (yj43 : List PV → Bool → Prop) =>
 (asr (decide ((0 : Int) ≤ i10))
 (asr (decide (i10 < (((List.length l1) : Nat) : Int)))
 (lt (List.getD l1 (i10.toNat) .nils) (fun yr46 =>
 (asr (conf (.agg [.i .i64, .i .i64, .i .i64, .i .i64]) yr46)
 (asr (decide ((List.length l0) = (List.length l0)))
 (asr (decide ((0 + (List.length l0)) ≤ (List.length l0)))
 (asr (!(decide (((0 + (List.length l0)) + 1) ≤ (List.length l0))))
 (asr (decide ((List.length l0) = (List.length l0)))
 (asr (decide ((((List.length l0) + 1) + 64) * (32 + 1) ≤ room))
 (cbr b9
 (yj43 (l0 ++ ([(.agg [(.int .i64 (intOfV (cellAt yr46 0))), (.int .i64 (intOfV (cellAt yr46 1))), (.int .i64 (intOfV (cellAt yr46 2))), (.int .i64 (intOfV (cellAt yr46 3)))])] : List PV)) true)
 (a4 i4 i5 (fun yi47 => 
 (cbr (yi47 == (0 : Int))
 (asr (decide ((0 : Int) ≤ i10))
 (asr (decide (i10 < (((List.length l1) : Nat) : Int)))
 (lt (List.getD l1 (i10.toNat) .nils) (fun yr48 =>
 (asr (conf (.agg [.i .i64, .i .i64, .i .i64, .i .i64]) yr48)
 (a5 i4 i5 (intOfV (cellAt yr48 0)) (intOfV (cellAt yr48 1)) (fun yb49 => 
 (cbr (!yb49)
 (asr (decide ((0 : Int) ≤ i10))
 (asr (decide (i10 < (((List.length l1) : Nat) : Int)))
 (lt (List.getD l1 (i10.toNat) .nils) (fun yr50 =>
 (asr (conf (.agg [.i .i64, .i .i64, .i .i64, .i .i64]) yr50)
 (a5 i4 i5 (intOfV (cellAt yr50 2)) (intOfV (cellAt yr50 3)) (fun yb51 => 
 (yj43 (l0 ++ ([(.agg [(.int .i64 (intOfV (cellAt yr46 0))), (.int .i64 (intOfV (cellAt yr46 1))), (.int .i64 (intOfV (cellAt yr46 2))), (.int .i64 (intOfV (cellAt yr46 3)))])] : List PV)) yb51))))))))
 (yj43 (l0 ++ ([(.agg [(.int .i64 (intOfV (cellAt yr46 0))), (.int .i64 (intOfV (cellAt yr46 1))), (.int .i64 (intOfV (cellAt yr46 2))), (.int .i64 (intOfV (cellAt yr46 3)))])] : List PV)) false)))))))))
 (yj43 (l0 ++ ([(.agg [(.int .i64 (intOfV (cellAt yr46 0))), (.int .i64 (intOfV (cellAt yr46 1))), (.int .i64 (intOfV (cellAt yr46 2))), (.int .i64 (intOfV (cellAt yr46 3)))])] : List PV)) false))))))))))))))))
 (fun yl41 yb42 => (lt (IntKind.i64.wrap (i10 - (1 : Int))) (fun yi44 =>
 (asr (decide ((List.length yl41) = List.length yl41) && decide ((List.length yl41) = List.length yl41))
 (L_l03_PieceCanonical_0_1 a0 a1 a2 a3 a4 a5 a6 a7 a8 a9 x0 x1 n yl41 l1 l2 l3 i4 i5 l6 yb42 yi44))))))
 (x1 l0 l1 l2 l3 i4 i5 l6 b9 i10 false))
end
def wv_l03_PieceCanonical (a0 : T_r03_Great) (a1 : T_l03_valid) (a2 : T_l03_alive) (a3 : T_piece_Make) (a4 : T_r01_Check) (a5 : T_r01_Less) (a6 : T_piece_Has) (a7 : T_r03_Check) (a8 : T_r03_Same) (a9 : T_piece_Minus) (p0 : List PV) (p1 p2 : Int) (p3 p4 : List PV) (K : Bool → Prop) : Prop :=
 (jn (fun (yj14 : Bool → Prop) =>
 (a0 p0 (fun yb272 => 
 (cbr yb272
 (yj14 true)
 (a1 p3 (fun yb273 => 
 (cbr (!yb273)
 (yj14 true)
 (a1 p4 (fun yb274 => 
 (yj14 (!yb274)))))))))))
 (fun yb13 => (cbr yb13
 (a2  (fun yb16 => 
 (K yb16)))
 (a3 p0 (fun yl19 yi20 => 
 (jn (fun (yj143 : List PV → List PV → Prop) =>
 (cbr (yi20 == (0 : Int))
 (lt (IntKind.i64.wrap ((((List.length p0) : Nat) : Int) - (1 : Int))) (fun yi188 =>
 (∃ n : Nat, L_l03_PieceCanonical_0_0 a0 a1 a2 a3 a4 a5 a6 a7 a8 a9
 (fun _ yl190 yl191 yi192 yi193 yl194 yb195 _ _ => (a3 ([] : List PV) (fun yl200 yi201 => 
 (a3 yl194 (fun yl204 yi205 => 
 (a6 yl194 yi192 yi193 (fun yb208 yi209 => 
 (jn (fun (yj214 : Bool → Prop) =>
 (a7 yl194 (fun yi215 => 
 (cbr (yi215 != (0 : Int))
 (yj214 true)
 (cbr (yi201 != (0 : Int))
 (yj214 true)
 (cbr (yi205 != (0 : Int))
 (yj214 true)
 (a8 yl194 yl200 (fun yb216 => 
 (cbr (!yb216)
 (yj214 true)
 (a8 yl194 yl204 (fun yb217 => 
 (cbr (!yb217)
 (yj214 true)
 (cbr (yi209 == (0 : Int))
 (cbr (yb208 != yb195)
 (yj214 true)
 (cbr (yi209 != (0 : Int))
 (yj214 (yi209 != (2 : Int)))
 (yj214 false)))
 (cbr (yi209 != (0 : Int))
 (yj214 (yi209 != (2 : Int)))
 (yj214 false)))))))))))))))
 (fun yb213 => (cbr yb213
 (K false)
 (yj143 yl190 yl191)))))))))))
 (fun yl218 _ yl220 yl221 yi222 yi223 yl224 yb225 _ _ => (asr (decide ((List.length yl218) = (List.length yl218)))
 (asr (decide ((0 + (List.length yl218)) ≤ (List.length yl218)))
 (a3 (List.take (List.length yl218) yl218) (fun yl230 yi231 => 
 (a3 yl224 (fun yl234 yi235 => 
 (a6 yl224 yi222 yi223 (fun yb238 yi239 => 
 (jn (fun (yj244 : Bool → Prop) =>
 (a7 yl224 (fun yi267 => 
 (cbr (yi267 != (0 : Int))
 (yj244 true)
 (cbr (yi231 != (0 : Int))
 (yj244 true)
 (cbr (yi235 != (0 : Int))
 (yj244 true)
 (a8 yl224 yl230 (fun yb268 => 
 (cbr (!yb268)
 (yj244 true)
 (a8 yl224 yl234 (fun yb269 => 
 (cbr (!yb269)
 (yj244 true)
 (cbr (yi239 == (0 : Int))
 (cbr (yb238 != yb225)
 (yj244 true)
 (cbr (yi239 != (0 : Int))
 (yj244 (yi239 != (2 : Int)))
 (yj244 false)))
 (cbr (yi239 != (0 : Int))
 (yj244 (yi239 != (2 : Int)))
 (yj244 false)))))))))))))))
 (fun yb243 => (cbr yb243
 (K false)
 (a9 yl220 yl221 (fun yl247 yi248 => 
 (a9 yl221 yl220 (fun yl251 yi252 => 
 (jn (fun (yj256 : Bool → Prop) =>
 (cbr (yi248 != (0 : Int))
 (yj256 true)
 (yj256 (yi252 != (0 : Int)))))
 (fun yb255 => (cbr yb255
 (K false)
 (jn (fun (yj262 : Bool → Prop) =>
 (cbr ((((List.length yl247) : Nat) : Int) == (0 : Int))
 (a8 yl220 yl221 (fun yb263 => 
 (cbr (((((List.length yl251) : Nat) : Int) == (0 : Int)) == yb263)
 (a2  (fun yb264 => 
 (yj262 yb264)))
 (yj262 false))))
 (a8 yl220 yl221 (fun yb265 => 
 (cbr (false == yb265)
 (a2  (fun yb266 => 
 (yj262 yb266)))
 (yj262 false))))))
 (fun yb261 => (K yb261))))))))))))))))))))))
 n p0 p3 p4 p1 p2 yl19 false yi188)))
 (jn (fun (yj271 : Bool → Prop) =>
 (cbr (yi20 != (4 : Int))
 (yj271 (yi20 != (8 : Int)))
 (yj271 false)))
 (fun yb270 => (cbr yb270
 (K false)
 (yj143 p3 p4))))))
 (fun yl141 yl142 => (a9 yl141 yl142 (fun yl146 yi147 => 
 (a9 yl142 yl141 (fun yl150 yi151 => 
 (jn (fun (yj155 : Bool → Prop) =>
 (cbr (yi147 != (0 : Int))
 (yj155 true)
 (yj155 (yi151 != (0 : Int)))))
 (fun yb154 => (cbr yb154
 (K false)
 (jn (fun (yj161 : Bool → Prop) =>
 (cbr ((((List.length yl146) : Nat) : Int) == (0 : Int))
 (a8 yl141 yl142 (fun yb162 => 
 (cbr (((((List.length yl150) : Nat) : Int) == (0 : Int)) == yb162)
 (a2  (fun yb163 => 
 (yj161 yb163)))
 (yj161 false))))
 (a8 yl141 yl142 (fun yb164 => 
 (cbr (false == yb164)
 (a2  (fun yb165 => 
 (yj161 yb165)))
 (yj161 false))))))
 (fun yb160 => (K yb160)))))))))))))))))
def w_l03_PieceCanonical (p0 : List PV) (p1 p2 : Int) (p3 p4 : List PV) (K : Bool → Prop) : Prop := wv_l03_PieceCanonical w_r03_Great w_l03_valid w_l03_alive w_piece_Make w_r01_Check w_r01_Less w_piece_Has w_r03_Check w_r03_Same w_piece_Minus p0 p1 p2 p3 p4 K
def pw_l03_PieceCanonical (w : T_l03_PieceCanonical) (as : List PV) (K : PV → Prop) : Prop :=
 match as with
 | [(.data p0), (.agg [(.int .i64 p1), (.int .i64 p2)]), (.data p3), (.data p4)] => w p0 p1 p2 p3 p4 (fun r0 => K (.bool r0))
 | _ => False
def wp_l03_PieceCanonical (as : List PV) (K : PV → Prop) : Prop := pw_l03_PieceCanonical w_l03_PieceCanonical as K
def D_l03_PieceCanonical_0 (F : Frm) (H : Hp) (A0 : List PV → List PV → List PV → Int → Int → List PV → Bool → Int → Prop) (A1 : List PV → List PV → List PV → List PV → Int → Int → List PV → Bool → Int → Prop) : Prop :=
 match F, H with
 | [(0, .v (.data l0)), (2, .v (.data l1)), (3, .v (.data l2)), (5, .box (.agg [(.int .i64 i3), (.int .i64 i4)])), (9, .v (.data l5)), (11, .v .nils), (12, .v (.bool b6)), (13, .v (.int .i64 i7))], [] => (A0 l0 l1 l2 i3 i4 l5 b6 i7)
 | [(0, .v (.data l1)), (2, .v (.data l2)), (3, .v (.data l3)), (5, .box (.agg [(.int .i64 i4), (.int .i64 i5)])), (9, .v (.data l6)), (11, .v (.own 0 0 t7 t8 none)), (12, .v (.bool b9)), (13, .v (.int .i64 i10))], [⟨false, true, 4, l0⟩] => asr (decide (t7 = List.length l0) && decide (t8 = List.length l0)) (A1 l0 l1 l2 l3 i4 i5 l6 b9 i10)
 | _, _ => False
def X_l03_PieceCanonical_0_0 (Q : Ex → Frm → Hp → Prop) : List PV → List PV → List PV → Int → Int → List PV → Bool → Int → Bool → Prop := (fun l0 l1 l2 i3 i4 l5 b6 i7 b8 => Q (.exit 0) [(0, .v (.data l0)), (2, .v (.data l1)), (3, .v (.data l2)), (5, .box (.agg [(.int .i64 i3), (.int .i64 i4)])), (9, .v (.data l5)), (11, .v .nils), (12, .v (.bool b6)), (13, .v (.int .i64 i7)), (48, .v (.bool b8))] [])
def X_l03_PieceCanonical_0_1 (Q : Ex → Frm → Hp → Prop) : List PV → List PV → List PV → List PV → Int → Int → List PV → Bool → Int → Bool → Prop := (fun l0 l1 l2 l3 i4 i5 l6 b9 i10 b11 => Q (.exit 0) [(0, .v (.data l1)), (2, .v (.data l2)), (3, .v (.data l3)), (5, .box (.agg [(.int .i64 i4), (.int .i64 i5)])), (9, .v (.data l6)), (11, .v (.own 0 0 (List.length l0) (List.length l0) none)), (12, .v (.bool b9)), (13, .v (.int .i64 i10)), (48, .v (.bool b11))] [⟨false, true, 4, l0⟩])
def R_l03_PieceCanonical_0 (a0 : T_r03_Great) (a1 : T_l03_valid) (a2 : T_l03_alive) (a3 : T_piece_Make) (a4 : T_r01_Check) (a5 : T_r01_Less) (a6 : T_piece_Has) (a7 : T_r03_Check) (a8 : T_r03_Same) (a9 : T_piece_Minus) (Q : Ex → Frm → Hp → Prop) (n : Nat) (F : Frm) (H : Hp) : Prop := D_l03_PieceCanonical_0 F H (fun l0 l1 l2 i3 i4 l5 b6 i7 => L_l03_PieceCanonical_0_0 a0 a1 a2 a3 a4 a5 a6 a7 a8 a9 (X_l03_PieceCanonical_0_0 Q) (X_l03_PieceCanonical_0_1 Q) n l0 l1 l2 i3 i4 l5 b6 i7) (fun l0 l1 l2 l3 i4 i5 l6 b9 i10 => L_l03_PieceCanonical_0_1 a0 a1 a2 a3 a4 a5 a6 a7 a8 a9 (X_l03_PieceCanonical_0_0 Q) (X_l03_PieceCanonical_0_1 Q) n l0 l1 l2 l3 i4 i5 l6 b9 i10)
def lp_l03_PieceCanonical (a0 : T_r03_Great) (a1 : T_l03_valid) (a2 : T_l03_alive) (a3 : T_piece_Make) (a4 : T_r01_Check) (a5 : T_r01_Less) (a6 : T_piece_Has) (a7 : T_r03_Check) (a8 : T_r03_Same) (a9 : T_piece_Minus) : LP := fun id F H Q =>
 bif Nat.beq id 93456400 then D_l03_PieceCanonical_0 F H (fun l0 l1 l2 i3 i4 l5 b6 i7 => ∃ n : Nat, L_l03_PieceCanonical_0_0 a0 a1 a2 a3 a4 a5 a6 a7 a8 a9 (X_l03_PieceCanonical_0_0 Q) (X_l03_PieceCanonical_0_1 Q) n l0 l1 l2 i3 i4 l5 b6 i7) (fun l0 l1 l2 l3 i4 i5 l6 b9 i10 => ∃ n : Nat, L_l03_PieceCanonical_0_1 a0 a1 a2 a3 a4 a5 a6 a7 a8 a9 (X_l03_PieceCanonical_0_0 Q) (X_l03_PieceCanonical_0_1 Q) n l0 l1 l2 l3 i4 i5 l6 b9 i10) else
 False
def S0_l03_PieceCanonical (a0 : T_r03_Great) (a1 : T_l03_valid) (a2 : T_l03_alive) (a3 : T_piece_Make) (a4 : T_r01_Check) (a5 : T_r01_Less) (a6 : T_piece_Has) (a7 : T_r03_Check) (a8 : T_r03_Same) (a9 : T_piece_Minus) : SE := ⟨(E ef0), lookS [(n_r03_Great, pw_r03_Great a0), (n_l03_valid, pw_l03_valid a1), (n_l03_alive, pw_l03_alive a2), (n_piece_Make, pw_piece_Make a3), (n_r01_Check, pw_r01_Check a4), (n_r01_Less, pw_r01_Less a5), (n_piece_Has, pw_piece_Has a6), (n_r03_Check, pw_r03_Check a7), (n_r03_Same, pw_r03_Same a8), (n_piece_Minus, pw_piece_Minus a9)], lookI [], lp_l03_PieceCanonical a0 a1 a2 a3 a4 a5 a6 a7 a8 a9⟩
theorem se0_l03_PieceCanonical : SEOk (S0_l03_PieceCanonical w_r03_Great w_l03_valid w_l03_alive w_piece_Make w_r01_Check w_r01_Less w_piece_Has w_r03_Check w_r03_Same w_piece_Minus) := seOk_of ⟨(ok_r03_Great ef0 effG0), (ok_l03_valid ef0 effG0), ok_l03_alive, ok_piece_Make, (ok_r01_Check ef0 effG0), (ok_r01_Less ef0 effG0), (ok_piece_Has ef0 effG0), (ok_r03_Check ef0 effG0), (ok_r03_Same ef0 effG0), (ok_piece_Minus ef0 effG0), trivial⟩ trivial effG0.ok
theorem body_l03_PieceCanonical_0_0 (a0 a1 a2 a3 a4 a5 a6 a7 a8 a9 Q n l0 l1 l2 i3 i4 l5 b6 i7) : WC (E ef0) (callW (S0_l03_PieceCanonical a0 a1 a2 a3 a4 a5 a6 a7 a8 a9) 5) (lp_l03_PieceCanonical a0 a1 a2 a3 a4 a5 a6 a7 a8 a9) b_93456400 [(0, .v (.data l0)), (2, .v (.data l1)), (3, .v (.data l2)), (5, .box (.agg [(.int .i64 i3), (.int .i64 i4)])), (9, .v (.data l5)), (11, .v .nils), (12, .v (.bool b6)), (13, .v (.int .i64 i7))] [] (fun x F' H' => match x with | .norm => R_l03_PieceCanonical_0 a0 a1 a2 a3 a4 a5 a6 a7 a8 a9 Q n F' H' | .exit i => Q (.exit i) F' H' | .ret => Q .ret F' H') = L_l03_PieceCanonical_0_0 a0 a1 a2 a3 a4 a5 a6 a7 a8 a9 (X_l03_PieceCanonical_0_0 Q) (X_l03_PieceCanonical_0_1 Q) (n + 1) l0 l1 l2 i3 i4 l5 b6 i7 := by kernel_rfl
theorem body_l03_PieceCanonical_0_1 (a0 a1 a2 a3 a4 a5 a6 a7 a8 a9 Q n l0 l1 l2 l3 i4 i5 l6 b9 i10) : WC (E ef0) (callW (S0_l03_PieceCanonical a0 a1 a2 a3 a4 a5 a6 a7 a8 a9) 5) (lp_l03_PieceCanonical a0 a1 a2 a3 a4 a5 a6 a7 a8 a9) b_93456400 [(0, .v (.data l1)), (2, .v (.data l2)), (3, .v (.data l3)), (5, .box (.agg [(.int .i64 i4), (.int .i64 i5)])), (9, .v (.data l6)), (11, .v (.own 0 0 (List.length l0) (List.length l0) none)), (12, .v (.bool b9)), (13, .v (.int .i64 i10))] [⟨false, true, 4, l0⟩] (fun x F' H' => match x with | .norm => R_l03_PieceCanonical_0 a0 a1 a2 a3 a4 a5 a6 a7 a8 a9 Q n F' H' | .exit i => Q (.exit i) F' H' | .ret => Q .ret F' H') = L_l03_PieceCanonical_0_1 a0 a1 a2 a3 a4 a5 a6 a7 a8 a9 (X_l03_PieceCanonical_0_0 Q) (X_l03_PieceCanonical_0_1 Q) (n + 1) l0 l1 l2 l3 i4 i5 l6 b9 i10 := by kernel_rfl
theorem lpb_l03_PieceCanonical_0 : LpOk (E ef0) (lp_l03_PieceCanonical w_r03_Great w_l03_valid w_l03_alive w_piece_Make w_r01_Check w_r01_Less w_piece_Has w_r03_Check w_r03_Same w_piece_Minus) b_93456400 := (LpOk_no (by kernel_rfl))
theorem loop_l03_PieceCanonical_0 : ∀ F H Q, lp_l03_PieceCanonical w_r03_Great w_l03_valid w_l03_alive w_piece_Make w_r01_Check w_r01_Less w_piece_Has w_r03_Check w_r03_Same w_piece_Minus 93456400 F H Q → LoopT (E ef0) b_93456400 F H Q := by
 intro F H Q h
 have go := LoopT.intro (callW_ok (se0_l03_PieceCanonical) 5) (lpb_l03_PieceCanonical_0) (R_l03_PieceCanonical_0 w_r03_Great w_l03_valid w_l03_alive w_piece_Make w_r01_Check w_r01_Less w_piece_Has w_r03_Check w_r03_Same w_piece_Minus Q) (by
   intro F H h
   unfold R_l03_PieceCanonical_0 D_l03_PieceCanonical_0 at h
   split at h
   · exact h
   · obtain ⟨hg, k⟩ := asr_iff.1 h
     clear h
     have h := k
     clear k
     try simp only [Bool.and_eq_true, decide_eq_true_eq] at hg
     obtain ⟨g0, g1⟩ := hg; subst g0; subst g1; exact h
   · exact h) (by
   intro n F H h
   unfold R_l03_PieceCanonical_0 D_l03_PieceCanonical_0 at h
   split at h
   · exact (body_l03_PieceCanonical_0_0 ..).mpr h
   · obtain ⟨hg, k⟩ := asr_iff.1 h
     clear h
     have h := k
     clear k
     try simp only [Bool.and_eq_true, decide_eq_true_eq] at hg
     obtain ⟨g0, g1⟩ := hg; subst g0; subst g1; exact (body_l03_PieceCanonical_0_1 ..).mpr h
   · exact h.elim)
 have h : D_l03_PieceCanonical_0 F H _ _ := h
 unfold D_l03_PieceCanonical_0 at h
 split at h
 · obtain ⟨n, h⟩ := h; exact go n _ _ h
 · obtain ⟨hg, n, h⟩ := asr_iff.1 h; exact go n _ _ (asr_iff.2 ⟨hg, h⟩)
 · exact h.elim
theorem eq_l03_PieceCanonical (a0 a1 a2 a3 a4 a5 a6 a7 a8 a9 p0 p1 p2 p3 p4 K) : WP (S0_l03_PieceCanonical a0 a1 a2 a3 a4 a5 a6 a7 a8 a9) 6 t_l03_PieceCanonical [(.data p0), (.agg [(.int .i64 p1), (.int .i64 p2)]), (.data p3), (.data p4)] K = wv_l03_PieceCanonical a0 a1 a2 a3 a4 a5 a6 a7 a8 a9 p0 p1 p2 p3 p4 (fun r0 => K (.bool r0)) := by kernel_rfl
theorem ok_l03_PieceCanonical : OkF (E ef0) wp_l03_PieceCanonical n_l03_PieceCanonical := by
 intro as K h
 unfold wp_l03_PieceCanonical pw_l03_PieceCanonical at h
 split at h
 · exact WP_ok (se0_l03_PieceCanonical) (LpOk_by (l := [(93456400, b_93456400)]) ⟨loop_l03_PieceCanonical_0, trivial⟩ (by kernel_rfl)) (by kernel_rfl) (by kernel_rfl) (fun _ => baseS_none (by kernel_rfl) _) (effG0.num _ (by kernel_rfl)) ((eq_l03_PieceCanonical ..).mpr h)
 · exact h.elim
end Go.Pf.Vc
namespace Go.Pf.Vc
open Go Go.Pf
def I64 (n : Int) : Prop := -9223372036854775808 ≤ n ∧ n ≤ 9223372036854775807
def U64 (n : Int) : Prop := 0 ≤ n ∧ n ≤ 18446744073709551615
theorem wu64' (n : Int) : IntKind.u64.wrap n = n % 18446744073709551616 := by
 simp only [IntKind.wrap, IntKind.signed, IntKind.bits, Bool.false_and, Bool.false_eq_true, if_false]
 rfl
theorem wi64' (n : Int) : IntKind.i64.wrap n = if n % 18446744073709551616 ≥ 9223372036854775808 then n % 18446744073709551616 - 18446744073709551616 else n % 18446744073709551616 := by
 have e1 : (2 : Int) ^ 64 = 18446744073709551616 := rfl
 have e2 : (2 : Int) ^ (64 - 1) = 9223372036854775808 := rfl
 simp only [IntKind.wrap, IntKind.signed, IntKind.bits, Bool.true_and, e1, e2]
 by_cases h : n % 18446744073709551616 ≥ 9223372036854775808 <;> simp [h]
theorem wu64 {n : Int} (h : U64 n) : IntKind.u64.wrap n = n := by
 unfold U64 at h
 rw [wu64']
 omega
theorem wi64 {n : Int} (h : I64 n) : IntKind.i64.wrap n = n := by
 unfold I64 at h
 rw [wi64']
 split <;> omega
theorem cbr_true {x y : Prop} : cbr true x y = x := rfl
theorem cbr_false {x y : Prop} : cbr false x y = y := rfl
theorem asr_true {x : Prop} : asr true x = x := rfl
theorem size_eq {p : Int} (h : I64 p) (K : Int → Prop) : w_ratio_size p K = K (p.natAbs : Int) := by
 unfold I64 at h
 unfold w_ratio_size wv_ratio_size
 by_cases hp : p < 0
 · have e : IntKind.u64.wrap ((0 : Int) - IntKind.u64.wrap p) = (p.natAbs : Int) := by
     rw [wu64', wu64']
     omega
   rw [decide_eq_true hp, cbr_true, e]
 · rw [decide_eq_false hp, cbr_false, wu64 ⟨by omega, by omega⟩]
   congr 1
   omega
theorem gcd_loop (x : Int → Int → Bool → Prop) : ∀ (n a b : Nat), b < n → L_ratio_gcd_0_0 x n (a : Int) (b : Int) = x ((Nat.gcd a b : Nat) : Int) 0 false
 | 0, a, b, h => by omega
 | n + 1, a, b, h => by
   unfold L_ratio_gcd_0_0
   by_cases hb : b = 0
   · subst hb
     simp [cbr]
   · have h1 : (b : Int) > 0 := by omega
     have h2 : ¬ ((b : Int) = 0) := by omega
     rw [decide_eq_true h1, cbr_true, decide_eq_false h2, Bool.not_false, asr_true]
     have e : Int.tmod (a : Int) (b : Int) = ((a % b : Nat) : Int) := by rw [Int.tmod_eq_emod_of_nonneg (by omega)]; omega
     rw [e, gcd_loop x n b (a % b) (by have := Nat.mod_lt a (show b > 0 by omega); omega)]
     rw [Nat.gcd_comm a b, Nat.gcd_rec b a, Nat.gcd_comm]
theorem gcd_of (a b : Nat) (K : Int → Prop) (h : K ((Nat.gcd a b : Nat) : Int)) : w_ratio_gcd (a : Int) (b : Int) K := by
 unfold w_ratio_gcd wv_ratio_gcd
 exact ⟨b + 1, by rw [gcd_loop _ (b + 1) a b (by omega)]; exact h⟩
def RV (n d : Int) : Prop := 1 ≤ d ∧ d ≤ 1000000000000000000 ∧ -1000000000000000000 ≤ n ∧ n ≤ 1000000000000000000 ∧ Nat.gcd n.natAbs d.natAbs = 1
instance (n d : Int) : Decidable (RV n d) := by unfold RV; infer_instance
def chk (n d : Int) : Int := if RV n d then 0 else 8
theorem Check_of {n d : Int} (hn : I64 n) (hd : I64 d) {K : Int → Prop} (h : K (chk n d)) : w_ratio_Check n d K := by
 unfold w_ratio_Check wv_ratio_Check
 by_cases h1 : d < 1
 · have e : chk n d = 8 := if_neg fun h => by have := h.1; omega
   rw [decide_eq_true h1, cbr_true, ← e]; exact h
 · have hd' := hd; have hn' := hn
   unfold I64 at hd' hn'
   have ed : IntKind.u64.wrap d = ((d.natAbs : Nat) : Int) := by rw [wu64 ⟨by omega, by omega⟩]; omega
   rw [decide_eq_false h1, cbr_false, size_eq hn, ed]
   by_cases h2 : ((if ((d.natAbs : Nat) : Int) > ((n.natAbs : Nat) : Int) then ((d.natAbs : Nat) : Int) else ((n.natAbs : Nat) : Int)) > 1000000000000000000)
   · have e : chk n d = 8 := if_neg fun h => by
       obtain ⟨a1, a2, a3, a4, _⟩ := h
       revert h2; split <;> omega
     rw [decide_eq_true h2, cbr_true, ← e]; exact h
   · rw [decide_eq_false h2, cbr_false, size_eq hn]
     refine gcd_of _ _ _ ?_
     have h3 : 0 < Nat.gcd n.natAbs d.natAbs := Nat.gcd_pos_of_pos_right _ (by omega)
     have h4 : d ≤ 1000000000000000000 ∧ -1000000000000000000 ≤ n ∧ n ≤ 1000000000000000000 := by
       revert h2; split <;> omega
     by_cases h5 : ((Nat.gcd n.natAbs d.natAbs : Nat) : Int) > 1
     · have e : chk n d = 8 := if_neg fun h => by have := h.2.2.2.2; omega
       rw [decide_eq_true h5, cbr_true, ← e]; exact h
     · have e : chk n d = 0 := if_pos ⟨by omega, h4.1, h4.2.1, h4.2.2, by omega⟩
       rw [decide_eq_false h5, cbr_false, ← e]; exact h
end Go.Pf.Vc
namespace Go.Pf.Vc
open Go Go.Pf
theorem mask32 {p : Int} (h : U64 p) : IntKind.u64.wrap (BitVec.ofInt IntKind.u64.bits p &&& BitVec.ofInt IntKind.u64.bits (4294967295 : Int)).toNat = p % 4294967296 := by
 unfold U64 at h
 have e1 : (BitVec.ofInt 64 p).toNat = p.toNat := by
   rw [BitVec.toNat_ofInt]; omega
 have e2 : (BitVec.ofInt 64 (4294967295 : Int)).toNat = 4294967295 := rfl
 have e3 : (BitVec.ofInt IntKind.u64.bits p &&& BitVec.ofInt IntKind.u64.bits (4294967295 : Int)).toNat = p.toNat % 4294967296 := by
   show (BitVec.ofInt 64 p &&& BitVec.ofInt 64 (4294967295 : Int)).toNat = _
   rw [BitVec.toNat_and, e1, e2]
   exact Nat.and_two_pow_sub_one_eq_mod p.toNat 32
 rw [e3, wu64']
 omega
theorem fdiv32 (p : Int) : Int.fdiv p 4294967296 = p / 4294967296 := by
 rw [Int.fdiv_eq_ediv_of_nonneg _ (by omega)]
theorem Mul64_eq {a b : Int} (ha : U64 a) (hb : U64 b) (K : Int → Int → Prop) : w_m_Mul64 a b K = K (a * b / 18446744073709551616) (a * b % 18446744073709551616) := by
 unfold w_m_Mul64 wv_m_Mul64
 simp only [fdiv32]
 rw [mask32 ha, mask32 hb]
 unfold U64 at ha hb
 have ha' := ha; have hb' := hb
 obtain ⟨x1, hx1⟩ : ∃ x, x = a / 4294967296 := ⟨_, rfl⟩
 obtain ⟨x0, hx0⟩ : ∃ x, x = a % 4294967296 := ⟨_, rfl⟩
 obtain ⟨y1, hy1⟩ : ∃ x, x = b / 4294967296 := ⟨_, rfl⟩
 obtain ⟨y0, hy0⟩ : ∃ x, x = b % 4294967296 := ⟨_, rfl⟩
 rw [← hx1, ← hx0, ← hy1, ← hy0]
 have b1 : 0 ≤ x1 ∧ x1 ≤ 4294967295 := by omega
 have b2 : 0 ≤ x0 ∧ x0 ≤ 4294967295 := by omega
 have b3 : 0 ≤ y1 ∧ y1 ≤ 4294967295 := by omega
 have b4 : 0 ≤ y0 ∧ y0 ≤ 4294967295 := by omega
 have pb : ∀ x y : Int, 0 ≤ x ∧ x ≤ 4294967295 → 0 ≤ y ∧ y ≤ 4294967295 → 0 ≤ x * y ∧ x * y ≤ 18446744065119617025 := by
   intro x y hx hy
   refine ⟨Int.mul_nonneg hx.1 hy.1, ?_⟩
   have := Int.mul_le_mul hx.2 hy.2 hy.1 (by omega : (0 : Int) ≤ 4294967295)
   omega
 have p1 := pb x1 y1 b1 b3
 have p2 := pb x1 y0 b1 b4
 have p3 := pb x0 y1 b2 b3
 have p4 := pb x0 y0 b2 b4
 have ea : a = x1 * 4294967296 + x0 := by omega
 have eb : b = y1 * 4294967296 + y0 := by omega
 have eab : a * b = x1 * y1 * 18446744073709551616 + x1 * y0 * 4294967296 + x0 * y1 * 4294967296 + x0 * y0 := by
   rw [ea, eb]; grind
 obtain ⟨P, hP⟩ : ∃ x, x = x1 * y1 := ⟨_, rfl⟩
 obtain ⟨Q, hQ⟩ : ∃ x, x = x1 * y0 := ⟨_, rfl⟩
 obtain ⟨R, hR⟩ : ∃ x, x = x0 * y1 := ⟨_, rfl⟩
 obtain ⟨S, hS⟩ : ∃ x, x = x0 * y0 := ⟨_, rfl⟩
 rw [← hP] at p1; rw [← hQ] at p2; rw [← hR] at p3; rw [← hS] at p4
 rw [← hP, ← hQ, ← hR, ← hS] at eab ⊢
 have w1 : IntKind.u64.wrap S = S := wu64 ⟨by omega, by omega⟩
 have w2 : IntKind.u64.wrap Q = Q := wu64 ⟨by omega, by omega⟩
 have w3 : IntKind.u64.wrap R = R := wu64 ⟨by omega, by omega⟩
 have w4 : IntKind.u64.wrap P = P := wu64 ⟨by omega, by omega⟩
 rw [w1, w2, w3, w4]
 have w5 : IntKind.u64.wrap (Q + S / 4294967296) = Q + S / 4294967296 := wu64 ⟨by omega, by omega⟩
 rw [w5, mask32 ⟨by omega, by omega⟩]
 have w6 : IntKind.u64.wrap ((Q + S / 4294967296) % 4294967296 + R) = (Q + S / 4294967296) % 4294967296 + R := wu64 ⟨by omega, by omega⟩
 rw [w6]
 have w7 : IntKind.u64.wrap (P + (Q + S / 4294967296) / 4294967296) = P + (Q + S / 4294967296) / 4294967296 := by
   have : a * b / 18446744073709551616 ≤ 18446744073709551615 := by
     have h1 : a * b ≤ 18446744073709551615 * 18446744073709551615 := by
       have := Int.mul_le_mul ha'.2 hb'.2 hb'.1 (by omega : (0 : Int) ≤ 18446744073709551615)
       exact this
     omega
   exact wu64 ⟨by omega, by omega⟩
 rw [w7]
 have hab : a * b ≤ 18446744073709551615 * 18446744073709551615 := Int.mul_le_mul ha'.2 hb'.2 hb'.1 (by omega : (0 : Int) ≤ 18446744073709551615)
 rw [eab] at hab ⊢
 rw [wu64', wu64']
 congr 1
 omega
theorem Or2_of {a b : Int} {K : Int → Prop} (h : K (if a = 0 then b else a)) : w_cmp_Or_api_Errno [.int .i64 a, .int .i64 b] K := by
 unfold w_cmp_Or_api_Errno wv_cmp_Or_api_Errno
 refine ⟨3, ?_⟩
 have e1 : IntKind.i64.wrap 1 = 1 := by decide
 have e2 : IntKind.i64.wrap 2 = 2 := by decide
 by_cases ha : a = 0
 · by_cases hb : b = 0
   · simp [L_cmp_Or_api_Errno_0_0, cbr_true, cbr_false, asr_true, conf, confC, intOfV, e1, e2, ha, hb] at h ⊢; exact h
   · have e3 : (b != 0) = true := by simpa using hb
     simp [L_cmp_Or_api_Errno_0_0, cbr_true, cbr_false, asr_true, conf, confC, intOfV, e1, e2, ha, e3] at h ⊢; exact h
 · have e3 : (a != 0) = true := by simpa using ha
   simp [L_cmp_Or_api_Errno_0_0, cbr_true, cbr_false, asr_true, conf, confC, intOfV, e1, e2, ha, e3] at h ⊢; exact h
def chk2 (a b c d : Int) : Int := if chk a b = 0 then chk c d else chk a b
theorem check_of {a b c d : Int} (ha : I64 a) (hb : I64 b) (hc : I64 c) (hd : I64 d) {K : Int → Prop} (h : K (chk2 a b c d)) : w_ratio_check a b c d K := by
 unfold w_ratio_check wv_ratio_check
 exact Check_of ha hb (Check_of hc hd (Or2_of h))
end Go.Pf.Vc
namespace Go.Pf.Vc
open Go Go.Pf
def cmp3 (a b : Int) : Int := if a < b then -1 else if a > b then 1 else 0
theorem Compare_i_eq (a b : Int) (K : Int → Prop) : w_cmp_Compare_int64 a b K = K (cmp3 a b) := by
 unfold w_cmp_Compare_int64 wv_cmp_Compare_int64
 simp only [w_cmp_isNaN_int64, wv_cmp_isNaN_int64, bne_self_eq_false, cbr_false, cmp3]
 by_cases h : a < b
 · simp [h, cbr_true]
 · by_cases h2 : a > b
   · simp [h, h2, cbr_true, cbr_false]
   · simp [h, h2, cbr_false]
theorem Compare_u_eq (a b : Int) (K : Int → Prop) : w_cmp_Compare_uint64 a b K = K (cmp3 a b) := by
 unfold w_cmp_Compare_uint64 wv_cmp_Compare_uint64
 simp only [w_cmp_isNaN_uint64, wv_cmp_isNaN_uint64, bne_self_eq_false, cbr_false, cmp3]
 by_cases h : a < b
 · simp [h, cbr_true]
 · by_cases h2 : a > b
   · simp [h, h2, cbr_true, cbr_false]
   · simp [h, h2, cbr_false]
theorem Or2i_of {a b : Int} {K : Int → Prop} (h : K (if a = 0 then b else a)) : w_cmp_Or_int [.int .i64 a, .int .i64 b] K := by
 unfold w_cmp_Or_int wv_cmp_Or_int
 refine ⟨3, ?_⟩
 have e1 : IntKind.i64.wrap 1 = 1 := by decide
 have e2 : IntKind.i64.wrap 2 = 2 := by decide
 by_cases ha : a = 0
 · by_cases hb : b = 0
   · simp [L_cmp_Or_int_0_0, cbr_true, cbr_false, asr_true, conf, confC, intOfV, e1, e2, ha, hb] at h ⊢; exact h
   · have e3 : (b != 0) = true := by simpa using hb
     simp [L_cmp_Or_int_0_0, cbr_true, cbr_false, asr_true, conf, confC, intOfV, e1, e2, ha, e3] at h ⊢; exact h
 · have e3 : (a != 0) = true := by simpa using ha
   simp [L_cmp_Or_int_0_0, cbr_true, cbr_false, asr_true, conf, confC, intOfV, e1, e2, ha, e3] at h ⊢; exact h
theorem I64.of {n : Int} (h1 : -1000000000000000000 ≤ n) (h2 : n ≤ 1000000000000000000) : I64 n := ⟨by omega, by omega⟩
theorem chk2_zero {a b c d : Int} : chk2 a b c d = 0 ↔ RV a b ∧ RV c d := by
 unfold chk2 chk
 by_cases h1 : RV a b <;> by_cases h2 : RV c d <;> simp [h1, h2]
def cmpR (a b c d : Int) : Int := cmp3 (a * d) (c * b)
theorem cmp3_wide {x y : Int} (_ : 0 ≤ x) (_ : 0 ≤ y) : (if cmp3 (x / 18446744073709551616) (y / 18446744073709551616) = 0 then cmp3 (x % 18446744073709551616) (y % 18446744073709551616) else cmp3 (x / 18446744073709551616) (y / 18446744073709551616)) = cmp3 x y := by
 unfold cmp3
 split <;> rename_i h <;> revert h <;> repeat' split <;> intro h <;> omega
theorem U64.abs {n : Int} (h : I64 n) : U64 ((n.natAbs : Nat) : Int) := by unfold I64 at h; unfold U64; omega
theorem Cmp_of {a b c d : Int} (ha : I64 a) (hb : I64 b) (hc : I64 c) (hd : I64 d) {K : Int → Int → Prop} (h : K (if chk2 a b c d = 0 then cmpR a b c d else 0) (chk2 a b c d)) : w_ratio_Cmp a b c d K := by
 unfold w_ratio_Cmp wv_ratio_Cmp
 refine check_of ha hb hc hd ?_
 by_cases hk : chk2 a b c d = 0
 · rw [if_pos hk] at h
   rw [hk] at h ⊢
   obtain ⟨⟨b1, b2, a1, a2, _⟩, d1, d2, c1, c2, _⟩ := chk2_zero.1 hk
   simp only [bne_self_eq_false, cbr_false]
   by_cases hs : decide (a < 0) = decide (c < 0)
   · have e : (decide (a < 0) != decide (c < 0)) = false := by rw [hs]; simp
     rw [e, cbr_false, size_eq ha, wu64 ⟨by omega, by omega⟩, Mul64_eq (U64.abs ha) ⟨by omega, by omega⟩, size_eq hc, wu64 ⟨by omega, by omega⟩, Mul64_eq (U64.abs hc) ⟨by omega, by omega⟩, Compare_u_eq, Compare_u_eq]
     refine Or2i_of ?_
     have p1 : 0 ≤ ((a.natAbs : Nat) : Int) * d := Int.mul_nonneg (by omega) (by omega)
     have p2 : 0 ≤ ((c.natAbs : Nat) : Int) * b := Int.mul_nonneg (by omega) (by omega)
     rw [cmp3_wide p1 p2]
     by_cases hneg : a < 0
     · have hcn : c < 0 := by simpa [hneg] using hs.symm
       rw [decide_eq_true hneg, cbr_true]
       have e1 : ((a.natAbs : Nat) : Int) * d = -(a * d) := by
         rw [show ((a.natAbs : Nat) : Int) = -a by omega, Int.neg_mul]
       have e2 : ((c.natAbs : Nat) : Int) * b = -(c * b) := by
         rw [show ((c.natAbs : Nat) : Int) = -c by omega, Int.neg_mul]
       have e3 : IntKind.i64.wrap (0 - cmp3 (((a.natAbs : Nat) : Int) * d) (((c.natAbs : Nat) : Int) * b)) = cmpR a b c d := by
         rw [e1, e2]
         unfold cmpR cmp3
         rw [wi64 (by unfold I64; repeat' split <;> omega)]
         repeat' split <;> omega
       rw [e3]; exact h
     · have hcn : ¬ c < 0 := by simpa [hneg] using hs.symm
       rw [decide_eq_false hneg, cbr_false, show ((a.natAbs : Nat) : Int) = a by omega, show ((c.natAbs : Nat) : Int) = c by omega]
       exact h
   · have e : (decide (a < 0) != decide (c < 0)) = true := by simpa using hs
     rw [e, cbr_true, Compare_i_eq]
     have e2 : cmp3 a c = cmpR a b c d := by
       unfold cmpR cmp3
       by_cases hneg : a < 0
       · have hcn : ¬ c < 0 := by intro hcn; simp [hneg, hcn] at hs
         have q1 : a * d < 0 := Int.mul_neg_of_neg_of_pos hneg (by omega)
         have q2 : 0 ≤ c * b := Int.mul_nonneg (by omega) (by omega)
         rw [if_pos (by omega), if_pos (by omega)]
       · have hcn : c < 0 := by
           by_cases hcn : c < 0
           · exact hcn
           · simp [hneg, hcn] at hs
         have q1 : c * b < 0 := Int.mul_neg_of_neg_of_pos hcn (by omega)
         have q2 : 0 ≤ a * d := Int.mul_nonneg (by omega) (by omega)
         rw [if_neg (by omega), if_pos (by omega), if_neg (by omega), if_pos (by omega)]
     rw [e2]; exact h
 · rw [if_neg hk] at h
   have e : (chk2 a b c d != 0) = true := by simpa using hk
   rw [e, cbr_true]; exact h
end Go.Pf.Vc
namespace Go.Pf.Vc
open Go Go.Pf
def blen (x : Nat) : Nat := if x = 0 then 0 else x.log2 + 1
theorem blen_lt (x : Nat) : x < 2 ^ blen x := by
 unfold blen
 split
 · rename_i h; subst h; decide
 · exact Nat.lt_log2_self
theorem blen_le {x : Nat} (h : x ≠ 0) : 2 ^ (blen x - 1) ≤ x := by
 unfold blen
 rw [if_neg h]
 exact Nat.log2_self_le h
theorem blen_of {x m : Nat} (h1 : 2 ^ m ≤ x) (h2 : x < 2 ^ (m + 1)) : blen x = m + 1 := by
 have hx : x ≠ 0 := by have := Nat.two_pow_pos m; omega
 unfold blen
 rw [if_neg hx]
 congr 1
 have a := Nat.log2_self_le hx
 have b := Nat.lt_log2_self (n := x)
 have c1 : ¬ (x.log2 < m) := fun h => by
   have := Nat.pow_le_pow_right (show 0 < 2 by omega) (show x.log2 + 1 ≤ m by omega)
   omega
 have c2 : ¬ (m < x.log2) := fun h => by
   have := Nat.pow_le_pow_right (show 0 < 2 by omega) (show m + 1 ≤ x.log2 by omega)
   omega
 omega
theorem blen_div {x k : Nat} (h : 2 ^ k ≤ x) : blen x = k + blen (x / 2 ^ k) := by
 have hp := Nat.two_pow_pos k
 have hq : x / 2 ^ k ≠ 0 := by
   have := Nat.div_pos h hp
   omega
 have h1 := blen_le hq
 have h2 := blen_lt (x / 2 ^ k)
 obtain ⟨m, hm⟩ : ∃ m, blen (x / 2 ^ k) = m + 1 := ⟨blen (x / 2 ^ k) - 1, by
   have : blen (x / 2 ^ k) ≠ 0 := by unfold blen; rw [if_neg hq]; omega
   omega⟩
 rw [hm] at h1 h2 ⊢
 rw [Nat.add_sub_cancel] at h1
 have := blen_of (x := x) (m := k + m) (by
     rw [Nat.pow_add]
     calc 2 ^ k * 2 ^ m ≤ 2 ^ k * (x / 2 ^ k) := Nat.mul_le_mul_left _ h1
       _ ≤ x := Nat.mul_div_le _ _) (by
     rw [show k + m + 1 = k + (m + 1) by omega, Nat.pow_add]
     rw [Nat.mul_comm]
     exact (Nat.div_lt_iff_lt_mul hp).1 h2)
 omega
theorem tab_eq : ∀ x : Nat, x < 256 → intOfV (List.getD len8tab x .nils) = (blen x : Int) := by decide +kernel
theorem wu8 {n : Int} (h0 : 0 ≤ n) (h1 : n < 256) : IntKind.u8.wrap n = n := by
 have e1 : (2 : Int) ^ 8 = 256 := rfl
 simp only [IntKind.wrap, IntKind.signed, IntKind.bits, Bool.false_and, Bool.false_eq_true, if_false, e1]
 omega
theorem look_eq {n : Int} (h0 : 0 ≤ n) (h1 : n < 256) : intOfV (List.getD len8tab (IntKind.u8.wrap n).toNat .nils) = (blen n.toNat : Int) := by
 rw [wu8 h0 h1]
 exact tab_eq n.toNat (by omega)
theorem blen8 {n : Nat} (h : n < 256) : blen n ≤ 8 := by
 by_cases h0 : n = 0
 · subst h0; decide
 · have := blen_le h0
   have h2 : blen n - 1 < 8 := by
     refine Nat.lt_of_not_le fun hc => ?_
     have := Nat.pow_le_pow_right (show 0 < 2 by omega) hc
     omega
   omega
theorem leaf8 {n k : Int} (h0 : 0 ≤ n) (h1 : n < 256) (hk : 0 ≤ k ∧ k ≤ 56) {m : Int} (hm : m = k + blen n.toNat) {K : Int → Prop} (h : K m) :
   asr (decide ((0 : Int) ≤ (IntKind.u8.wrap n))) (asr (decide ((IntKind.u8.wrap n) < (256 : Int))) (K (IntKind.i64.wrap (k + (IntKind.i64.wrap (intOfV (List.getD len8tab ((IntKind.u8.wrap n).toNat) .nils))))))) := by
 have hb := blen8 (n := n.toNat) (by omega)
 have e1 : IntKind.i64.wrap (blen n.toNat : Int) = blen n.toNat := wi64 (by unfold I64; omega)
 have e2 : IntKind.i64.wrap (k + blen n.toNat : Int) = k + blen n.toNat := wi64 (by unfold I64; omega)
 rw [look_eq h0 h1, wu8 h0 h1, decide_eq_true h0, asr_true, decide_eq_true h1, asr_true, e1, e2, ← hm]
 exact h
theorem fdivn (p q : Int) (hq : 0 ≤ q) : Int.fdiv p q = p / q := Int.fdiv_eq_ediv_of_nonneg _ hq
theorem Len64_of {p : Int} (hp : U64 p) {K : Int → Prop} (h : K (blen p.toNat : Int)) : w_m_Len64 p K := by
 unfold U64 at hp
 unfold w_m_Len64 wv_m_Len64
 simp only [fdivn _ 4294967296 (by omega), fdivn _ 65536 (by omega), fdivn _ 256 (by omega)]
 have key : ∀ (k : Nat) (q : Int), 2 ^ k ≤ p.toNat → q = p / (2 ^ k : Nat) → (blen p.toNat : Int) = k + blen q.toNat := by
   intro k q hk hq
   have e : q.toNat = p.toNat / 2 ^ k := by
     rw [hq]
     obtain ⟨m, rfl⟩ : ∃ m : Nat, p = m := ⟨p.toNat, by omega⟩
     rw [← Int.natCast_ediv, Int.toNat_natCast, Int.toNat_natCast]
   rw [e]
   have := blen_div hk
   omega
 by_cases h1 : p ≥ 4294967296
 · rw [decide_eq_true h1, cbr_true]
   by_cases h2 : p / 4294967296 ≥ 65536
   · rw [decide_eq_true h2, cbr_true]
     by_cases h3 : p / 4294967296 / 65536 ≥ 256
     · rw [decide_eq_true h3, cbr_true]
       exact leaf8 (by omega) (by omega) (by omega) (key 56 _ (by omega) (by omega)) h
     · rw [decide_eq_false h3, cbr_false]
       exact leaf8 (by omega) (by omega) (by omega) (key 48 _ (by omega) (by omega)) h
   · rw [decide_eq_false h2, cbr_false]
     by_cases h3 : p / 4294967296 ≥ 256
     · rw [decide_eq_true h3, cbr_true]
       exact leaf8 (by omega) (by omega) (by omega) (key 40 _ (by omega) (by omega)) h
     · rw [decide_eq_false h3, cbr_false]
       exact leaf8 (by omega) (by omega) (by omega) (key 32 _ (by omega) (by omega)) h
 · rw [decide_eq_false h1, cbr_false]
   by_cases h2 : p ≥ 65536
   · rw [decide_eq_true h2, cbr_true]
     by_cases h3 : p / 65536 ≥ 256
     · rw [decide_eq_true h3, cbr_true]
       exact leaf8 (by omega) (by omega) (by omega) (key 24 _ (by omega) (by omega)) h
     · rw [decide_eq_false h3, cbr_false]
       exact leaf8 (by omega) (by omega) (by omega) (key 16 _ (by omega) (by omega)) h
   · rw [decide_eq_false h2, cbr_false]
     by_cases h3 : p ≥ 256
     · rw [decide_eq_true h3, cbr_true]
       exact leaf8 (by omega) (by omega) (by omega) (key 8 _ (by omega) (by omega)) h
     · rw [decide_eq_false h3, cbr_false]
       exact leaf8 (by omega) (by omega) (by omega) (by simp) h
theorem LeadingZeros64_of {p : Int} (hp : U64 p) {K : Int → Prop} (h : K (64 - blen p.toNat : Int)) : w_m_LeadingZeros64 p K := by
 unfold w_m_LeadingZeros64 wv_m_LeadingZeros64
 refine Len64_of hp ?_
 have hb : blen p.toNat ≤ 64 := by
   unfold U64 at hp
   by_cases h0 : p.toNat = 0
   · rw [h0]; decide
   · have := blen_le h0
     have h2 : blen p.toNat - 1 < 64 := by
       refine Nat.lt_of_not_le fun hc => ?_
       have := Nat.pow_le_pow_right (show 0 < 2 by omega) hc
       omega
     omega
 rw [wi64 (by unfold I64; omega)]
 exact h
end Go.Pf.Vc
namespace Go.Pf.Vc
open Go Go.Pf
structure DI (y yn1 yn0 u un q r : Int) : Prop where
 hy : y = yn1 * 4294967296 + yn0
 h1 : 2147483648 ≤ yn1 ∧ yn1 ≤ 4294967295
 h0 : 0 ≤ yn0 ∧ yn0 ≤ 4294967295
 hn : 0 ≤ un ∧ un ≤ 4294967295
 hu : q * yn1 + r = u
 hq : 0 ≤ q ∧ q ≤ 4294967297
 hr : 0 ≤ r ∧ r ≤ 4294967295
 hlt : u < y
 hU : u * 4294967296 + un < (q + 1) * y
def DG (y u un q : Int) : Prop := 0 ≤ q ∧ q ≤ 4294967295 ∧ q * y ≤ u * 4294967296 + un ∧ u * 4294967296 + un < (q + 1) * y
theorem DI.step {y yn1 yn0 u un q r : Int} (h : DI y yn1 yn0 u un q r) {A B C : Prop}
   (hA : DG y u un (q - 1) → 0 ≤ q - 1 → q - 1 ≤ 4294967296 → A)
   (hB : DI y yn1 yn0 u un (q - 1) (r + yn1) → B)
   (hC : DG y u un q → C) :
   cbr (decide (q ≥ (4294967296 : Int)))
     (cbr (decide ((IntKind.u64.wrap (r + yn1)) ≥ (4294967296 : Int))) A B)
     (cbr (decide ((IntKind.u64.wrap (q * yn0)) > (IntKind.u64.wrap ((IntKind.u64.wrap ((4294967296 : Int) * r)) + un))))
       (cbr (decide ((IntKind.u64.wrap (r + yn1)) ≥ (4294967296 : Int))) A B) C) := by
 have h' := h
 obtain ⟨hy, h1, h0, hn, hu, hq, hr, hlt, hU⟩ := h
 have e1 : IntKind.u64.wrap (r + yn1) = r + yn1 := wu64 ⟨by omega, by omega⟩
 have eq1 : q * y = q * yn1 * 4294967296 + q * yn0 := by rw [hy]; grind
 have eq2 : (q - 1) * y = q * y - y := by grind
 have eq3 : (q - 1) * yn1 = q * yn1 - yn1 := by grind
 have eq4 : (q - 1 + 1) * y = q * y := by grind
 have eq5 : (q - 1) * yn0 = q * yn0 - yn0 := by grind
 have big : u * 4294967296 + un < q * y → cbr (decide ((IntKind.u64.wrap (r + yn1)) ≥ (4294967296 : Int))) A B := by
   intro hb
   have q1 : 0 ≤ q - 1 := by
     refine Int.not_lt.1 fun hc => ?_
     have hq0 : q = 0 := by omega
     subst hq0
     simp at hb hu
     omega
   rw [e1]
   by_cases hc : r + yn1 ≥ 4294967296
   · rw [decide_eq_true hc, cbr_true]
     have hp : (q - 1) * yn0 ≤ 4294967296 * 4294967295 := Int.mul_le_mul (by omega) h0.2 h0.1 (by omega)
     have hle : (q - 1) * y ≤ u * 4294967296 + un := by
       have : (q - 1) * y = (q - 1) * yn1 * 4294967296 + (q - 1) * yn0 := by rw [hy]; grind
       omega
     have hlt32 : q - 1 ≤ 4294967295 := by
       refine Int.not_lt.1 fun hc => ?_
       have : 4294967296 * y ≤ (q - 1) * y := Int.mul_le_mul_of_nonneg_right (by omega) (by omega)
       omega
     exact hA ⟨q1, hlt32, hle, by rw [eq4]; exact hb⟩ q1 (by omega)
   · rw [decide_eq_false hc, cbr_false]
     exact hB ⟨hy, h1, h0, hn, by rw [eq3]; omega, ⟨q1, by omega⟩, ⟨by omega, by omega⟩, hlt, by rw [eq4]; exact hb⟩
 by_cases ha : q ≥ 4294967296
 · rw [decide_eq_true ha, cbr_true]
   refine big ?_
   have : 4294967296 * y ≤ q * y := Int.mul_le_mul_of_nonneg_right (by omega) (by omega)
   omega
 · rw [decide_eq_false ha, cbr_false]
   have hp : q * yn0 ≤ 4294967295 * 4294967295 := Int.mul_le_mul (by omega) h0.2 h0.1 (by omega)
   have hp0 : 0 ≤ q * yn0 := Int.mul_nonneg hq.1 h0.1
   have w1 : IntKind.u64.wrap (q * yn0) = q * yn0 := wu64 ⟨hp0, by omega⟩
   have w2 : IntKind.u64.wrap ((4294967296 : Int) * r) = 4294967296 * r := wu64 ⟨by omega, by omega⟩
   have w3 : IntKind.u64.wrap ((4294967296 : Int) * r + un) = 4294967296 * r + un := wu64 ⟨by omega, by omega⟩
   rw [w1, w2, w3]
   by_cases hb : q * yn0 > 4294967296 * r + un
   · rw [decide_eq_true hb, cbr_true]
     exact big (by omega)
   · rw [decide_eq_false hb, cbr_false]
     exact hC ⟨hq.1, by omega, by omega, hU⟩
theorem L0_of (W : Int → (Int → Prop) → Prop) {y yn1 yn0 u un : Int} (s v un0 : Int) {x0 x1 : Int → Int → Int → Int → Int → Int → Int → Int → Int → Bool → Prop}
   (hx : ∀ q r b, DG y u un q → x0 y s yn1 yn0 v un un0 q r b) (hx1 : ∀ q r b, DG y u un q → x1 y s yn1 yn0 v un un0 q r b) :
   ∀ (n : Nat) (q r : Int) (b : Bool), DI y yn1 yn0 u un q r → 4294967296 ≤ r + n * 2147483648 → L_m_Div64_0_1 W x0 x1 (n + 1) y s yn1 yn0 v un un0 q r b := by
 intro n
 induction n with
 | zero =>
   intro q r b h hn
   have := h.hr.2
   exact absurd hn (by omega)
 | succ n ih =>
   intro q r b h hn
   unfold L_m_Div64_0_1
   refine h.step (fun g a1 a2 => ?_) (fun g => ?_) (fun g => hx1 _ _ _ g)
   · rw [wu64 (n := q - 1) ⟨by omega, by omega⟩]
     exact hx _ _ _ g
   · have e1 : IntKind.u64.wrap (q - 1) = q - 1 := wu64 ⟨g.hq.1, by have := g.hq.2; omega⟩
     have e2 : IntKind.u64.wrap (r + yn1) = r + yn1 := wu64 ⟨g.hr.1, by have := g.hr.2; omega⟩
     rw [e1, e2]
     exact ih _ _ _ g (by have := h.h1.1; omega)
theorem L1_of (W : Int → (Int → Prop) → Prop) {y yn1 yn0 u un : Int} (s q1 v : Int) {x0 x1 : Int → Int → Int → Int → Int → Int → Int → Int → Int → Bool → Prop}
   (hx : ∀ q r b, DG y u un q → x0 y s yn1 yn0 un q1 r v q b) (hx1 : ∀ q r b, DG y u un q → x1 y s yn1 yn0 un q1 r v q b) :
   ∀ (n : Nat) (q r : Int) (b : Bool), DI y yn1 yn0 u un q r → 4294967296 ≤ r + n * 2147483648 → L_m_Div64_1_1 W x0 x1 (n + 1) y s yn1 yn0 un q1 r v q b := by
 intro n
 induction n with
 | zero =>
   intro q r b h hn
   have := h.hr.2
   exact absurd hn (by omega)
 | succ n ih =>
   intro q r b h hn
   unfold L_m_Div64_1_1
   refine h.step (fun g a1 a2 => ?_) (fun g => ?_) (fun g => hx1 _ _ _ g)
   · rw [wu64 (n := q - 1) ⟨by omega, by omega⟩]
     exact hx _ _ _ g
   · have e1 : IntKind.u64.wrap (q - 1) = q - 1 := wu64 ⟨g.hq.1, by have := g.hq.2; omega⟩
     have e2 : IntKind.u64.wrap (r + yn1) = r + yn1 := wu64 ⟨g.hr.1, by have := g.hr.2; omega⟩
     rw [e1, e2]
     exact ih _ _ _ g (by have := h.h1.1; omega)
theorem L0_of' (W : Int → (Int → Prop) → Prop) {y yn1 yn0 u un : Int} (s v un0 : Int) {x0 x1 : Int → Int → Int → Int → Int → Int → Int → Int → Int → Bool → Prop}
   (hx : ∀ q r b, DG y u un q → x0 y s yn1 yn0 v un un0 q r b) (hx1 : ∀ q r b, DG y u un q → x1 y s yn1 yn0 v un un0 q r b) (q r : Int) (h : DI y yn1 yn0 u un q r) : L_m_Div64_0_0 W x0 x1 3 y s yn1 yn0 v un un0 q r := by
 have := L0_of W s v un0 hx hx1 2 q r true h (by have := h.hr.1; omega)
 unfold L_m_Div64_0_1 at this
 unfold L_m_Div64_0_0
 exact this
theorem L1_of' (W : Int → (Int → Prop) → Prop) {y yn1 yn0 u un : Int} (s q1 v : Int) {x0 x1 : Int → Int → Int → Int → Int → Int → Int → Int → Int → Bool → Prop}
   (hx : ∀ q r b, DG y u un q → x0 y s yn1 yn0 un q1 r v q b) (hx1 : ∀ q r b, DG y u un q → x1 y s yn1 yn0 un q1 r v q b) (q r : Int) (h : DI y yn1 yn0 u un q r) : L_m_Div64_1_0 W x0 x1 3 y s yn1 yn0 un q1 r v q := by
 have := L1_of W s q1 v hx hx1 2 q r true h (by have := h.hr.1; omega)
 unfold L_m_Div64_1_1 at this
 unfold L_m_Div64_1_0
 exact this
end Go.Pf.Vc
namespace Go.Pf.Vc
open Go Go.Pf
theorem DI.init {y yn1 yn0 u un : Int} (hy : y = yn1 * 4294967296 + yn0) (h1 : 2147483648 ≤ yn1 ∧ yn1 ≤ 4294967295) (h0 : 0 ≤ yn0 ∧ yn0 ≤ 4294967295) (hn : 0 ≤ un ∧ un ≤ 4294967295)
   (hu : 0 ≤ u) (hlt : u < y) : DI y yn1 yn0 u un (u / yn1) (u - u / yn1 * yn1) := by
 have a1 := Int.mul_ediv_add_emod u yn1
 have a2 := Int.emod_nonneg u (show yn1 ≠ 0 by omega)
 have a3 := Int.emod_lt_of_pos u (show 0 < yn1 by omega)
 have a4 : u / yn1 * yn1 = yn1 * (u / yn1) := Int.mul_comm _ _
 have a5 : 0 ≤ u / yn1 := Int.ediv_nonneg hu (by omega)
 have a6 : u / yn1 ≤ 4294967297 := by
   refine Int.not_lt.1 fun hc => ?_
   have : yn1 * 4294967298 ≤ yn1 * (u / yn1) := Int.mul_le_mul_of_nonneg_left (by omega) (by omega)
   omega
 refine ⟨hy, h1, h0, hn, by omega, ⟨a5, a6⟩, ⟨by omega, by omega⟩, hlt, ?_⟩
 have e : (u / yn1 + 1) * y = yn1 * (u / yn1) * 4294967296 + yn1 * 4294967296 + (u / yn1 + 1) * yn0 := by
   obtain ⟨t, ht⟩ : ∃ t, t = u / yn1 := ⟨_, rfl⟩
   rw [← ht, hy]; grind
 have : 0 ≤ (u / yn1 + 1) * yn0 := Int.mul_nonneg (by omega) h0.1
 omega
theorem or_eq {a b : Int} {k : Nat} (ha : 0 ≤ a) (hb : 0 ≤ b ∧ b < 2 ^ k) (hab : a * 2 ^ k ≤ 18446744073709551615 ∧ b ≤ 18446744073709551615) (hs : a * 2 ^ k + b ≤ 18446744073709551615) :
   IntKind.u64.wrap (BitVec.ofInt IntKind.u64.bits (a * 2 ^ k) ||| BitVec.ofInt IntKind.u64.bits b).toNat = a * 2 ^ k + b := by
 obtain ⟨x, rfl⟩ : ∃ x : Nat, a = x := ⟨a.toNat, by omega⟩
 obtain ⟨z, rfl⟩ : ∃ z : Nat, b = z := ⟨b.toNat, by omega⟩
 have ec : ((x : Int) * 2 ^ k) = ((2 ^ k * x : Nat) : Int) := by push_cast; exact Int.mul_comm _ _
 rw [ec] at hab hs ⊢
 have hz : z < 2 ^ k := by have := hb.2; exact_mod_cast this
 have e : (BitVec.ofInt IntKind.u64.bits ((2 ^ k * x : Nat) : Int) ||| BitVec.ofInt IntKind.u64.bits (z : Int)).toNat = 2 ^ k * x + z := by
   show (BitVec.ofInt 64 ((2 ^ k * x : Nat) : Int) ||| BitVec.ofInt 64 (z : Int)).toNat = _
   rw [BitVec.toNat_or, BitVec.toNat_ofInt, BitVec.toNat_ofInt]
   have e1 : (((2 ^ k * x : Nat) : Int) % (2 ^ 64 : Nat)).toNat = 2 ^ k * x := by omega
   have e2 : ((z : Int) % (2 ^ 64 : Nat)).toNat = z := by omega
   rw [e1, e2, Nat.two_pow_add_eq_or_of_lt hz]
 rw [e, wu64 ⟨by omega, by omega⟩]
 push_cast; rfl
theorem rest_eq {u un q y : Int} (h0 : 0 ≤ u * 4294967296 + un - q * y) (h1 : u * 4294967296 + un - q * y ≤ 18446744073709551615) :
   IntKind.u64.wrap (IntKind.u64.wrap (IntKind.u64.wrap (u * 4294967296) + un) - IntKind.u64.wrap (q * y)) = u * 4294967296 + un - q * y := by
 simp only [wu64']
 omega
theorem tdivn {a b : Int} (h : 0 ≤ a) : Int.tdiv a b = a / b := Int.tdiv_eq_ediv_of_nonneg h
theorem tmodn {a b : Int} (h : 0 ≤ a) : Int.tmod a b = a % b := Int.tmod_eq_emod_of_nonneg h
theorem Div64_of {h l y : Int} (hh : U64 h) (hl : U64 l) (hy : U64 y) (hlt : h < y) {K : Int → Int → Prop}
   (k : K ((h * 18446744073709551616 + l) / y) ((h * 18446744073709551616 + l) % y)) : w_m_Div64 h l y K := by
 unfold U64 at hh hl hy
 unfold w_m_Div64 wv_m_Div64
 have b1 : (y == (0 : Int)) = false := beq_eq_false_iff_ne.2 (by omega)
 have b2 : decide (y ≤ h) = false := decide_eq_false (by omega)
 have b3 : (!(decide (y = (0 : Int)))) = true := by rw [decide_eq_false (by omega)]; rfl
 rw [b1, cbr_false, b2, cbr_false, b3]
 by_cases h0 : h = 0
 · subst h0
   have : ((0 : Int) == 0) = true := rfl
   rw [this, cbr_true, asr_true, asr_true, tdivn hl.1, tmodn hl.1]
   have e : (0 : Int) * 18446744073709551616 + l = l := by omega
   rw [e] at k
   have b4 : l / y ≤ l := Int.ediv_le_self _ hl.1
   rw [wu64 ⟨Int.ediv_nonneg hl.1 (by omega), by omega⟩]
   exact k
 · have b4 : (h == (0 : Int)) = false := beq_eq_false_iff_ne.2 h0
   rw [b4, cbr_false]
   refine LeadingZeros64_of ⟨by omega, by omega⟩ ?_
   have hyn : y.toNat ≠ 0 := by omega
   have c1 := blen_lt y.toNat
   have c2 := blen_le hyn
   have c3 : blen y.toNat ≤ 64 := by
     refine Nat.le_of_not_lt fun hc => ?_
     have := Nat.pow_le_pow_right (show 0 < 2 by omega) (show 64 ≤ blen y.toNat - 1 by omega)
     omega
   have c4 : 1 ≤ blen y.toNat := by
     refine Nat.le_of_not_lt fun hc => ?_
     have : blen y.toNat = 0 := by omega
     rw [this] at c1
     omega
   obtain ⟨m, hm⟩ : ∃ m, m = 64 - blen y.toNat := ⟨_, rfl⟩
   have es : (64 - (blen y.toNat : Int)) = (m : Int) := by omega
   rw [es]
   have m63 : m ≤ 63 := by omega
   have e1 : IntKind.u64.wrap (m : Int) = m := wu64 ⟨by omega, by omega⟩
   have e2 : IntKind.u64.wrap ((64 : Int) - m) = ((64 - m : Nat) : Int) := by
     rw [wu64 ⟨by omega, by omega⟩]; omega
   have e3 : min ((m : Int)).toNat IntKind.u64.bits = m := by
     show min ((m : Int)).toNat 64 = m
     rw [Int.toNat_natCast]; omega
   have e4 : min (((64 - m : Nat) : Int)).toNat IntKind.u64.bits = 64 - m := by
     show min (((64 - m : Nat) : Int)).toNat 64 = 64 - m
     rw [Int.toNat_natCast]; omega
   simp only [e1]
   rw [e2, e3, e4]
   have p64 : (2 : Int) ^ (64 - m) * 2 ^ m = 18446744073709551616 := by
     rw [← Int.pow_add, show 64 - m + m = 64 by omega]; rfl
   have p63 : (2 : Int) ^ (63 - m) * 2 ^ m = 9223372036854775808 := by
     rw [← Int.pow_add, show 63 - m + m = 63 by omega]; rfl
   have tp : (0 : Int) < 2 ^ m := Int.pow_pos (by omega)
   have tp' : (0 : Int) < 2 ^ (64 - m) := Int.pow_pos (by omega)
   have y1 : y < (2 : Int) ^ (64 - m) := by
     have : blen y.toNat = 64 - m := by omega
     rw [this] at c1
     have c1' : ((y.toNat : Nat) : Int) < ((2 ^ (64 - m) : Nat) : Int) := by exact_mod_cast c1
     push_cast at c1'
     omega
   have y2 : (2 : Int) ^ (63 - m) ≤ y := by
     have : blen y.toNat - 1 = 63 - m := by omega
     rw [this] at c2
     have c2' : ((2 ^ (63 - m) : Nat) : Int) ≤ ((y.toNat : Nat) : Int) := by exact_mod_cast c2
     push_cast at c2'
     omega
   have Y1 : y * 2 ^ m < 18446744073709551616 := by
     have := Int.mul_lt_mul_of_pos_right y1 tp
     omega
   have Y2 : 9223372036854775808 ≤ y * 2 ^ m := by
     have := Int.mul_le_mul_of_nonneg_right y2 (show (0 : Int) ≤ 2 ^ m by omega)
     omega
   have H1 : (h + 1) * 2 ^ m ≤ y * 2 ^ m := Int.mul_le_mul_of_nonneg_right (by omega) (by omega)
   have H2 : (h + 1) * 2 ^ m = h * 2 ^ m + 2 ^ m := by grind
   have H0 : 0 ≤ h * 2 ^ m := Int.mul_nonneg hh.1 (by omega)
   have fd : Int.fdiv l (2 ^ (64 - m)) = l / 2 ^ (64 - m) := fdivn _ _ (by omega)
   have L1 := Int.mul_ediv_add_emod l (2 ^ (64 - m))
   have L2 := Int.emod_nonneg l (show (2 : Int) ^ (64 - m) ≠ 0 by omega)
   have L3 := Int.emod_lt_of_pos l tp'
   have L4 : 0 ≤ l / 2 ^ (64 - m) := Int.ediv_nonneg hl.1 (by omega)
   have L5 : l / 2 ^ (64 - m) < 2 ^ m := by
     refine Int.ediv_lt_of_lt_mul tp' ?_
     rw [Int.mul_comm, p64]; omega
   have w1 : IntKind.u64.wrap (y * 2 ^ m) = y * 2 ^ m := wu64 ⟨by omega, by omega⟩
   have w2 : IntKind.u64.wrap (h * 2 ^ m) = h * 2 ^ m := wu64 ⟨by omega, by omega⟩
   have w3 : IntKind.u64.wrap (BitVec.ofInt IntKind.u64.bits (h * 2 ^ m) ||| BitVec.ofInt IntKind.u64.bits (l / 2 ^ (64 - m))).toNat = h * 2 ^ m + l / 2 ^ (64 - m) :=
     or_eq hh.1 ⟨L4, L5⟩ ⟨by omega, by omega⟩ (by omega)
   have w4 : IntKind.u64.wrap (l * 2 ^ m) = l % 2 ^ (64 - m) * 2 ^ m := by
     have e : l * 2 ^ m = (l / 2 ^ (64 - m)) * 18446744073709551616 + l % 2 ^ (64 - m) * 2 ^ m := by
       rw [← p64]
       obtain ⟨a, ha⟩ : ∃ a, a = l / 2 ^ (64 - m) := ⟨_, rfl⟩
       obtain ⟨b, hb⟩ : ∃ b, b = l % 2 ^ (64 - m) := ⟨_, rfl⟩
       obtain ⟨t, ht⟩ : ∃ t, t = (2 : Int) ^ m := ⟨_, rfl⟩
       obtain ⟨t', ht'⟩ : ∃ t, t = (2 : Int) ^ (64 - m) := ⟨_, rfl⟩
       rw [← ha, ← hb, ← ht'] at L1
       rw [← ha, ← hb, ← ht, ← ht']
       rw [← L1]; grind
     have e5 : l % 2 ^ (64 - m) * 2 ^ m < 18446744073709551616 := by
       rw [← p64]; exact Int.mul_lt_mul_of_pos_right L3 tp
     have e6 : 0 ≤ l % 2 ^ (64 - m) * 2 ^ m := Int.mul_nonneg L2 (by omega)
     rw [e, wu64']; omega
   have e5 : l % 2 ^ (64 - m) * 2 ^ m < 18446744073709551616 := by
     rw [← p64]; exact Int.mul_lt_mul_of_pos_right L3 tp
   have e6 : 0 ≤ l % 2 ^ (64 - m) * 2 ^ m := Int.mul_nonneg L2 (by omega)
   have eN : (h * 18446744073709551616 + l) * 2 ^ m = (h * 2 ^ m + l / 2 ^ (64 - m)) * 18446744073709551616 + l % 2 ^ (64 - m) * 2 ^ m := by
     rw [← p64]
     obtain ⟨a, ha⟩ : ∃ a, a = l / 2 ^ (64 - m) := ⟨_, rfl⟩
     obtain ⟨b, hb⟩ : ∃ b, b = l % 2 ^ (64 - m) := ⟨_, rfl⟩
     obtain ⟨t, ht⟩ : ∃ t, t = (2 : Int) ^ m := ⟨_, rfl⟩
     obtain ⟨t', ht'⟩ : ∃ t, t = (2 : Int) ^ (64 - m) := ⟨_, rfl⟩
     rw [← ha, ← hb, ← ht'] at L1
     rw [← ha, ← hb, ← ht, ← ht']
     rw [← L1]; grind
   have U1 : h * 2 ^ m + l / 2 ^ (64 - m) < y * 2 ^ m := by omega
   have U0 : 0 ≤ h * 2 ^ m + l / 2 ^ (64 - m) := by omega
   rw [fd, w1, w2, w3, w4]
   have b5 : (!(decide ((m : Int) < 0))) = true := by rw [decide_eq_false (by omega)]; rfl
   have b6 : (!(decide (((64 - m : Nat) : Int) < 0))) = true := by rw [decide_eq_false (by omega)]; rfl
   rw [b5, b6, asr_true, asr_true, asr_true, asr_true]
   generalize h * 2 ^ m + l / 2 ^ (64 - m) = u at *
   generalize hl0 : l % 2 ^ (64 - m) * 2 ^ m = v at *
   generalize hY : y * 2 ^ m = Y at *
   rw [fdivn Y _ (by omega), fdivn v _ (by omega), mask32 ⟨by omega, by omega⟩, mask32 ⟨by omega, by omega⟩, tdivn U0]
   have b7 : (!(decide (Y / 4294967296 = (0 : Int)))) = true := by rw [decide_eq_false (by omega)]; rfl
   rw [b7, asr_true]
   obtain ⟨yn1, hyn1⟩ : ∃ a, a = Y / 4294967296 := ⟨_, rfl⟩
   obtain ⟨yn0, hyn0⟩ : ∃ a, a = Y % 4294967296 := ⟨_, rfl⟩
   obtain ⟨un1, hun1⟩ : ∃ a, a = v / 4294967296 := ⟨_, rfl⟩
   obtain ⟨un0, hun0⟩ : ∃ a, a = v % 4294967296 := ⟨_, rfl⟩
   rw [← hyn1, ← hyn0, ← hun1, ← hun0]
   have d1 : 2147483648 ≤ yn1 ∧ yn1 ≤ 4294967295 := by omega
   have d0 : 0 ≤ yn0 ∧ yn0 ≤ 4294967295 := by omega
   have dn1 : 0 ≤ un1 ∧ un1 ≤ 4294967295 := by omega
   have dn0 : 0 ≤ un0 ∧ un0 ≤ 4294967295 := by omega
   have dY : Y = yn1 * 4294967296 + yn0 := by omega
   have g1 := DI.init dY d1 d0 dn1 U0 U1
   have x1 : IntKind.u64.wrap (u / yn1) = u / yn1 := wu64 ⟨g1.hq.1, by have := g1.hq.2; omega⟩
   have x2 : IntKind.u64.wrap (u - IntKind.u64.wrap (u / yn1 * yn1)) = u - u / yn1 * yn1 := by
     have r1 := g1.hr.1
     have r2 : 0 ≤ u / yn1 * yn1 := Int.mul_nonneg g1.hq.1 (by omega)
     have r3 := g1.hr.2
     rw [wu64 (n := u / yn1 * yn1) ⟨r2, by omega⟩, wu64 ⟨r1, by omega⟩]
   rw [x1, x2]
   have fin : ∀ q1 : Int, DG Y u un1 q1 → ∀ (un21 : Int), un21 = u * 4294967296 + un1 - q1 * Y → ∀ q0, DG Y un21 un0 q0 →
       K (IntKind.u64.wrap ((IntKind.u64.wrap (q1 * (4294967296 : Int))) + q0)) (Int.fdiv (IntKind.u64.wrap ((IntKind.u64.wrap ((IntKind.u64.wrap (un21 * (4294967296 : Int))) + un0)) - (IntKind.u64.wrap (q0 * Y)))) (2 ^ (min ((m : Int)).toNat IntKind.u64.bits))) := by
     intro q1 G1 un21 e21 q0 G0
     obtain ⟨a1, a2, a3, a4⟩ := G1
     obtain ⟨c1, c2, c3, c4⟩ := G0
     have s1 : (q1 + 1) * Y = q1 * Y + Y := by grind
     have s0 : (q0 + 1) * Y = q0 * Y + Y := by grind
     have w5 : IntKind.u64.wrap (q1 * 4294967296) = q1 * 4294967296 := wu64 ⟨by omega, by omega⟩
     have w6 : IntKind.u64.wrap (q1 * 4294967296 + q0) = q1 * 4294967296 + q0 := wu64 ⟨by omega, by omega⟩
     rw [rest_eq (by omega) (by omega), w5, w6, e3, fdivn _ _ (by omega)]
     have eT : un21 * 4294967296 + un0 - q0 * Y = (h * 18446744073709551616 + l - (q1 * 4294967296 + q0) * y) * 2 ^ m := by
       have f1 : (q1 * 4294967296 + q0) * Y = q1 * Y * 4294967296 + q0 * Y := by grind
       have f2 : (h * 18446744073709551616 + l - (q1 * 4294967296 + q0) * y) * 2 ^ m = (h * 18446744073709551616 + l) * 2 ^ m - (q1 * 4294967296 + q0) * Y := by
         rw [← hY, Int.sub_mul, Int.mul_assoc (q1 * 4294967296 + q0)]
       rw [f2, f1, eN]
       omega
     rw [eT, Int.mul_ediv_cancel _ (by omega)]
     have r0 : 0 ≤ h * 18446744073709551616 + l - (q1 * 4294967296 + q0) * y := by
       refine Int.not_lt.1 fun hc => ?_
       have := Int.mul_neg_of_neg_of_pos hc tp
       omega
     have r1 : h * 18446744073709551616 + l - (q1 * 4294967296 + q0) * y < y := by
       refine Int.not_le.1 fun hc => ?_
       have := Int.mul_le_mul_of_nonneg_right hc (show (0 : Int) ≤ 2 ^ m by omega)
       omega
     obtain ⟨Q, hQ⟩ : ∃ Q, Q = q1 * 4294967296 + q0 := ⟨_, rfl⟩
     rw [← hQ] at r0 r1 ⊢
     have z1 : (h * 18446744073709551616 + l) / y = Q := by
       have : h * 18446744073709551616 + l = (h * 18446744073709551616 + l - Q * y) + Q * y := by omega
       rw [this, Int.add_mul_ediv_right _ _ (by omega), Int.ediv_eq_zero_of_lt r0 r1]; omega
     have z2 : (h * 18446744073709551616 + l) % y = h * 18446744073709551616 + l - Q * y := by
       have := Int.mul_ediv_add_emod (h * 18446744073709551616 + l) y
       rw [z1, Int.mul_comm] at this
       omega
     rw [z1, z2] at k
     exact k
   have mid : ∀ q : Int, DG Y u un1 q → ∀ (X : Int → Int → Int → Int → Int → Int → Int → Int → Int → Bool → Prop), (∀ q0 r0 b0, DG Y (u * 4294967296 + un1 - q * Y) un0 q0 → X Y m yn1 yn0 un0 q r0 (u * 4294967296 + un1 - q * Y) q0 b0) →
       asr (!(decide (yn1 = (0 : Int)))) (∃ n : Nat, L_m_Div64_1_0 w_m_LeadingZeros64 X X n Y m yn1 yn0 un0 q ((IntKind.u64.wrap ((IntKind.u64.wrap ((IntKind.u64.wrap ((IntKind.u64.wrap (u * (4294967296 : Int))) + un1)) - (IntKind.u64.wrap (q * Y)))) - (IntKind.u64.wrap ((IntKind.u64.wrap (Int.tdiv (IntKind.u64.wrap ((IntKind.u64.wrap ((IntKind.u64.wrap (u * (4294967296 : Int))) + un1)) - (IntKind.u64.wrap (q * Y)))) yn1)) * yn1))))) (IntKind.u64.wrap ((IntKind.u64.wrap ((IntKind.u64.wrap (u * (4294967296 : Int))) + un1)) - (IntKind.u64.wrap (q * Y)))) (IntKind.u64.wrap (Int.tdiv (IntKind.u64.wrap ((IntKind.u64.wrap ((IntKind.u64.wrap (u * (4294967296 : Int))) + un1)) - (IntKind.u64.wrap (q * Y)))) yn1))) := by
     intro q G X hX
     obtain ⟨a1, a2, a3, a4⟩ := G
     have s1 : (q + 1) * Y = q * Y + Y := by grind
     have b8 : (!(decide (yn1 = (0 : Int)))) = true := by rw [decide_eq_false (by omega)]; rfl
     rw [b8, asr_true, rest_eq (by omega) (by omega), tdivn (by omega)]
     have g0 := DI.init dY d1 d0 dn0 (u := u * 4294967296 + un1 - q * Y) (by omega) (by omega)
     generalize u * 4294967296 + un1 - q * Y = u2 at *
     have x1 : IntKind.u64.wrap (u2 / yn1) = u2 / yn1 := wu64 ⟨g0.hq.1, by have := g0.hq.2; omega⟩
     have x2 : IntKind.u64.wrap (u2 - IntKind.u64.wrap (u2 / yn1 * yn1)) = u2 - u2 / yn1 * yn1 := by
       have r1 := g0.hr.1
       have r2 : 0 ≤ u2 / yn1 * yn1 := Int.mul_nonneg g0.hq.1 (by omega)
       have r3 := g0.hr.2
       have r4 := g0.hlt
       rw [wu64 (n := u2 / yn1 * yn1) ⟨r2, by omega⟩, wu64 ⟨r1, by omega⟩]
     rw [x1, x2]
     exact ⟨3, L1_of' _ _ _ _ (fun q0 r0 b0 g => hX q0 r0 b0 g) (fun q0 r0 b0 g => hX q0 r0 b0 g) _ _ g0⟩
   have leaf : ∀ {P : Prop}, P → asr (!(decide ((m : Int) < 0))) P := fun p => by rw [b5, asr_true]; exact p
   refine ⟨3, L0_of' _ _ _ _ (fun q r b G => ?_) (fun q r b G => ?_) _ _ g1⟩
   · exact mid q G _ (fun q0 r0 b0 G0 => leaf (fin q G _ rfl q0 G0))
   · exact mid q G _ (fun q0 r0 b0 G0 => leaf (fin q G _ rfl q0 G0))
end Go.Pf.Vc
namespace Go.Pf.Vc
open Go Go.Pf
theorem Rem64_of {h l y : Int} (hh : U64 h) (hl : U64 l) (hy : U64 y) (h0 : 0 < y) {K : Int → Prop}
   (k : K ((h * 18446744073709551616 + l) % y)) : w_m_Rem64 h l y K := by
 unfold w_m_Rem64 wv_m_Rem64
 have b3 : (!(decide (y = (0 : Int)))) = true := by rw [decide_eq_false (by omega)]; rfl
 have a1 := Int.emod_nonneg h (show y ≠ 0 by omega)
 have a2 := Int.emod_lt_of_pos h h0
 have hh' := hh
 unfold U64 at hh hy
 rw [b3, asr_true, tmodn hh.1]
 refine Div64_of ⟨a1, by omega⟩ hl ⟨by omega, by omega⟩ a2 ?_
 have e : (h % y * 18446744073709551616 + l) % y = (h * 18446744073709551616 + l) % y := by
   rw [Int.add_emod, Int.mul_emod, Int.emod_emod, ← Int.mul_emod, ← Int.add_emod]
 rw [e]
 exact k
def outS (s : Bool) (a b : Int) (K : Int → Int → Int → Prop) : Prop :=
 if a ≤ 1000000000000000000 ∧ b ≤ 1000000000000000000 then K (if s then -a else a) b 0 else K 0 0 16
theorem signed_eq {s : Bool} {a b : Int} (ha : 0 ≤ a) (hb : 0 ≤ b) (K : Int → Int → Int → Prop) : w_ratio_signed s a b K = outS s a b K := by
 unfold w_ratio_signed wv_ratio_signed outS
 by_cases h : a ≤ 1000000000000000000 ∧ b ≤ 1000000000000000000
 · have e : decide ((if b > a then b else a) > (1000000000000000000 : Int)) = false := by
     refine decide_eq_false ?_
     split <;> omega
   have w1 : IntKind.i64.wrap a = a := wi64 ⟨by omega, by omega⟩
   have w2 : IntKind.i64.wrap b = b := wi64 ⟨by omega, by omega⟩
   have w3 : IntKind.i64.wrap (0 - a) = -a := by rw [wi64 ⟨by omega, by omega⟩]; omega
   rw [e, cbr_false, if_pos h, w1, w2, w3]
   cases s
   · rfl
   · rfl
 · have e : decide ((if b > a then b else a) > (1000000000000000000 : Int)) = true := by
     refine decide_eq_true ?_
     split <;> omega
   rw [e, cbr_true, if_neg h]
end Go.Pf.Vc
namespace Go.Pf.Vc
open Go Go.Pf
theorem tail_of {s : Bool} {hi lo p1 p3 : Int} {g : Nat} (hh : U64 hi) (hl : U64 lo) (hg : 0 < g) (g1 : (g : Int) ≤ 1000000000000000000)
    (h1 : 0 ≤ p1 ∧ p1 ≤ 1000000000000000000) (h3 : 0 ≤ p3 ∧ p3 ≤ 1000000000000000000) {K : Int → Int → Int → Prop}
    (k : outS s (((hi * 18446744073709551616 + lo).toNat / Nat.gcd (hi * 18446744073709551616 + lo).toNat g : Nat) : Int)
      (((p1.toNat / g) * (p3.toNat / Nat.gcd (hi * 18446744073709551616 + lo).toNat g) : Nat) : Int) K) :
    (w_m_Rem64 hi lo (g : Int) (fun (yi12 : Int) => 
 (w_ratio_gcd yi12 (g : Int) (fun (yi13 : Int) => 
 (cbr (decide (hi ≥ yi13))
 (K (0 : Int) (0 : Int) (16 : Int))
 (w_m_Div64 hi lo yi13 (fun (yi14 : Int) (_ : Int) => 
 (asr (!(decide ((g : Int) = (0 : Int))))
 (asr (!(decide (yi13 = (0 : Int))))
 (w_m_Mul64 (IntKind.u64.wrap (Int.tdiv (IntKind.u64.wrap p1) (g : Int))) (IntKind.u64.wrap (Int.tdiv (IntKind.u64.wrap p3) yi13)) (fun (yi16 : Int) (yi17 : Int) => 
 (cbr (decide (yi16 > (0 : Int)))
 (K (0 : Int) (0 : Int) (16 : Int))
 (w_ratio_signed s yi14 yi17 (fun (yi18 : Int) (yi19 : Int) (yi20 : Int) => 
 (K yi18 yi19 yi20))))))))))))))) := by
  unfold U64 at hh hl
  obtain ⟨X, hX⟩ : ∃ X : Nat, X = (hi * 18446744073709551616 + lo).toNat := ⟨_, rfl⟩
  have eX : hi * 18446744073709551616 + lo = (X : Int) := by omega
  rw [← hX] at k
  refine Rem64_of hh hl ⟨by omega, by omega⟩ (by omega) ?_
  rw [eX, ← Int.natCast_emod]
  refine gcd_of _ _ _ ?_
  have eg : Nat.gcd (X % g) g = Nat.gcd X g := by rw [Nat.gcd_comm, Nat.gcd_comm X, Nat.gcd_rec g X, Nat.gcd_comm]
  rw [eg]
  have gp : 0 < Nat.gcd X g := Nat.gcd_pos_of_pos_right _ hg
  have gl : Nat.gcd X g ≤ g := Nat.le_of_dvd hg (Nat.gcd_dvd_right _ _)
  generalize Nat.gcd X g = G at *
  by_cases hb : hi ≥ (G : Int)
  · rw [decide_eq_true hb, cbr_true]
    unfold outS at k
    have : 18446744073709551616 ≤ X / G := by
      rw [Nat.le_div_iff_mul_le gp]
      omega
    rw [if_neg (by omega)] at k
    exact k
  · rw [decide_eq_false hb, cbr_false]
    refine Div64_of hh hl ⟨by omega, by omega⟩ (by omega) ?_
    rw [eX]
    have n3 : (!(decide ((g : Int) = (0 : Int)))) = true := by rw [decide_eq_false (by omega)]; rfl
    have n4 : (!(decide ((G : Int) = (0 : Int)))) = true := by rw [decide_eq_false (by omega)]; rfl
    have e1 : IntKind.u64.wrap p1 = (p1.toNat : Int) := by rw [wu64 ⟨by omega, by omega⟩]; omega
    have e3 : IntKind.u64.wrap p3 = (p3.toNat : Int) := by rw [wu64 ⟨by omega, by omega⟩]; omega
    rw [n3, n4, asr_true, asr_true, e1, e3, tdivn (by omega), tdivn (by omega), ← Int.natCast_ediv, ← Int.natCast_ediv, ← Int.natCast_ediv]
    have q1 : p1.toNat / g ≤ p1.toNat := Nat.div_le_self _ _
    have q3 : p3.toNat / G ≤ p3.toNat := Nat.div_le_self _ _
    generalize p1.toNat / g = A at *
    generalize p3.toNat / G = B at *
    generalize X / G = N at *
    rw [wu64 (n := (A : Int)) ⟨by omega, by omega⟩, wu64 (n := (B : Int)) ⟨by omega, by omega⟩, Mul64_eq ⟨by omega, by omega⟩ ⟨by omega, by omega⟩, ← Int.natCast_mul]
    generalize A * B = D at *
    by_cases hd : ((D : Int) / 18446744073709551616) > 0
    · rw [decide_eq_true hd, cbr_true]
      unfold outS at k
      rw [if_neg (by omega)] at k
      exact k
    · rw [decide_eq_false hd, cbr_false]
      have eD : (D : Int) % 18446744073709551616 = D := by omega
      rw [eD, signed_eq (by omega) (by omega)]
      exact k
end Go.Pf.Vc
namespace Go.Pf.Vc
open Go Go.Pf
theorem Add64_of {p q c : Int} {K : Int → Int → Prop} (hc : c.toNat ≤ 1) (k : K (((p.toNat + q.toNat + c.toNat) % 18446744073709551616 : Nat) : Int) (((p.toNat + q.toNat + c.toNat) / 18446744073709551616 : Nat) : Int)) : w_m_Add64 p q c K := by
 unfold w_m_Add64
 rw [decide_eq_true hc, asr_true]
 exact k
theorem Sub64_of {p q c : Int} {K : Int → Int → Prop} (hc : c.toNat ≤ 1) (k : K (((p.toNat + 18446744073709551616 - q.toNat - c.toNat) % 18446744073709551616 : Nat) : Int) ((if q.toNat + c.toNat ≤ p.toNat then 0 else 1 : Nat) : Int)) : w_m_Sub64 p q c K := by
 unfold w_m_Sub64
 rw [decide_eq_true hc, asr_true]
 have e : (bif Nat.ble (q.toNat + c.toNat) p.toNat then 0 else 1 : Nat) = (if q.toNat + c.toNat ≤ p.toNat then 0 else 1 : Nat) := by
   by_cases h : q.toNat + c.toNat ≤ p.toNat
   · rw [if_pos h, show Nat.ble (q.toNat + c.toNat) p.toNat = true from Nat.ble_eq_true_of_le h]; rfl
   · rw [if_neg h]
     cases hb : Nat.ble (q.toNat + c.toNat) p.toNat
     · rfl
     · exact absurd (Nat.le_of_ble_eq_true hb) h
 rw [e]
 exact k
theorem add_wide {X Y : Int} (hx : 0 ≤ X) (hy : 0 ≤ Y) (hs : X + Y < 340282366920938463463374607431768211456) {F : Int → Int → Int → Int → Prop}
   (h : ∀ c1 c2, F ((X + Y) % 18446744073709551616) c1 ((X + Y) / 18446744073709551616) c2) :
   w_m_Add64 (X % 18446744073709551616) (Y % 18446744073709551616) 0 (fun lo c1 => w_m_Add64 (X / 18446744073709551616) (Y / 18446744073709551616) c1 (fun hi c2 => F lo c1 hi c2)) := by
 obtain ⟨x, rfl⟩ : ∃ x : Nat, X = x := ⟨X.toNat, by omega⟩
 obtain ⟨y, rfl⟩ : ∃ y : Nat, Y = y := ⟨Y.toNat, by omega⟩
 refine Add64_of (by decide) (Add64_of (by omega) ?_)
 have e1 : (((((x : Int) % 18446744073709551616).toNat + ((y : Int) % 18446744073709551616).toNat + (0 : Int).toNat) % 18446744073709551616 : Nat) : Int) = ((x : Int) + y) % 18446744073709551616 := by omega
 have e2 : (((((x : Int) / 18446744073709551616).toNat + ((y : Int) / 18446744073709551616).toNat + (((((x : Int) % 18446744073709551616).toNat + ((y : Int) % 18446744073709551616).toNat + (0 : Int).toNat) / 18446744073709551616 : Nat) : Int).toNat) % 18446744073709551616 : Nat) : Int) = ((x : Int) + y) / 18446744073709551616 := by omega
 rw [e1, e2]
 exact h _ _
theorem sub_wide {X Y : Int} (hy : 0 ≤ Y) (hxy : Y ≤ X) (hs : X < 340282366920938463463374607431768211456) {F : Int → Int → Int → Int → Prop}
   (h : ∀ c1 c2, F ((X - Y) % 18446744073709551616) c1 ((X - Y) / 18446744073709551616) c2) :
   w_m_Sub64 (X % 18446744073709551616) (Y % 18446744073709551616) 0 (fun lo c1 => w_m_Sub64 (X / 18446744073709551616) (Y / 18446744073709551616) c1 (fun hi c2 => F lo c1 hi c2)) := by
 obtain ⟨x, rfl⟩ : ∃ x : Nat, X = x := ⟨X.toNat, by omega⟩
 obtain ⟨y, rfl⟩ : ∃ y : Nat, Y = y := ⟨Y.toNat, by omega⟩
 refine Sub64_of (by decide) (Sub64_of (by split <;> omega) ?_)
 have e1 : (((((x : Int) % 18446744073709551616).toNat + 18446744073709551616 - ((y : Int) % 18446744073709551616).toNat - (0 : Int).toNat) % 18446744073709551616 : Nat) : Int) = ((x : Int) - y) % 18446744073709551616 := by omega
 rw [e1]
 by_cases hb : ((y : Int) % 18446744073709551616).toNat + (0 : Int).toNat ≤ ((x : Int) % 18446744073709551616).toNat
 · rw [if_pos hb]
   have e2 : (((((x : Int) / 18446744073709551616).toNat + 18446744073709551616 - ((y : Int) / 18446744073709551616).toNat - ((0 : Nat) : Int).toNat) % 18446744073709551616 : Nat) : Int) = ((x : Int) - y) / 18446744073709551616 := by omega
   rw [e2]
   exact h _ _
 · rw [if_neg hb]
   have e2 : (((((x : Int) / 18446744073709551616).toNat + 18446744073709551616 - ((y : Int) / 18446744073709551616).toNat - ((1 : Nat) : Int).toNat) % 18446744073709551616 : Nat) : Int) = ((x : Int) - y) / 18446744073709551616 := by omega
   rw [e2]
   exact h _ _
end Go.Pf.Vc
namespace Go.Pf.Vc
open Go Go.Pf
def outA (s : Bool) (Z p1 p3 : Int) (g : Nat) (K : Int → Int → Int → Prop) : Prop :=
 if Z = 0 then K 0 1 0 else outS s ((Z.toNat / Nat.gcd Z.toNat g : Nat) : Int) (((p1.toNat / g) * (p3.toNat / Nat.gcd Z.toNat g) : Nat) : Int) K
theorem fin_of {s : Bool} {Z p1 p3 : Int} {g : Nat} (hz : 0 ≤ Z) (hz2 : Z < 340282366920938463463374607431768211456) (hg : 0 < g) (g1 : (g : Int) ≤ 1000000000000000000)
    (h1 : 0 ≤ p1 ∧ p1 ≤ 1000000000000000000) (h3 : 0 ≤ p3 ∧ p3 ≤ 1000000000000000000) {K : Int → Int → Int → Prop}
    (k : outA s Z p1 p3 g K) :
    cbr (Z / 18446744073709551616 == (0 : Int)) (cbr (Z % 18446744073709551616 == (0 : Int)) (K 0 1 0) (w_m_Rem64 (Z / 18446744073709551616) (Z % 18446744073709551616) (g : Int) (fun (yi12 : Int) => 
 (w_ratio_gcd yi12 (g : Int) (fun (yi13 : Int) => 
 (cbr (decide ((Z / 18446744073709551616) ≥ yi13))
 (K (0 : Int) (0 : Int) (16 : Int))
 (w_m_Div64 (Z / 18446744073709551616) (Z % 18446744073709551616) yi13 (fun (yi14 : Int) (_ : Int) => 
 (asr (!(decide ((g : Int) = (0 : Int))))
 (asr (!(decide (yi13 = (0 : Int))))
 (w_m_Mul64 (IntKind.u64.wrap (Int.tdiv (IntKind.u64.wrap p1) (g : Int))) (IntKind.u64.wrap (Int.tdiv (IntKind.u64.wrap p3) yi13)) (fun (yi16 : Int) (yi17 : Int) => 
 (cbr (decide (yi16 > (0 : Int)))
 (K (0 : Int) (0 : Int) (16 : Int))
 (w_ratio_signed s yi14 yi17 (fun (yi18 : Int) (yi19 : Int) (yi20 : Int) => 
 (K yi18 yi19 yi20)))))))))))))))) (w_m_Rem64 (Z / 18446744073709551616) (Z % 18446744073709551616) (g : Int) (fun (yi12 : Int) => 
 (w_ratio_gcd yi12 (g : Int) (fun (yi13 : Int) => 
 (cbr (decide ((Z / 18446744073709551616) ≥ yi13))
 (K (0 : Int) (0 : Int) (16 : Int))
 (w_m_Div64 (Z / 18446744073709551616) (Z % 18446744073709551616) yi13 (fun (yi14 : Int) (_ : Int) => 
 (asr (!(decide ((g : Int) = (0 : Int))))
 (asr (!(decide (yi13 = (0 : Int))))
 (w_m_Mul64 (IntKind.u64.wrap (Int.tdiv (IntKind.u64.wrap p1) (g : Int))) (IntKind.u64.wrap (Int.tdiv (IntKind.u64.wrap p3) yi13)) (fun (yi16 : Int) (yi17 : Int) => 
 (cbr (decide (yi16 > (0 : Int)))
 (K (0 : Int) (0 : Int) (16 : Int))
 (w_ratio_signed s yi14 yi17 (fun (yi18 : Int) (yi19 : Int) (yi20 : Int) => 
 (K yi18 yi19 yi20))))))))))))))) := by
  unfold outA at k
  have eZ : Z / 18446744073709551616 * 18446744073709551616 + Z % 18446744073709551616 = Z := by omega
  by_cases h0 : Z = 0
  · rw [if_pos h0] at k
    subst h0
    have e1 : ((0 : Int) / 18446744073709551616 == (0 : Int)) = true := by decide
    have e2 : ((0 : Int) % 18446744073709551616 == (0 : Int)) = true := by decide
    rw [e1, cbr_true, e2, cbr_true]
    exact k
  · rw [if_neg h0] at k
    have t := tail_of (s := s) (hi := Z / 18446744073709551616) (lo := Z % 18446744073709551616) (p1 := p1) (p3 := p3) (g := g) (K := K) ⟨by omega, by omega⟩ ⟨by omega, by omega⟩ hg g1 h1 h3 (by rw [eZ]; exact k)
    cases h4 : (Z / 18446744073709551616 == (0 : Int))
    · rw [cbr_false]; exact t
    · rw [cbr_true]
      cases h2 : (Z % 18446744073709551616 == (0 : Int))
      · rw [cbr_false]; exact t
      · have := beq_iff_eq.1 h2
        have := beq_iff_eq.1 h4
        exact absurd (show Z = 0 by omega) h0
theorem outA_congr {s s' : Bool} {Z Z' p1 p3 : Int} {g : Nat} {K : Int → Int → Int → Prop} (k : outA s' Z' p1 p3 g K) (hz : Z = Z') (hs : Z ≠ 0 → s = s') : outA s Z p1 p3 g K := by
 subst hz
 unfold outA at k ⊢
 by_cases h : Z = 0
 · rw [if_pos h] at k ⊢; exact k
 · rw [if_neg h] at k ⊢; rw [hs h]; exact k
theorem Add_of {a b c d : Int} (ha : I64 a) (hb : I64 b) (hc : I64 c) (hd : I64 d) {K : Int → Int → Int → Prop}
   (k : if chk2 a b c d = 0 then outA (decide (a * (d / (Nat.gcd b.natAbs d.natAbs : Nat)) + c * (b / (Nat.gcd b.natAbs d.natAbs : Nat)) < 0))
       ((a * (d / (Nat.gcd b.natAbs d.natAbs : Nat)) + c * (b / (Nat.gcd b.natAbs d.natAbs : Nat))).natAbs : Int) b d (Nat.gcd b.natAbs d.natAbs) K
     else K 0 0 (chk2 a b c d)) : w_ratio_Add a b c d K := by
 unfold w_ratio_Add wv_ratio_Add
 refine check_of ha hb hc hd ?_
 by_cases h : chk2 a b c d = 0
 · rw [if_pos h] at k
   have : (chk2 a b c d != (0 : Int)) = false := by rw [h]; rfl
   rw [this, cbr_false]
   obtain ⟨⟨b1, b2, a1, a2, _⟩, d1, d2, c1, c2, _⟩ := chk2_zero.1 h
   have wb : IntKind.u64.wrap b = ((b.natAbs : Nat) : Int) := by rw [wu64 ⟨by omega, by omega⟩]; omega
   have wd : IntKind.u64.wrap d = ((d.natAbs : Nat) : Int) := by rw [wu64 ⟨by omega, by omega⟩]; omega
   have g1 : 0 < Nat.gcd b.natAbs d.natAbs := Nat.gcd_pos_of_pos_right _ (by omega)
   have g2 : Nat.gcd b.natAbs d.natAbs ≤ d.natAbs := Nat.le_of_dvd (by omega) (Nat.gcd_dvd_right _ _)
   have go : w_ratio_gcd (IntKind.u64.wrap b) (IntKind.u64.wrap d) = w_ratio_gcd ((b.natAbs : Nat) : Int) ((d.natAbs : Nat) : Int) := by rw [wb, wd]
   rw [go]
   refine gcd_of _ _ _ ?_
   generalize Nat.gcd b.natAbs d.natAbs = g at *
   have n3 : (!(decide ((g : Int) = (0 : Int)))) = true := by rw [decide_eq_false (by omega)]; rfl
   have q1 : 0 ≤ b / (g : Int) := Int.ediv_nonneg (by omega) (by omega)
   have q2 : 0 ≤ d / (g : Int) := Int.ediv_nonneg (by omega) (by omega)
   have q3 : b / (g : Int) ≤ b := Int.ediv_le_self _ (by omega)
   have q4 : d / (g : Int) ≤ d := Int.ediv_le_self _ (by omega)
   have ed : IntKind.u64.wrap (Int.tdiv (IntKind.u64.wrap d) (g : Int)) = d / (g : Int) := by
     rw [wu64 (n := d) ⟨by omega, by omega⟩, tdivn (by omega), wu64 ⟨by omega, by omega⟩]
   have eb : IntKind.u64.wrap (Int.tdiv (IntKind.u64.wrap b) (g : Int)) = b / (g : Int) := by
     rw [wu64 (n := b) ⟨by omega, by omega⟩, tdivn (by omega), wu64 ⟨by omega, by omega⟩]
   have asr_of : ∀ {c : Bool} {P : Prop}, c = true → P → asr c P := fun h p => by rw [h, asr_true]; exact p
   rw [size_eq ha]
   refine asr_of n3 ?_
   rw [Mul64_eq (U64.abs ha) (by rw [ed]; exact ⟨by omega, by omega⟩), size_eq hc]
   refine asr_of n3 ?_
   rw [Mul64_eq (U64.abs hc) (by rw [eb]; exact ⟨by omega, by omega⟩)]
   obtain ⟨X, hX⟩ : ∃ X, X = ((a.natAbs : Nat) : Int) * IntKind.u64.wrap (Int.tdiv (IntKind.u64.wrap d) (g : Int)) := ⟨_, rfl⟩
   obtain ⟨Y, hY⟩ : ∃ Y, Y = ((c.natAbs : Nat) : Int) * IntKind.u64.wrap (Int.tdiv (IntKind.u64.wrap b) (g : Int)) := ⟨_, rfl⟩
   rw [← hX, ← hY]
   rw [ed] at hX; rw [eb] at hY
   have X0 : 0 ≤ X := by rw [hX]; exact Int.mul_nonneg (by omega) q2
   have Y0 : 0 ≤ Y := by rw [hY]; exact Int.mul_nonneg (by omega) q1
   have X1 : X ≤ 1000000000000000000 * 1000000000000000000 := by rw [hX]; exact Int.mul_le_mul (by omega) (by omega) q2 (by omega)
   have Y1 : Y ≤ 1000000000000000000 * 1000000000000000000 := by rw [hY]; exact Int.mul_le_mul (by omega) (by omega) q1 (by omega)
   have ax : a * (d / (g : Int)) = if a < 0 then -X else X := by
     split
     · rw [hX, show ((a.natAbs : Nat) : Int) = -a by omega, Int.neg_mul, Int.neg_neg]
     · rw [hX, show ((a.natAbs : Nat) : Int) = a by omega]
   have cy : c * (b / (g : Int)) = if c < 0 then -Y else Y := by
     split
     · rw [hY, show ((c.natAbs : Nat) : Int) = -c by omega, Int.neg_mul, Int.neg_neg]
     · rw [hY, show ((c.natAbs : Nat) : Int) = c by omega]
   rw [ax, cy] at k
   clear hX hY ax cy ed eb n3
   by_cases hs : decide (a < 0) = decide (c < 0)
   · have e : (decide (a < 0) == decide (c < 0)) = true := beq_iff_eq.2 hs
     rw [e, cbr_true]
     refine add_wide X0 Y0 (by omega) (fun c1 c2 => ?_)
     refine fin_of (by omega) (by omega) g1 (by omega) ⟨by omega, b2⟩ ⟨by omega, d2⟩ (outA_congr k ?_ ?_)
     · by_cases h1 : a < 0
       · have h2 : c < 0 := by simpa [h1] using hs.symm
         rw [if_pos h1, if_pos h2]; omega
       · have h2 : ¬ c < 0 := by simpa [h1] using hs.symm
         rw [if_neg h1, if_neg h2]; omega
     · intro h0
       by_cases h1 : a < 0
       · have h2 : c < 0 := by simpa [h1] using hs.symm
         rw [if_pos h1, if_pos h2, decide_eq_true h1, decide_eq_true (by omega)]
       · have h2 : ¬ c < 0 := by simpa [h1] using hs.symm
         rw [if_neg h1, if_neg h2, decide_eq_false h1, decide_eq_false (by omega)]
   · have e : (decide (a < 0) == decide (c < 0)) = false := beq_eq_false_iff_ne.2 hs
     rw [e, cbr_false]
     have h12 : (a < 0 ∧ ¬ c < 0) ∨ (¬ a < 0 ∧ c < 0) := by
       by_cases h1 : a < 0 <;> by_cases h2 : c < 0 <;> simp [h1, h2] at hs ⊢
     by_cases hlt : X < Y
     · have kk : outA (!decide (a < 0)) (Y - X) b d g K := by
         refine outA_congr k ?_ ?_
         · rcases h12 with ⟨h1, h2⟩ | ⟨h1, h2⟩
           · rw [if_pos h1, if_neg h2]; omega
           · rw [if_neg h1, if_pos h2]; omega
         · intro h0
           rcases h12 with ⟨h1, h2⟩ | ⟨h1, h2⟩
           · rw [if_pos h1, if_neg h2, decide_eq_true h1, decide_eq_false (by omega)]; rfl
           · rw [if_neg h1, if_pos h2, decide_eq_false h1, decide_eq_true (by omega)]; rfl
       by_cases h1 : X / 18446744073709551616 < Y / 18446744073709551616
       · rw [decide_eq_true h1, cbr_true]
         refine sub_wide X0 (by omega) (by omega) (fun c1 c2 => ?_)
         exact fin_of (by omega) (by omega) g1 (by omega) ⟨by omega, b2⟩ ⟨by omega, d2⟩ kk
       · have e1 : (X / 18446744073709551616 == Y / 18446744073709551616) = true := beq_iff_eq.2 (by omega)
         rw [decide_eq_false h1, cbr_false, e1, cbr_true, decide_eq_true (show X % 18446744073709551616 < Y % 18446744073709551616 by have := beq_iff_eq.1 e1; omega), cbr_true]
         refine sub_wide X0 (by omega) (by omega) (fun c1 c2 => ?_)
         exact fin_of (by omega) (by omega) g1 (by omega) ⟨by omega, b2⟩ ⟨by omega, d2⟩ kk
     · have kk : outA (decide (a < 0)) (X - Y) b d g K := by
         refine outA_congr k ?_ ?_
         · rcases h12 with ⟨h1, h2⟩ | ⟨h1, h2⟩
           · rw [if_pos h1, if_neg h2]; omega
           · rw [if_neg h1, if_pos h2]; omega
         · intro h0
           rcases h12 with ⟨h1, h2⟩ | ⟨h1, h2⟩
           · rw [if_pos h1, if_neg h2, decide_eq_true h1, decide_eq_true (by omega)]
           · rw [if_neg h1, if_pos h2, decide_eq_false h1, decide_eq_false (by omega)]
       have h1 : ¬ X / 18446744073709551616 < Y / 18446744073709551616 := by omega
       rw [decide_eq_false h1, cbr_false]
       cases e1 : (X / 18446744073709551616 == Y / 18446744073709551616)
       · rw [cbr_false]
         refine sub_wide Y0 (by omega) (by omega) (fun c1 c2 => ?_)
         exact fin_of (by omega) (by omega) g1 (by omega) ⟨by omega, b2⟩ ⟨by omega, d2⟩ kk
       · rw [cbr_true, decide_eq_false (show ¬ X % 18446744073709551616 < Y % 18446744073709551616 by have := beq_iff_eq.1 e1; omega), cbr_false]
         refine sub_wide Y0 (by omega) (by omega) (fun c1 c2 => ?_)
         exact fin_of (by omega) (by omega) g1 (by omega) ⟨by omega, b2⟩ ⟨by omega, d2⟩ kk
 · rw [if_neg h] at k
   have : (chk2 a b c d != (0 : Int)) = true := by rw [bne_iff_ne]; exact h
   rw [this, cbr_true]
   exact k
end Go.Pf.Vc
namespace Go.Pf.Vc
open Go Go.Pf
theorem RV.neg {c d : Int} (h : RV c d) : RV (-c) d := by
 obtain ⟨d1, d2, c1, c2, g⟩ := h
 exact ⟨d1, d2, by omega, by omega, by rw [Int.natAbs_neg]; exact g⟩
theorem Sub_of {a b c d : Int} (ha : I64 a) (hb : I64 b) (hc : I64 c) (hd : I64 d) {K : Int → Int → Int → Prop}
   (k : if chk2 a b c d = 0 then outA (decide (a * (d / (Nat.gcd b.natAbs d.natAbs : Nat)) + -c * (b / (Nat.gcd b.natAbs d.natAbs : Nat)) < 0))
       ((a * (d / (Nat.gcd b.natAbs d.natAbs : Nat)) + -c * (b / (Nat.gcd b.natAbs d.natAbs : Nat))).natAbs : Int) b d (Nat.gcd b.natAbs d.natAbs) K
     else K 0 0 (chk2 a b c d)) : w_ratio_Sub a b c d K := by
 unfold w_ratio_Sub wv_ratio_Sub
 refine check_of ha hb hc hd ?_
 by_cases h : chk2 a b c d = 0
 · rw [if_pos h] at k
   have : (chk2 a b c d != (0 : Int)) = false := by rw [h]; rfl
   rw [this, cbr_false]
   obtain ⟨hab, hcd⟩ := chk2_zero.1 h
   obtain ⟨d1, d2, c1, c2, _⟩ := id hcd
   rw [wi64 (n := 0 - c) ⟨by omega, by omega⟩, Int.zero_sub]
   refine Add_of ha hb ⟨by omega, by omega⟩ hd ?_
   rw [if_pos (chk2_zero.2 ⟨hab, hcd.neg⟩)]
   exact k
 · rw [if_neg h] at k
   have : (chk2 a b c d != (0 : Int)) = true := by rw [bne_iff_ne]; exact h
   rw [this, cbr_true]
   exact k
end Go.Pf.Vc
namespace Go.Pf.Vc
open Go Go.Pf
theorem asr_of {c : Bool} {P : Prop} (h : c = true) (p : P) : asr c P := by rw [h, asr_true]; exact p
end Go.Pf.Vc
namespace Go.Pf.Vc
open Go Go.Pf
def incr (l : List Int) (i : Nat) : Prop := ∀ j, i ≤ j → j + 1 < l.length → l.getD j 0 < l.getD (j + 1) 0
end Go.Pf.Vc
namespace Go.Pf.Vc
open Go Go.Pf
def small (q : Rat) : Prop := -1000000000000000000 ≤ q.num ∧ q.num ≤ 1000000000000000000 ∧ (q.den : Int) ≤ 1000000000000000000
instance (q : Rat) : Decidable (small q) := by unfold small; infer_instance
theorem small.rv {q : Rat} (h : small q) : RV q.num q.den := by
 obtain ⟨h1, h2, h3⟩ := h
 have := q.den_pos
 exact ⟨by omega, h3, h1, h2, q.reduced⟩
theorem rv_rat {n d : Int} (h : RV n d) : ∃ q : Rat, small q ∧ q.num = n ∧ (q.den : Int) = d := by
 obtain ⟨h1, h2, h3, h4, h5⟩ := h
 refine ⟨⟨n, d.toNat, by omega, ?_⟩, ⟨h3, h4, by show ((d.toNat : Nat) : Int) ≤ _; omega⟩, rfl, by show ((d.toNat : Nat) : Int) = _; omega⟩
 have : d.natAbs = d.toNat := by omega
 rw [this] at h5
 exact h5
theorem small.i1 {q : Rat} (h : small q) : I64 q.num := ⟨by have := h.1; omega, by have := h.2.1; omega⟩
theorem small.i2 {q : Rat} (h : small q) : I64 (q.den : Int) := ⟨by omega, by have := h.2.2; omega⟩
theorem small_chk2 {q r : Rat} (h : small q) (k : small r) : chk2 q.num q.den r.num r.den = 0 := chk2_zero.2 ⟨h.rv, k.rv⟩
def fitK (q : Rat) (K : Int → Int → Int → Prop) : Prop := if small q then K q.num q.den 0 else K 0 0 16
theorem outS_fit {q : Rat} {s : Bool} {a b : Int} (ha : a = (q.num.natAbs : Int)) (hb : b = (q.den : Int)) (hs : q.num ≠ 0 → s = decide (q.num < 0)) (K : Int → Int → Int → Prop) : outS s a b K = fitK q K := by
 unfold outS fitK
 subst ha hb
 by_cases h : small q
 · have h' := h
   obtain ⟨h1, h2, h3⟩ := h
   rw [if_pos (show _ ∧ _ from ⟨by omega, h3⟩), if_pos h']
   have e : (if s = true then -((q.num.natAbs : Nat) : Int) else ((q.num.natAbs : Nat) : Int)) = q.num := by
     by_cases h0 : q.num = 0
     · rw [h0]; cases s <;> rfl
     · rw [hs h0]
       by_cases h1 : q.num < 0
       · rw [decide_eq_true h1, if_pos rfl]; omega
       · rw [decide_eq_false h1, if_neg (by simp)]; omega
   rw [e]
 · rw [if_neg h, if_neg]
   intro h2
   exact h ⟨by omega, by omega, h2.2⟩
theorem dvd_gcd_l (x : Int) (d : Nat) : ((Nat.gcd x.natAbs d : Nat) : Int) ∣ x := by
 rw [← Int.dvd_natAbs, Int.ofNat_dvd]; exact Nat.gcd_dvd_left _ _
theorem det_fit {w : (Int → Int → Int → Prop) → Prop} {q : Rat} (det : ∀ r0 r1 r2, (∀ K : Int → Int → Int → Prop, K r0 r1 r2 → w K) → ∀ K, w K = K r0 r1 r2) (h : ∀ K, fitK q K → w K) (K : Int → Int → Int → Prop) : w K = fitK q K := by
 unfold fitK at h ⊢
 by_cases hs : small q
 · simp only [if_pos hs] at h ⊢
   exact det _ _ _ h K
 · simp only [if_neg hs] at h ⊢
   exact det _ _ _ h K
end Go.Pf.Vc
namespace Go.Pf.Vc
open Go Go.Pf
theorem add_parts (q r : Rat) : (q + r).num = (q.num * (r.den / Nat.gcd q.den r.den : Nat) + r.num * (q.den / Nat.gcd q.den r.den : Nat)) / (Nat.gcd (q.num * (r.den / Nat.gcd q.den r.den : Nat) + r.num * (q.den / Nat.gcd q.den r.den : Nat)).natAbs (Nat.gcd q.den r.den) : Nat) ∧
   (q + r).den = (q.den / Nat.gcd q.den r.den) * r.den / Nat.gcd (q.num * (r.den / Nat.gcd q.den r.den : Nat) + r.num * (q.den / Nat.gcd q.den r.den : Nat)).natAbs (Nat.gcd q.den r.den) := by
 have e : q + r = Rat.add q r := rfl
 rw [e]
 delta Rat.add
 by_cases hg : q.den.gcd r.den = 1
 · simp only [hg, dif_pos, Nat.div_one, Nat.gcd_one_right, Int.natCast_one, Int.ediv_one, and_self]
 · simp only [hg, dif_neg, not_false_eq_true, Rat.maybeNormalize_eq]
   constructor
   · first | rfl | simp only [Int.divExact_eq_tdiv]
   · first | rfl | simp only []
theorem outA_fit {q r : Rat} {Z : Int} {g : Nat} (e1 : (q + r).num = Z / (Nat.gcd Z.natAbs g : Nat)) (e2 : (q + r).den = (q.den / g) * r.den / Nat.gcd Z.natAbs g) (hgp : 0 < g) (hgd : g ∣ r.den) (K : Int → Int → Int → Prop) :
   outA (decide (Z < 0)) (Z.natAbs : Int) q.den r.den g K = fitK (q + r) K := by
 unfold outA
 by_cases h0 : Z = 0
 · subst h0
   have : (q + r) = 0 := by
     apply Rat.num_eq_zero.1
     rw [e1]; simp
   rw [this, if_pos (by rfl)]
   unfold fitK
   rw [if_pos (by decide)]; rfl
 · have hne : ¬ ((Z.natAbs : Nat) : Int) = 0 := by omega
   rw [if_neg hne]
   have hdv : ((Nat.gcd Z.natAbs g : Nat) : Int) ∣ Z := dvd_gcd_l _ _
   have hhp : 0 < Nat.gcd Z.natAbs g := Nat.gcd_pos_of_pos_right _ hgp
   have hhg : Nat.gcd Z.natAbs g ∣ r.den := Nat.dvd_trans (Nat.gcd_dvd_right _ _) hgd
   refine outS_fit ?_ ?_ ?_ K
   · rw [e1, Int.natAbs_ediv_of_dvd hdv]; simp
   · rw [e2]; simp only [Int.toNat_natCast]; rw [Nat.mul_div_assoc _ hhg]
   · intro h
     rw [e1]
     obtain ⟨k, hk⟩ := hdv
     revert hhp hk
     generalize Nat.gcd Z.natAbs g = h
     intro hhp hk
     have e : Z / (h : Int) = k := by rw [hk, Int.mul_ediv_cancel_left _ (by omega)]
     rw [e]
     have : Z < 0 ↔ k < 0 := by
       rw [hk]
       constructor
       · intro hk; refine Int.not_le.1 fun hk2 => ?_
         have := Int.mul_nonneg (show 0 ≤ (h : Int) by omega) hk2
         omega
       · intro hk; exact Int.mul_neg_of_pos_of_neg (by omega) hk
     simp only [this]
theorem add_fit (q r : Rat) (K : Int → Int → Int → Prop) :
   outA (decide (q.num * ((r.den : Int) / (Nat.gcd (q.den : Int).natAbs (r.den : Int).natAbs : Nat)) + r.num * ((q.den : Int) / (Nat.gcd (q.den : Int).natAbs (r.den : Int).natAbs : Nat)) < 0))
     ((q.num * ((r.den : Int) / (Nat.gcd (q.den : Int).natAbs (r.den : Int).natAbs : Nat)) + r.num * ((q.den : Int) / (Nat.gcd (q.den : Int).natAbs (r.den : Int).natAbs : Nat))).natAbs : Int) q.den r.den (Nat.gcd (q.den : Int).natAbs (r.den : Int).natAbs) K = fitK (q + r) K := by
 obtain ⟨e1, e2⟩ := add_parts q r
 rw [Int.natCast_ediv, Int.natCast_ediv] at e1 e2
 exact outA_fit e1 e2 (Nat.gcd_pos_of_pos_left _ q.den_pos) (Nat.gcd_dvd_right _ _) K
theorem rAdd_eq {q r : Rat} (hq : small q) (hr : small r) (K : Int → Int → Int → Prop) : w_ratio_Add q.num q.den r.num r.den K = fitK (q + r) K :=
 det_fit (fun r0 r1 r2 h K => det_ratio_Add _ _ _ _ r0 r1 r2 h K) (fun K k => Add_of hq.i1 hq.i2 hr.i1 hr.i2 (by rw [if_pos (small_chk2 hq hr), add_fit]; exact k)) K
theorem rSub_eq {q r : Rat} (hq : small q) (hr : small r) (K : Int → Int → Int → Prop) : w_ratio_Sub q.num q.den r.num r.den K = fitK (q - r) K :=
 det_fit (fun r0 r1 r2 h K => det_ratio_Sub _ _ _ _ r0 r1 r2 h K) (fun K k => Sub_of hq.i1 hq.i2 hr.i1 hr.i2 (by
   rw [if_pos (small_chk2 hq hr)]
   rw [Rat.sub_eq_add_neg, ← add_fit] at k
   exact k)) K
def cmpQ (q r : Rat) : Int := if q < r then -1 else if r < q then 1 else 0
theorem cmpR_eq (q r : Rat) : cmpR q.num q.den r.num r.den = cmpQ q r := by
 unfold cmpR cmp3 cmpQ
 simp only [Rat.lt_iff]
theorem rCmp_eq {q r : Rat} (hq : small q) (hr : small r) (K : Int → Int → Prop) : w_ratio_Cmp q.num q.den r.num r.den K = K (cmpQ q r) 0 :=
 det_ratio_Cmp _ _ _ _ _ _ (fun K k => Cmp_of hq.i1 hq.i2 hr.i1 hr.i2 (by rw [small_chk2 hq hr, if_pos rfl, cmpR_eq]; exact k)) K
theorem rCheck_eq {n d : Int} (hn : I64 n) (hd : I64 d) (K : Int → Prop) : w_ratio_Check n d K = K (chk n d) :=
 det_ratio_Check _ _ _ (fun _ k => Check_of hn hd k) K
end Go.Pf.Vc
namespace Go.Pf.Vc
open Go Go.Pf
theorem sAbs_eq {p : Int} (h : I64 p) (K : Int → Prop) : w_r01_abs p K = K (p.natAbs : Int) := by
 unfold I64 at h
 unfold w_r01_abs wv_r01_abs
 by_cases hp : p < 0
 · have e0 : IntKind.i64.wrap (p + 1) = p + 1 := wi64 ⟨by omega, by omega⟩
   have e1 : IntKind.i64.wrap ((0 : Int) - (p + 1)) = -(p + 1) := by rw [wi64 ⟨by omega, by omega⟩]; omega
   have e2 : IntKind.u64.wrap (-(p + 1)) = -(p + 1) := wu64 ⟨by omega, by omega⟩
   have e3 : IntKind.u64.wrap (-(p + 1) + 1) = (p.natAbs : Int) := by rw [wu64 ⟨by omega, by omega⟩]; omega
   rw [decide_eq_true hp, cbr_true, e0, e1, e2, e3]
 · rw [decide_eq_false hp, cbr_false, wu64 ⟨by omega, by omega⟩]
   congr 1
   omega
theorem sgcd_loop (x : Int → Int → Bool → Prop) : ∀ (n a b : Nat), b < n → L_r01_gcd_0_0 x n (a : Int) (b : Int) = x ((Nat.gcd a b : Nat) : Int) 0 false
 | 0, a, b, h => by omega
 | n + 1, a, b, h => by
   unfold L_r01_gcd_0_0
   by_cases hb : b = 0
   · subst hb
     simp [cbr]
   · have h1 : ((b : Int) != 0) = true := by simp; omega
     have h2 : ¬ ((b : Int) = 0) := by omega
     rw [h1, cbr_true, decide_eq_false h2, Bool.not_false, asr_true]
     have e : Int.tmod (a : Int) (b : Int) = ((a % b : Nat) : Int) := by rw [Int.tmod_eq_emod_of_nonneg (by omega)]; omega
     rw [e, sgcd_loop x n b (a % b) (by have := Nat.mod_lt a (show b > 0 by omega); omega)]
     rw [Nat.gcd_comm a b, Nat.gcd_rec b a, Nat.gcd_comm]
theorem sgcd_eq (a b : Nat) (K : Int → Prop) : w_r01_gcd (a : Int) (b : Int) K = K ((Nat.gcd a b : Nat) : Int) := by
 refine det_r01_gcd _ _ _ (fun K h => ?_) K
 unfold w_r01_gcd wv_r01_gcd
 exact ⟨b + 1, by rw [sgcd_loop _ (b + 1) a b (by omega)]; exact h⟩
theorem bne_f {a b : Int} (h : a = b) : (a != b) = false := by simp [h]
theorem bne_t {a b : Int} (h : a ≠ b) : (a != b) = true := by simp [h]
theorem beq_f {a b : Int} (h : a ≠ b) : (a == b) = false := by simp [h]
theorem beq_t {a b : Int} (h : a = b) : (a == b) = true := by simp [h]
theorem sCheck_eq {n d : Int} (hn : I64 n) (_ : I64 d) (K : Int → Prop) : w_r01_Check n d K = K (chk n d) := by
 unfold w_r01_Check wv_r01_Check
 by_cases h1 : d < 1
 · rw [decide_eq_true h1, cbr_true, chk, if_neg (fun h => by have := h.1; omega)]
 · rw [decide_eq_false h1, cbr_false]
   by_cases h2 : d > 1000000000000000000
   · rw [decide_eq_true h2, cbr_true, chk, if_neg (fun h => by have := h.2.1; omega)]
   · rw [decide_eq_false h2, cbr_false]
     by_cases h3 : n < -1000000000000000000
     · rw [decide_eq_true h3, cbr_true, chk, if_neg (fun h => by have := h.2.2.1; omega)]
     · rw [decide_eq_false h3, cbr_false]
       by_cases h4 : n > 1000000000000000000
       · rw [decide_eq_true h4, cbr_true, chk, if_neg (fun h => by have := h.2.2.2.1; omega)]
       · have ed : IntKind.u64.wrap d = ((d.natAbs : Nat) : Int) := by rw [wu64 ⟨by omega, by omega⟩]; omega
         rw [decide_eq_false h4, cbr_false, sAbs_eq hn, ed, sgcd_eq]
         by_cases h5 : Nat.gcd n.natAbs d.natAbs = 1
         · rw [h5, bne_f (by rfl), cbr_false, chk, if_pos ⟨by omega, by omega, by omega, by omega, h5⟩]
         · rw [bne_t (by omega), cbr_true, chk, if_neg (fun h => h5 h.2.2.2.2)]
theorem sBoth_eq {a b c d : Int} (ha : I64 a) (hb : I64 b) (hc : I64 c) (hd : I64 d) (K : Int → Prop) : w_r01_Both a b c d K = K (chk2 a b c d) := by
 unfold w_r01_Both wv_r01_Both
 rw [sCheck_eq ha hb, sCheck_eq ha hb, sCheck_eq hc hd, chk2]
 by_cases h : chk a b = 0
 · rw [bne_f h, cbr_false, if_pos h]
 · rw [bne_t h, cbr_true, if_neg h]
theorem or32 {m s : Int} (_ : 0 ≤ m) (hs : 0 ≤ s ∧ s < 4294967296) : IntKind.u64.wrap (BitVec.ofInt IntKind.u64.bits (IntKind.u64.wrap (m * 4294967296)) ||| BitVec.ofInt IntKind.u64.bits s).toNat = m % 4294967296 * 4294967296 + s := by
 have e : IntKind.u64.wrap (m * 4294967296) = m % 4294967296 * 2 ^ 32 := by rw [wu64']; omega
 rw [e, or_eq (k := 32) (by omega) ⟨hs.1, by omega⟩ ⟨by omega, by omega⟩ (by omega)]
 omega
theorem times_eq {a b : Int} (ha : U64 a) (hb : U64 b) (K : Int → Int → Prop) : w_r01_times a b K = K (a * b / 18446744073709551616) (a * b % 18446744073709551616) := by
 unfold w_r01_times wv_r01_times
 simp only [fdiv32]
 rw [mask32 ha, mask32 hb]
 unfold U64 at ha hb
 have ha' := ha; have hb' := hb
 obtain ⟨x1, hx1⟩ : ∃ x, x = a / 4294967296 := ⟨_, rfl⟩
 obtain ⟨x0, hx0⟩ : ∃ x, x = a % 4294967296 := ⟨_, rfl⟩
 obtain ⟨y1, hy1⟩ : ∃ x, x = b / 4294967296 := ⟨_, rfl⟩
 obtain ⟨y0, hy0⟩ : ∃ x, x = b % 4294967296 := ⟨_, rfl⟩
 rw [← hx1, ← hx0, ← hy1, ← hy0]
 have b1 : 0 ≤ x1 ∧ x1 ≤ 4294967295 := by omega
 have b2 : 0 ≤ x0 ∧ x0 ≤ 4294967295 := by omega
 have b3 : 0 ≤ y1 ∧ y1 ≤ 4294967295 := by omega
 have b4 : 0 ≤ y0 ∧ y0 ≤ 4294967295 := by omega
 have pb : ∀ x y : Int, 0 ≤ x ∧ x ≤ 4294967295 → 0 ≤ y ∧ y ≤ 4294967295 → 0 ≤ x * y ∧ x * y ≤ 18446744065119617025 := by
   intro x y hx hy
   refine ⟨Int.mul_nonneg hx.1 hy.1, ?_⟩
   have := Int.mul_le_mul hx.2 hy.2 hy.1 (by omega : (0 : Int) ≤ 4294967295)
   omega
 have p1 := pb x1 y1 b1 b3
 have p2 := pb x1 y0 b1 b4
 have p3 := pb x0 y1 b2 b3
 have p4 := pb x0 y0 b2 b4
 have ea : a = x1 * 4294967296 + x0 := by omega
 have eb : b = y1 * 4294967296 + y0 := by omega
 have eab : a * b = x1 * y1 * 18446744073709551616 + x1 * y0 * 4294967296 + x0 * y1 * 4294967296 + x0 * y0 := by
   rw [ea, eb]; grind
 obtain ⟨P, hP⟩ : ∃ x, x = x1 * y1 := ⟨_, rfl⟩
 obtain ⟨Q, hQ⟩ : ∃ x, x = x1 * y0 := ⟨_, rfl⟩
 obtain ⟨R, hR⟩ : ∃ x, x = x0 * y1 := ⟨_, rfl⟩
 obtain ⟨S, hS⟩ : ∃ x, x = x0 * y0 := ⟨_, rfl⟩
 rw [← hP] at p1; rw [← hQ] at p2; rw [← hR] at p3; rw [← hS] at p4
 rw [← hP, ← hQ, ← hR, ← hS] at eab ⊢
 have w1 : IntKind.u64.wrap S = S := wu64 ⟨by omega, by omega⟩
 have w2 : IntKind.u64.wrap Q = Q := wu64 ⟨by omega, by omega⟩
 have w3 : IntKind.u64.wrap R = R := wu64 ⟨by omega, by omega⟩
 have w4 : IntKind.u64.wrap P = P := wu64 ⟨by omega, by omega⟩
 rw [w1, w2, w3, w4, mask32 (p := Q) ⟨by omega, by omega⟩, mask32 (p := S) ⟨by omega, by omega⟩]
 have w5 : IntKind.u64.wrap (Q % 4294967296 + R) = Q % 4294967296 + R := wu64 ⟨by omega, by omega⟩
 rw [w5]
 have w6 : IntKind.u64.wrap (Q % 4294967296 + R + S / 4294967296) = Q % 4294967296 + R + S / 4294967296 := wu64 ⟨by omega, by omega⟩
 rw [w6, or32 (by omega) ⟨by omega, by omega⟩]
 have hab : a * b ≤ 18446744073709551615 * 18446744073709551615 := Int.mul_le_mul ha'.2 hb'.2 hb'.1 (by omega : (0 : Int) ≤ 18446744073709551615)
 rw [eab] at hab ⊢
 have w7 : IntKind.u64.wrap (P + Q / 4294967296) = P + Q / 4294967296 := wu64 ⟨by omega, by omega⟩
 rw [w7, wu64 ⟨by omega, by omega⟩]
 congr 1 <;> omega
theorem lessW_eq {X Y : Int} (_ : 0 ≤ X) (_ : 0 ≤ Y) (K : Bool → Prop) :
   w_r01_less (X / 18446744073709551616) (X % 18446744073709551616) (Y / 18446744073709551616) (Y % 18446744073709551616) K = K (decide (X < Y)) := by
 unfold w_r01_less wv_r01_less
 by_cases h : X / 18446744073709551616 < Y / 18446744073709551616
 · rw [decide_eq_true h, cbr_true, decide_eq_true (by omega)]
 · rw [decide_eq_false h, cbr_false]
   by_cases h2 : X / 18446744073709551616 = Y / 18446744073709551616
   · rw [beq_t h2, cbr_true]
     congr 1
     rw [decide_eq_decide]; omega
   · rw [beq_f h2, cbr_false, decide_eq_false (by omega)]
end Go.Pf.Vc
namespace Go.Pf.Vc
open Go Go.Pf
theorem wuN {n : Nat} (h : (n : Int) ≤ 18446744073709551615) : IntKind.u64.wrap (n : Int) = n := wu64 ⟨by omega, h⟩
theorem times_nat {a b : Nat} (ha : a ≤ 18446744073709551615) (hb : b ≤ 18446744073709551615) (K : Int → Int → Prop) :
   w_r01_times (a : Int) (b : Int) K = K (((a * b : Nat) : Int) / 18446744073709551616) (((a * b : Nat) : Int) % 18446744073709551616) := by
 rw [times_eq ⟨by omega, by omega⟩ ⟨by omega, by omega⟩, Int.natCast_mul]
theorem small.neg {q : Rat} (hq : small q) : small (-q) := by
 obtain ⟨a1, a2, a3⟩ := hq
 unfold small
 rw [Rat.neg_num, Rat.neg_den]
 omega
theorem sLess_eq {q r : Rat} (hq : small q) (hr : small r) (K : Bool → Prop) : w_r01_Less q.num q.den r.num r.den K = K (decide (q < r)) := by
 unfold w_r01_Less wv_r01_Less
 have hq' := hq; have hr' := hr
 obtain ⟨a1, a2, a3⟩ := hq
 obtain ⟨b1, b2, b3⟩ := hr
 have dq := q.den_pos
 have dr := r.den_pos
 have e : decide (q < r) = decide (q.num * r.den < r.num * q.den) := by rw [decide_eq_decide]; exact Rat.lt_iff q r
 rw [e]
 by_cases hs : (decide (q.num < 0) != decide (r.num < 0)) = true
 · rw [hs, cbr_true]
   by_cases h1 : q.num < 0
   · have h2 : ¬ r.num < 0 := by simpa [h1] using hs
     have p1 : q.num * r.den < 0 := Int.mul_neg_of_neg_of_pos h1 (by omega)
     have p2 : 0 ≤ r.num * q.den := Int.mul_nonneg (by omega) (by omega)
     rw [decide_eq_true h1, decide_eq_true (by omega)]
   · have h2 : r.num < 0 := by simpa [h1] using hs
     have p1 : r.num * q.den < 0 := Int.mul_neg_of_neg_of_pos h2 (by omega)
     have p2 : 0 ≤ q.num * r.den := Int.mul_nonneg (by omega) (by omega)
     rw [decide_eq_false h1, decide_eq_false (by omega)]
 · have hs' : (decide (q.num < 0) != decide (r.num < 0)) = false := by simpa using hs
   rw [hs', cbr_false, sAbs_eq hq'.i1, wuN (by omega), times_nat (by omega) (by omega), sAbs_eq hr'.i1, wuN (by omega), times_nat (by omega) (by omega), lessW_eq (Int.natCast_nonneg _) (Int.natCast_nonneg _), lessW_eq (Int.natCast_nonneg _) (Int.natCast_nonneg _), Int.natCast_mul, Int.natCast_mul]
   by_cases h1 : q.num < 0
   · have h2 : r.num < 0 := by simpa [h1] using hs'
     rw [decide_eq_true h1, cbr_true, show ((q.num.natAbs : Nat) : Int) = -q.num by omega, show ((r.num.natAbs : Nat) : Int) = -r.num by omega, Int.neg_mul, Int.neg_mul]
     congr 1
     rw [decide_eq_decide]; omega
   · have h2 : ¬ r.num < 0 := by simpa [h1] using hs'
     rw [decide_eq_false h1, cbr_false, show ((q.num.natAbs : Nat) : Int) = q.num by omega, show ((r.num.natAbs : Nat) : Int) = r.num by omega]
end Go.Pf.Vc
namespace Go.Pf.Vc
open Go Go.Pf
theorem cbT {c : Prop} [Decidable c] {P Q : Prop} (h : c) : cbr (decide c) P Q = P := by rw [decide_eq_true h, cbr_true]
theorem cbF {c : Prop} [Decidable c] {P Q : Prop} (h : ¬ c) : cbr (decide c) P Q = Q := by rw [decide_eq_false h, cbr_false]
theorem cnT {a b : Int} {P Q : Prop} (h : a ≠ b) : cbr (a != b) P Q = P := by rw [bne_t h, cbr_true]
theorem cnF {a b : Int} {P Q : Prop} (h : a = b) : cbr (a != b) P Q = Q := by rw [bne_f h, cbr_false]
theorem ceT {a b : Int} {P Q : Prop} (h : a = b) : cbr (a == b) P Q = P := by rw [beq_t h, cbr_true]
theorem ceF {a b : Int} {P Q : Prop} (h : a ≠ b) : cbr (a == b) P Q = Q := by rw [beq_f h, cbr_false]
theorem asT {c : Prop} [Decidable c] {P : Prop} (h : c) : asr (decide c) P = P := by rw [decide_eq_true h, asr_true]
theorem wib {n : Int} (h1 : -9223372036854775808 ≤ n) (h2 : n ≤ 9223372036854775807) : IntKind.i64.wrap n = n := wi64 ⟨h1, h2⟩
theorem cast1 (i : Nat) : (i : Int) + 1 = ((i + 1 : Nat) : Int) := by omega
def allD (dens : List Int) : Prop := ∀ d ∈ dens, 0 ≤ d ∧ d ≤ 12
def someD (dens : List Int) : Prop := ∃ d ∈ dens, 0 < d
instance (l : List Int) : Decidable (allD l) := by unfold allD; infer_instance
instance (l : List Int) : Decidable (someD l) := by unfold someD; infer_instance
def VC (len : Int) (cuts dens : List Int) : Prop :=
 1 ≤ len ∧ len ≤ 1000 ∧ 2 ≤ cuts.length ∧ cuts.length ≤ 40 ∧ dens.length + 1 = cuts.length ∧ cuts.getD 0 0 = 0 ∧ cuts.getD (cuts.length - 1) 0 = len ∧ incr cuts 0 ∧ allD dens ∧ someD dens
theorem incr_iff (l : List Int) : incr l 0 ↔ ∀ j, j < l.length → j + 1 < l.length → l.getD j 0 < l.getD (j + 1) 0 := ⟨fun h j _ h2 => h j (by omega) h2, fun h j _ h2 => h j (by omega) h2⟩
instance (l : List Int) : Decidable (incr l 0) := decidable_of_iff _ (incr_iff l).symm
instance (len : Int) (cuts dens : List Int) : Decidable (VC len cuts dens) := by unfold VC; infer_instance
def ckC (len : Int) (cuts dens : List Int) : Int := if len > 1000 ∨ cuts.length > 40 then 4 else if VC len cuts dens then 0 else 8
def PT (len : Int) (n d : Int) : Prop := RV n d ∧ 0 ≤ n ∧ n ≤ len * d
instance (len n d : Int) : Decidable (PT len n d) := by unfold PT; infer_instance
end Go.Pf.Vc
namespace Go.Pf.Vc
open Go Go.Pf
section
variable {len : Int} {cuts dens : List Int}
theorem VC.step (h : VC len cuts dens) {i : Nat} (hi : i + 1 < cuts.length) : cuts.getD i 0 < cuts.getD (i + 1) 0 := h.2.2.2.2.2.2.2.1 i (Nat.zero_le _) hi
theorem VC.mono (h : VC len cuts dens) {i : Nat} : ∀ {j : Nat}, i ≤ j → j < cuts.length → cuts.getD i 0 ≤ cuts.getD j 0
 | 0, hij, _ => by have : i = 0 := by omega
                   subst this; exact Int.le_refl _
 | j + 1, hij, hj => by
   by_cases e : i = j + 1
   · subst e; exact Int.le_refl _
   · have h1 := h.mono (i := i) (j := j) (by omega) (by omega)
     have h2 := h.step (i := j) hj
     omega
theorem VC.lo (h : VC len cuts dens) {i : Nat} (hi : i < cuts.length) : 0 ≤ cuts.getD i 0 := by
 have := h.mono (Nat.zero_le i) hi
 rw [h.2.2.2.2.2.1] at this; exact this
theorem VC.hi (h : VC len cuts dens) {i : Nat} (hi : i < cuts.length) : cuts.getD i 0 ≤ len := by
 have := h.mono (i := i) (j := cuts.length - 1) (by omega) (by omega)
 rw [h.2.2.2.2.2.2.1] at this; exact this
theorem VC.den (h : VC len cuts dens) {i : Nat} (hi : i < dens.length) : 0 ≤ dens.getD i 0 ∧ dens.getD i 0 ≤ 12 := by
 rw [List.getD_eq_getElem?_getD, List.getElem?_eq_getElem hi]
 exact h.2.2.2.2.2.2.2.2.1 _ (List.getElem_mem hi)
theorem VC.l1 (h : VC len cuts dens) : dens.length + 1 = cuts.length := h.2.2.2.2.1
theorem VC.l2 (h : VC len cuts dens) : cuts.length ≤ 40 := h.2.2.2.1
def totS (cuts dens : List Int) : Nat → Nat → Int → Int
 | 0, _, s => s
 | r + 1, i, s => totS cuts dens r (i + 1) (s + dens.getD i 0 * (cuts.getD (i + 1) 0 - cuts.getD i 0))
def totC (cuts dens : List Int) : Int := totS cuts dens dens.length 0 0
def fit {α : Type} (q : Rat) (k : Rat → Except Int α) : Except Int α := if small q then k q else .error 16
def valS (cuts dens : List Int) (b : Rat) : Nat → Nat → Rat → Rat → Except Int Rat
 | 0, _, _, sum => .ok sum
 | r + 1, i, p, sum =>
   let en : Rat := if b < (cuts.getD (i + 1) 0 : Int) then b else (cuts.getD (i + 1) 0 : Int)
   if dens.getD i 0 = 0 ∨ ¬ p < en then valS cuts dens b r (i + 1) (if p < en then en else p) sum
   else fit (en - p) fun l => fit (l * (dens.getD i 0 : Int)) fun w => fit (sum + w) fun s => valS cuts dens b r (i + 1) en s
def valC (cuts dens : List Int) (a b : Rat) : Except Int Rat := valS cuts dens b dens.length 0 a 0
end
end Go.Pf.Vc
namespace Go.Pf.Vc
open Go Go.Pf
def rt (n d : Int) : Rat := mkRat n d.toNat
theorem rt_self (q : Rat) : rt q.num q.den = q := by unfold rt; rw [Int.toNat_natCast, Rat.mkRat_self]
theorem rt_of {n d : Int} (h : RV n d) : small (rt n d) ∧ (rt n d).num = n ∧ ((rt n d).den : Int) = d := by
 obtain ⟨q, h1, h2, h3⟩ := rv_rat h
 subst h2 h3
 rw [rt_self]; exact ⟨h1, rfl, rfl⟩
section
variable {len : Int} {cuts dens : List Int}
def valR (len : Int) (cuts dens : List Int) (an ad bn bd : Int) : Except Int Rat :=
 if ckC len cuts dens = 0 then (if PT len an ad ∧ PT len bn bd ∧ ¬ rt bn bd < rt an ad then valC cuts dens (rt an ad) (rt bn bd) else .error 2) else .error (ckC len cuts dens)
end
end Go.Pf.Vc
namespace Go.Pf.Vc
open Go Go.Pf
section
variable {len : Int} {cuts dens : List Int}
theorem add_zero (q : Rat) : q + 0 = q := by grind
end
end Go.Pf.Vc
namespace Go.Pf.Vc
open Go Go.Pf
structure Ck where
 len : Int
 cuts : List Int
 dens : List Int
instance : Inhabited Ck := ⟨⟨0, [], []⟩⟩
def Ck.fin (c : Ck) : Prop := c.cuts.length < 4611686018427387904 ∧ c.dens.length < 4611686018427387904
def Ck.ok (c : Ck) : Prop := VC c.len c.cuts c.dens
instance (c : Ck) : Decidable c.ok := by unfold Ck.ok; infer_instance
theorem drop_cons {α : Type} {l : List α} {i : Nat} (d : α) (h : i < l.length) : l.drop i = l.getD i d :: l.drop (i + 1) := by
 rw [List.drop_eq_getElem_cons h, List.getD_eq_getElem?_getD, List.getElem?_eq_getElem h]; rfl
section
variable {l : List Ck}
def finC (l : List Ck) : Prop := ∀ i, i < l.length → (l.getD i default).fin
end
end Go.Pf.Vc
namespace Go.Pf.Vc
open Go Go.Pf
section
variable {l : List Ck}
structure DK (l : List Ck) : Prop where
 n6 : l.length ≤ 6
 n0 : 1 ≤ l.length
 ok : ∀ i, i < l.length → (l.getD i default).ok
 len : ∀ i, i < l.length → (l.getD i default).len = (l.getD 0 default).len
theorem DK.fin {l : List Ck} (h : DK l) : finC l := fun i hi => by
 have h1 := (h.ok i hi).l1; have h2 := (h.ok i hi).l2
 exact ⟨by omega, by omega⟩
def Ck.value (an ad bn bd : Int) (c : Ck) : Except Int Rat := valR c.len c.cuts c.dens an ad bn bd
end
end Go.Pf.Vc
namespace Go.Pf.Vc
open Go Go.Pf
section
variable {l : List Ck}
def shr (c : Ck) (n : Int) : Rat := (totC c.cuts c.dens : Rat) / (n : Rat)
theorem small_div {n d : Int} (hn : -1000000000000000000 ≤ n ∧ n ≤ 1000000000000000000) (hd : 1 ≤ d ∧ d ≤ 1000000000000000000) : small ((n : Rat) / (d : Rat)) := by
 have e : (n : Rat) / (d : Rat) = mkRat n d.toNat := by
   rw [Rat.mkRat_eq_div]
   have h1 : ((d.toNat : Nat) : Int) = d := by omega
   have h2 : ((d.toNat : Nat) : Rat) = (d : Rat) := by rw [← Rat.intCast_natCast, h1]
   rw [h2]
 rw [e]
 unfold small
 rw [Rat.num_mkRat, Rat.den_mkRat, if_neg (by omega), if_neg (by omega)]
 have g0 : 0 < d.toNat.gcd n.natAbs := Nat.gcd_pos_of_pos_left _ (by omega)
 have h1 : (n / (d.toNat.gcd n.natAbs : Nat)).natAbs ≤ n.natAbs := by
   rw [Int.natAbs_ediv_of_dvd, Int.natAbs_natCast]
   · exact Nat.div_le_self _ _
   · rw [← Int.dvd_natAbs, Int.ofNat_dvd]; exact Nat.gcd_dvd_right _ _
 have h2 : d.toNat / d.toNat.gcd n.natAbs ≤ d.toNat := Nat.div_le_self _ _
 generalize n / (d.toNat.gcd n.natAbs : Nat) = x at *
 generalize d.toNat / d.toNat.gcd n.natAbs = y at *
 omega
end
end Go.Pf.Vc
namespace Go.Pf.Vc
open Go Go.Pf
def Fr (D B : Int) (q : Rat) : Prop := ∃ n : Int, -B ≤ n ∧ n ≤ B ∧ q = (n : Rat) / (D : Rat)
theorem Fr.small {D B : Int} {q : Rat} (h : Fr D B q) (hD : 1 ≤ D ∧ D ≤ 1000000000000000000) (hB : B ≤ 1000000000000000000) : small q := by
 obtain ⟨n, h1, h2, rfl⟩ := h
 exact small_div ⟨by omega, by omega⟩ hD
theorem Fr.add {D B1 B2 : Int} {q r : Rat} (h : Fr D B1 q) (k : Fr D B2 r) : Fr D (B1 + B2) (q + r) := by
 obtain ⟨n, h1, h2, rfl⟩ := h
 obtain ⟨m, k1, k2, rfl⟩ := k
 exact ⟨n + m, by omega, by omega, by rw [Rat.intCast_add]; grind⟩
theorem Fr.sub {D B1 B2 : Int} {q r : Rat} (h : Fr D B1 q) (k : Fr D B2 r) : Fr D (B1 + B2) (q - r) := by
 obtain ⟨n, h1, h2, rfl⟩ := h
 obtain ⟨m, k1, k2, rfl⟩ := k
 exact ⟨n - m, by omega, by omega, by rw [Rat.intCast_sub]; grind⟩
theorem Fr.mono {D B1 B2 : Int} {q : Rat} (h : Fr D B1 q) (hb : B1 ≤ B2) : Fr D B2 q := by
 obtain ⟨n, h1, h2, e⟩ := h
 exact ⟨n, by omega, by omega, e⟩
section
variable {len : Int} {cuts dens : List Int}
def rem (cuts dens : List Int) : Nat → Nat → Int
 | 0, _ => 0
 | r + 1, i => dens.getD i 0 * (cuts.getD (i + 1) 0 - cuts.getD i 0) + rem cuts dens r (i + 1)
end
end Go.Pf.Vc
namespace Go.Pf.Vc
open Go Go.Pf
structure Qy where
 agent : Int
 kind : Int
 an : Int
 ad : Int
 bn : Int
 bd : Int
 cn : Int
 cd : Int
 deriving DecidableEq
instance : Inhabited Qy := ⟨⟨0, 0, 0, 0, 0, 0, 0, 0⟩⟩
structure Sp where
 a : Int
 b : Int
 c : Int
 d : Int
 deriving DecidableEq
instance : Inhabited Sp := ⟨⟨0, 0, 0, 0⟩⟩
def encS (s : Sp) : PV := .agg [.int .i64 s.a, .int .i64 s.b, .int .i64 s.c, .int .i64 s.d]
def spans (l : List Sp) : List PV := l.map encS
theorem spans_len (l : List Sp) : (spans l).length = l.length := List.length_map ..
theorem spans_at {l : List Sp} {i : Nat} (h : i < l.length) : List.getD (spans l) i .nils = encS (l.getD i default) := by
 unfold spans
 rw [List.getD_eq_getElem?_getD, List.getD_eq_getElem?_getD, List.getElem?_map, List.getElem?_eq_getElem h]
 rfl
theorem asS {s : Sp} {P : Prop} : asr (conf (.agg [.i .i64, .i .i64, .i .i64, .i .i64]) (encS s)) P = P := rfl
theorem cSame_loop {s : List Sp} (hl : s.length < 4611686018427387904) (K : Bool → Prop) :
   ∀ (r i n : Nat), i + r = s.length → r < n → L_r03_Same_0_0 (fun yb0 => (K yb0)) (fun _ _ _ _ => (K true)) n (spans s) (spans s) i = K true
 | 0, i, n + 1, hi, hn => by
   unfold L_r03_Same_0_0
   rw [spans_len, cbF (by omega)]
 | r + 1, i, n + 1, hi, hn => by
   unfold L_r03_Same_0_0
   have e1 := wib (n := (i : Int) + 1) (by omega) (by omega)
   rw [spans_len, cbT (by omega), Int.toNat_natCast, spans_at (by omega), asT (by omega), asT (by omega), asS, asT (by omega), asT (by omega), asS, e1, cast1]
   simp only [beq_self_eq_true, Bool.and_self, Bool.not_true, cbr_false]
   exact cSame_loop hl K r (i + 1) n (by omega) (by omega)
theorem cSame_self {s : List Sp} (hl : s.length < 4611686018427387904) (K : Bool → Prop) : w_r03_Same (spans s) (spans s) K = K true := by
 refine det_r03_Same _ _ _ (fun K k => ?_) K
 unfold w_r03_Same wv_r03_Same
 rw [cnF rfl]
 refine ⟨s.length + 1, ?_⟩
 exact (cSame_loop hl K s.length 0 (s.length + 1) (by omega) (by omega)).mpr k
end Go.Pf.Vc
namespace Go.Pf.Vc
open Go Go.Pf
section
variable {l : List Ck}
theorem cmpQ_ge (x y : Rat) : decide (cmpQ x y ≥ 0) = !decide (x < y) := by
 unfold cmpQ
 by_cases h : x < y
 · simp [h]
 · by_cases h2 : y < x <;> simp [h, h2]
end
end Go.Pf.Vc
namespace Go.Pf.Vc
open Go Go.Pf
def dsR : DS := .a [.i .i64, .i .i64]
theorem inK_i64 {n : Int} (h : inK .i64 n) : I64 n := by
 have e1 : IntKind.i64.min = -9223372036854775808 := by decide
 have e2 : IntKind.i64.max = 9223372036854775807 := by decide
 unfold inK at h
 rw [e1, e2] at h
 exact h
theorem F_r {c : List PV} (h : HasF dsR c) : ∃ n d, c = [.int .i64 n, .int .i64 d] ∧ I64 n ∧ I64 d := by
 simp only [dsR, HasF, HasL] at h
 obtain ⟨c1, c2, rfl, ⟨n, rfl, hn⟩, c3, c4, rfl, ⟨d, rfl, hd⟩, rfl⟩ := h
 exact ⟨n, d, rfl, inK_i64 hn, inK_i64 hd⟩
def Ck.i64 (c : Ck) : Prop := I64 c.len ∧ (∀ n ∈ c.cuts, I64 n) ∧ ∀ n ∈ c.dens, I64 n
theorem agg_of {x : PV} {l : List DS} (h : x.isAgg = (DS.a l).isA) : x = .agg x.cells := by
 cases x <;> first | rfl | cases h
theorem single_of {x y : PV} (h : x.isAgg = false) (e : x.cells = [y]) : x = y := by
 cases x <;> first | (simp only [PV.cells, List.cons.injEq, and_true] at e; exact e) | cases h
end Go.Pf.Vc
namespace Go.Pf.Vc
abbrev RS : Type := Rat × Rat
def inS (s : RS) (p : Rat) : Prop := s.1 ≤ p ∧ p < s.2
def memP (l : List RS) (p : Rat) : Prop := ∃ s ∈ l, inS s p
def canon : List RS → Prop
 | [] => True
 | s :: r => s.1 < s.2 ∧ (∀ t ∈ r, s.2 < t.1) ∧ canon r
theorem memP_nil {p : Rat} : ¬ memP [] p := fun ⟨s, h, _⟩ => by cases h
theorem memP_cons {s : RS} {r : List RS} {p : Rat} : memP (s :: r) p ↔ inS s p ∨ memP r p := by
 constructor
 · rintro ⟨t, h, hp⟩
   rcases List.mem_cons.1 h with rfl | h
   · exact .inl hp
   · exact .inr ⟨t, h, hp⟩
 · rintro (h | ⟨t, h, hp⟩)
   · exact ⟨s, List.mem_cons_self, h⟩
   · exact ⟨t, List.mem_cons_of_mem _ h, hp⟩
theorem canon_low {s : RS} {r : List RS} (h : canon (s :: r)) {p : Rat} (hp : memP (s :: r) p) : s.1 ≤ p := by
 obtain ⟨h1, h2, _⟩ := h
 rcases memP_cons.1 hp with h | ⟨t, h, hp, _⟩
 · exact h.1
 · have := h2 t h
   grind
theorem canon_tail {s : RS} {r : List RS} (h : canon (s :: r)) {p : Rat} (hp : memP r p) : s.2 < p := by
 obtain ⟨t, ht, h1, _⟩ := hp
 have := h.2.1 t ht
 grind
theorem canon_self {s : RS} {r : List RS} (h : canon (s :: r)) : memP (s :: r) s.1 := memP_cons.2 (.inl ⟨Rat.le_refl, h.1⟩)
theorem canon_unique : ∀ (a b : List RS), canon a → canon b → (∀ p, memP a p ↔ memP b p) → a = b
 | [], [], _, _, _ => rfl
 | [], t :: b, _, hb, h => (memP_nil ((h t.1).2 (canon_self hb))).elim
 | s :: a, [], ha, _, h => (memP_nil ((h s.1).1 (canon_self ha))).elim
 | s :: a, t :: b, ha, hb, h => by
   have e1 : s.1 = t.1 := by
     have h1 := canon_low hb ((h s.1).1 (canon_self ha))
     have h2 := canon_low ha ((h t.1).2 (canon_self hb))
     grind
   have key : ∀ (s t : RS) (a b : List RS), canon (s :: a) → canon (t :: b) → s.1 = t.1 → (∀ p, memP (s :: a) p ↔ memP (t :: b) p) → ¬ s.2 < t.2 := by
     intro s t a b ha hb e h hlt
     have h1 := (h s.2).2 (memP_cons.2 (.inl ⟨by have := ha.1; grind, hlt⟩))
     rcases memP_cons.1 h1 with h2 | h2
     · have := h2.2; grind
     · have := canon_tail ha h2; grind
   have e2 : s.2 = t.2 := by
     have h1 := key s t a b ha hb e1 h
     have h2 := key t s b a hb ha e1.symm fun p => (h p).symm
     grind
   have e : s = t := Prod.ext e1 e2
   subst e
   have hab : a = b := by
     refine canon_unique a b ha.2.2 hb.2.2 fun p => ⟨fun hp => ?_, fun hp => ?_⟩
     · have h1 := canon_tail ha hp
       rcases memP_cons.1 ((h p).1 (memP_cons.2 (.inr hp))) with h2 | h2
       · have := h2.2; grind
       · exact h2
     · have h1 := canon_tail hb hp
       rcases memP_cons.1 ((h p).2 (memP_cons.2 (.inr hp))) with h2 | h2
       · have := h2.2; grind
       · exact h2
   rw [hab]
end Go.Pf.Vc
namespace Go.Pf.Vc
def maxR (a b : Rat) : Rat := if a < b then b else a
def mrg : List RS → RS → List RS
 | [], c => [c]
 | s :: r, c => if c.2 < s.1 then c :: mrg r s else mrg r (c.1, maxR c.2 s.2)
def mergeS : List RS → List RS
 | [] => []
 | s :: r => mrg r s
def byFrom : List RS → Prop
 | [] => True
 | s :: r => (∀ t ∈ r, s.1 ≤ t.1) ∧ byFrom r
theorem mrg_ok : ∀ (r : List RS) (c : RS), c.1 < c.2 → (∀ s ∈ r, s.1 < s.2) → (∀ s ∈ r, c.1 ≤ s.1) → byFrom r → canon (mrg r c) ∧ (∀ t ∈ mrg r c, c.1 ≤ t.1) ∧ ∀ p, memP (mrg r c) p ↔ memP (c :: r) p
 | [], c, hc, _, _, _ => by
   unfold mrg
   refine ⟨⟨hc, by simp, trivial⟩, fun t h => ?_, fun p => Iff.rfl⟩
   rw [List.mem_singleton] at h
   rw [h]; exact Rat.le_refl
 | s :: r, c, hc, hv, hl, hs => by
   unfold mrg
   have hsv := hv s List.mem_cons_self
   have hsl := hl s List.mem_cons_self
   by_cases h : c.2 < s.1
   · rw [if_pos h]
     obtain ⟨i1, i2, i3⟩ := mrg_ok r s hsv (fun t ht => hv t (List.mem_cons_of_mem _ ht)) hs.1 hs.2
     refine ⟨⟨hc, fun t ht => by have := i2 t ht; grind, i1⟩, fun t ht => ?_, fun p => ?_⟩
     · rcases List.mem_cons.1 ht with rfl | ht
       · exact Rat.le_refl
       · have := i2 t ht; grind
     · rw [memP_cons, i3 p, memP_cons, memP_cons, memP_cons]
   · rw [if_neg h]
     have hm : c.2 ≤ maxR c.2 s.2 ∧ s.2 ≤ maxR c.2 s.2 ∧ (maxR c.2 s.2 = c.2 ∨ maxR c.2 s.2 = s.2) := by unfold maxR; split <;> grind
     obtain ⟨i1, i2, i3⟩ := mrg_ok r (c.1, maxR c.2 s.2) (by show c.1 < maxR c.2 s.2; grind) (fun t ht => hv t (List.mem_cons_of_mem _ ht)) (fun t ht => hl t (List.mem_cons_of_mem _ ht)) hs.2
     refine ⟨i1, i2, fun p => ?_⟩
     rw [i3 p, memP_cons, memP_cons, memP_cons]
     have hin : inS (c.1, maxR c.2 s.2) p ↔ inS c p ∨ inS s p := by
       unfold inS
       constructor
       · rintro ⟨h1, h2⟩
         have h2 : p < maxR c.2 s.2 := h2
         have h1 : c.1 ≤ p := h1
         by_cases h3 : p < c.2
         · exact .inl ⟨h1, h3⟩
         · exact .inr ⟨by grind, by grind⟩
       · rintro (⟨h1, h2⟩ | ⟨h1, h2⟩)
         · exact ⟨h1, by show p < maxR c.2 s.2; grind⟩
         · exact ⟨by show c.1 ≤ p; grind, by show p < maxR c.2 s.2; grind⟩
     rw [hin, or_assoc]
theorem mergeS_ok {l : List RS} (hv : ∀ s ∈ l, s.1 < s.2) (hs : byFrom l) : canon (mergeS l) ∧ ∀ p, memP (mergeS l) p ↔ memP l p := by
 cases l with
 | nil => exact ⟨trivial, fun p => Iff.rfl⟩
 | cons s r =>
   obtain ⟨i1, _, i3⟩ := mrg_ok r s (hv s List.mem_cons_self) (fun t ht => hv t (List.mem_cons_of_mem _ ht)) hs.1 hs.2
   exact ⟨i1, i3⟩
end Go.Pf.Vc
namespace Go.Pf.Vc
def incrR : List Rat → Prop
 | [] => True
 | x :: r => (∀ y ∈ r, x < y) ∧ incrR r
def jn (f : Rat → Bool) : List Rat → Option RS → List RS
 | x :: y :: r, none => if f x then jn f (y :: r) (some (x, y)) else jn f (y :: r) none
 | x :: y :: r, some c => if f x then (if c.2 = x then jn f (y :: r) (some (c.1, y)) else c :: jn f (y :: r) (some (x, y))) else jn f (y :: r) (some c)
 | _, none => []
 | _, some c => [c]
def segP (f : Rat → Bool) : List Rat → Rat → Prop
 | x :: y :: r, p => (f x = true ∧ x ≤ p ∧ p < y) ∨ segP f (y :: r) p
 | _, _ => False
def curP : Option RS → Rat → Prop
 | none, _ => False
 | some c, p => inS c p
def curOk (pts : List Rat) : Option RS → Prop
 | none => True
 | some c => c.1 < c.2 ∧ ∀ x ∈ pts, c.2 ≤ x
def lowOk (pts : List Rat) : Option RS → Rat → Prop
 | none, q => ∃ x ∈ pts, x ≤ q
 | some c, q => c.1 ≤ q
theorem jn_ok (f : Rat → Bool) : ∀ (pts : List Rat) (cur : Option RS), incrR pts → curOk pts cur →
   canon (jn f pts cur) ∧ (∀ t ∈ jn f pts cur, lowOk pts cur t.1) ∧ ∀ p, memP (jn f pts cur) p ↔ (curP cur p ∨ segP f pts p)
 | [], none, _, _ => by
   unfold jn
   refine ⟨trivial, fun t h => (by cases h), fun p => ?_⟩
   simp only [curP, segP]
   exact ⟨fun h => (memP_nil h).elim, fun h => h.elim (fun h => h.elim) (fun h => h.elim)⟩
 | [], some c, _, hc => by
   unfold jn
   refine ⟨⟨hc.1, by simp, trivial⟩, fun t h => ?_, fun p => ?_⟩
   · rw [List.mem_singleton] at h; rw [h]; exact Rat.le_refl
   · rw [memP_cons]
     simp only [curP, segP]
     exact ⟨fun h => h.elim .inl (fun h => (memP_nil h).elim), fun h => h.elim .inl (fun h => h.elim)⟩
 | [x], none, _, _ => by
   unfold jn
   refine ⟨trivial, fun t h => (by cases h), fun p => ?_⟩
   simp only [curP, segP]
   exact ⟨fun h => (memP_nil h).elim, fun h => h.elim (fun h => h.elim) (fun h => h.elim)⟩
 | [x], some c, _, hc => by
   unfold jn
   refine ⟨⟨hc.1, by simp, trivial⟩, fun t h => ?_, fun p => ?_⟩
   · rw [List.mem_singleton] at h; rw [h]; exact Rat.le_refl
   · rw [memP_cons]
     simp only [curP, segP]
     exact ⟨fun h => h.elim .inl (fun h => (memP_nil h).elim), fun h => h.elim .inl (fun h => h.elim)⟩
 | x :: y :: r, none, hi, _ => by
   have hxy := hi.1 y List.mem_cons_self
   unfold jn
   cases hf : f x with
   | true =>
     rw [if_pos rfl]
     obtain ⟨i1, i2, i3⟩ := jn_ok f (y :: r) (some (x, y)) hi.2 ⟨hxy, fun z hz => by
       rcases List.mem_cons.1 hz with rfl | hz
       · exact Rat.le_refl
       · have := hi.2.1 z hz; show y ≤ z; grind⟩
     refine ⟨i1, fun t ht => ⟨x, List.mem_cons_self, i2 t ht⟩, fun p => ?_⟩
     rw [i3 p]
     simp only [curP, segP, inS, hf, true_and, false_or]
   | false =>
     rw [if_neg (by decide)]
     obtain ⟨i1, i2, i3⟩ := jn_ok f (y :: r) none hi.2 trivial
     refine ⟨i1, fun t ht => ?_, fun p => ?_⟩
     · obtain ⟨z, hz, hzt⟩ := i2 t ht
       exact ⟨z, List.mem_cons_of_mem _ hz, hzt⟩
     · rw [i3 p]
       simp [curP, segP, hf]
 | x :: y :: r, some c, hi, hc => by
   have hxy := hi.1 y List.mem_cons_self
   have hcx := hc.2 x List.mem_cons_self
   have hyr : ∀ z ∈ y :: r, y ≤ z := fun z hz => by
     rcases List.mem_cons.1 hz with rfl | hz
     · exact Rat.le_refl
     · have := hi.2.1 z hz; grind
   unfold jn
   cases hf : f x with
   | true =>
     rw [if_pos rfl]
     by_cases he : c.2 = x
     · rw [if_pos he]
       obtain ⟨i1, i2, i3⟩ := jn_ok f (y :: r) (some (c.1, y)) hi.2 ⟨by have := hc.1; show c.1 < y; grind, hyr⟩
       refine ⟨i1, i2, fun p => ?_⟩
       rw [i3 p]
       simp only [curP, segP, inS, hf, true_and]
       have := hc.1
       constructor
       · rintro (⟨h1, h2⟩ | h)
         · by_cases h3 : p < c.2
           · exact .inl ⟨h1, h3⟩
           · exact .inr (.inl ⟨by grind, h2⟩)
         · exact .inr (.inr h)
       · rintro (⟨h1, h2⟩ | ⟨h1, h2⟩ | h)
         · exact .inl ⟨h1, by grind⟩
         · exact .inl ⟨by grind, h2⟩
         · exact .inr h
     · rw [if_neg he]
       obtain ⟨i1, i2, i3⟩ := jn_ok f (y :: r) (some (x, y)) hi.2 ⟨hxy, hyr⟩
       refine ⟨⟨hc.1, fun t ht => ?_, i1⟩, fun t ht => ?_, fun p => ?_⟩
       · have : x ≤ t.1 := i2 t ht
         grind
       · rcases List.mem_cons.1 ht with rfl | ht
         · exact Rat.le_refl
         · have : x ≤ t.1 := i2 t ht
           have := hc.1
           show c.1 ≤ t.1
           grind
       · rw [memP_cons, i3 p]
         simp only [curP, segP, inS, hf, true_and]
   | false =>
     rw [if_neg (by decide)]
     obtain ⟨i1, i2, i3⟩ := jn_ok f (y :: r) (some c) hi.2 ⟨hc.1, fun z hz => by have := hyr z hz; grind⟩
     refine ⟨i1, i2, fun p => ?_⟩
     rw [i3 p]
     simp [curP, segP, hf]
end Go.Pf.Vc
namespace Go.Pf.Vc
def minR (a b : Rat) : Rat := if a < b then a else b
theorem maxR_is (a b : Rat) : a ≤ maxR a b ∧ b ≤ maxR a b ∧ (maxR a b = a ∨ maxR a b = b) := by unfold maxR; split <;> grind
theorem minR_is (a b : Rat) : minR a b ≤ a ∧ minR a b ≤ b ∧ (minR a b = a ∨ minR a b = b) := by unfold minR; split <;> grind
def lowS : List RS → Rat → Prop
 | [], _ => False
 | s :: _, q => s.1 ≤ q
theorem canon_app {h : Rat} : ∀ {a b : List RS}, canon a → canon b → (∀ u ∈ a, u.2 ≤ h) → (∀ v ∈ b, h < v.1) → canon (a ++ b)
 | [], _, _, hb, _, _ => hb
 | s :: a, b, ha, hb, h1, h2 => by
   refine ⟨ha.1, fun t ht => ?_, canon_app ha.2.2 hb (fun u hu => h1 u (List.mem_cons_of_mem _ hu)) h2⟩
   rcases List.mem_append.1 ht with ht | ht
   · exact ha.2.1 t ht
   · have := h1 s List.mem_cons_self
     have := h2 t ht
     grind
theorem memP_app {a b : List RS} {p : Rat} : memP (a ++ b) p ↔ memP a p ∨ memP b p := by
 constructor
 · rintro ⟨s, h, hp⟩
   rcases List.mem_append.1 h with h | h
   · exact .inl ⟨s, h, hp⟩
   · exact .inr ⟨s, h, hp⟩
 · rintro (⟨s, h, hp⟩ | ⟨s, h, hp⟩)
   · exact ⟨s, List.mem_append_left _ h, hp⟩
   · exact ⟨s, List.mem_append_right _ h, hp⟩
theorem memP_if {c : Prop} [Decidable c] {s : RS} {p : Rat} : memP (if c then [s] else []) p ↔ (c ∧ inS s p) := by
 by_cases h : c
 · rw [if_pos h, memP_cons]
   exact ⟨fun k => k.elim (fun k => ⟨h, k⟩) (fun k => (memP_nil k).elim), fun k => .inl k.2⟩
 · rw [if_neg h]
   exact ⟨fun k => (memP_nil k).elim, fun k => (h k.1).elim⟩
def min1 (hi : Rat) : Rat → List RS → List RS
 | x, [] => if x < hi then [(x, hi)] else []
 | x, t :: b => if t.2 ≤ x ∨ hi ≤ t.1 then min1 hi x b else (if x < t.1 then [(x, t.1)] else []) ++ min1 hi t.2 b
def minusS (a b : List RS) : List RS := a.flatMap fun s => min1 s.2 s.1 b
theorem min1_ok (hi : Rat) : ∀ (b : List RS) (x : Rat), canon b → canon (min1 hi x b) ∧ (∀ u ∈ min1 hi x b, x ≤ u.1 ∧ u.2 ≤ hi) ∧ ∀ p, memP (min1 hi x b) p ↔ (x ≤ p ∧ p < hi ∧ ¬ memP b p)
 | [], x, _ => by
   unfold min1
   by_cases h : x < hi
   · rw [if_pos h]
     refine ⟨⟨h, by simp, trivial⟩, fun u hu => ?_, fun p => ?_⟩
     · rw [List.mem_singleton] at hu
       rw [hu]
       exact ⟨Rat.le_refl, Rat.le_refl⟩
     · rw [memP_cons]
       exact ⟨fun k => k.elim (fun k => ⟨k.1, k.2, memP_nil⟩) (fun k => (memP_nil k).elim), fun k => .inl ⟨k.1, k.2.1⟩⟩
   · rw [if_neg h]
     refine ⟨trivial, by simp, fun p => ⟨fun k => (memP_nil k).elim, fun k => ?_⟩⟩
     have := k.1; have := k.2.1
     grind
 | t :: b, x, hb => by
   unfold min1
   by_cases h : t.2 ≤ x ∨ hi ≤ t.1
   · rw [if_pos h]
     obtain ⟨i1, i2, i3⟩ := min1_ok hi b x hb.2.2
     refine ⟨i1, i2, fun p => ?_⟩
     rw [i3 p, memP_cons]
     constructor
     · rintro ⟨h1, h2, h3⟩
       refine ⟨h1, h2, fun k => k.elim (fun k => ?_) h3⟩
       have := k.1; have := k.2
       grind
     · rintro ⟨h1, h2, h3⟩
       exact ⟨h1, h2, fun k => h3 (.inr k)⟩
   · rw [if_neg h]
     have g1 : x < t.2 := by grind
     have g2 : t.1 < hi := by grind
     obtain ⟨i1, i2, i3⟩ := min1_ok hi b t.2 hb.2.2
     have ht := hb.1
     refine ⟨?_, fun u hu => ?_, fun p => ?_⟩
     · refine canon_app (h := t.1) ?_ i1 ?_ ?_
       · by_cases hx : x < t.1
         · rw [if_pos hx]; exact ⟨hx, by simp, trivial⟩
         · rw [if_neg hx]; trivial
       · intro u hu
         by_cases hx : x < t.1
         · rw [if_pos hx, List.mem_singleton] at hu
           rw [hu]; exact Rat.le_refl
         · rw [if_neg hx] at hu; cases hu
       · intro v hv
         have := (i2 v hv).1
         grind
     · rcases List.mem_append.1 hu with hu | hu
       · by_cases hx : x < t.1
         · rw [if_pos hx, List.mem_singleton] at hu
           rw [hu]; exact ⟨Rat.le_refl, by show t.1 ≤ hi; grind⟩
         · rw [if_neg hx] at hu; cases hu
       · have := i2 u hu
         exact ⟨by grind, this.2⟩
     · rw [memP_app, memP_if, i3 p, memP_cons]
       unfold inS
       constructor
       · rintro (⟨h1, h2, h3⟩ | ⟨h1, h2, h3⟩)
         · have h3 : p < t.1 := h3
           have h2 : x ≤ p := h2
           refine ⟨h2, by grind, fun k => k.elim (fun k => by have := k.1; grind) (fun k => ?_)⟩
           have := canon_tail hb k
           grind
         · exact ⟨by grind, h2, fun k => k.elim (fun k => by have := k.2; grind) h3⟩
       · rintro ⟨h1, h2, h3⟩
         by_cases hp : p < t.1
         · exact .inl ⟨by grind, h1, hp⟩
         · refine .inr ⟨?_, h2, fun k => h3 (.inr k)⟩
           by_cases hq : p < t.2
           · exact (h3 (.inl ⟨by grind, hq⟩)).elim
           · grind
theorem minusS_ok {b : List RS} (hb : canon b) : ∀ {a : List RS}, canon a → canon (minusS a b) ∧ (∀ u ∈ minusS a b, lowS a u.1) ∧ ∀ p, memP (minusS a b) p ↔ (memP a p ∧ ¬ memP b p)
 | [], _ => ⟨trivial, by simp [minusS], fun p => ⟨fun k => (memP_nil k).elim, fun k => (memP_nil k.1).elim⟩⟩
 | s :: a, ha => by
   obtain ⟨i1, i2, i3⟩ := minusS_ok hb ha.2.2
   obtain ⟨m1, m2, m3⟩ := min1_ok s.2 b s.1 hb
   have e : minusS (s :: a) b = min1 s.2 s.1 b ++ minusS a b := by unfold minusS; rw [List.flatMap_cons]
   have hlow : ∀ v ∈ minusS a b, s.2 < v.1 := by
     intro v hv
     have := i2 v hv
     cases a with
     | nil => exact this.elim
     | cons s2 a2 =>
       have h2 := ha.2.1 s2 List.mem_cons_self
       have h3 : s2.1 ≤ v.1 := this
       grind
   rw [e]
   refine ⟨canon_app m1 i1 (fun u hu => (m2 u hu).2) hlow, fun u hu => ?_, fun p => ?_⟩
   · rcases List.mem_append.1 hu with hu | hu
     · exact (m2 u hu).1
     · have := hlow u hu
       have := ha.1
       show s.1 ≤ u.1
       grind
   · rw [memP_app, m3 p, i3 p, memP_cons]
     unfold inS
     constructor
     · rintro (⟨h1, h2, h3⟩ | ⟨h1, h2⟩)
       · exact ⟨.inl ⟨h1, h2⟩, h3⟩
       · exact ⟨.inr h1, h2⟩
     · rintro ⟨h1 | h1, h2⟩
       · exact .inl ⟨h1.1, h1.2, h2⟩
       · exact .inr ⟨h1, h2⟩
end Go.Pf.Vc
namespace Go.Pf.Vc
def gapOk (full : List Rat) : List Rat → Prop
 | x :: y :: r => (∀ z ∈ full, z ≤ x ∨ y ≤ z) ∧ gapOk full (y :: r)
 | _ => True
theorem gap_of (full : List Rat) : ∀ (pts : List Rat), incrR pts → (∀ z ∈ full, z ∈ pts ∨ ∀ w ∈ pts, z < w) → gapOk full pts
 | [], _, _ => trivial
 | [_], _, _ => trivial
 | x :: y :: r, hi, h => by
   refine ⟨fun z hz => ?_, gap_of full (y :: r) hi.2 fun z hz => ?_⟩
   · rcases h z hz with k | k
     · rcases List.mem_cons.1 k with rfl | k
       · exact .inl Rat.le_refl
       · rcases List.mem_cons.1 k with rfl | k
         · exact .inr Rat.le_refl
         · have := hi.2.1 z k
           exact .inr (by grind)
     · have := k x List.mem_cons_self
       exact .inl (by grind)
   · rcases h z hz with k | k
     · rcases List.mem_cons.1 k with rfl | k
       · exact .inr fun w hw => hi.1 w hw
       · exact .inl k
     · exact .inr fun w hw => k w (List.mem_cons_of_mem _ hw)
def endsIn (pts : List Rat) (a : List RS) : Prop := ∀ s ∈ a, s.1 ∈ pts ∧ s.2 ∈ pts
theorem mem_const {full : List Rat} {a : List RS} (h : endsIn full a) {x y p : Rat} (hg : ∀ z ∈ full, z ≤ x ∨ y ≤ z) (h1 : x ≤ p) (h2 : p < y) : memP a p ↔ memP a x := by
 constructor
 · rintro ⟨s, hs, k1, k2⟩
   obtain ⟨e1, e2⟩ := h s hs
   have := hg _ e1
   exact ⟨s, hs, by grind, by grind⟩
 · rintro ⟨s, hs, k1, k2⟩
   obtain ⟨e1, e2⟩ := h s hs
   have := hg _ e2
   exact ⟨s, hs, by grind, by grind⟩
def inHull (pts : List Rat) (p : Rat) : Prop := (∃ x ∈ pts, x ≤ p) ∧ ∃ y ∈ pts, p < y
theorem hull_of {pts : List Rat} {a : List RS} (h : endsIn pts a) {p : Rat} (hp : memP a p) : inHull pts p := by
 obtain ⟨s, hs, k1, k2⟩ := hp
 obtain ⟨e1, e2⟩ := h s hs
 exact ⟨⟨_, e1, k1⟩, ⟨_, e2, k2⟩⟩
theorem seg_iff {full : List Rat} {f : Rat → Bool} {P : Rat → Prop} (hc : ∀ x y p, (∀ z ∈ full, z ≤ x ∨ y ≤ z) → x ≤ p → p < y → (P p ↔ P x)) : ∀ (pts : List Rat), incrR pts → gapOk full pts → (∀ x ∈ pts, f x = true ↔ P x) → ∀ p, segP f pts p ↔ (P p ∧ inHull pts p)
 | [], _, _, _, p => by
   simp only [segP]
   exact ⟨fun h => h.elim, fun h => by obtain ⟨x, hx, _⟩ := h.2.1; cases hx⟩
 | [x], _, _, _, p => by
   simp only [segP]
   refine ⟨fun h => h.elim, fun h => ?_⟩
   obtain ⟨u, hu, k1⟩ := h.2.1
   obtain ⟨v, hv, k2⟩ := h.2.2
   rw [List.mem_singleton] at hu hv
   grind
 | x :: y :: r, hi, hg, hf, p => by
   have ih := seg_iff hc (y :: r) hi.2 hg.2 (fun z hz => hf z (List.mem_cons_of_mem _ hz)) p
   have hxy := hi.1 y List.mem_cons_self
   simp only [segP]
   rw [ih, hf x List.mem_cons_self]
   constructor
   · rintro (⟨h1, h2, h3⟩ | ⟨h1, ⟨u, hu, k1⟩, ⟨v, hv, k2⟩⟩)
     · exact ⟨(hc x y p hg.1 h2 h3).2 h1, ⟨x, List.mem_cons_self, h2⟩, ⟨y, List.mem_cons_of_mem _ List.mem_cons_self, h3⟩⟩
     · exact ⟨h1, ⟨u, List.mem_cons_of_mem _ hu, k1⟩, ⟨v, List.mem_cons_of_mem _ hv, k2⟩⟩
   · rintro ⟨h1, ⟨u, hu, k1⟩, ⟨v, hv, k2⟩⟩
     have hxp : x ≤ p := by
       rcases List.mem_cons.1 hu with rfl | hu
       · exact k1
       · have := hi.1 u hu; grind
     by_cases hpy : p < y
     · exact .inl ⟨(hc x y p hg.1 hxp hpy).1 h1, hxp, hpy⟩
     · refine .inr ⟨h1, ⟨y, List.mem_cons_self, by grind⟩, ?_⟩
       rcases List.mem_cons.1 hv with rfl | hv
       · exact absurd k2 (by grind)
       · exact ⟨v, hv, k2⟩
theorem jn_set {pts : List Rat} {f : Rat → Bool} {P : Rat → Prop} (hi : incrR pts) (hc : ∀ x y p, (∀ z ∈ pts, z ≤ x ∨ y ≤ z) → x ≤ p → p < y → (P p ↔ P x)) (hf : ∀ x ∈ pts, f x = true ↔ P x) (hh : ∀ p, P p → inHull pts p) :
   canon (jn f pts none) ∧ ∀ p, memP (jn f pts none) p ↔ P p := by
 obtain ⟨i1, _, i3⟩ := jn_ok f pts none hi trivial
 refine ⟨i1, fun p => ?_⟩
 rw [i3 p, seg_iff hc pts hi (gap_of pts pts hi fun z hz => .inl hz) hf p]
 simp only [curP, false_or]
 exact ⟨fun h => h.1, fun h => ⟨h, hh p h⟩⟩
end Go.Pf.Vc
namespace Go.Pf.Vc
def insR (p : Rat) : List Rat → List Rat
 | [] => [p]
 | x :: r => if p = x then x :: r else if p < x then p :: x :: r else x :: insR p r
theorem insR_mem {p z : Rat} : ∀ (l : List Rat), z ∈ insR p l ↔ (z = p ∨ z ∈ l)
 | [] => by unfold insR; simp
 | x :: r => by
   unfold insR
   by_cases h : p = x
   · rw [if_pos h]
     subst h
     simp
   · rw [if_neg h]
     by_cases h2 : p < x
     · rw [if_pos h2]; simp
     · rw [if_neg h2, List.mem_cons, insR_mem r, List.mem_cons]
       constructor
       · rintro (h | h | h)
         · exact .inr (.inl h)
         · exact .inl h
         · exact .inr (.inr h)
       · rintro (h | h | h)
         · exact .inr (.inl h)
         · exact .inl h
         · exact .inr (.inr h)
theorem insR_incr {p : Rat} : ∀ (l : List Rat), incrR l → incrR (insR p l)
 | [], _ => ⟨by simp, trivial⟩
 | x :: r, h => by
   unfold insR
   by_cases h1 : p = x
   · rw [if_pos h1]; exact h
   · rw [if_neg h1]
     by_cases h2 : p < x
     · rw [if_pos h2]
       refine ⟨fun y hy => ?_, h⟩
       rcases List.mem_cons.1 hy with rfl | hy
       · exact h2
       · have := h.1 y hy; grind
     · rw [if_neg h2]
       refine ⟨fun y hy => ?_, insR_incr r h.2⟩
       rcases (insR_mem r).1 hy with rfl | hy
       · grind
       · exact h.1 y hy
def endsR : List RS → List Rat → List Rat
 | [], out => out
 | s :: a, out => endsR a (insR s.2 (insR s.1 out))
theorem endsR_incr : ∀ (a : List RS) (out : List Rat), incrR out → incrR (endsR a out)
 | [], _, h => h
 | _ :: a, _, h => endsR_incr a _ (insR_incr _ (insR_incr _ h))
theorem endsR_keep : ∀ (a : List RS) (out : List Rat) (z : Rat), z ∈ out → z ∈ endsR a out
 | [], _, _, h => h
 | _ :: a, _, z, h => endsR_keep a _ z ((insR_mem _).2 (.inr ((insR_mem _).2 (.inr h))))
theorem endsR_has : ∀ (a : List RS) (out : List Rat), endsIn (endsR a out) a
 | [], _ => fun s h => by cases h
 | t :: a, out => by
   intro s hs
   rcases List.mem_cons.1 hs with rfl | hs
   · exact ⟨endsR_keep a _ _ ((insR_mem _).2 (.inr ((insR_mem _).2 (.inl rfl)))), endsR_keep a _ _ ((insR_mem _).2 (.inl rfl))⟩
   · exact endsR_has a _ s hs
def joinR (f : Rat → Bool) (a b : List RS) : List RS := jn f (endsR b (endsR a [])) none
theorem joinR_ok {a b : List RS} {f : Rat → Bool} {c : Prop → Prop → Prop} (hf : ∀ x, f x = true ↔ c (memP a x) (memP b x)) (h0 : ¬ c False False) :
   canon (joinR f a b) ∧ ∀ p, memP (joinR f a b) p ↔ c (memP a p) (memP b p) := by
 have ea : endsIn (endsR b (endsR a [])) a := fun s hs => ⟨endsR_keep b _ _ (endsR_has a [] s hs).1, endsR_keep b _ _ (endsR_has a [] s hs).2⟩
 have eb : endsIn (endsR b (endsR a [])) b := endsR_has b _
 refine jn_set (endsR_incr b _ (endsR_incr a _ trivial)) (fun x y p hg h1 h2 => ?_) (fun x _ => hf x) (fun p hp => ?_)
 · rw [mem_const ea hg h1 h2, mem_const eb hg h1 h2]
 · by_cases h1 : memP a p
   · exact hull_of ea h1
   · by_cases h2 : memP b p
     · exact hull_of eb h2
     · rw [eq_false h1, eq_false h2] at hp
       exact (h0 hp).elim
theorem without_eq {a b : List RS} (ha : canon a) (hb : canon b) {f : Rat → Bool} (hf : ∀ x, f x = true ↔ (memP a x ∧ ¬ memP b x)) : minusS a b = joinR f a b := by
 obtain ⟨i1, _, i2⟩ := minusS_ok hb ha
 obtain ⟨j1, j2⟩ := joinR_ok (c := fun x y => x ∧ ¬ y) hf (by simp)
 exact canon_unique _ _ i1 j1 fun p => by rw [i2 p, j2 p]
end Go.Pf.Vc
namespace Go.Pf.Vc
open Go Go.Pf
def Sp.rs (s : Sp) : RS := (rt s.a s.b, rt s.c s.d)
def Sp.ok (s : Sp) : Prop := RV s.a s.b ∧ RV s.c s.d ∧ rt s.a s.b < rt s.c s.d
instance (s : Sp) : Decidable s.ok := by unfold Sp.ok; infer_instance
def Sp.i64 (s : Sp) : Prop := I64 s.a ∧ I64 s.b ∧ I64 s.c ∧ I64 s.d
theorem order_eq {q r : Rat} (hq : small q) (hr : small r) (K : Int → Prop) : w_piece_order q.num q.den r.num r.den K = K (cmpQ q r) := by
 unfold w_piece_order wv_piece_order
 rw [rCmp_eq hq hr]
theorem order_rv {a b c d : Int} (h : RV a b) (k : RV c d) (K : Int → Prop) : w_piece_order a b c d K = K (cmpQ (rt a b) (rt c d)) := by
 obtain ⟨h1, h2, h3⟩ := rt_of h
 obtain ⟨k1, k2, k3⟩ := rt_of k
 have := order_eq h1 k1 K
 rw [h2, h3, k2, k3] at this
 exact this
theorem cmpQ_neg (q r : Rat) : decide (cmpQ q r < 0) = decide (q < r) := by
 unfold cmpQ
 by_cases h : q < r
 · rw [if_pos h]; simp [h]
 · rw [if_neg h]
   split <;> simp [h]
theorem cmpQ_le (q r : Rat) : decide (cmpQ q r ≤ 0) = !decide (r < q) := by
 unfold cmpQ
 by_cases h : q < r
 · have : ¬ r < q := by grind
   rw [if_pos h]; simp [this]
 · rw [if_neg h]
   by_cases h2 : r < q
   · rw [if_pos h2]; simp [h2]
   · rw [if_neg h2]; simp [h2]
theorem valid_eq {s : Sp} (h : s.i64) (K : Bool → Prop) : w_piece_valid s.a s.b s.c s.d K = K (decide s.ok) := by
 refine det_piece_valid _ _ _ _ _ (fun K k => ?_) K
 unfold w_piece_valid wv_piece_valid
 refine Cmp_of h.1 h.2.1 h.2.2.1 h.2.2.2 ?_
 by_cases h1 : RV s.a s.b
 · by_cases h2 : RV s.c s.d
   · have e : chk2 s.a s.b s.c s.d = 0 := chk2_zero.2 ⟨h1, h2⟩
     obtain ⟨_, n1, n2⟩ := rt_of h1
     obtain ⟨_, n3, n4⟩ := rt_of h2
     have e2 := cmpR_eq (rt s.a s.b) (rt s.c s.d)
     rw [n1, n2, n3, n4] at e2
     rw [e, if_pos rfl, ceT rfl, e2, cmpQ_neg]
     have e3 : decide s.ok = decide (rt s.a s.b < rt s.c s.d) := by rw [decide_eq_decide]; exact ⟨fun k => k.2.2, fun k => ⟨h1, h2, k⟩⟩
     rw [← e3]; exact k
   · have e : chk2 s.a s.b s.c s.d ≠ 0 := fun e => h2 (chk2_zero.1 e).2
     rw [ceF e]
     have e3 : decide s.ok = false := decide_eq_false fun k => h2 k.2.1
     rw [← e3]; exact k
 · have e : chk2 s.a s.b s.c s.d ≠ 0 := fun e => h1 (chk2_zero.1 e).1
   rw [ceF e]
   have e3 : decide s.ok = false := decide_eq_false fun k => h1 k.1
   rw [← e3]; exact k
end Go.Pf.Vc
namespace Go.Pf.Vc
open Go Go.Pf
theorem asSp {s : Sp} {P : Prop} : asr (conf (.agg [.i .i64, .i .i64, .i .i64, .i .i64]) (encS s)) P = P := rfl
def allOkB (l : List Sp) : Bool := l.all fun s => decide s.ok
theorem all_loop {l : List Sp} (h64 : ∀ s ∈ l, s.i64) (hl : l.length < 4611686018427387904) :
   ∀ x0 x1, ∀ (r i n : Nat), i + r = l.length → r < n → L_piece_all_0_0 w_piece_valid x0 x1 n (spans l) l.length i = if allOkB (l.drop i) then x1 (spans l) l.length l.length false else x0 8 := by
 intro x0 x1 r
 induction r with
 | zero =>
   intro i n hi hn
   obtain ⟨n, rfl⟩ : ∃ m, n = m + 1 := ⟨n - 1, by omega⟩
   obtain rfl : i = l.length := by omega
   rw [L_piece_all_0_0, cbF (by omega), List.drop_length]
   rfl
 | succ r ih =>
   intro i n hi hn
   obtain ⟨n, rfl⟩ : ∃ m, n = m + 1 := ⟨n - 1, by omega⟩
   have hil : i < l.length := by omega
   have e1 := wib (n := (i : Int) + 1) (by omega) (by omega)
   have hm : l.getD i default ∈ l := by
     rw [List.getD_eq_getElem?_getD, List.getElem?_eq_getElem hil]
     exact List.getElem_mem hil
   have hd : allOkB (l.drop i) = (decide (l.getD i default).ok && allOkB (l.drop (i + 1))) := by
     rw [drop_cons default hil]; rfl
   rw [L_piece_all_0_0, cbT (by omega), asT (by omega), spans_len, asT (by omega), Int.toNat_natCast, spans_at hil, asSp, e1, cast1]
   change w_piece_valid (l.getD i default).a (l.getD i default).b (l.getD i default).c (l.getD i default).d _ = _
   rw [valid_eq (h64 _ hm), hd]
   cases hv : decide (l.getD i default).ok with
   | true =>
     rw [show (!true) = false from rfl, cbr_false, Bool.true_and]
     exact ih (i + 1) n (by omega) (by omega)
   | false =>
     rw [show (!false) = true from rfl, cbr_true, Bool.false_and]
     rfl
def allE (l : List Sp) : Int := if l.length > 60 then 4 else if allOkB l then 0 else 8
theorem all_eq {l : List Sp} (h64 : ∀ s ∈ l, s.i64) (hl : l.length < 4611686018427387904) (K : Int → Prop) : w_piece_all (spans l) K = K (allE l) := by
 refine det_piece_all _ _ (fun K k => ?_) K
 unfold w_piece_all wv_piece_all
 unfold allE at k
 rw [spans_len]
 by_cases h : l.length > 60
 · rw [cbT (by omega)]; rw [if_pos h] at k; exact k
 · rw [cbF (by omega)]
   rw [if_neg h] at k
   refine ⟨l.length + 1, ?_⟩
   refine (all_loop h64 hl _ _ l.length 0 (l.length + 1) (by omega) (by omega)).mpr ?_
   rw [List.drop_zero]
   split
   · rename_i h2; rw [if_pos h2] at k; exact k
   · rename_i h2; rw [if_neg h2] at k; exact k
end Go.Pf.Vc
namespace Go.Pf.Vc
open Go Go.Pf
def gapB : Sp → List Sp → Bool
 | _, [] => true
 | s, t :: r => decide (s.rs.2 < t.rs.1) && gapB t r
theorem check_loop {l : List Sp} (hok : ∀ s ∈ l, s.ok) (hl : l.length < 4611686018427387904) :
   ∀ x0 x1, ∀ (r i n : Nat), i + 1 + r = l.length → r < n → L_piece_Check_0_0 w_piece_all w_piece_order x0 x1 n (spans l) ((i + 1 : Nat) : Int) = if gapB (l.getD i default) (l.drop (i + 1)) then x1 (spans l) l.length false else x0 8 := by
 intro x0 x1 r
 induction r with
 | zero =>
   intro i n hi hn
   obtain ⟨n, rfl⟩ : ∃ m, n = m + 1 := ⟨n - 1, by omega⟩
   rw [L_piece_Check_0_0, spans_len, cbF (by omega), List.drop_eq_nil_of_le (by omega), show i + 1 = l.length by omega]
   rfl
 | succ r ih =>
   intro i n hi hn
   obtain ⟨n, rfl⟩ : ∃ m, n = m + 1 := ⟨n - 1, by omega⟩
   have e0 := wib (n := ((i + 1 : Nat) : Int) - 1) (by omega) (by omega)
   have e2 : ((i + 1 : Nat) : Int) - 1 = (i : Int) := by omega
   have e1 := wib (n := ((i + 1 : Nat) : Int) + 1) (by omega) (by omega)
   have hm1 : l.getD i default ∈ l := by
     rw [List.getD_eq_getElem?_getD, List.getElem?_eq_getElem (by omega)]
     exact List.getElem_mem (by omega)
   have hm2 : l.getD (i + 1) default ∈ l := by
     rw [List.getD_eq_getElem?_getD, List.getElem?_eq_getElem (by omega)]
     exact List.getElem_mem (by omega)
   rw [L_piece_Check_0_0, spans_len, cbT (by omega), e0, e2, asT (by omega), asT (by omega), Int.toNat_natCast, spans_at (by omega), asSp, asT (by omega), asT (by omega), Int.toNat_natCast, spans_at (by omega), asSp]
   change w_piece_order (l.getD i default).c (l.getD i default).d (l.getD (i + 1) default).a (l.getD (i + 1) default).b _ = _
   rw [order_rv (hok _ hm1).2.1 (hok _ hm2).1, e1, cast1, drop_cons default (by omega)]
   unfold gapB
   have e3 : decide (cmpQ (rt (l.getD i default).c (l.getD i default).d) (rt (l.getD (i + 1) default).a (l.getD (i + 1) default).b) ≥ 0) = !decide ((l.getD i default).rs.2 < (l.getD (i + 1) default).rs.1) := cmpQ_ge _ _
   rw [e3]
   cases decide ((l.getD i default).rs.2 < (l.getD (i + 1) default).rs.1) with
   | true =>
     rw [show (!true) = false from rfl, cbr_false, Bool.true_and]
     exact ih (i + 1) n (by omega) (by omega)
   | false =>
     rw [show (!false) = true from rfl, cbr_true, Bool.false_and]
     rfl
def rsL (l : List Sp) : List RS := l.map Sp.rs
def pieceE (l : List Sp) : Int := if allE l = 0 then (match l with | [] => 0 | s :: r => if gapB s r then 0 else 8) else allE l
theorem allE_zero {l : List Sp} (h : allE l = 0) : l.length ≤ 60 ∧ ∀ s ∈ l, s.ok := by
 unfold allE at h
 split at h
 · cases h
 · split at h
   · rename_i h1 h2
     exact ⟨by omega, fun s hs => by simpa using List.all_eq_true.1 h2 s hs⟩
   · cases h
theorem pCheck_eq {l : List Sp} (h64 : ∀ s ∈ l, s.i64) (hl : l.length < 4611686018427387904) (K : Int → Prop) : w_piece_Check (spans l) K = K (pieceE l) := by
 refine det_piece_Check _ _ (fun K k => ?_) K
 unfold w_piece_Check wv_piece_Check
 unfold pieceE at k
 rw [all_eq h64 hl]
 by_cases h : allE l = 0
 · rw [if_pos h] at k
   rw [cnF h]
   obtain ⟨h1, h2⟩ := allE_zero h
   cases l with
   | nil =>
     refine ⟨1, ?_⟩
     rw [L_piece_Check_0_0, spans_len, cbF (by simp)]
     exact k
   | cons s r =>
     refine ⟨r.length + 1, ?_⟩
     refine (check_loop h2 hl _ _ r.length 0 (r.length + 1) (by simp; omega) (by omega)).mpr ?_
     dsimp only at k
     show if gapB s r then _ else _
     split
     · rename_i hg; rw [if_pos hg] at k; exact k
     · rename_i hg; rw [if_neg hg] at k; exact k
 · rw [if_neg h] at k
   rw [cnT h]; exact k
end Go.Pf.Vc
namespace Go.Pf.Vc
open Go Go.Pf
theorem gap_canon : ∀ (r : List Sp) (s : Sp), s.ok → (∀ t ∈ r, t.ok) → (gapB s r = true ↔ canon (rsL (s :: r)))
 | [], s, hs, _ => ⟨fun _ => ⟨hs.2.2, by simp, trivial⟩, fun _ => rfl⟩
 | t :: r, s, hs, h => by
   have ht := h t List.mem_cons_self
   have ih := gap_canon r t ht fun u hu => h u (List.mem_cons_of_mem _ hu)
   unfold gapB
   rw [Bool.and_eq_true, decide_eq_true_eq, ih]
   constructor
   · rintro ⟨h1, h2⟩
     refine ⟨hs.2.2, fun u hu => ?_, h2⟩
     rcases List.mem_cons.1 hu with rfl | hu
     · exact h1
     · have := h2.2.1 u hu
       have := h2.1
       show s.rs.2 < u.1
       grind
   · rintro ⟨_, h2, h3⟩
     exact ⟨h2 _ List.mem_cons_self, h3⟩
theorem pieceE_zero {l : List Sp} (h : pieceE l = 0) : l.length ≤ 60 ∧ (∀ s ∈ l, s.ok) ∧ canon (rsL l) := by
 unfold pieceE at h
 split at h
 · rename_i h0
   obtain ⟨h1, h2⟩ := allE_zero h0
   refine ⟨h1, h2, ?_⟩
   cases l with
   | nil => trivial
   | cons s r =>
     dsimp only at h
     split at h
     · rename_i hg
       exact (gap_canon r s (h2 s List.mem_cons_self) fun t ht => h2 t (List.mem_cons_of_mem _ ht)).1 hg
     · cases h
 · rename_i h0; exact absurd h h0
end Go.Pf.Vc
namespace Go.Pf.Vc
open Go Go.Pf
theorem small_max {q r : Rat} (hq : small q) (hr : small r) : small (maxR q r) := by unfold maxR; split <;> assumption
theorem small_min {q r : Rat} (hq : small q) (hr : small r) : small (minR q r) := by unfold minR; split <;> assumption
theorem later_eq {q r : Rat} (hq : small q) (hr : small r) (K : Int → Int → Prop) : w_piece_later q.num q.den r.num r.den K = K (maxR q r).num (maxR q r).den := by
 unfold w_piece_later wv_piece_later
 rw [order_eq hq hr, cmpQ_neg]
 unfold maxR
 by_cases h : q < r
 · rw [cbT h, if_pos h]
 · rw [cbF h, if_neg h]
theorem sooner_eq {q r : Rat} (hq : small q) (hr : small r) (K : Int → Int → Prop) : w_piece_sooner q.num q.den r.num r.den K = K (minR q r).num (minR q r).den := by
 unfold w_piece_sooner wv_piece_sooner
 rw [order_eq hq hr, cmpQ_neg]
 unfold minR
 by_cases h : q < r
 · rw [cbT h, if_pos h]
 · rw [cbF h, if_neg h]
theorem few_eq {l : List Sp} (K : List PV → Int → Prop) : w_piece_few (spans l) K = if l.length > 60 then K [] 4 else K (spans l) 0 := by
 unfold w_piece_few wv_piece_few
 rw [spans_len]
 by_cases h : l.length > 60
 · rw [cbT (by omega), if_pos h]
 · rw [cbF (by omega), if_neg h]
def bothE (a b : List Sp) : Int := if pieceE a = 0 then pieceE b else pieceE a
theorem both_eq {a b : List Sp} (ha : ∀ s ∈ a, s.i64) (hb : ∀ s ∈ b, s.i64) (hla : a.length < 4611686018427387904) (hlb : b.length < 4611686018427387904) (K : Int → Prop) : w_piece_both (spans a) (spans b) K = K (bothE a b) := by
 unfold w_piece_both wv_piece_both bothE
 rw [pCheck_eq ha hla]
 by_cases h : pieceE a = 0
 · rw [cnF h, if_pos h, pCheck_eq hb hlb]
 · rw [cnT h, if_neg h]
end Go.Pf.Vc
namespace Go.Pf.Vc
open Go Go.Pf Go.Sort
theorem rvB_iff {n d : Int} : rvB n d = true ↔ RV n d := by
 unfold rvB RV
 simp only [Bool.and_eq_true, decide_eq_true_eq]
theorem cmpI_lt {a b c d : Int} (h : RV a b) (k : RV c d) : cmpI a b c d < 0 ↔ rt a b < rt c d := by
 obtain ⟨_, h2, h3⟩ := rt_of h
 obtain ⟨_, k2, k3⟩ := rt_of k
 rw [Rat.lt_iff, h2, h3, k2, k3]
 unfold cmpI
 by_cases h : a * d < c * b
 · rw [if_pos h]; simp [h]
 · rw [if_neg h]
   split <;> simp [h]
def ratOf : PV → Rat
 | .agg (.int _ a :: .int _ b :: _) => rt a b
 | _ => 0
theorem spCmp_lt {x y : PV} (hx : spGood x = true) (hy : spGood y = true) : spCmp x y < 0 ↔ ratOf x < ratOf y := by
 unfold spGood at hx hy
 split at hx
 · split at hy
   · simp only [spCmp, ratOf]
     exact cmpI_lt (rvB_iff.1 hx) (rvB_iff.1 hy)
   · cases hy
 · cases hx
theorem El_good {n g : Nat} (x : (spSrt n g).s.El) : spGood x.1 = true := by
 have := x.2
 simp only [Srt.gd, Bool.and_eq_true] at this
 exact this.2
theorem sp_swo (n g : Nat) : SWO (fun x y : (spSrt n g).s.El => decide ((spSrt n g).cf x y < 0)) where
 irrefl x := by
   have := spCmp_lt (El_good x) (El_good x)
   show decide (spCmp x.1 x.1 < 0) = false
   rw [decide_eq_false_iff_not, this]
   exact Rat.lt_irrefl
 trans x y z h1 h2 := by
   have h1 : decide (spCmp x.1 y.1 < 0) = true := h1
   have h2 : decide (spCmp y.1 z.1 < 0) = true := h2
   show decide (spCmp x.1 z.1 < 0) = true
   rw [decide_eq_true_eq, spCmp_lt (El_good _) (El_good _)] at *
   grind
 ntrans x y z h1 h2 := by
   have h1 : decide (spCmp x.1 y.1 < 0) = false := h1
   have h2 : decide (spCmp y.1 z.1 < 0) = false := h2
   show decide (spCmp x.1 z.1 < 0) = false
   rw [decide_eq_false_iff_not, spCmp_lt (El_good _) (El_good _)] at *
   grind
theorem rows_some {s : Srt} : ∀ {l : List PV}, (∀ x ∈ l, s.gd x = true) → ∃ d, s.rows? l = some d
 | [], _ => ⟨[], rfl⟩
 | x :: r, h => by
   obtain ⟨d, hd⟩ := rows_some (s := s) (l := r) fun y hy => h y (List.mem_cons_of_mem _ hy)
   refine ⟨⟨x, h x List.mem_cons_self⟩ :: d, ?_⟩
   simp only [Srt.rows?]
   rw [dif_pos (h x List.mem_cons_self), hd]
theorem RV.i1 {n d : Int} (h : RV n d) : I64 n := by obtain ⟨h1, h2, h3, h4, _⟩ := h; exact ⟨by omega, by omega⟩
theorem RV.i2 {n d : Int} (h : RV n d) : I64 d := by obtain ⟨h1, h2, h3, h4, _⟩ := h; exact ⟨by omega, by omega⟩
theorem Sp.ok.i64 {s : Sp} (h : s.ok) : s.i64 := ⟨h.1.i1, h.1.i2, h.2.1.i1, h.2.1.i2⟩
theorem gd_enc (n g : Nat) {s : Sp} (h : s.ok) : (spSrt n g).s.gd (encS s) = true := by
 obtain ⟨h1, h2, h3, h4⟩ := h.i64
 have e1 : IntKind.i64.min = -9223372036854775808 := by decide
 have e2 : IntKind.i64.max = 9223372036854775807 := by decide
 simp only [Srt.gd, spSrt, okI, encS, okL, spGood, Bool.and_eq_true, decide_eq_true_eq, e1, e2]
 unfold I64 at h1 h2 h3 h4
 exact ⟨⟨trivial, h1.1, h1.2, trivial, h2.1, h2.2, trivial, h3.1, h3.2, trivial, h4.1, h4.2, trivial⟩, rvB_iff.2 h.1⟩
def decS : PV → Sp
 | .agg [.int _ a, .int _ b, .int _ c, .int _ d] => ⟨a, b, c, d⟩
 | _ => default
theorem decS_enc (s : Sp) : decS (encS s) = s := rfl
theorem sorted_sp (n g : Nat) {l : List Sp} (h : ∀ s ∈ l, s.ok) : ∃ l' : List Sp, l'.Perm l ∧ l'.Pairwise (fun s t => ¬ t.rs.1 < s.rs.1) ∧ Srt.sorted (spSrt n g).s (spSrt n g).srt (spans l) = spans l' := by
 obtain ⟨d, hd⟩ := rows_some (s := (spSrt n g).s) (l := spans l) fun x hx => by
   obtain ⟨s, hs, rfl⟩ := List.mem_map.1 hx
   exact gd_enc n g (h s hs)
 obtain ⟨d', h1, h2, h3⟩ := (spSrt n g).sorted_is (sp_swo n g) hd
 have hv := Srt.rows?_val hd
 have hp : (d'.map (·.1)).Perm (spans l) := by rw [← hv]; exact h1.map _
 have hm : ∀ x ∈ d'.map (·.1), ∃ s ∈ l, encS s = x := fun x hx => List.mem_map.1 (hp.mem_iff.1 hx)
 refine ⟨(d'.map (·.1)).map decS, ?_, ?_, ?_⟩
 · have this : (List.map decS (d'.map (·.1))).Perm (List.map decS (l.map encS)) := hp.map decS
   have e : List.map decS (l.map encS) = l := by rw [List.map_map, show decS ∘ encS = id from funext decS_enc, List.map_id]
   rw [e] at this
   exact this
 · rw [List.map_map, List.pairwise_map]
   refine h2.imp_of_mem fun {x y} hx hy hxy => ?_
   have hxy : ¬ spCmp y.1 x.1 < 0 := hxy
   rw [spCmp_lt (El_good _) (El_good _)] at hxy
   obtain ⟨s, _, es⟩ := hm x.1 (List.mem_map_of_mem hx)
   obtain ⟨t, _, et⟩ := hm y.1 (List.mem_map_of_mem hy)
   show ¬ (decS y.1).rs.1 < (decS x.1).rs.1
   rw [← es, ← et] at hxy ⊢
   exact hxy
 · rw [h3]
   have key : ∀ (xs : List PV), (∀ x ∈ xs, ∃ s ∈ l, encS s = x) → (xs.map decS).map encS = xs := by
     intro xs
     induction xs with
     | nil => intro _; rfl
     | cons x r ih =>
       intro h
       obtain ⟨s, _, es⟩ := h x List.mem_cons_self
       rw [List.map_cons, List.map_cons, ih fun y hy => h y (List.mem_cons_of_mem _ hy), ← es, decS_enc]
   exact (key _ hm).symm
end Go.Pf.Vc
namespace Go.Pf.Vc
open Go Go.Pf
def spOf (r : RS) : Sp := ⟨r.1.num, r.1.den, r.2.num, r.2.den⟩
def rsp (l : List RS) : List PV := spans (l.map spOf)
def smallS (r : RS) : Prop := small r.1 ∧ small r.2
theorem rsp_len (l : List RS) : (rsp l).length = l.length := by unfold rsp; rw [spans_len, List.length_map]
def encR (r : RS) : PV := encS (spOf r)
theorem rsp_at {l : List RS} {i : Nat} (h : i < l.length) : List.getD (rsp l) i .nils = encR (l.getD i default) := by
 unfold rsp
 rw [spans_at (by rw [List.length_map]; exact h)]
 unfold encR
 congr 1
 rw [List.getD_eq_getElem?_getD, List.getD_eq_getElem?_getD, List.getElem?_map, List.getElem?_eq_getElem h]
 rfl
theorem encR0 (r : RS) : intOfV (cellAt (encR r) 0) = r.1.num := rfl
theorem encR1 (r : RS) : intOfV (cellAt (encR r) 1) = r.1.den := rfl
theorem encR2 (r : RS) : intOfV (cellAt (encR r) 2) = r.2.num := rfl
theorem encR3 (r : RS) : intOfV (cellAt (encR r) 3) = r.2.den := rfl
theorem asR (r : RS) (P : Prop) : asr (conf (.agg [.i .i64, .i .i64, .i .i64, .i .i64]) (encR r)) P = P := rfl
theorem rsp_nil : rsp [] = [] := rfl
theorem rsp_one (r : RS) : ([.agg [.int .i64 r.1.num, .int .i64 r.1.den, .int .i64 r.2.num, .int .i64 r.2.den]] : List PV) = rsp [r] := rfl
theorem rsp_app (a b : List RS) : rsp a ++ rsp b = rsp (a ++ b) := by unfold rsp spans; rw [List.map_append, List.map_append]
theorem rsp_set (l : List RS) (i : Nat) (r : RS) : List.set (rsp l) i (.agg [.int .i64 r.1.num, .int .i64 r.1.den, .int .i64 r.2.num, .int .i64 r.2.den]) = rsp (l.set i r) := by
 unfold rsp spans
 rw [List.map_set, List.map_set]
 rfl
theorem asE {α : Type} [DecidableEq α] (a : α) (P : Prop) : asr (decide (a = a)) P = P := by rw [decide_eq_true rfl, asr_true]
theorem asEE {α : Type} [DecidableEq α] (a : α) (b : Bool) (P : Prop) : asr (decide (a = a) && b) P = asr b P := by rw [decide_eq_true rfl, Bool.true_and]
theorem asNo {c : Prop} [Decidable c] {P : Prop} (h : ¬ c) : asr (!decide c) P = P := by rw [decide_eq_false h]; rfl
theorem asTr (P : Prop) : asr (decide True) P = P := by rw [decide_true]; rfl
theorem last_at {α : Type} {acc : List α} {c d : α} {i : Nat} (h : i = acc.length) : (acc ++ [c]).getD i d = c := by
 subst h
 rw [List.getD_eq_getElem?_getD, List.getElem?_append_right (Nat.le_refl _), Nat.sub_self]
 rfl
theorem last_set {α : Type} {acc : List α} {c d : α} {i : Nat} (h : i = acc.length) : (acc ++ [c]).set i d = acc ++ [d] := by
 subst h
 rw [List.set_append_right _ _ (Nat.le_refl _), Nat.sub_self]
 rfl
theorem smallS_mem {l : List RS} (h : ∀ s ∈ l, smallS s) {i : Nat} (hi : i < l.length) : smallS (l.getD i default) := by
 rw [List.getD_eq_getElem?_getD, List.getElem?_eq_getElem hi]
 exact h _ (List.getElem_mem hi)
theorem merged_loop {l : List RS} (hs : ∀ s ∈ l, smallS s) (hl : l.length < 1000000) {x0 : Int → Int → Bool → Prop} {x1 : List PV → Int → Int → Bool → Prop} {x2 : List PV → List PV → Int → Int → Bool → Prop} :
   ∀ (r i n : Nat) (acc : List RS) (c : RS), i + r = l.length → r < n → acc.length < i → smallS c →
     L_piece_merged_0_2 w_piece_order x0 x1 x2 n (rsp l) (rsp (acc ++ [c])) (l.length : Int) (i : Int) = x2 (rsp l) (rsp (acc ++ mrg (l.drop i) c)) (l.length : Int) (l.length : Int) false := by
 intro r
 induction r with
 | zero =>
   intro i n acc c hi hn ha hc
   obtain ⟨n, rfl⟩ : ∃ m, n = m + 1 := ⟨n - 1, by omega⟩
   obtain rfl : i = l.length := by omega
   rw [L_piece_merged_0_2, cbF (by omega), List.drop_length]
   rfl
 | succ r ih =>
   intro i n acc c hi hn ha hc
   obtain ⟨n, rfl⟩ : ∃ m, n = m + 1 := ⟨n - 1, by omega⟩
   have hil : i < l.length := by omega
   have e1 := wib (n := (i : Int) + 1) (by omega) (by omega)
   have hal : (acc ++ [c]).length = acc.length + 1 := by simp
   have e2 := wib (n := ((acc.length + 1 : Nat) : Int) - 1) (by omega) (by omega)
   have e3 : ((acc.length + 1 : Nat) : Int) - 1 = (acc.length : Int) := by omega
   rw [e3] at e2
   have hsi := smallS_mem hs hil
   have hd : l.drop i = l.getD i default :: l.drop (i + 1) := drop_cons default hil
   generalize hx : l.getD i default = x at hd hsi
   rw [L_piece_merged_0_2, cbT (by omega)]
   dsimp only [lt, Go.Pf.jn]
   simp (discharger := omega) only [rsp_len, hal, Int.toNat_natCast, Nat.zero_add, asT, rsp_at, hx, asR, encR0, encR1, encR2, encR3, cbT, e3, e2, e1, last_at, asNo, decide_true, Bool.true_and, asr_true]
   rw [order_eq hsi.1 hc.2, cmpQ_le, hd]
   unfold mrg
   by_cases h : c.2 < x.1
   · rw [decide_eq_true h, if_pos h, Bool.not_true, cbr_false, asT (by show _ ≤ 35184372088832; omega), rsp_one x, rsp_app, cast1]
     have := ih (i + 1) n (acc ++ [c]) x (by omega) (by omega) (by simp; omega) hsi
     rw [this, List.append_assoc]
     rfl
   · rw [decide_eq_false h, if_neg h, Bool.not_false, cbr_true, order_eq hsi.2 hc.2]
     have e4 : decide (cmpQ x.2 c.2 > 0) = decide (c.2 < x.2) := by
       have := cmpQ_le x.2 c.2
       rw [show decide (cmpQ x.2 c.2 > 0) = !decide (cmpQ x.2 c.2 ≤ 0) by rw [← decide_not]; simp, this, Bool.not_not]
     rw [e4]
     unfold maxR
     by_cases h2 : c.2 < x.2
     · have e5 : List.set (rsp (acc ++ [c])) acc.length (.agg [.int .i64 c.1.num, .int .i64 c.1.den, .int .i64 x.2.num, .int .i64 x.2.den]) = rsp (acc ++ [(c.1, x.2)]) := by
         rw [rsp_set _ _ (c.1, x.2), last_set rfl]
       rw [decide_eq_true h2, if_pos h2, cbr_true, e5, rsp_len, show (acc ++ [(c.1, x.2)]).length = acc.length + 1 by simp]
       simp only [decide_true, Bool.true_and, asr_true, cast1]
       exact ih (i + 1) n acc (c.1, x.2) (by omega) (by omega) (by omega) ⟨hc.1, hsi.2⟩
     · rw [decide_eq_false h2, if_neg h2, cbr_false, cast1]
       exact ih (i + 1) n acc c (by omega) (by omega) (by omega) hc
theorem spOf_rs {s : Sp} (h : s.ok) : spOf s.rs = s := by
 obtain ⟨_, h2, h3⟩ := rt_of h.1
 obtain ⟨_, k2, k3⟩ := rt_of h.2.1
 unfold spOf Sp.rs
 cases s
 simp only at h2 h3 k2 k3 ⊢
 rw [h2, h3, k2, k3]
theorem rs_spOf {r : RS} (_ : smallS r) : (spOf r).rs = r := by
 show (rt r.1.num r.1.den, rt r.2.num r.2.den) = r
 rw [rt_self, rt_self]
theorem spOf_ok {r : RS} (h : smallS r) (hv : r.1 < r.2) : (spOf r).ok := ⟨h.1.rv, h.2.rv, by
 show rt r.1.num r.1.den < rt r.2.num r.2.den
 rw [rt_self, rt_self]; exact hv⟩
theorem rs_small {s : Sp} (h : s.ok) : smallS s.rs := ⟨(rt_of h.1).1, (rt_of h.2.1).1⟩
theorem spans_rsL {l : List Sp} (h : ∀ s ∈ l, s.ok) : spans l = rsp (rsL l) := by
 unfold rsp rsL
 rw [List.map_map]
 congr 1
 conv => lhs; rw [← List.map_id l]
 exact List.map_congr_left fun s hs => (spOf_rs (h s hs)).symm
theorem byFrom_of : ∀ {l : List RS}, l.Pairwise (fun s t => ¬ t.1 < s.1) → byFrom l
 | [], _ => trivial
 | s :: r, h => by
   rw [List.pairwise_cons] at h
   exact ⟨fun t ht => by have := h.1 t ht; grind, byFrom_of h.2⟩
theorem merged_eq {l : List RS} (hs : ∀ s ∈ l, smallS s) (hv : ∀ s ∈ l, s.1 < s.2) (hl : l.length < 100000) : ∃ l' : List RS, l'.Perm l ∧ byFrom l' ∧ ∀ K, w_piece_merged (rsp l) K = K (rsp (mergeS l')) := by
 obtain ⟨m, h1, h2, h3⟩ := sorted_sp n_s_SortFunc_api_Span_api_Span n_piece_merged_1 (l := l.map spOf) (fun s h => by
   obtain ⟨r, hr, rfl⟩ := List.mem_map.1 h
   exact spOf_ok (hs r hr) (hv r hr))
 have hm : ∀ s ∈ m, s.ok := fun s h => by
   obtain ⟨r, hr, rfl⟩ := List.mem_map.1 (h1.mem_iff.1 h)
   exact spOf_ok (hs r hr) (hv r hr)
 have hp : (rsL m).Perm l := by
   have := h1.map Sp.rs
   rw [List.map_map] at this
   have e : l.map (Sp.rs ∘ spOf) = l := by
     conv => rhs; rw [← List.map_id l]
     exact List.map_congr_left fun r hr => rs_spOf (hs r hr)
   rw [e] at this
   exact this
 have hb : byFrom (rsL m) := byFrom_of (List.pairwise_map.2 h2)
 refine ⟨rsL m, hp, hb, fun K => ?_⟩
 refine det_piece_merged _ _ (fun K k => ?_) K
 unfold w_piece_merged wv_piece_merged
 have hlen : (rsL m).length = l.length := hp.length_eq
 have hc : cloneOk 4 32 (rsp l) = true := by
   unfold cloneOk
   rw [Bool.and_eq_true, decide_eq_true_eq, rsp_len]
   refine ⟨?_, by show _ ≤ 35184372088832; omega⟩
   cases l <;> rfl
 rw [hc, asr_true]
 cases l with
 | nil =>
   have e : rsL m = [] := List.eq_nil_of_length_eq_zero (by rw [hlen]; rfl)
   rw [e] at k
   exact ⟨1, k⟩
 | cons x r =>
   rw [show List.isEmpty (rsp (x :: r)) = false from rfl, cbr_false]
   have hsm : smallS x := hs x List.mem_cons_self
   have hd : ∃ d, (srt_piece_merged_1).s.rows? (rsp (x :: r)) = some d := rows_some fun y hy => by
     obtain ⟨s, h4, rfl⟩ := List.mem_map.1 hy
     obtain ⟨q, hq, rfl⟩ := List.mem_map.1 h4
     exact gd_enc _ _ (spOf_ok (hs q hq) (hv q hq))
   obtain ⟨d, hd⟩ := hd
   have hcond : Srt.cond srt_piece_merged_1.s (rsp (x :: r)) 0 (rsp (x :: r)).length (rsp (x :: r)).length 4 false = true := by
     unfold Srt.cond
     rw [List.drop_zero, List.take_length, hd, rsp_len]
     simp only [decide_true, Bool.true_and, Bool.not_false, Option.isSome_some, Bool.and_true, Bool.and_eq_true, decide_eq_true_eq, Nat.zero_add, Nat.le_refl]
     exact ⟨by simp, rfl, by omega⟩
   rw [hcond, asr_true]
   have hsrt : Srt.sorted srt_piece_merged_1.s srt_piece_merged_1.srt (rsp (x :: r)) = rsp (rsL m) := by
     rw [show rsp (x :: r) = spans ((x :: r).map spOf) from rfl, ← spans_rsL hm]
     exact h3
   rw [List.take_zero, List.drop_zero, List.take_length, hsrt, List.nil_append, Nat.zero_add, List.drop_length, List.append_nil, rsp_len, rsp_len, hlen]
   simp only [decide_true, Bool.true_and, asr_true]
   have hms : ∀ s ∈ rsL m, smallS s := fun s h => hs s (hp.mem_iff.1 h)
   cases hq : rsL m with
   | nil => rw [hq] at hlen; cases hlen
   | cons y t =>
     rw [hq] at k hms hlen
     refine ⟨(y :: t).length + 2, ?_⟩
     have hy : smallS y := hms y List.mem_cons_self
     rw [L_piece_merged_0_1, cbT (by simp only [List.length_cons]; omega)]
     dsimp only [lt, Go.Pf.jn]
     have e1 : IntKind.i64.wrap ((0 : Int) + 1) = ((1 : Nat) : Int) := by decide
     have e2 : (rsp (y :: t)).length = (x :: r).length := by rw [rsp_len, hlen]
     have e3 : List.getD (rsp (y :: t)) (0 + (0 : Int).toNat) .nils = encR y := rfl
     rw [asT (by omega), asT (by rw [e2]; simp only [List.length_cons]; omega), asE, asT (by rw [e2]; simp), e3, asR, encR0, encR1, encR2, encR3, e1, rsp_one, ← hlen]
     rw [show (rsp [y]).length = 1 from rfl]
     simp only [decide_true, Bool.true_and, asr_true]
     have := merged_loop hms (by rw [hlen]; omega) (x0 := fun yi147 yi148 yb149 => K ([] : List PV)) (x1 := fun yi150 yi151 yi152 yb153 => K ([] : List PV))
       (x2 := fun yl154 yl155 yi156 yi157 yb158 => asr (decide ((0 + (List.length yl155)) ≤ (List.length yl155))) (K (List.take (List.length yl155) yl155)))
       t.length 1 ((y :: t).length + 1) [] y (by simp only [List.length_cons]; omega) (by simp only [List.length_cons]; omega) (by simp) hy
     rw [List.nil_append] at this
     refine this.mpr ?_
     rw [asT (by omega), List.take_length]
     exact k
end Go.Pf.Vc
namespace Go.Pf.Vc
open Go Go.Pf
theorem sLess_rv {a b c d : Int} (h : RV a b) (k : RV c d) (K : Bool → Prop) : w_r01_Less a b c d K = K (decide (rt a b < rt c d)) := by
 obtain ⟨h1, h2, h3⟩ := rt_of h
 obtain ⟨k1, k2, k3⟩ := rt_of k
 have := sLess_eq h1 k1 K
 rw [h2, h3, k2, k3] at this
 exact this
theorem rValid_eq {s : Sp} (h : s.i64) (K : Bool → Prop) : w_r03_Valid s.a s.b s.c s.d K = K (decide s.ok) := by
 unfold w_r03_Valid wv_r03_Valid
 dsimp only [Go.Pf.jn]
 rw [sBoth_eq h.1 h.2.1 h.2.2.1 h.2.2.2]
 by_cases h1 : RV s.a s.b ∧ RV s.c s.d
 · rw [ceT (chk2_zero.2 h1), sLess_rv h1.1 h1.2]
   have e3 : decide s.ok = decide (rt s.a s.b < rt s.c s.d) := by rw [decide_eq_decide]; exact ⟨fun k => k.2.2, fun k => ⟨h1.1, h1.2, k⟩⟩
   rw [e3]
 · rw [ceF fun e => h1 (chk2_zero.1 e)]
   have e3 : decide s.ok = false := decide_eq_false fun k => h1 ⟨k.1, k.2.1⟩
   rw [e3]
theorem Sp.getD_mem {l : List Sp} {i : Nat} (h : i < l.length) : l.getD i default ∈ l := by
 rw [List.getD_eq_getElem?_getD, List.getElem?_eq_getElem h]
 exact List.getElem_mem h
def chkB : Option Sp → List Sp → Bool
 | _, [] => true
 | none, t :: r => decide t.ok && chkB (some t) r
 | some s, t :: r => decide t.ok && (decide (s.rs.2 < t.rs.1) && chkB (some t) r)
theorem chkB_none (t : Sp) (r : List Sp) : chkB none (t :: r) = (decide t.ok && chkB (some t) r) := rfl
theorem chkB_some (s t : Sp) (r : List Sp) : chkB (some s) (t :: r) = (decide t.ok && (decide (s.rs.2 < t.rs.1) && chkB (some t) r)) := rfl
theorem rcheck_loop {l : List Sp} (h64 : ∀ s ∈ l, s.i64) (hl : l.length < 4611686018427387904) {x0 : List PV → Int → Bool → Prop} {x1 : Int → Prop} :
   ∀ (r i n : Nat) (p : Option Sp), i + r = l.length → r < n → (p = if i = 0 then none else some (l.getD (i - 1) default)) → (∀ s, p = some s → s.ok) →
     L_r03_Check_0_0 w_r03_Valid w_r01_Less x0 x1 n (spans l) (i : Int) = if chkB p (l.drop i) then x0 (spans l) (l.length : Int) false else x1 8 := by
 intro r
 induction r with
 | zero =>
   intro i n p hi hn _ _
   obtain ⟨n, rfl⟩ : ∃ m, n = m + 1 := ⟨n - 1, by omega⟩
   obtain rfl : i = l.length := by omega
   rw [L_r03_Check_0_0, spans_len, cbF (by omega), List.drop_length]
   unfold chkB
   rfl
 | succ r ih =>
   intro i n p hi hn hp hpo
   obtain ⟨n, rfl⟩ : ∃ m, n = m + 1 := ⟨n - 1, by omega⟩
   have hil : i < l.length := by omega
   have e1 := wib (n := (i : Int) + 1) (by omega) (by omega)
   have hd : l.drop i = l.getD i default :: l.drop (i + 1) := drop_cons default hil
   have hx := h64 _ (Sp.getD_mem hil)
   have IH := fun (ho : (l.getD i default).ok) => ih (i + 1) n (some (l.getD i default)) (by omega) (by omega) (by rw [if_neg (by omega)]; rfl) (fun s hs => by cases hs; exact ho)
   rw [L_r03_Check_0_0, spans_len, cbT (by omega)]
   dsimp only [lt, Go.Pf.jn]
   rw [asT (by omega), asT (by omega), Int.toNat_natCast, spans_at hil, asSp, e1, hd]
   change w_r03_Valid (l.getD i default).a (l.getD i default).b (l.getD i default).c (l.getD i default).d _ = _
   rw [rValid_eq hx]
   by_cases ho : (l.getD i default).ok
   · rw [decide_eq_true ho, show (!true) = false from rfl, cbr_false]
     by_cases h0 : i = 0
     · subst h0
       rw [if_pos rfl] at hp
       subst hp
       rw [cbF (by omega), cbr_false, cast1]
       have := IH ho
       rw [this, chkB_none, decide_eq_true ho, Bool.true_and]
     · rw [if_neg h0] at hp
       have e2 := wib (n := (i : Int) - 1) (by omega) (by omega)
       have e3 : ((i : Int) - 1).toNat = i - 1 := by omega
       rw [cbT (by omega), e2, asT (by omega), asT (by omega), e3, spans_at (by omega), asSp, asT (by omega), asT (by omega), asSp]
       subst hp
       have hpo := hpo _ rfl
       change w_r01_Less (l.getD (i - 1) default).c (l.getD (i - 1) default).d (l.getD i default).a (l.getD i default).b _ = _
       rw [sLess_rv hpo.2.1 ho.1]
       rw [chkB_some, decide_eq_true ho, Bool.true_and]
       show cbr (!decide ((l.getD (i - 1) default).rs.2 < (l.getD i default).rs.1)) _ _ = _
       cases decide ((l.getD (i - 1) default).rs.2 < (l.getD i default).rs.1) with
       | true =>
         rw [show (!true) = false from rfl, cbr_false, cast1, Bool.true_and]
         exact IH ho
       | false =>
         rw [show (!false) = true from rfl, cbr_true, Bool.false_and]
         rfl
   · rw [decide_eq_false ho, show (!false) = true from rfl, cbr_true, cbr_true]
     cases p with
     | none => rw [chkB_none, decide_eq_false ho, Bool.false_and]; rfl
     | some s => rw [chkB_some, decide_eq_false ho, Bool.false_and]; rfl
theorem chkB_gap : ∀ (r : List Sp) (s : Sp), chkB (some s) r = (allOkB r && gapB s r)
 | [], s => rfl
 | t :: r, s => by
   rw [chkB_some, chkB_gap r t]
   rw [show gapB s (t :: r) = (decide (s.rs.2 < t.rs.1) && gapB t r) from rfl]
   show _ = ((decide t.ok && allOkB r) && _)
   cases decide t.ok <;> cases decide (s.rs.2 < t.rs.1) <;> cases allOkB r <;> cases gapB t r <;> rfl
theorem rCheck3_eq {l : List Sp} (h64 : ∀ s ∈ l, s.i64) (hl : l.length < 4611686018427387904) (K : Int → Prop) : w_r03_Check (spans l) K = K (pieceE l) := by
 refine det_r03_Check _ _ (fun K k => ?_) K
 unfold w_r03_Check wv_r03_Check
 rw [spans_len]
 unfold pieceE allE at k
 by_cases h : l.length > 60
 · rw [cbT (by omega)]
   rw [if_pos h, if_neg (by omega)] at k
   exact k
 · rw [cbF (by omega)]
   rw [if_neg h] at k
   refine ⟨l.length + 1, ?_⟩
   refine (rcheck_loop h64 hl l.length 0 (l.length + 1) none (by omega) (by omega) rfl (fun s h => by cases h)).mpr ?_
   rw [List.drop_zero]
   cases l with
   | nil => exact k
   | cons s r =>
     have e : chkB none (s :: r) = (allOkB (s :: r) && gapB s r) := by
       show (decide s.ok && chkB (some s) r) = _
       rw [chkB_gap]
       show _ = ((decide s.ok && allOkB r) && _)
       rw [Bool.and_assoc]
     rw [e]
     dsimp only at k
     cases h1 : allOkB (s :: r) with
     | true =>
       rw [h1, if_pos rfl, if_pos rfl] at k
       rw [Bool.true_and]
       split
       · rename_i h2; rw [if_pos h2] at k; exact k
       · rename_i h2; rw [if_neg h2] at k; exact k
     | false =>
       rw [h1, if_neg (by simp)] at k
       rw [Bool.false_and, if_neg (by simp)]
       rw [if_neg (by decide)] at k
       exact k
def inB (l : List RS) (p : Rat) : Bool := l.any fun s => !decide (p < s.1) && decide (p < s.2)
theorem inB_iff {l : List RS} {p : Rat} : inB l p = true ↔ memP l p := by
 unfold inB memP inS
 rw [List.any_eq_true]
 constructor
 · rintro ⟨s, h1, h2⟩
   simp only [Bool.and_eq_true, Bool.not_eq_true', decide_eq_false_iff_not, decide_eq_true_eq] at h2
   exact ⟨s, h1, by grind, h2.2⟩
 · rintro ⟨s, h1, h2, h3⟩
   refine ⟨s, h1, ?_⟩
   simp only [Bool.and_eq_true, Bool.not_eq_true', decide_eq_false_iff_not, decide_eq_true_eq]
   exact ⟨by grind, h3⟩
end Go.Pf.Vc
namespace Go.Pf.Vc
open Go Go.Pf
theorem insR_small {q : Rat} (hq : small q) {out : List Rat} (hs : ∀ z ∈ out, small z) : ∀ z ∈ insR q out, small z := fun z hz => by
 rcases (insR_mem out).1 hz with rfl | h
 · exact hq
 · exact hs z h
theorem insR_len {q : Rat} : ∀ (out : List Rat), (insR q out).length ≤ out.length + 1
 | [] => Nat.le_refl _
 | x :: r => by
   unfold insR
   split
   · simp
   · split
     · simp
     · have := insR_len (q := q) r
       simp only [List.length_cons]; omega
theorem endsR_small : ∀ {l : List RS} {out : List Rat}, (∀ s ∈ l, smallS s) → (∀ z ∈ out, small z) → ∀ z ∈ endsR l out, small z
 | [], _, _, h => h
 | s :: a, _, hl, h => endsR_small (l := a) (fun t ht => hl t (List.mem_cons_of_mem _ ht)) (insR_small (hl s List.mem_cons_self).2 (insR_small (hl s List.mem_cons_self).1 h))
theorem endsR_len : ∀ (l : List RS) (out : List Rat), (endsR l out).length ≤ out.length + 2 * l.length
 | [], _ => Nat.le_refl _
 | s :: a, out => by
   have h1 := endsR_len a (insR s.2 (insR s.1 out))
   have h2 := insR_len (q := s.2) (insR s.1 out)
   have h3 := insR_len (q := s.1) out
   show (endsR a _).length ≤ _
   simp only [List.length_cons]; omega
end Go.Pf.Vc
namespace Go.Pf.Vc
open Go Go.Pf
def selB (how : Int) (x y : Bool) : Bool := bif how == 2 then (x && !y) else (bif how == 1 then (x && y) else (x || y))
section
variable {a b : List RS} {pts : List Rat} {how : Int}
def selF (a b : List RS) (how : Int) (q : Rat) : Bool := selB how (inB a q) (inB b q)
end
end Go.Pf.Vc
namespace Go.Pf.Vc
open Go Go.Pf
theorem validQ {q r : Rat} (hq : small q) (hr : small r) (K : Bool → Prop) : w_piece_valid q.num q.den r.num r.den K = K (decide (q < r)) := by
 have h := valid_eq (s := spOf (q, r)) ⟨hq.rv.i1, hq.rv.i2, hr.rv.i1, hr.rv.i2⟩ K
 have e : decide (spOf (q, r)).ok = decide (q < r) := by
   rw [decide_eq_decide]
   constructor
   · intro h
     have h3 : rt q.num q.den < rt r.num r.den := h.2.2
     rw [rt_self, rt_self] at h3
     exact h3
   · intro h
     exact spOf_ok (r := (q, r)) ⟨hq, hr⟩ h
 rw [e] at h
 exact h
theorem notLt (a b : Rat) : (!decide (b < a)) = decide (a ≤ b) := by
 rw [← decide_not]
 exact decide_eq_decide.2 ⟨fun h => by grind, fun h => by grind⟩
theorem rsp_few (l : List RS) (K : List PV → Int → Prop) : w_piece_few (rsp l) K = if l.length > 60 then K [] 4 else K (rsp l) 0 := by
 have := few_eq (l := l.map spOf) K
 rw [List.length_map] at this
 exact this
def fewR (e : Int) (l : List RS) (K : List PV → Int → Prop) : Prop := if e = 0 then (if l.length > 60 then K [] 4 else K (rsp l) 0) else K [] e
end Go.Pf.Vc
namespace Go.Pf.Vc
open Go Go.Pf
theorem cmpQ_geB (q r : Rat) : decide (cmpQ q r ≥ 0) = decide (r ≤ q) := by
 have := cmpQ_ge q r
 rw [this, notLt]
theorem leB (q r : Rat) : decide (cmpQ q r ≤ 0) = decide (q ≤ r) := by rw [cmpQ_le, notLt]
theorem min1_cons (hi x : Rat) (t : RS) (b : List RS) : min1 hi x (t :: b) = if t.2 ≤ x ∨ hi ≤ t.1 then min1 hi x b else (if x < t.1 then [(x, t.1)] else []) ++ min1 hi t.2 b := rfl
def at1 (hi : Rat) : Rat → List RS → Rat
 | x, [] => x
 | x, t :: b => if t.2 ≤ x ∨ hi ≤ t.1 then at1 hi x b else at1 hi t.2 b
def left1 (hi : Rat) : Rat → List RS → List RS
 | _, [] => []
 | x, t :: b => if t.2 ≤ x ∨ hi ≤ t.1 then left1 hi x b else (if x < t.1 then [(x, t.1)] else []) ++ left1 hi t.2 b
theorem min1_split (hi : Rat) : ∀ (b : List RS) (x : Rat), min1 hi x b = left1 hi x b ++ (if at1 hi x b < hi then [(at1 hi x b, hi)] else [])
 | [], x => rfl
 | t :: b, x => by
   rw [min1_cons]
   unfold left1 at1
   split
   · exact min1_split hi b x
   · rw [min1_split hi b t.2, List.append_assoc]
theorem jn_le {d : Bool} {c : Bool} {k : Bool → Prop} : Go.Pf.jn (fun j => cbr d (j true) (j c)) k = k (d || c) := by cases d <;> rfl
theorem at1_small {hi x : Rat} {b : List RS} (hb : ∀ s ∈ b, smallS s) (hx : small x) : small (at1 hi x b) := by
 induction b generalizing x with
 | nil => exact hx
 | cons t b ih =>
   unfold at1
   split
   · exact ih (fun s hs => hb s (List.mem_cons_of_mem _ hs)) hx
   · exact ih (fun s hs => hb s (List.mem_cons_of_mem _ hs)) (hb t List.mem_cons_self).2
theorem left1_len (hi : Rat) : ∀ (b : List RS) (x : Rat), (left1 hi x b).length ≤ b.length
 | [], _ => Nat.le_refl _
 | t :: b, x => by
   unfold left1
   split
   · have := left1_len hi b x; simp only [List.length_cons]; omega
   · have := left1_len hi b t.2
     rw [List.length_append]
     split
     · simp only [List.length_cons, List.length_nil]; omega
     · simp only [List.length_cons, List.length_nil]; omega
section
variable {b : List RS}
theorem min1_loop (hb : ∀ s ∈ b, smallS s) (hlb : b.length < 10000) {hi : Rat} (hh : small hi) (_ l1 l7 : List PV) (i1 i2 i8 i9 : Int)
   {x0 : List PV → Int → Int → Int → Int → Int → Int → List PV → Int → Int → List PV → Int → Int → Bool → Prop} {x1 : List PV → List PV → Int → Int → Int → Int → Int → Int → List PV → Int → Int → List PV → Int → Int → Bool → Prop} :
   ∀ (r i n : Nat) (acc : List RS) (x : Rat), i + r = b.length → r < n → acc.length ≤ 100000000 + i → small x →
     L_piece_Minus_1_1 w_piece_both w_piece_order w_piece_few x0 x1 n (rsp acc) l1 i1 i2 hi.num hi.den x.num x.den l7 i8 i9 (rsp b) (b.length : Int) (i : Int) =
       x1 (rsp (acc ++ left1 hi x (b.drop i))) l1 i1 i2 hi.num hi.den (at1 hi x (b.drop i)).num (at1 hi x (b.drop i)).den l7 i8 i9 (rsp b) (b.length : Int) (b.length : Int) false := by
 intro r
 induction r with
 | zero =>
   intro i n acc x hi' hn hac hx
   obtain ⟨n, rfl⟩ : ∃ m, n = m + 1 := ⟨n - 1, by omega⟩
   obtain rfl : i = b.length := by omega
   rw [L_piece_Minus_1_1, cbF (by omega), List.drop_length]
   unfold left1 at1
   rw [List.append_nil]
 | succ r ih =>
   intro i n acc x hi' hn hac hx
   obtain ⟨n, rfl⟩ : ∃ m, n = m + 1 := ⟨n - 1, by omega⟩
   have h1 : i < b.length := by omega
   have e1 := wib (n := (i : Int) + 1) (by omega) (by omega)
   have hd1 : b.drop i = b.getD i default :: b.drop (i + 1) := drop_cons default h1
   have hx1 := smallS_mem hb h1
   have IH := fun acc' x' h => ih (i + 1) n acc' x' (by omega) (by omega) h
   rw [hd1]
   generalize hq1 : b.getD i default = t at hx1
   rw [L_piece_Minus_1_1]
   dsimp only [lt]
   simp (discharger := omega) only [rsp_len, cbT, asT, Int.toNat_natCast, rsp_at, hq1, asR, encR0, encR1, encR2, encR3, order_eq hx1.2 hx, order_eq hx1.1 hh, order_eq hx hx1.1, leB, cmpQ_geB, cmpQ_neg, jn_le, e1, decide_true, asr_true, Nat.zero_add, asNo, Bool.true_and]
   dsimp only [Go.Pf.jn]
   unfold left1 at1
   by_cases hc : t.2 ≤ x ∨ hi ≤ t.1
   · have e : (decide (t.2 ≤ x) || decide (hi ≤ t.1)) = true := by rw [Bool.or_eq_true, decide_eq_true_eq, decide_eq_true_eq]; exact hc
     rw [e, cbr_true, if_pos hc, if_pos hc, cast1]
     exact IH acc x (by omega) hx
   · have e : (decide (t.2 ≤ x) || decide (hi ≤ t.1)) = false := by
       rw [Bool.or_eq_false_iff, decide_eq_false_iff_not, decide_eq_false_iff_not]; exact ⟨fun h => hc (.inl h), fun h => hc (.inr h)⟩
     rw [e, cbr_false, if_neg hc, if_neg hc]
     by_cases h2 : x < t.1
     · rw [cbT h2, if_pos h2, asT (by show _ ≤ 35184372088832; omega), rsp_one (x, t.1), rsp_app, cast1, IH _ _ (by simp only [List.length_append, List.length_cons, List.length_nil]; omega) hx1.2, List.append_assoc]
     · rw [cbF h2, if_neg h2, cast1, List.nil_append]
       exact IH acc t.2 (by omega) hx1.2
theorem min0_loop (hb : ∀ s ∈ b, smallS s) (hlb : b.length < 10000) {hi : Rat} (hh : small hi) (l1 l7 : List PV) (i1 i2 i8 i9 : Int)
   {x0 : List PV → Int → Int → Int → Int → Int → Int → List PV → Int → Int → List PV → Int → Int → Bool → Prop} {x1 : List PV → List PV → Int → Int → Int → Int → Int → Int → List PV → Int → Int → List PV → Int → Int → Bool → Prop} :
   ∀ (r i n : Nat) (x : Rat), i + r = b.length → r < n → small x →
     L_piece_Minus_1_0 w_piece_both w_piece_order w_piece_few x0 x1 n l1 i1 i2 hi.num hi.den x.num x.den l7 i8 i9 (rsp b) (b.length : Int) (i : Int) =
       if left1 hi x (b.drop i) = [] then x0 l1 i1 i2 hi.num hi.den (at1 hi x (b.drop i)).num (at1 hi x (b.drop i)).den l7 i8 i9 (rsp b) (b.length : Int) (b.length : Int) false
       else x1 (rsp (left1 hi x (b.drop i))) l1 i1 i2 hi.num hi.den (at1 hi x (b.drop i)).num (at1 hi x (b.drop i)).den l7 i8 i9 (rsp b) (b.length : Int) (b.length : Int) false := by
 intro r
 induction r with
 | zero =>
   intro i n x hi' hn hx
   obtain ⟨n, rfl⟩ : ∃ m, n = m + 1 := ⟨n - 1, by omega⟩
   obtain rfl : i = b.length := by omega
   rw [L_piece_Minus_1_0, cbF (by omega), List.drop_length]
   unfold left1 at1
   rw [if_pos rfl]
 | succ r ih =>
   intro i n x hi' hn hx
   obtain ⟨n, rfl⟩ : ∃ m, n = m + 1 := ⟨n - 1, by omega⟩
   have h1 : i < b.length := by omega
   have e1 := wib (n := (i : Int) + 1) (by omega) (by omega)
   have hd1 : b.drop i = b.getD i default :: b.drop (i + 1) := drop_cons default h1
   have hx1 := smallS_mem hb h1
   have IH := fun x' => ih (i + 1) n x' (by omega) (by omega)
   have JH := fun acc' x' h => min1_loop hb hlb hh [] l1 l7 i1 i2 i8 i9 (x0 := x0) (x1 := x1) r (i + 1) n acc' x' (by omega) (by omega) h
   rw [hd1]
   generalize hq1 : b.getD i default = t at hx1
   rw [L_piece_Minus_1_0]
   dsimp only [lt]
   simp (discharger := omega) only [rsp_len, cbT, asT, Int.toNat_natCast, rsp_at, hq1, asR, encR0, encR1, encR2, encR3, order_eq hx1.2 hx, order_eq hx1.1 hh, order_eq hx hx1.1, leB, cmpQ_geB, cmpQ_neg, jn_le, e1]
   dsimp only [Go.Pf.jn]
   have el : left1 hi x (t :: b.drop (i + 1)) = if t.2 ≤ x ∨ hi ≤ t.1 then left1 hi x (b.drop (i + 1)) else (if x < t.1 then [(x, t.1)] else []) ++ left1 hi t.2 (b.drop (i + 1)) := rfl
   have ea : at1 hi x (t :: b.drop (i + 1)) = if t.2 ≤ x ∨ hi ≤ t.1 then at1 hi x (b.drop (i + 1)) else at1 hi t.2 (b.drop (i + 1)) := rfl
   rw [el, ea]
   by_cases hc : t.2 ≤ x ∨ hi ≤ t.1
   · have e : (decide (t.2 ≤ x) || decide (hi ≤ t.1)) = true := by rw [Bool.or_eq_true, decide_eq_true_eq, decide_eq_true_eq]; exact hc
     rw [e, cbr_true, if_pos hc, if_pos hc, cast1]
     exact IH x hx
   · have e : (decide (t.2 ≤ x) || decide (hi ≤ t.1)) = false := by
       rw [Bool.or_eq_false_iff, decide_eq_false_iff_not, decide_eq_false_iff_not]; exact ⟨fun h => hc (.inl h), fun h => hc (.inr h)⟩
     rw [e, cbr_false, if_neg hc, if_neg hc]
     by_cases h2 : x < t.1
     · rw [cbT h2, if_pos h2, rsp_one (x, t.1), show (rsp [(x, t.1)]).length = 1 from rfl, if_neg (by simp)]
       simp only [decide_true, Bool.true_and, asr_true]
       rw [cast1, JH _ _ (by simp only [List.length_cons, List.length_nil]; omega) hx1.2]
     · rw [cbF h2, if_neg h2, cast1, List.nil_append]
       exact IH t.2 hx1.2
end
end Go.Pf.Vc
namespace Go.Pf.Vc
open Go Go.Pf
section
variable {a b : List RS}
theorem min1_len (hi : Rat) (b : List RS) (x : Rat) : (min1 hi x b).length ≤ b.length + 1 := by
 rw [min1_split, List.length_append]
 have := left1_len hi b x
 split <;> simp only [List.length_cons, List.length_nil] <;> omega
theorem minus_own (ha : ∀ s ∈ a, smallS s) (hb : ∀ s ∈ b, smallS s) (hla : a.length < 1000) (hlb : b.length < 1000)
   {x0 : List PV → List PV → Int → Int → Bool → Prop} {x1 : List PV → List PV → List PV → Int → Int → Bool → Prop} {K : List PV → Prop} (hx : ∀ L i k q, x1 L (rsp b) (rsp a) i k q = K L) :
   ∀ (r i n : Nat) (acc : List RS), i + r = a.length → r < n → acc.length ≤ (b.length + 1) * i → K (rsp (acc ++ minusS (a.drop i) b)) →
     L_piece_Minus_0_1 w_piece_both w_piece_order w_piece_few x0 x1 n (rsp acc) (rsp b) (rsp a) (a.length : Int) (i : Int) := by
 intro r
 induction r with
 | zero =>
   intro i n acc hi hn hac k
   obtain ⟨n, rfl⟩ : ∃ m, n = m + 1 := ⟨n - 1, by omega⟩
   obtain rfl : i = a.length := by omega
   rw [L_piece_Minus_0_1, cbF (by omega), hx]
   rw [List.drop_length] at k
   unfold minusS at k
   rw [List.flatMap_nil, List.append_nil] at k
   exact k
 | succ r ih =>
   intro i n acc hi hn hac k
   obtain ⟨n, rfl⟩ : ∃ m, n = m + 1 := ⟨n - 1, by omega⟩
   have h1 : i < a.length := by omega
   have e1 := wib (n := (i : Int) + 1) (by omega) (by omega)
   have hd1 : a.drop i = a.getD i default :: a.drop (i + 1) := drop_cons default h1
   have hx1 := smallS_mem ha h1
   have hml := min1_len (a.getD i default).2 b (a.getD i default).1
   have hll := left1_len (a.getD i default).2 b (a.getD i default).1
   have hmul : (b.length + 1) * (i + 1) = (b.length + 1) * i + (b.length + 1) := Nat.mul_succ _ _
   have hbig : (b.length + 1) * i ≤ 1000 * 1000 := Nat.mul_le_mul (by omega) (by omega)
   have IH := fun acc' h => ih (i + 1) n acc' (by omega) (by omega) h
   rw [hd1] at k
   unfold minusS at k
   rw [List.flatMap_cons, min1_split, List.append_assoc, ← List.append_assoc] at k
   generalize hq1 : a.getD i default = t at hx1 k hml hll
   have hat := at1_small (hi := t.2) hb hx1.1
   rw [L_piece_Minus_0_1, cbT (by omega)]
   dsimp only [Go.Pf.jn]
   rw [rsp_len, asT (by omega), asT (by omega), Int.toNat_natCast, rsp_at h1, hq1]
   show asr (conf (.agg [.i .i64, .i .i64, .i .i64, .i .i64]) (encR t)) _
   rw [asR, encR0, encR1, encR2, encR3, asEE, asE, rsp_len]
   refine ⟨b.length + 1, ?_⟩
   refine (min1_loop hb (by omega) hx1.2 [] _ _ _ _ _ _ b.length 0 (b.length + 1) acc t.1 (by omega) (by omega) (by omega) hx1.1).mpr ?_
   rw [List.drop_zero]
   show w_piece_order (at1 t.2 t.1 b).num (at1 t.2 t.1 b).den t.2.num t.2.den _
   rw [order_eq hat hx1.2, cmpQ_neg]
   have hlen : (rsp (acc ++ left1 t.2 t.1 b)).length = acc.length + (left1 t.2 t.1 b).length := by rw [rsp_len, List.length_append]
   by_cases h2 : at1 t.2 t.1 b < t.2
   · rw [if_pos h2] at k
     rw [cbT h2, hlen, asE, asT (by omega), asNo (by omega), asE, asT (by show _ ≤ 35184372088832; omega), rsp_one (at1 t.2 t.1 b, t.2), rsp_app]
     show asr _ (L_piece_Minus_0_1 w_piece_both w_piece_order w_piece_few x0 x1 n _ (rsp b) (rsp a) (a.length : Int) (IntKind.i64.wrap ((i : Int) + 1)))
     rw [asEE, asE, e1, cast1]
     refine IH _ (by simp only [List.length_append, List.length_cons, List.length_nil]; omega) ?_
     rw [List.append_assoc (acc ++ left1 t.2 t.1 b)]
     exact k
   · rw [if_neg h2, List.nil_append] at k
     rw [cbF h2]
     show asr _ (L_piece_Minus_0_1 w_piece_both w_piece_order w_piece_few x0 x1 n _ (rsp b) (rsp a) (a.length : Int) (IntKind.i64.wrap ((i : Int) + 1)))
     rw [asEE, asE, e1, cast1]
     exact IH _ (by simp only [List.length_append]; omega) k
theorem minus_nil (ha : ∀ s ∈ a, smallS s) (hb : ∀ s ∈ b, smallS s) (hla : a.length < 1000) (hlb : b.length < 1000)
   {x0 : List PV → List PV → Int → Int → Bool → Prop} {x1 : List PV → List PV → List PV → Int → Int → Bool → Prop} {K : List PV → Prop} (hx0 : ∀ i k q, x0 (rsp b) (rsp a) i k q = K []) (hx : ∀ L i k q, x1 L (rsp b) (rsp a) i k q = K L) :
   ∀ (r i n : Nat), i + r = a.length → r < n → K (rsp (minusS (a.drop i) b)) →
     L_piece_Minus_0_0 w_piece_both w_piece_order w_piece_few x0 x1 n (rsp b) (rsp a) (a.length : Int) (i : Int) := by
 intro r
 induction r with
 | zero =>
   intro i n hi hn k
   obtain ⟨n, rfl⟩ : ∃ m, n = m + 1 := ⟨n - 1, by omega⟩
   obtain rfl : i = a.length := by omega
   rw [L_piece_Minus_0_0, cbF (by omega), hx0]
   rw [List.drop_length] at k
   exact k
 | succ r ih =>
   intro i n hi hn k
   obtain ⟨n, rfl⟩ : ∃ m, n = m + 1 := ⟨n - 1, by omega⟩
   have h1 : i < a.length := by omega
   have e1 := wib (n := (i : Int) + 1) (by omega) (by omega)
   have hd1 : a.drop i = a.getD i default :: a.drop (i + 1) := drop_cons default h1
   have hx1 := smallS_mem ha h1
   have hll := left1_len (a.getD i default).2 b (a.getD i default).1
   have hmul : (b.length + 1) * (i + 1) = (b.length + 1) * i + (b.length + 1) := Nat.mul_succ _ _
   have IH := ih (i + 1) n (by omega) (by omega)
   have JH := fun acc' h => minus_own ha hb hla hlb (x0 := x0) hx r (i + 1) n acc' (by omega) (by omega) h
   rw [hd1] at k
   unfold minusS at k
   rw [List.flatMap_cons, min1_split] at k
   generalize hq1 : a.getD i default = t at hx1 k hll
   have hat := at1_small (hi := t.2) hb hx1.1
   rw [L_piece_Minus_0_0, cbT (by omega)]
   dsimp only [Go.Pf.jn]
   rw [rsp_len, asT (by omega), asT (by omega), Int.toNat_natCast, rsp_at h1, hq1]
   show asr (conf (.agg [.i .i64, .i .i64, .i .i64, .i .i64]) (encR t)) _
   rw [asR, encR0, encR1, encR2, encR3, rsp_len]
   refine ⟨b.length + 1, ?_⟩
   refine (min0_loop hb (by omega) hx1.2 _ _ _ _ _ _ b.length 0 (b.length + 1) t.1 (by omega) (by omega) hx1.1).mpr ?_
   rw [List.drop_zero]
   by_cases hl : left1 t.2 t.1 b = []
   · rw [if_pos hl]
     rw [hl, List.nil_append] at k
     show w_piece_order (at1 t.2 t.1 b).num (at1 t.2 t.1 b).den t.2.num t.2.den _
     rw [order_eq hat hx1.2, cmpQ_neg]
     by_cases h2 : at1 t.2 t.1 b < t.2
     · rw [if_pos h2] at k
       rw [cbT h2, rsp_one (at1 t.2 t.1 b, t.2)]
       show asr _ (L_piece_Minus_0_1 w_piece_both w_piece_order w_piece_few x0 x1 n _ (rsp b) (rsp a) (a.length : Int) (IntKind.i64.wrap ((i : Int) + 1)))
       rw [asEE, asE, e1, cast1]
       exact JH _ (by simp only [List.length_cons, List.length_nil]; omega) k
     · rw [if_neg h2, List.nil_append] at k
       rw [cbF h2]
       show L_piece_Minus_0_0 w_piece_both w_piece_order w_piece_few x0 x1 n (rsp b) (rsp a) (a.length : Int) (IntKind.i64.wrap ((i : Int) + 1))
       rw [e1, cast1]
       exact IH k
   · rw [if_neg hl]
     show w_piece_order (at1 t.2 t.1 b).num (at1 t.2 t.1 b).den t.2.num t.2.den _
     rw [order_eq hat hx1.2, cmpQ_neg]
     have hlen : (rsp (left1 t.2 t.1 b)).length = (left1 t.2 t.1 b).length := rsp_len _
     by_cases h2 : at1 t.2 t.1 b < t.2
     · rw [if_pos h2] at k
       rw [cbT h2, hlen, asE, asT (by omega), asNo (by omega), asE, asT (by show _ ≤ 35184372088832; omega), rsp_one (at1 t.2 t.1 b, t.2), rsp_app]
       show asr _ (L_piece_Minus_0_1 w_piece_both w_piece_order w_piece_few x0 x1 n _ (rsp b) (rsp a) (a.length : Int) (IntKind.i64.wrap ((i : Int) + 1)))
       rw [asEE, asE, e1, cast1]
       exact JH _ (by simp only [List.length_append, List.length_cons, List.length_nil]; omega) k
     · rw [if_neg h2, List.append_nil] at k
       rw [cbF h2]
       show asr _ (L_piece_Minus_0_1 w_piece_both w_piece_order w_piece_few x0 x1 n _ (rsp b) (rsp a) (a.length : Int) (IntKind.i64.wrap ((i : Int) + 1)))
       rw [asEE, asE, e1, cast1]
       exact JH _ (by omega) k
end
theorem both_zero {a b : List Sp} (h : bothE a b = 0) : a.length ≤ 60 ∧ b.length ≤ 60 ∧ (∀ s ∈ a, s.ok) ∧ (∀ s ∈ b, s.ok) ∧ canon (rsL a) ∧ canon (rsL b) ∧ (∀ s ∈ rsL a, smallS s) ∧ (∀ s ∈ rsL b, smallS s) ∧ spans a = rsp (rsL a) ∧ spans b = rsp (rsL b) ∧ (rsL a).length = a.length ∧ (rsL b).length = b.length := by
 unfold bothE at h
 split at h
 · rename_i h3
   obtain ⟨l1, o1, c1⟩ := pieceE_zero h3
   obtain ⟨l2, o2, c2⟩ := pieceE_zero h
   exact ⟨l1, l2, o1, o2, c1, c2, fun s hs => by obtain ⟨t, ht, rfl⟩ := List.mem_map.1 hs; exact rs_small (o1 t ht), fun s hs => by obtain ⟨t, ht, rfl⟩ := List.mem_map.1 hs; exact rs_small (o2 t ht), spans_rsL o1, spans_rsL o2, List.length_map .., List.length_map ..⟩
 · rename_i h3; exact absurd h h3
theorem few_det {w : (List PV → Int → Prop) → Prop} {e : Int} {l : List RS} (det : ∀ r0 r1, (∀ K : List PV → Int → Prop, K r0 r1 → w K) → ∀ K, w K = K r0 r1) (key : ∀ K, fewR e l K → w K) (K : List PV → Int → Prop) : w K = fewR e l K := by
 unfold fewR at key ⊢
 split
 · rename_i h
   simp only [if_pos h] at key
   split
   · rename_i h2; simp only [if_pos h2] at key; exact det _ _ key K
   · rename_i h2; simp only [if_neg h2] at key; exact det _ _ key K
 · rename_i h
   simp only [if_neg h] at key
   exact det _ _ key K
theorem Minus_eq {a b : List Sp} (ha : ∀ s ∈ a, s.i64) (hb : ∀ s ∈ b, s.i64) (hla : a.length < 4611686018427387904) (hlb : b.length < 4611686018427387904) (K : List PV → Int → Prop) :
   w_piece_Minus (spans a) (spans b) K = fewR (bothE a b) (minusS (rsL a) (rsL b)) K := by
 refine few_det (fun r0 r1 h K => det_piece_Minus _ _ r0 r1 h K) (fun K k => ?_) K
 unfold w_piece_Minus wv_piece_Minus
 rw [both_eq ha hb hla hlb]
 unfold fewR at k
 by_cases h : bothE a b = 0
 · rw [cnF h]
   rw [if_pos h] at k
   obtain ⟨l1, l2, _, _, _, _, s1, s2, e1, e2, n1, n2⟩ := both_zero h
   rw [e1, e2, rsp_len]
   refine ⟨(rsL a).length + 1, ?_⟩
   refine minus_nil s1 s2 (by omega) (by omega) (K := fun L => w_piece_few L fun L' e => K L' e) (fun _ _ _ => rfl) (fun L i k q => ?_) (rsL a).length 0 _ (by omega) (by omega) ?_
   · rw [asE, asT (by omega), List.take_length]
   · rw [List.drop_zero, rsp_few]
     exact k
 · rw [cnT h]
   rw [if_neg h] at k
   exact k
end Go.Pf.Vc
namespace Go.Pf.Vc
open Go Go.Pf
theorem joinR_zero {a b : List RS} {q : Rat} : selF a b 0 q = true ↔ (memP a q ∨ memP b q) := by
 show (inB a q || inB b q) = true ↔ _
 rw [Bool.or_eq_true, inB_iff, inB_iff]
theorem joinR_one {a b : List RS} {q : Rat} : selF a b 1 q = true ↔ (memP a q ∧ memP b q) := by
 show (inB a q && inB b q) = true ↔ _
 rw [Bool.and_eq_true, inB_iff, inB_iff]
theorem joinR_two {a b : List RS} {q : Rat} : selF a b 2 q = true ↔ (memP a q ∧ ¬ memP b q) := by
 show (inB a q && !inB b q) = true ↔ _
 rw [Bool.and_eq_true, inB_iff, Bool.not_eq_true', ← Bool.not_eq_true, inB_iff]
theorem canon_lt {l : List RS} (h : canon l) : ∀ s ∈ l, s.1 < s.2 := by
 induction l with
 | nil => intro s hs; cases hs
 | cons t r ih =>
   intro s hs
   rcases List.mem_cons.1 hs with rfl | hs
   · exact h.1
   · exact ih h.2.2 s hs
def setR (a b : List RS) (how : Int) : List RS := joinR (selF a b how) a b
theorem Minus_set {a b : List Sp} (ha : ∀ s ∈ a, s.i64) (hb : ∀ s ∈ b, s.i64) (hla : a.length < 4611686018427387904) (hlb : b.length < 4611686018427387904) (K : List PV → Int → Prop) :
   w_piece_Minus (spans a) (spans b) K = fewR (bothE a b) (setR (rsL a) (rsL b) 2) K := by
 rw [Minus_eq ha hb hla hlb]
 unfold fewR
 split
 · rename_i h
   obtain ⟨_, _, _, _, c1, c2, _⟩ := both_zero h
   rw [without_eq c1 c2 (fun x => joinR_two)]
   rfl
 · rfl
end Go.Pf.Vc
namespace Go.Pf.Vc
open Go Go.Pf
def dsS : DS := .a [dsR, dsR]
theorem F_s {c : List PV} (h : HasF dsS c) : ∃ s : Sp, c = [.int .i64 s.a, .int .i64 s.b, .int .i64 s.c, .int .i64 s.d] ∧ s.i64 := by
 simp only [dsS, dsR, HasF, HasL] at h
 obtain ⟨_, _, rfl, ⟨_, _, rfl, ⟨a, rfl, ha⟩, _, _, rfl, ⟨b, rfl, hb⟩, rfl⟩, _, _, rfl, ⟨_, _, rfl, ⟨c, rfl, hc⟩, _, _, rfl, ⟨d, rfl, hd⟩, rfl⟩, rfl⟩ := h
 exact ⟨⟨a, b, c, d⟩, rfl, inK_i64 ha, inK_i64 hb, inK_i64 hc, inK_i64 hd⟩
theorem spans_of : ∀ (rows : List PV), (∀ x ∈ rows, x.isAgg = dsS.isA ∧ HasF dsS x.cells) → ∃ l : List Sp, rows = spans l ∧ ∀ s ∈ l, s.i64
 | [], _ => ⟨[], rfl, by simp⟩
 | x :: r, h => by
   obtain ⟨l, e, hl⟩ := spans_of r (fun y hy => h y (List.mem_cons_of_mem _ hy))
   obtain ⟨h1, h2⟩ := h x (List.mem_cons_self ..)
   obtain ⟨k, e2, hk⟩ := F_s h2
   have ex : x = encS k := by rw [agg_of h1, e2]; rfl
   refine ⟨k :: l, by rw [ex, e]; rfl, ?_⟩
   intro m hm
   rcases List.mem_cons.1 hm with rfl | hm
   · exact hk
   · exact hl m hm
theorem F_spans {c : List PV} (h : HasF (.s dsS) c) : ∃ l : List Sp, c = [.data (spans l)] ∧ l.length ≤ 9223372036854775807 ∧ ∀ s ∈ l, s.i64 := by
 simp only [HasF] at h
 obtain ⟨rows, rfl, hl, hr⟩ := h
 obtain ⟨l, rfl, hi⟩ := spans_of rows hr
 rw [spans_len] at hl
 exact ⟨l, rfl, hl, hi⟩
def greatS (l : List Sp) : Bool := decide (l.length > 20 ∧ l.length ≤ 60 ∨ l.length > 70)
theorem gGreat_eq (l : List Sp) (K : Bool → Prop) : w_r03_Great (spans l) K = K (greatS l) := by
 unfold w_r03_Great wv_r03_Great greatS
 dsimp only [Go.Pf.jn]
 rw [spans_len]
 by_cases h : l.length > 20
 · rw [cbT (by omega)]
   by_cases h2 : l.length ≤ 60
   · rw [cbT (by omega), decide_eq_true (by omega)]
   · rw [cbF (by omega)]
     congr 1
     rw [decide_eq_decide]; omega
 · rw [cbF (by omega)]
   congr 1
   rw [decide_eq_decide]; omega
theorem greatS_low {l : List Sp} (h : greatS l = false) : l.length ≤ 70 ∧ (l.length ≤ 60 → l.length ≤ 20) := by
 unfold greatS at h
 rw [decide_eq_false_iff_not] at h
 omega
end Go.Pf.Vc
namespace Go.Pf.Vc
open Go Go.Pf
theorem cmpI_Q {a b c d : Int} (h : RV a b) (k : RV c d) : cmpI a b c d = cmpQ (rt a b) (rt c d) := by
 obtain ⟨_, h2, h3⟩ := rt_of h
 obtain ⟨_, k2, k3⟩ := rt_of k
 unfold cmpI cmpQ
 simp only [Rat.lt_iff, h2, h3, k2, k3]
theorem sp_cells : ∀ {cs : List PV}, okL [.i64, .i64, .i64, .i64] cs = true → ∃ a b c d, cs = [.int .i64 a, .int .i64 b, .int .i64 c, .int .i64 d]
 | [], h => by cases h
 | [x], h => by cases x <;> simp [okL] at h
 | [x, y], h => by cases x <;> cases y <;> simp [okL] at h
 | [x, y, z], h => by cases x <;> cases y <;> cases z <;> simp [okL] at h
 | x :: y :: z :: u :: w, h => by
   cases x <;> first | (simp [okL] at h; done) | skip
   cases y <;> first | (simp [okL] at h; done) | skip
   cases z <;> first | (simp [okL] at h; done) | skip
   cases u <;> first | (simp [okL] at h; done) | skip
   simp only [okL, Bool.and_eq_true, decide_eq_true_eq] at h
   obtain ⟨rfl, _, _, rfl, _, _, rfl, _, _, rfl, _, _, h⟩ := h
   cases w with
   | nil => exact ⟨_, _, _, _, rfl⟩
   | cons p q => simp [okL] at h
theorem gd_sp {n g : Nat} {x : PV} (h : (spSrt n g).s.gd x = true) : ∃ a b c d, x = .agg [.int .i64 a, .int .i64 b, .int .i64 c, .int .i64 d] ∧ RV a b := by
 simp only [Srt.gd, Bool.and_eq_true] at h
 have h1 : okI [.i64, .i64, .i64, .i64] x = true := h.1
 have h2 : spGood x = true := h.2
 clear h
 cases x <;> first | (simp [okI] at h1; done) | skip
 obtain ⟨a, b, c, d, rfl⟩ := sp_cells (h1 : okL _ _ = true)
 exact ⟨a, b, c, d, rfl, rvB_iff.1 h2⟩
theorem merged1_ans {n g : Nat} (e : List (Nat × EffF)) (he : EG e) {x y : PV} (hx : (spSrt n g).s.gd x = true) (hy : (spSrt n g).s.gd y = true) : Ans (E e) n_piece_merged_1 [x, y] (.int .i64 (spCmp x y)) := by
 obtain ⟨a, b, c, d, rfl, h1⟩ := gd_sp hx
 obtain ⟨a', b', c', d', rfl, h2⟩ := gd_sp hy
 obtain ⟨r, hr, ha⟩ := ok_piece_merged_1 e he [.agg [.int .i64 a, .int .i64 b, .int .i64 c, .int .i64 d], .agg [.int .i64 a', .int .i64 b', .int .i64 c', .int .i64 d']] (fun r => r = .int .i64 (cmpI a b a' b')) (by
   show w_piece_merged_1 a b c d a' b' c' d' (fun r => PV.int .i64 r = .int .i64 (cmpI a b a' b'))
   unfold w_piece_merged_1 wv_piece_merged_1
   rw [order_rv h1 h2, cmpI_Q h1 h2])
 rw [hr] at ha
 exact ha
end Go.Pf.Vc
namespace Go.Pf.Vc
open Go Go.Pf
theorem jn_len (f : Rat → Bool) : ∀ pts : List Rat, 2 * (jn f pts none).length ≤ pts.length ∧ (∀ c, 2 * (jn f pts (some c)).length ≤ pts.length + 2) ∧ ∀ c x r, pts = x :: r → c.2 = x → 2 * (jn f pts (some c)).length ≤ pts.length + 1
 | [] => by refine ⟨by simp [jn], fun c => by simp [jn], fun c x r h => by cases h⟩
 | [x] => by refine ⟨by simp [jn], fun c => by simp [jn], fun c x r _ _ => by simp [jn]⟩
 | x :: y :: r => by
   obtain ⟨i1, i2, i3⟩ := jn_len f (y :: r)
   refine ⟨?_, fun c => ?_, fun c z t h hc => ?_⟩
   · unfold jn
     split
     · have := i3 (x, y) y r rfl rfl
       simp only [List.length_cons] at this ⊢; omega
     · simp only [List.length_cons] at i1 ⊢; omega
   · unfold jn
     split
     · split
       · have := i2 (c.1, y)
         simp only [List.length_cons] at this ⊢; omega
       · have := i3 (x, y) y r rfl rfl
         simp only [List.length_cons] at this ⊢; omega
     · have := i2 c
       simp only [List.length_cons] at this ⊢; omega
   · cases h
     unfold jn
     split
     · have := i3 (c.1, y) y r rfl rfl
       simp only [List.length_cons] at this ⊢; omega
     · have := i2 c
       simp only [List.length_cons] at this ⊢; omega
theorem jn_small (f : Rat → Bool) : ∀ (pts : List Rat) (cur : Option RS), (∀ x ∈ pts, small x) → (∀ c, cur = some c → smallS c) → ∀ s ∈ jn f pts cur, smallS s
 | [], none, _, _ => by simp [jn]
 | [], some c, _, h => by simpa [jn] using h c rfl
 | [x], none, _, _ => by simp [jn]
 | [x], some c, _, h => by simpa [jn] using h c rfl
 | x :: y :: r, none, hp, _ => by
   have hx := hp x (by simp)
   have hy := hp y (by simp)
   have ht : ∀ z ∈ y :: r, small z := fun z hz => hp z (List.mem_cons_of_mem _ hz)
   intro s hs
   unfold jn at hs
   split at hs
   · exact jn_small f (y :: r) _ ht (fun c e => by cases e; exact ⟨hx, hy⟩) s hs
   · exact jn_small f (y :: r) _ ht (fun c e => by cases e) s hs
 | x :: y :: r, some c, hp, hc => by
   have hx := hp x (by simp)
   have hy := hp y (by simp)
   have h0 := hc c rfl
   have ht : ∀ z ∈ y :: r, small z := fun z hz => hp z (List.mem_cons_of_mem _ hz)
   intro s hs
   unfold jn at hs
   split at hs
   · split at hs
     · exact jn_small f (y :: r) _ ht (fun c e => by cases e; exact ⟨h0.1, hy⟩) s hs
     · rcases List.mem_cons.1 hs with rfl | hs
       · exact h0
       · exact jn_small f (y :: r) _ ht (fun c e => by cases e; exact ⟨hx, hy⟩) s hs
   · exact jn_small f (y :: r) _ ht (fun c e => by cases e; exact h0) s hs
theorem setR_len (a b : List RS) (how : Int) : (setR a b how).length ≤ a.length + b.length := by
 have h1 := (jn_len (selF a b how) (endsR b (endsR a []))).1
 have h2 := endsR_len b (endsR a [])
 have h3 := endsR_len a []
 simp only [List.length_nil] at h3
 unfold setR joinR
 omega
theorem setR_small {a b : List RS} (ha : ∀ s ∈ a, smallS s) (hb : ∀ s ∈ b, smallS s) (how : Int) : ∀ s ∈ setR a b how, smallS s :=
 jn_small _ _ _ (endsR_small hb (endsR_small ha (by simp))) (fun c h => by cases h)
structure Pc (l : List RS) : Prop where
 c : canon l
 s : ∀ s ∈ l, smallS s
 n : l.length ≤ 60
end Go.Pf.Vc
