/- Part 2 of what the statement rests on: a verified evaluator over pure values, the conditions of the program's functions, and their plain laws. -/
import Derived.Test.YtnbebjhmfpchcaaPmW1
namespace Go.Pf
open Go
theorem baseS_none {add sub : Nat} {tab : List (Nat × AFn)} {qui : List Nat} {cl : Clones} {gl : List (Nat × PV)} {ef : List (Nat × EffF)} {n : Nat} (h : special add sub cl n = false) (xs : List PV) : (baseS add sub tab qui cl gl ef).sum n xs = none := baseC_none (tab := tab) (qui := qui) (gl := gl) h xs
theorem baseS_eff {add sub : Nat} {tab : List (Nat × AFn)} {qui : List Nat} {cl : Clones} {gl : List (Nat × PV)} {ef : List (Nat × EffF)} (h : (ef.all fun e => !memN qui e.1 && !special add sub cl e.1) = true) : EffOk (baseS add sub tab qui cl gl ef) := by
 intro n xs H x hx
 obtain ⟨e, h1, rfl⟩ := lookE_n hx
 have h2 := List.all_eq_true.1 h e h1
 simp only [Bool.and_eq_true, Bool.not_eq_true'] at h2
 exact ⟨h2.1, rfl, fun xs => baseS_none (tab := tab) (qui := qui) (gl := gl) (ef := ef) h2.2 xs⟩
theorem baseS_ok {P : Program} {add sub : Nat} {tab : List (Nat × AFn)} {qui : List Nat} {cl : Clones} {gl : List (Nat × PV)} {ef : List (Nat × EffF)} (h : EnvOk P (baseC add sub tab qui cl gl))
   (hs : ∀ e ∈ ef, InlineOk P (baseC add sub tab qui cl gl) (fun n xs H => armOf (e.2 n xs H))) : EnvOk P (baseS add sub tab qui cl gl ef) where
 sum := h.sum
 fns := h.fns
 eff := InlineOk.env (E := baseC add sub tab qui cl gl) (E' := baseS add sub tab qui cl gl ef) rfl (lookE_sound hs)
end Go.Pf
namespace Go.Pf
abbrev lt {α : Type} (x : α) (f : α → Prop) : Prop := f x
abbrev jn {α : Type} (f : α → Prop) (k : α) : Prop := f k
def rvB (n d : Int) : Bool := decide (1 ≤ d) && (decide (d ≤ 1000000000000000000) && (decide (-1000000000000000000 ≤ n) && (decide (n ≤ 1000000000000000000) && decide (Nat.gcd n.natAbs d.natAbs = 1))))
def cmpI (a b c d : Int) : Int := if a * d < c * b then -1 else if c * b < a * d then 1 else 0
def spGood : PV → Bool
 | .agg [.int _ a, .int _ b, _, _] => rvB a b
 | _ => false
def rtGood : PV → Bool
 | .agg [.int _ a, .int _ b] => rvB a b
 | _ => false
def spCmp : PV → PV → Int
 | .agg [.int _ a, .int _ b, _, _], .agg [.int _ c, .int _ d, _, _] => cmpI a b c d
 | _, _ => 0
def rtCmp : PV → PV → Int
 | .agg [.int _ a, .int _ b], .agg [.int _ c, .int _ d] => cmpI a b c d
 | _, _ => 0
def spSrt (n g : Nat) : Srts := ⟨⟨n, g, [.i64, .i64, .i64, .i64], spGood, .agg [.int .i64 0, .int .i64 1, .int .i64 0, .int .i64 1]⟩, fun x y => spCmp x.1 y.1⟩
def rtSrt (n g : Nat) : Srts := ⟨⟨n, g, [.i64, .i64], rtGood, .agg [.int .i64 0, .int .i64 1]⟩, fun x y => rtCmp x.1 y.1⟩
instance (n g : Nat) : Inhabited (spSrt n g).s.El := ⟨⟨.agg [.int .i64 0, .int .i64 1, .int .i64 0, .int .i64 1], rfl⟩⟩
instance (n g : Nat) : Inhabited (rtSrt n g).s.El := ⟨⟨.agg [.int .i64 0, .int .i64 1], rfl⟩⟩
theorem lookE_none {n : Nat} {xs : List PV} {H : Hp} : ∀ {l : List (Nat × EffF)}, memN (l.map (·.1)) n = false → lookE l n xs H = none
 | [], _ => rfl
 | (k, e) :: r, h => by
   simp only [List.map_cons, memN] at h
   simp only [lookE]
   cases hb : Nat.beq k n with
   | true => rw [hb] at h; cases h
   | false =>
     rw [hb, cond_false] at h
     have hb2 : Nat.beq n k = false := by
       cases hc : Nat.beq n k with
       | false => rfl
       | true =>
         have := Nat.eq_of_beq_eq_true hc
         subst this
         rw [Nat.beq_refl] at hb
         cases hb
     rw [hb2, cond_false]
     exact lookE_none h
structure EffG (E : List (Nat × EffF) → Env) (nums : List Nat) (e : List (Nat × EffF)) : Prop where
 ok : EffOk (E e)
 num : ∀ n, memN nums n = false → ∀ xs H, (E e).eff n xs H = none
theorem add64_okS {add sub : Nat} {tab : List (Nat × AFn)} {qui : List Nat} {cl : Clones} {gl : List (Nat × PV)} {ef : List (Nat × EffF)} : ∀ as K, wp_m_Add64 as K → ∃ r, K r ∧ Ans (baseS add sub tab qui cl gl ef) add as r := by
 intro as K h
 unfold wp_m_Add64 pw_m_Add64 at h
 split at h
 · rename_i a b c
   obtain ⟨h1, h⟩ := asr_iff.1 h
   have h1 : c.toNat ≤ 1 := by simpa using h1
   refine ⟨_, h, 0, fun m _ => ?_⟩
   have e : sumC add sub add [.int .u64 a, .int .u64 b, .int .u64 c] = some (.tup [u64 ((a.toNat + b.toNat + c.toNat) % 18446744073709551616), u64 ((a.toNat + b.toNat + c.toNat) / 18446744073709551616)]) := by
     simp only [sumC, Nat.beq_refl, Bool.true_and, Nat.ble_eq_true_of_le h1, cond_true]
   simp only [pureRes, baseS, baseC, e, u64]
 · exact h.elim
theorem sub64_okS {add sub : Nat} (hne : Nat.beq sub add = false) {tab : List (Nat × AFn)} {qui : List Nat} {cl : Clones} {gl : List (Nat × PV)} {ef : List (Nat × EffF)} : ∀ as K, wp_m_Sub64 as K → ∃ r, K r ∧ Ans (baseS add sub tab qui cl gl ef) sub as r := by
 intro as K h
 unfold wp_m_Sub64 pw_m_Sub64 at h
 split at h
 · rename_i a b c
   obtain ⟨h1, h⟩ := asr_iff.1 h
   have h1 : c.toNat ≤ 1 := by simpa using h1
   refine ⟨_, h, 0, fun m _ => ?_⟩
   have e : sumC add sub sub [.int .u64 a, .int .u64 b, .int .u64 c] = some (.tup [u64 ((a.toNat + 18446744073709551616 - b.toNat - c.toNat) % 18446744073709551616), u64 (bif Nat.ble (b.toNat + c.toNat) a.toNat then 0 else 1)]) := by
     simp only [sumC, hne, Nat.beq_refl, Bool.true_and, Bool.false_and, Nat.ble_eq_true_of_le h1, cond_true, cond_false]
   simp only [pureRes, baseS, baseC, e, u64]
 · exact h.elim
end Go.Pf
namespace Go.Pf
open Go Go.Sort
theorem Srts.srt_size (S : Srts) [Inhabited S.s.El] (h : SWO (fun x y => decide (S.cf x y < 0))) (d : Array S.s.El) : (S.srt d).size = d.size :=
 (pdq_sorts _ h d 0 d.size (Go.Lib.bitLen d.size) true true (Nat.zero_le _) (Nat.le_refl _) (Or.inl rfl)).1.1
theorem Srts.sorted_is (S : Srts) [Inhabited S.s.El] (h : SWO (fun x y => decide (S.cf x y < 0))) {rows : List PV} {d : List S.s.El} (hd : S.s.rows? rows = some d) :
   ∃ d' : List S.s.El, d'.Perm d ∧ d'.Pairwise (fun x y => ¬ S.cf y x < 0) ∧ Srt.sorted S.s S.srt rows = d'.map (·.1) := by
 have e : Srt.sorted S.s S.srt rows = (S.srt d.toArray).toList.map (·.1) := by unfold Srt.sorted; rw [hd]
 obtain ⟨⟨h1, _, h3⟩, h4⟩ := pdq_sorts _ h d.toArray 0 d.toArray.size (Go.Lib.bitLen d.toArray.size) true true (Nat.zero_le _) (Nat.le_refl _) (Or.inl rfl)
 refine ⟨(S.srt d.toArray).toList, ?_, ?_, e⟩
 · have h5 : (S.srt d.toArray).size = d.toArray.size := h1
   have e1 : (S.srt d.toArray).extract 0 d.toArray.size = S.srt d.toArray := by rw [← h5]; exact Array.extract_size
   have e2 : d.toArray.extract 0 d.toArray.size = d.toArray := Array.extract_size
   have h6 : ((S.srt d.toArray).extract 0 d.toArray.size).toList.Perm (d.toArray.extract 0 d.toArray.size).toList := h3
   rw [e1, e2] at h6
   simpa using h6
 · have h5 : (S.srt d.toArray).size = d.toArray.size := h1
   rw [List.pairwise_iff_getElem]
   intro i j hi hj hij hlt
   rw [Array.length_toList] at hi hj
   have h6 : SortedIn (fun x y => decide (S.cf x y < 0)) 0 d.toArray.size (S.srt d.toArray) := h4
   have := h6 i j (Nat.zero_le _) hij (by rw [← h5]; exact hj)
   rw [getElem!_pos (S.srt d.toArray) i hi, getElem!_pos (S.srt d.toArray) j hj] at this
   simp only [Array.getElem_toList] at hlt
   simp [hlt] at this
end Go.Pf
namespace Go.Pf.Vc
open Go Go.Pf
def n_r03_Great : Nat := 9
def n_r01_abs : Nat := 48
def n_r01_gcd : Nat := 47
def n_r01_Check : Nat := 20
def n_r01_Both : Nat := 24
def n_r01_times : Nat := 49
def n_r01_less : Nat := 50
def n_r01_Less : Nat := 21
def n_r03_Valid : Nat := 54
def n_r03_Check : Nat := 23
def n_l03_valid : Nat := 17
def n_r02_Great : Nat := 31
def n_l03_of : Nat := 26
def n_ratio_size : Nat := 70
def n_ratio_gcd : Nat := 71
def n_ratio_Check : Nat := 51
def n_cmp_Or_api_Errno : Nat := 94
def n_ratio_check : Nat := 79
def n_cmp_isNaN_int64 : Nat := 107
def n_cmp_Compare_int64 : Nat := 91
def n_m_Mul64 : Nat := 80
def n_cmp_isNaN_uint64 : Nat := 108
def n_cmp_Compare_uint64 : Nat := 93
def n_cmp_Or_int : Nat := 92
def n_ratio_Cmp : Nat := 69
def n_piece_valid : Nat := 44
def n_piece_all : Nat := 46
def n_s_Clone_api_Span_api_Span : Nat := 63
def n_m_Len32 : Nat := 104
def n_m_Len64 : Nat := 105
def n_m_Len : Nat := 88
def n_slices_insertionSortCmpFunc_api_Span : Nat := 96
def n_slices_pdqsortCmpFunc_api_Span : Nat := 87
def n_s_SortFunc_api_Span_api_Span : Nat := 64
def n_piece_order : Nat := 45
def n_piece_merged_1 : Nat := 65
def n_piece_merged : Nat := 39
def n_piece_Make : Nat := 19
def n_piece_Check : Nat := 30
def n_piece_Has_1 : Nat := 53
def n_s_IndexFunc_api_Span_api_Span : Nat := 72
def n_s_ContainsFunc_api_Span_api_Span : Nat := 52
def n_piece_Has : Nat := 22
def n_piece_both : Nat := 37
def n_piece_few : Nat := 38
def n_piece_Minus : Nat := 14
def n_m_Add64 : Nat := 81
def n_m_Sub64 : Nat := 82
def n_m_LeadingZeros64 : Nat := 95
def n_m_Div64 : Nat := 84
def n_m_Rem64 : Nat := 83
def n_ratio_signed : Nat := 85
def n_ratio_Add : Nat := 61
def n_piece_sum : Nat := 56
def n_ratio_Sub : Nat := 60
def n_piece_Length_1 : Nat := 59
def n_piece_Length : Nat := 29
def n_piece_sooner : Nat := 43
def n_piece_later : Nat := 42
def n_piece_Cut : Nat := 25
def n_r03_Same : Nat := 16
def n_l03_is : Nat := 28
def n_l03_alive : Nat := 18
def n_s_Grow_api_Span_api_Span : Nat := 66
def n_s_Concat_api_Span_api_Span : Nat := 40
def n_piece_Union : Nat := 10
def n_piece_Meet : Nat := 12
def n_l03_lengths : Nat := 33
def n_l03_adds : Nat := 32
def n_r02_Check : Nat := 34
def n_r01_Of : Nat := 86
def n_r02_Point : Nat := 62
def n_r03_Within : Nat := 35
def n_s_Min_int_int : Nat := 73
def n_s_Max_int_int : Nat := 74
def n_cake_Check : Nat := 55
def n_cake_whole : Nat := 77
def n_cake_less : Nat := 76
def n_cake_point : Nat := 75
def n_ratio_Mul : Nat := 78
def n_cake_Value : Nat := 58
def n_piece_Worth_1 : Nat := 57
def n_piece_Worth : Nat := 27
def n_l03_worths : Nat := 36
def n_l03_PieceSums : Nat := 8
def t_r03_Great : TFn := ⟨1, [.tmp 2], (.seq (oQ [O 2 (.mv (.c (.bool false)))] [2]) (.seq (oQ [M 3 0, O 4 (.len (.t 3)), O 5 (.bin .gtr (.t 4) (I 20)), M 6 5, ⟨some 7, (.mv (.t 0)), some (6, true)⟩, ⟨some 8, (.len (.t 7)), some (6, true)⟩, ⟨some 9, (.bin .leq (.t 8) (I 60)), some (6, true)⟩, O 10 (.pick (.t 6) (.t 9) (.c (.bool false))), M 11 10, ⟨some 12, (.mv (.t 0)), some (11, false)⟩, ⟨some 13, (.len (.t 12)), some (11, false)⟩, ⟨some 14, (.bin .gtr (.t 13) (I 70)), some (11, false)⟩, O 15 (.pick (.t 11) (.c (.bool true)) (.t 14)), M 2 15] [0, 3, 4, 5, 6, 7, 8, 9, 10, 11, 12, 13, 14, 15]) .ret))⟩
def t_r01_abs : TFn := ⟨1, [.tmp 2], (.seq (oQ [O 2 (.mv (.c (.int .u64 (0))))] [2]) (.seq (.seq (oQ [M 3 0, O 4 (.bin .lss (.t 3) (I 0))] [3]) (.cond (.t 4) (.seq (oQ [M 5 0, O 6 (.bin .add (.t 5) (I 1)), O 7 (.un .neg (.t 6)), O 8 (.conv .u64 (.t 7)), O 9 (.bin .add (.t 8) (.c (.int .u64 (1)))), M 2 9] [0, 4, 5, 6, 7, 8, 9]) .ret) .skip)) (.seq (oQ [M 10 0, O 11 (.conv .u64 (.t 10)), M 2 11] [0, 4, 10, 11]) .ret)))⟩
def b_16774900 : TCode := (.seq (.seq (oQ [M 5 1, O 6 (.bin .neq (.t 5) (.c (.int .u64 (0))))] [5]) (.cond (.t 6) .skip (.exit 0))) (.block 1 (.ops [M 7 1, M 8 0, M 9 1, oX 10 .rem 8 9, M 0 7, M 1 10] [] [(0, 1), (0, 2), (1, 2), (0, 3), (2, 4), (3, 4)] [6, 7, 8, 9, 10])))
def t_r01_gcd : TFn := ⟨2, [.tmp 4], (.seq (oQ [O 4 (.mv (.c (.int .u64 (0))))] [4]) (.seq (.block 0 (.loop 16774900 b_16774900)) (.seq (oQ [M 11 0, M 4 11] [0, 1, 6, 11]) .ret)))⟩
def t_r01_Check : TFn := ⟨1, [.tmp 2], (.seq (oQ [O 1 (.boxL (.t 0)), O 2 (.mv (I 0))] [0, 2]) (.seq (.seq (.ops [O 3 (.fad 1 (.t 1)), oF 4 1 3, O 5 (.bin .lss (.t 4) (I 1)), M 6 5, ⟨some 7, (.fad 1 (.t 1)), some (6, false)⟩, ⟨some 8, (.load false 1 (.t 7)), some (6, false)⟩, ⟨some 9, (.bin .gtr (.t 8) (I 1000000000000000000)), some (6, false)⟩, O 10 (.pick (.t 6) (.c (.bool true)) (.t 9)), M 11 10, ⟨some 12, (.fad 0 (.t 1)), some (11, false)⟩, ⟨some 13, (.load false 1 (.t 12)), some (11, false)⟩, ⟨some 14, (.bin .lss (.t 13) (I (-1000000000000000000))), some (11, false)⟩, O 15 (.pick (.t 11) (.c (.bool true)) (.t 14)), M 16 15, ⟨some 17, (.fad 0 (.t 1)), some (16, false)⟩, ⟨some 18, (.load false 1 (.t 17)), some (16, false)⟩, ⟨some 19, (.bin .gtr (.t 18) (I 1000000000000000000)), some (16, false)⟩, O 20 (.pick (.t 16) (.c (.bool true)) (.t 19)), M 21 20, ⟨some 22, (.fad 0 (.t 1)), some (21, false)⟩, ⟨some 23, (.load false 1 (.t 22)), some (21, false)⟩, ⟨some 24, (.call (.f n_r01_abs) [(.t 23)]), some (21, false)⟩, ⟨some 25, (.fad 1 (.t 1)), some (21, false)⟩, ⟨some 26, (.load false 1 (.t 25)), some (21, false)⟩, ⟨some 27, (.conv .u64 (.t 26)), some (21, false)⟩, ⟨some 28, (.call (.f n_r01_gcd) [(.t 24), (.t 27)]), some (21, false)⟩, ⟨some 29, (.bin .neq (.t 28) (.c (.int .u64 (1)))), some (21, false)⟩, O 30 (.pick (.t 21) (.c (.bool true)) (.t 29))] [⟨1, (.agg [.i .i64, .i .i64]), 0⟩, ⟨5, (.agg [.i .i64, .i .i64]), 0⟩, ⟨10, (.agg [.i .i64, .i .i64]), 0⟩, ⟨15, (.agg [.i .i64, .i .i64]), 0⟩, ⟨20, (.agg [.i .i64, .i .i64]), 0⟩, ⟨23, (.agg [.i .i64, .i .i64]), 0⟩] [(19, 22), (20, 22), (21, 22), (19, 23), (20, 23), (21, 23), (19, 24), (20, 24), (21, 24)] [1, 3, 4, 5, 6, 7, 8, 9, 10, 11, 12, 13, 14, 15, 16, 17, 18, 19, 20, 21, 22, 23, 24, 25, 26, 27, 28, 29]) (.cond (.t 30) (.seq (oQ [O 2 (.mv (I 8))] [30]) .ret) .skip)) (.seq (oQ [O 2 (.mv (I 0))] [30]) .ret)))⟩
def t_r01_Both : TFn := ⟨2, [.tmp 4], (.seq (oQ [O 2 (.boxL (.t 0)), O 3 (.boxL (.t 1)), O 4 (.mv (I 0))] [0, 1, 4]) (.seq (.seq (oQ [oT 5 2 2, O 6 (.call (.f n_r01_Check) [(.t 5)]), O 7 (.bin .neq (.t 6) (I 0))] [5, 6]) (.cond (.t 7) (.seq (oQ [oT 8 2 2, O 9 (.call (.f n_r01_Check) [(.t 8)]), M 4 9] [2, 3, 7, 8, 9]) .ret) .skip)) (.seq (oQ [oT 10 2 3, O 11 (.call (.f n_r01_Check) [(.t 10)]), M 4 11] [2, 3, 7, 10, 11]) .ret)))⟩
def t_r01_times : TFn := ⟨2, [.cell 4 true 2], (.seq (oQ [O 4 (.allocL (.agg [(.int .u64 (0)), (.int .u64 (0))]))] []) (.seq (oQ [M 12 0, O 13 (.bin .shr (.t 12) (.c (.int .u64 (32)))), M 14 0, O 15 (.bin .and (.t 14) (.c (.int .u64 (4294967295)))), M 5 13, M 6 15] [0, 12, 13, 14, 15]) (.seq (oQ [M 16 1, O 17 (.bin .shr (.t 16) (.c (.int .u64 (32)))), M 18 1, O 19 (.bin .and (.t 18) (.c (.int .u64 (4294967295)))), M 7 17, M 8 19] [1, 16, 17, 18, 19]) (.seq (oQ [M 20 6, M 21 8, oX 22 .mul 20 21, M 23 5, M 24 8, oX 25 .mul 23 24, M 9 22, M 10 25] [8, 20, 21, 22, 23, 24, 25]) (.seq (oQ [M 26 10, O 27 (.bin .and (.t 26) (.c (.int .u64 (4294967295)))), M 28 6, M 29 7, oX 30 .mul 28 29, oX 31 .add 27 30, M 32 9, O 33 (.bin .shr (.t 32) (.c (.int .u64 (32)))), oX 34 .add 31 33, M 11 34] [6, 26, 27, 28, 29, 30, 31, 32, 33, 34]) (.seq (oQ [M 35 5, M 36 7, oX 37 .mul 35 36, M 38 10, O 39 (.bin .shr (.t 38) (.c (.int .u64 (32)))), oX 40 .add 37 39, M 41 11, O 42 (.bin .shr (.t 41) (.c (.int .u64 (32)))), oX 43 .add 40 42, M 44 11, O 45 (.bin .shl (.t 44) (.c (.int .u64 (32)))), M 46 9, O 47 (.bin .and (.t 46) (.c (.int .u64 (4294967295)))), oX 48 .or 45 47, O 49 (.build [(.int .u64 (0)), (.int .u64 (0))] [(0, 1, (.t 43)), (1, 1, (.t 48))]), ⟨none, (.store 2 (.t 4) (.t 49)), none⟩] [5, 7, 9, 10, 11, 35, 36, 37, 38, 39, 40, 41, 42, 43, 44, 45, 46, 47, 48, 49]) .ret))))))⟩
def t_r01_less : TFn := ⟨2, [.tmp 4], (.seq (oQ [O 2 (.boxL (.t 0)), O 3 (.boxL (.t 1)), O 4 (.mv (.c (.bool false)))] [0, 1, 4]) (.seq (.ops [O 5 (.fad 0 (.t 2)), oF 6 1 5, O 7 (.fad 0 (.t 3)), oF 8 1 7, oX 9 .lss 6 8, M 10 9, ⟨some 11, (.fad 0 (.t 2)), some (10, false)⟩, ⟨some 12, (.load false 1 (.t 11)), some (10, false)⟩, ⟨some 13, (.fad 0 (.t 3)), some (10, false)⟩, ⟨some 14, (.load false 1 (.t 13)), some (10, false)⟩, ⟨some 15, (.bin .eql (.t 12) (.t 14)), some (10, false)⟩, ⟨some 16, (.mv (.t 15)), some (10, false)⟩, ⟨some 17, (.fad 1 (.t 2)), some (16, true)⟩, ⟨some 18, (.load false 1 (.t 17)), some (16, true)⟩, ⟨some 19, (.fad 1 (.t 3)), some (16, true)⟩, ⟨some 20, (.load false 1 (.t 19)), some (16, true)⟩, ⟨some 21, (.bin .lss (.t 18) (.t 20)), some (16, true)⟩, ⟨some 22, (.pick (.t 16) (.t 21) (.c (.bool false))), some (10, false)⟩, O 23 (.pick (.t 10) (.c (.bool true)) (.t 22)), M 4 23] [⟨1, (.agg [.i .u64, .i .u64]), 0⟩, ⟨3, (.agg [.i .u64, .i .u64]), 0⟩, ⟨7, (.agg [.i .u64, .i .u64]), 0⟩, ⟨9, (.agg [.i .u64, .i .u64]), 0⟩, ⟨13, (.agg [.i .u64, .i .u64]), 0⟩, ⟨15, (.agg [.i .u64, .i .u64]), 0⟩] [] [2, 3, 5, 6, 7, 8, 9, 10, 11, 12, 13, 14, 15, 16, 17, 18, 19, 20, 21, 22, 23]) .ret))⟩
def t_r01_Less : TFn := ⟨2, [.tmp 4], (.seq (oQ [O 2 (.boxL (.t 0)), O 3 (.boxL (.t 1)), O 4 (.mv (.c (.bool false)))] [0, 1, 4]) (.seq (.seq (.ops [O 7 (.fad 0 (.t 2)), oF 8 1 7, O 9 (.bin .lss (.t 8) (I 0)), O 10 (.fad 0 (.t 3)), oF 11 1 10, O 12 (.bin .lss (.t 11) (I 0)), O 13 (.eqB true (.t 9) (.t 12))] [⟨1, (.agg [.i .i64, .i .i64]), 0⟩, ⟨4, (.agg [.i .i64, .i .i64]), 0⟩] [] [7, 8, 9, 10, 11, 12]) (.cond (.t 13) (.seq (.ops [O 14 (.fad 0 (.t 2)), oF 15 1 14, O 16 (.bin .lss (.t 15) (I 0)), M 4 16] [⟨1, (.agg [.i .i64, .i .i64]), 0⟩] [] [2, 3, 13, 14, 15, 16]) .ret) .skip)) (.seq (.ops [O 17 (.fad 0 (.t 2)), oF 18 1 17, O 19 (.call (.f n_r01_abs) [(.t 18)]), O 20 (.fad 1 (.t 3)), oF 21 1 20, O 22 (.conv .u64 (.t 21)), O 23 (.call (.f n_r01_times) [(.t 19), (.t 22)]), O 24 (.fad 0 (.t 3)), oF 25 1 24, O 26 (.call (.f n_r01_abs) [(.t 25)]), O 27 (.fad 1 (.t 2)), oF 28 1 27, O 29 (.conv .u64 (.t 28)), O 30 (.call (.f n_r01_times) [(.t 26), (.t 29)]), O 5 (.allocL (.agg [(.int .u64 (0)), (.int .u64 (0))])), O 6 (.allocL (.agg [(.int .u64 (0)), (.int .u64 (0))])), ⟨none, (.store 2 (.t 5) (.t 23)), none⟩, ⟨none, (.store 2 (.t 6) (.t 30)), none⟩] [⟨1, (.agg [.i .i64, .i .i64]), 0⟩, ⟨4, (.agg [.i .i64, .i .i64]), 0⟩, ⟨8, (.agg [.i .i64, .i .i64]), 0⟩, ⟨11, (.agg [.i .i64, .i .i64]), 0⟩] [(0, 3), (1, 3), (2, 3), (0, 4), (1, 4), (2, 4), (0, 5), (1, 5), (2, 5), (0, 7), (1, 7), (2, 7), (3, 7), (4, 7), (5, 7), (6, 7), (0, 8), (1, 8), (2, 8), (3, 8), (4, 8), (5, 8), (6, 8), (0, 10), (1, 10), (2, 10), (3, 10), (4, 10), (5, 10), (6, 10), (7, 10), (8, 10), (9, 10), (0, 11), (1, 11), (2, 11), (3, 11), (4, 11), (5, 11), (6, 11), (7, 11), (8, 11), (9, 11), (0, 12), (1, 12), (2, 12), (3, 12), (4, 12), (5, 12), (6, 12), (7, 12), (8, 12), (9, 12), (0, 14), (1, 14), (2, 14), (3, 14), (4, 14), (5, 14), (6, 14), (7, 14), (8, 14), (9, 14), (10, 14), (11, 14), (12, 14), (13, 14), (0, 15), (1, 15), (2, 15), (3, 15), (4, 15), (5, 15), (6, 15), (7, 15), (8, 15), (9, 15), (10, 15), (11, 15), (12, 15), (13, 15), (14, 15)] [3, 13, 17, 18, 19, 20, 21, 22, 23, 24, 25, 26, 27, 28, 29, 30]) (.seq (.seq (.ops [O 31 (.fad 0 (.t 2)), oF 32 1 31, O 33 (.bin .lss (.t 32) (I 0))] [⟨1, (.agg [.i .i64, .i .i64]), 0⟩] [] [2, 31, 32]) (.cond (.t 33) (.seq (oQ [oT 34 2 6, oT 35 2 5, O 36 (.call (.f n_r01_less) [(.t 34), (.t 35)]), M 4 36] [5, 6, 33, 34, 35, 36]) .ret) .skip)) (.seq (oQ [oT 37 2 5, oT 38 2 6, O 39 (.call (.f n_r01_less) [(.t 37), (.t 38)]), M 4 39] [5, 6, 33, 37, 38, 39]) .ret)))))⟩
def t_r03_Valid : TFn := ⟨1, [.tmp 2], (.seq (oQ [O 1 (.boxL (.t 0)), O 2 (.mv (.c (.bool false)))] [0, 2]) (.seq (.ops [O 3 (.fad 0 (.t 1)), oT 4 2 3, O 5 (.fad 2 (.t 1)), oT 6 2 5, O 7 (.call (.f n_r01_Both) [(.t 4), (.t 6)]), O 8 (.bin .eql (.t 7) (I 0)), M 9 8, ⟨some 10, (.fad 0 (.t 1)), some (9, true)⟩, ⟨some 11, (.load true 2 (.t 10)), some (9, true)⟩, ⟨some 12, (.fad 2 (.t 1)), some (9, true)⟩, ⟨some 13, (.load true 2 (.t 12)), some (9, true)⟩, ⟨some 14, (.call (.f n_r01_Less) [(.t 11), (.t 13)]), some (9, true)⟩, O 15 (.pick (.t 9) (.t 14) (.c (.bool false))), M 2 15] [⟨1, (.agg [.i .i64, .i .i64, .i .i64, .i .i64]), 0⟩, ⟨3, (.agg [.i .i64, .i .i64, .i .i64, .i .i64]), 0⟩, ⟨8, (.agg [.i .i64, .i .i64, .i .i64, .i .i64]), 0⟩, ⟨10, (.agg [.i .i64, .i .i64, .i .i64, .i .i64]), 0⟩] [] [1, 3, 4, 5, 6, 7, 8, 9, 10, 11, 12, 13, 14, 15]) .ret))⟩
def b_754900 : TCode := (.seq (.seq (oQ [M 7 3, M 8 0, O 9 (.len (.t 8)), oX 10 .lss 7 9] [7, 8, 9]) (.cond (.t 10) .skip (.exit 0))) (.seq (.block 1 (.seq (.ops [M 13 0, M 14 3, O 15 (.iad 4 (.t 13) (.t 14)), oT 16 4 15, O 17 (.call (.f n_r03_Valid) [(.t 16)]), O 18 (.un .not (.t 17)), M 19 18, ⟨some 20, (.mv (.t 3)), some (19, false)⟩, ⟨some 21, (.bin .gtr (.t 20) (I 0)), some (19, false)⟩, ⟨some 22, (.mv (.t 21)), some (19, false)⟩, ⟨some 23, (.mv (.t 0)), some (22, true)⟩, ⟨some 24, (.mv (.t 3)), some (22, true)⟩, ⟨some 25, (.bin .sub (.t 24) (I 1)), some (22, true)⟩, ⟨some 26, (.iad 4 (.t 23) (.t 25)), some (22, true)⟩, ⟨some 27, (.fad 2 (.t 26)), some (22, true)⟩, ⟨some 28, (.load true 2 (.t 27)), some (22, true)⟩, ⟨some 29, (.mv (.t 0)), some (22, true)⟩, ⟨some 30, (.mv (.t 3)), some (22, true)⟩, ⟨some 31, (.iad 4 (.t 29) (.t 30)), some (22, true)⟩, ⟨some 32, (.fad 0 (.t 31)), some (22, true)⟩, ⟨some 33, (.load true 2 (.t 32)), some (22, true)⟩, ⟨some 34, (.call (.f n_r01_Less) [(.t 28), (.t 33)]), some (22, true)⟩, ⟨some 35, (.un .not (.t 34)), some (22, true)⟩, ⟨some 36, (.pick (.t 22) (.t 35) (.c (.bool false))), some (19, false)⟩, O 37 (.pick (.t 19) (.c (.bool true)) (.t 36))] [⟨2, (.agg [.i .i64, .i .i64, .i .i64, .i .i64]), 0⟩, ⟨3, (.agg [.i .i64, .i .i64, .i .i64, .i .i64]), 0⟩, ⟨13, (.agg [.i .i64, .i .i64, .i .i64, .i .i64]), 0⟩, ⟨15, (.agg [.i .i64, .i .i64, .i .i64, .i .i64]), 0⟩, ⟨18, (.agg [.i .i64, .i .i64, .i .i64, .i .i64]), 0⟩, ⟨20, (.agg [.i .i64, .i .i64, .i .i64, .i .i64]), 0⟩] [(0, 1), (10, 11), (10, 12), (10, 16), (11, 16), (12, 16), (13, 16), (14, 16), (15, 16), (10, 17), (11, 17), (12, 17), (13, 17), (14, 17), (15, 17), (16, 17), (10, 18), (11, 18), (12, 18), (13, 18), (14, 18), (15, 18), (10, 19), (11, 19), (12, 19), (13, 19), (14, 19), (15, 19), (10, 20), (11, 20), (12, 20), (13, 20), (14, 20), (15, 20)] [10, 13, 14, 15, 16, 17, 18, 19, 20, 21, 22, 23, 24, 25, 26, 27, 28, 29, 30, 31, 32, 33, 34, 35, 36]) (.cond (.t 37) (.seq (oQ [O 2 (.mv (I 8))] [0, 3, 37]) .ret) .skip))) (oQ [M 11 3, O 12 (.bin .add (.t 11) (I 1)), M 3 12] [11, 12, 37])))
def t_r03_Check : TFn := ⟨1, [.tmp 2], (.seq (oQ [O 2 (.mv (I 0))] [2]) (.seq (.seq (oQ [M 4 0, O 5 (.len (.t 4)), O 6 (.bin .gtr (.t 5) (I 60))] [4, 5]) (.cond (.t 6) (.seq (oQ [O 2 (.mv (I 4))] [0, 6]) .ret) .skip)) (.seq (.seq (oQ [O 3 (.mv (I 0))] [6]) (.block 0 (.loop 754900 b_754900))) (.seq (oQ [O 2 (.mv (I 0))] [0, 3, 10]) .ret))))⟩
def t_l03_valid : TFn := ⟨1, [.tmp 2], (.seq (oQ [O 2 (.mv (.c (.bool false)))] [2]) (.seq (oQ [M 3 0, O 4 (.call (.f n_r03_Great) [(.t 3)]), O 5 (.un .not (.t 4)), M 6 5, ⟨some 7, (.mv (.t 0)), some (6, true)⟩, ⟨some 8, (.call (.f n_r03_Check) [(.t 7)]), some (6, true)⟩, ⟨some 9, (.bin .eql (.t 8) (I 0)), some (6, true)⟩, O 10 (.pick (.t 6) (.t 9) (.c (.bool false))), M 2 10] [0, 3, 4, 5, 6, 7, 8, 9, 10]) .ret))⟩
def t_r02_Great : TFn := ⟨1, [.tmp 2], (.seq (oQ [O 1 (.boxL (.t 0)), O 2 (.mv (.c (.bool false)))] [0, 2]) (.seq (.ops [O 3 (.fad 1 (.t 1)), oF 4 1 3, O 5 (.len (.t 4)), O 6 (.bin .gtr (.t 5) (I 60)), M 7 6, ⟨some 8, (.fad 2 (.t 1)), some (7, false)⟩, ⟨some 9, (.load false 1 (.t 8)), some (7, false)⟩, ⟨some 10, (.len (.t 9)), some (7, false)⟩, ⟨some 11, (.bin .gtr (.t 10) (I 60)), some (7, false)⟩, O 12 (.pick (.t 7) (.c (.bool true)) (.t 11)), M 2 12] [⟨1, (.agg [.i .i64, .d, .d]), 0⟩, ⟨6, (.agg [.i .i64, .d, .d]), 0⟩] [] [1, 3, 4, 5, 6, 7, 8, 9, 10, 11, 12]) .ret))⟩
def t_l03_of : TFn := ⟨2, [.cell 4 true 4], (.seq (oQ [O 4 (.allocL (.agg [(.int .i64 (0)), (.int .i64 (0)), (.int .i64 (0)), (.int .i64 (0))]))] []) (.seq (oQ [M 5 0, O 6 (.build [(.int .i64 (0)), (.int .i64 (0))] [(0, 1, (.t 5)), (1, 1, (I 1))]), M 7 1, O 8 (.build [(.int .i64 (0)), (.int .i64 (0))] [(0, 1, (.t 7)), (1, 1, (I 1))]), O 9 (.build [(.int .i64 (0)), (.int .i64 (0)), (.int .i64 (0)), (.int .i64 (0))] [(0, 2, (.t 6)), (2, 2, (.t 8))]), ⟨none, (.store 4 (.t 4) (.t 9)), none⟩] [0, 1, 5, 6, 7, 8, 9]) .ret))⟩
def t_ratio_size : TFn := ⟨1, [.tmp 2], (.seq (oQ [O 2 (.mv (.c (.int .u64 (0))))] [2]) (.seq (.seq (oQ [M 3 0, O 4 (.bin .lss (.t 3) (I 0))] [3]) (.cond (.t 4) (.seq (oQ [M 5 0, O 6 (.conv .u64 (.t 5)), O 7 (.un .neg (.t 6)), M 2 7] [0, 4, 5, 6, 7]) .ret) .skip)) (.seq (oQ [M 8 0, O 9 (.conv .u64 (.t 8)), M 2 9] [0, 4, 8, 9]) .ret)))⟩
def b_32725300 : TCode := (.seq (.seq (oQ [M 5 1, O 6 (.bin .gtr (.t 5) (.c (.int .u64 (0))))] [5]) (.cond (.t 6) .skip (.exit 0))) (.block 1 (.ops [M 7 1, M 8 0, M 9 1, oX 10 .rem 8 9, M 0 7, M 1 10] [] [(0, 1), (0, 2), (1, 2), (0, 3), (2, 4), (3, 4)] [6, 7, 8, 9, 10])))
def t_ratio_gcd : TFn := ⟨2, [.tmp 4], (.seq (oQ [O 4 (.mv (.c (.int .u64 (0))))] [4]) (.seq (.block 0 (.loop 32725300 b_32725300)) (.seq (oQ [M 11 0, M 4 11] [0, 1, 6, 11]) .ret)))⟩
def t_ratio_Check : TFn := ⟨1, [.tmp 2], (.seq (oQ [O 1 (.boxL (.t 0)), O 2 (.mv (I 0))] [0, 2]) (.seq (.seq (.ops [O 3 (.fad 1 (.t 1)), oF 4 1 3, O 5 (.bin .lss (.t 4) (I 1)), M 6 5, ⟨some 7, (.fad 0 (.t 1)), some (6, false)⟩, ⟨some 8, (.load false 1 (.t 7)), some (6, false)⟩, ⟨some 9, (.call (.f n_ratio_size) [(.t 8)]), some (6, false)⟩, ⟨some 10, (.fad 1 (.t 1)), some (6, false)⟩, ⟨some 11, (.load false 1 (.t 10)), some (6, false)⟩, ⟨some 12, (.conv .u64 (.t 11)), some (6, false)⟩, ⟨some 13, (.minmax true [(.t 9), (.t 12)]), some (6, false)⟩, ⟨some 14, (.bin .gtr (.t 13) (.c (.int .u64 (1000000000000000000)))), some (6, false)⟩, O 15 (.pick (.t 6) (.c (.bool true)) (.t 14)), M 16 15, ⟨some 17, (.fad 0 (.t 1)), some (16, false)⟩, ⟨some 18, (.load false 1 (.t 17)), some (16, false)⟩, ⟨some 19, (.call (.f n_ratio_size) [(.t 18)]), some (16, false)⟩, ⟨some 20, (.fad 1 (.t 1)), some (16, false)⟩, ⟨some 21, (.load false 1 (.t 20)), some (16, false)⟩, ⟨some 22, (.conv .u64 (.t 21)), some (16, false)⟩, ⟨some 23, (.call (.f n_ratio_gcd) [(.t 19), (.t 22)]), some (16, false)⟩, ⟨some 24, (.bin .gtr (.t 23) (.c (.int .u64 (1)))), some (16, false)⟩, O 25 (.pick (.t 16) (.c (.bool true)) (.t 24))] [⟨1, (.agg [.i .i64, .i .i64]), 0⟩, ⟨5, (.agg [.i .i64, .i .i64]), 0⟩, ⟨8, (.agg [.i .i64, .i .i64]), 0⟩, ⟨15, (.agg [.i .i64, .i .i64]), 0⟩, ⟨18, (.agg [.i .i64, .i .i64]), 0⟩] [(4, 7), (5, 7), (6, 7), (4, 8), (5, 8), (6, 8), (4, 9), (5, 9), (6, 9), (14, 17), (15, 17), (16, 17), (14, 18), (15, 18), (16, 18), (14, 19), (15, 19), (16, 19)] [1, 3, 4, 5, 6, 7, 8, 9, 10, 11, 12, 13, 14, 15, 16, 17, 18, 19, 20, 21, 22, 23, 24]) (.cond (.t 25) (.seq (oQ [O 2 (.mv (I 8))] [25]) .ret) .skip)) (.seq (oQ [O 2 (.mv (I 0))] [25]) .ret)))⟩
def b_38508400 : TCode := (.seq (oQ [oX 9 .lss 8 7] []) (.seq (.cond (.t 9) .skip (.exit 0)) (.seq (.block 1 (.seq (.ops [O 10 (.iad 1 (.t 6) (.t 8)), oF 11 1 10, M 5 11] [⟨0, (.one (.i .i64)), 0⟩, ⟨1, (.one (.i .i64)), 0⟩] [] [9, 10, 11]) (.seq (oQ [M 12 5, M 13 3, oX 14 .neq 12 13] [12, 13]) (.cond (.t 14) (.seq (oQ [M 15 5, M 2 15] [3, 5, 6, 7, 8, 14, 15]) .ret) .skip)))) (oQ [O 16 (.bin .add (.t 8) (I 1)), M 8 16] [5, 14, 16]))))
def t_cmp_Or_api_Errno : TFn := ⟨1, [.tmp 2], (.seq (oQ [O 2 (.mv (I 0))] [2]) (.seq (oQ [O 3 (.mv (I 0))] []) (.seq (.seq (oQ [M 6 0, O 7 (.len (.t 6)), O 8 (.mv (I 0))] [0]) (.block 0 (.loop 38508400 b_38508400))) (.seq (oQ [M 17 3, M 2 17] [3, 6, 7, 8, 9, 17]) .ret))))⟩
def t_ratio_check : TFn := ⟨2, [.tmp 4], (.seq (oQ [O 2 (.boxL (.t 0)), O 3 (.boxL (.t 1)), O 4 (.mv (I 0))] [0, 1, 4]) (.seq (.ops [oT 5 2 2, O 6 (.call (.f n_ratio_Check) [(.t 5)]), oT 7 2 3, O 8 (.call (.f n_ratio_Check) [(.t 7)]), O 9 (.buildD 1 (.int .i64 (0)) 2 [(0, (.t 6)), (1, (.t 8))]), O 10 (.call (.f n_cmp_Or_api_Errno) [(.t 9)]), M 4 10] [] [(0, 2), (1, 2)] [2, 3, 5, 6, 7, 8, 9, 10]) .ret))⟩
def t_cmp_isNaN_int64 : TFn := ⟨1, [.tmp 2], (.seq (oQ [O 2 (.mv (.c (.bool false)))] [2]) (.seq (oQ [M 3 0, M 4 0, oX 5 .neq 3 4, M 2 5] [0, 3, 4, 5]) .ret))⟩
def t_cmp_Compare_int64 : TFn := ⟨2, [.tmp 4], (.seq (oQ [O 4 (.mv (I 0))] [4]) (.seq (oQ [M 7 0, O 8 (.call (.f n_cmp_isNaN_int64) [(.t 7)]), M 5 8] [7, 8]) (.seq (oQ [M 9 1, O 10 (.call (.f n_cmp_isNaN_int64) [(.t 9)]), M 6 10] [9, 10]) (.seq (.seq (oQ [M 11 5] [5]) (.cond (.t 11) (.seq (.seq (oQ [M 12 6] [0, 1, 6, 11]) (.cond (.t 12) (.seq (oQ [O 4 (.mv (I 0))] [12]) .ret) .skip)) (.seq (oQ [O 4 (.mv (I (-1)))] [12]) .ret)) .skip)) (.seq (.seq (oQ [M 13 6] [6, 11]) (.cond (.t 13) (.seq (oQ [O 4 (.mv (I 1))] [0, 1, 13]) .ret) .skip)) (.seq (.seq (oQ [M 14 0, M 15 1, oX 16 .lss 14 15] [13, 14, 15]) (.cond (.t 16) (.seq (oQ [O 4 (.mv (I (-1)))] [0, 1, 16]) .ret) .skip)) (.seq (.seq (oQ [M 17 0, M 18 1, oX 19 .gtr 17 18] [0, 1, 16, 17, 18]) (.cond (.t 19) (.seq (oQ [O 4 (.mv (I 1))] [19]) .ret) .skip)) (.seq (oQ [O 4 (.mv (I 0))] [19]) .ret))))))))⟩
def t_m_Mul64 : TFn := ⟨2, [.tmp 4, .tmp 5], (.seq (oQ [O 4 (.mv (.c (.int .u64 (0)))), O 5 (.mv (.c (.int .u64 (0))))] [4, 5]) (.seq (oQ [M 14 0, O 15 (.bin .and (.t 14) (.c (.int .u64 (4294967295)))), M 6 15] [14, 15]) (.seq (oQ [M 16 0, O 17 (.bin .shr (.t 16) (.c (.int .u64 (32)))), M 7 17] [16, 17]) (.seq (oQ [M 18 1, O 19 (.bin .and (.t 18) (.c (.int .u64 (4294967295)))), M 8 19] [18, 19]) (.seq (oQ [M 20 1, O 21 (.bin .shr (.t 20) (.c (.int .u64 (32)))), M 9 21] [20, 21]) (.seq (oQ [M 22 6, M 23 8, oX 24 .mul 22 23, M 10 24] [22, 23, 24]) (.seq (oQ [M 25 7, M 26 8, oX 27 .mul 25 26, M 28 10, O 29 (.bin .shr (.t 28) (.c (.int .u64 (32)))), oX 30 .add 27 29, M 11 30] [8, 10, 25, 26, 27, 28, 29, 30]) (.seq (oQ [M 31 11, O 32 (.bin .and (.t 31) (.c (.int .u64 (4294967295)))), M 12 32] [31, 32]) (.seq (oQ [M 33 11, O 34 (.bin .shr (.t 33) (.c (.int .u64 (32)))), M 13 34] [11, 33, 34]) (.seq (oQ [M 35 12, M 36 6, M 37 9, oX 38 .mul 36 37, oX 39 .add 35 38, M 12 39] [6, 35, 36, 37, 38, 39]) (.seq (oQ [M 40 7, M 41 9, oX 42 .mul 40 41, M 43 13, oX 44 .add 42 43, M 45 12, O 46 (.bin .shr (.t 45) (.c (.int .u64 (32)))), oX 47 .add 44 46, M 4 47] [7, 9, 12, 13, 40, 41, 42, 43, 44, 45, 46, 47]) (.seq (oQ [M 48 0, M 49 1, oX 50 .mul 48 49, M 5 50] [0, 1, 48, 49, 50]) .ret))))))))))))⟩
def t_cmp_isNaN_uint64 : TFn := ⟨1, [.tmp 2], (.seq (oQ [O 2 (.mv (.c (.bool false)))] [2]) (.seq (oQ [M 3 0, M 4 0, oX 5 .neq 3 4, M 2 5] [0, 3, 4, 5]) .ret))⟩
def t_cmp_Compare_uint64 : TFn := ⟨2, [.tmp 4], (.seq (oQ [O 4 (.mv (I 0))] [4]) (.seq (oQ [M 7 0, O 8 (.call (.f n_cmp_isNaN_uint64) [(.t 7)]), M 5 8] [7, 8]) (.seq (oQ [M 9 1, O 10 (.call (.f n_cmp_isNaN_uint64) [(.t 9)]), M 6 10] [9, 10]) (.seq (.seq (oQ [M 11 5] [5]) (.cond (.t 11) (.seq (.seq (oQ [M 12 6] [0, 1, 6, 11]) (.cond (.t 12) (.seq (oQ [O 4 (.mv (I 0))] [12]) .ret) .skip)) (.seq (oQ [O 4 (.mv (I (-1)))] [12]) .ret)) .skip)) (.seq (.seq (oQ [M 13 6] [6, 11]) (.cond (.t 13) (.seq (oQ [O 4 (.mv (I 1))] [0, 1, 13]) .ret) .skip)) (.seq (.seq (oQ [M 14 0, M 15 1, oX 16 .lss 14 15] [13, 14, 15]) (.cond (.t 16) (.seq (oQ [O 4 (.mv (I (-1)))] [0, 1, 16]) .ret) .skip)) (.seq (.seq (oQ [M 17 0, M 18 1, oX 19 .gtr 17 18] [0, 1, 16, 17, 18]) (.cond (.t 19) (.seq (oQ [O 4 (.mv (I 1))] [19]) .ret) .skip)) (.seq (oQ [O 4 (.mv (I 0))] [19]) .ret))))))))⟩
def b_53260600 : TCode := (.seq (oQ [oX 9 .lss 8 7] []) (.seq (.cond (.t 9) .skip (.exit 0)) (.seq (.block 1 (.seq (.ops [O 10 (.iad 1 (.t 6) (.t 8)), oF 11 1 10, M 5 11] [⟨0, (.one (.i .i64)), 0⟩, ⟨1, (.one (.i .i64)), 0⟩] [] [9, 10, 11]) (.seq (oQ [M 12 5, M 13 3, oX 14 .neq 12 13] [12, 13]) (.cond (.t 14) (.seq (oQ [M 15 5, M 2 15] [3, 5, 6, 7, 8, 14, 15]) .ret) .skip)))) (oQ [O 16 (.bin .add (.t 8) (I 1)), M 8 16] [5, 14, 16]))))
def t_cmp_Or_int : TFn := ⟨1, [.tmp 2], (.seq (oQ [O 2 (.mv (I 0))] [2]) (.seq (oQ [O 3 (.mv (I 0))] []) (.seq (.seq (oQ [M 6 0, O 7 (.len (.t 6)), O 8 (.mv (I 0))] [0]) (.block 0 (.loop 53260600 b_53260600))) (.seq (oQ [M 17 3, M 2 17] [3, 6, 7, 8, 9, 17]) .ret))))⟩
def t_ratio_Cmp : TFn := ⟨2, [.tmp 4, .tmp 5], (.seq (oQ [O 2 (.boxL (.t 0)), O 3 (.boxL (.t 1)), O 4 (.mv (I 0)), O 5 (.mv (I 0))] [0, 1, 4, 5]) (.seq (.seq (oQ [oT 12 2 2, oT 13 2 3, O 14 (.call (.f n_ratio_check) [(.t 12), (.t 13)]), M 6 14] [12, 13, 14]) (.seq (oQ [M 15 6, O 16 (.bin .neq (.t 15) (I 0))] [15]) (.cond (.t 16) (.seq (oQ [M 17 6, O 4 (.mv (I 0)), M 5 17] [2, 3, 6, 16, 17]) .ret) .skip))) (.seq (.seq (.ops [O 18 (.fad 0 (.t 2)), oF 19 1 18, O 20 (.bin .lss (.t 19) (I 0)), O 21 (.fad 0 (.t 3)), oF 22 1 21, O 23 (.bin .lss (.t 22) (I 0)), O 24 (.eqB true (.t 20) (.t 23))] [⟨1, (.agg [.i .i64, .i .i64]), 0⟩, ⟨4, (.agg [.i .i64, .i .i64]), 0⟩] [] [6, 16, 18, 19, 20, 21, 22, 23]) (.cond (.t 24) (.seq (.ops [O 25 (.fad 0 (.t 2)), oF 26 1 25, O 27 (.fad 0 (.t 3)), oF 28 1 27, O 29 (.call (.f n_cmp_Compare_int64) [(.t 26), (.t 28)]), M 4 29, O 5 (.mv (I 0))] [⟨1, (.agg [.i .i64, .i .i64]), 0⟩, ⟨3, (.agg [.i .i64, .i .i64]), 0⟩] [] [2, 3, 24, 25, 26, 27, 28, 29]) .ret) .skip)) (.seq (.ops [O 31 (.fad 0 (.t 2)), oF 32 1 31, O 33 (.call (.f n_ratio_size) [(.t 32)]), O 34 (.fad 1 (.t 3)), oF 35 1 34, O 36 (.conv .u64 (.t 35)), O 37 (.call (.f n_m_Mul64) [(.t 33), (.t 36)]), M 30 37, O 38 (.ext (.t 30) 0), O 39 (.ext (.t 30) 1), M 7 38, M 8 39] [⟨1, (.agg [.i .i64, .i .i64]), 0⟩, ⟨4, (.agg [.i .i64, .i .i64]), 0⟩] [(0, 3), (1, 3), (2, 3), (0, 4), (1, 4), (2, 4), (0, 5), (1, 5), (2, 5), (8, 9), (9, 10)] [24, 30, 31, 32, 33, 34, 35, 36, 37, 38, 39]) (.seq (.ops [O 41 (.fad 0 (.t 3)), oF 42 1 41, O 43 (.call (.f n_ratio_size) [(.t 42)]), O 44 (.fad 1 (.t 2)), oF 45 1 44, O 46 (.conv .u64 (.t 45)), O 47 (.call (.f n_m_Mul64) [(.t 43), (.t 46)]), M 40 47, O 48 (.ext (.t 40) 0), O 49 (.ext (.t 40) 1), M 9 48, M 10 49] [⟨1, (.agg [.i .i64, .i .i64]), 0⟩, ⟨4, (.agg [.i .i64, .i .i64]), 0⟩] [(0, 3), (1, 3), (2, 3), (0, 4), (1, 4), (2, 4), (0, 5), (1, 5), (2, 5), (8, 9), (9, 10)] [3, 40, 41, 42, 43, 44, 45, 46, 47, 48, 49]) (.seq (oQ [M 50 7, M 51 9, O 52 (.call (.f n_cmp_Compare_uint64) [(.t 50), (.t 51)]), M 53 8, M 54 10, O 55 (.call (.f n_cmp_Compare_uint64) [(.t 53), (.t 54)]), O 56 (.buildD 1 (.int .i64 (0)) 2 [(0, (.t 52)), (1, (.t 55))]), O 57 (.call (.f n_cmp_Or_int) [(.t 56)]), M 11 57] [7, 8, 9, 10, 50, 51, 52, 53, 54, 55, 56, 57]) (.seq (.seq (.ops [O 58 (.fad 0 (.t 2)), oF 59 1 58, O 60 (.bin .lss (.t 59) (I 0))] [⟨1, (.agg [.i .i64, .i .i64]), 0⟩] [] [2, 58, 59]) (.cond (.t 60) (oQ [M 61 11, O 62 (.un .neg (.t 61)), M 11 62] [60, 61, 62]) .skip)) (.seq (oQ [M 63 11, M 4 63, O 5 (.mv (I 0))] [11, 60, 63]) .ret))))))))⟩
def t_piece_valid : TFn := ⟨1, [.tmp 2], (.seq (oQ [O 1 (.boxL (.t 0)), O 2 (.mv (.c (.bool false)))] [0, 2]) (.seq (.ops [O 6 (.fad 0 (.t 1)), oT 7 2 6, O 8 (.fad 2 (.t 1)), oT 9 2 8, O 10 (.call (.f n_ratio_Cmp) [(.t 7), (.t 9)]), M 5 10, O 11 (.ext (.t 5) 0), O 12 (.ext (.t 5) 1), M 3 11, M 4 12] [⟨1, (.agg [.i .i64, .i .i64, .i .i64, .i .i64]), 0⟩, ⟨3, (.agg [.i .i64, .i .i64, .i .i64, .i .i64]), 0⟩] [] [1, 5, 6, 7, 8, 9, 10, 11, 12]) (.seq (oQ [M 13 4, O 14 (.bin .eql (.t 13) (I 0)), M 15 14, ⟨some 16, (.mv (.t 3)), some (15, true)⟩, ⟨some 17, (.bin .lss (.t 16) (I 0)), some (15, true)⟩, O 18 (.pick (.t 15) (.t 17) (.c (.bool false))), M 2 18] [3, 4, 13, 14, 15, 16, 17, 18]) .ret)))⟩
def b_56157900 : TCode := (.seq (oQ [oX 11 .lss 10 9] []) (.seq (.cond (.t 11) .skip (.exit 0)) (.seq (.block 1 (.seq (.ops [O 12 (.iad 4 (.t 8) (.t 10)), oT 13 4 12, O 4 (.allocL (.agg [(.int .i64 (0)), (.int .i64 (0)), (.int .i64 (0)), (.int .i64 (0))])), ⟨none, (.store 4 (.t 4) (.t 13)), none⟩] [⟨0, (.agg [.i .i64, .i .i64, .i .i64, .i .i64]), 0⟩, ⟨1, (.agg [.i .i64, .i .i64, .i .i64, .i .i64]), 0⟩] [] [11, 12, 13]) (.seq (oQ [oT 14 4 4, O 15 (.call (.f n_piece_valid) [(.t 14)]), O 16 (.un .not (.t 15))] [4, 14, 15]) (.cond (.t 16) (.seq (oQ [O 2 (.mv (I 8))] [8, 9, 10, 16]) .ret) .skip)))) (oQ [O 17 (.bin .add (.t 10) (I 1)), M 10 17] [16, 17]))))
def t_piece_all : TFn := ⟨1, [.tmp 2], (.seq (oQ [O 2 (.mv (I 0))] [2]) (.seq (.seq (oQ [M 5 0, O 6 (.len (.t 5)), O 7 (.bin .gtr (.t 6) (I 60))] [5, 6]) (.cond (.t 7) (.seq (oQ [O 2 (.mv (I 4))] [0, 7]) .ret) .skip)) (.seq (.seq (oQ [M 8 0, O 9 (.len (.t 8)), O 10 (.mv (I 0))] [0, 7]) (.block 0 (.loop 56157900 b_56157900))) (.seq (oQ [O 2 (.mv (I 0))] [8, 9, 10, 11]) .ret))))⟩
def t_s_Clone_api_Span_api_Span : TFn := ⟨1, [.tmp 2], (.seq (oQ [O 2 (.mv (.c .nils))] [2]) (.seq (.seq (oQ [M 3 0, O 4 (.eqN false (.t 3))] [3]) (.cond (.t 4) (.seq (oQ [O 2 (.mv (.c .nils))] [0, 4]) .ret) .skip)) (.seq (oQ [O 5 (.buildSl true 4 (.agg [(.int .i64 (0)), (.int .i64 (0)), (.int .i64 (0)), (.int .i64 (0))]) 0 []), M 6 0, O 7 (.app true 4 32 (.t 5) (.t 6)), M 2 7] [0, 4, 5, 6, 7]) .ret)))⟩
def t_m_Len32 : TFn := ⟨1, [.tmp 2], (.seq (oQ [O 2 (.mv (I 0))] []) (.seq (.seq (oQ [M 3 0, O 4 (.bin .geq (.t 3) (.c (.int .u32 (65536))))] [3]) (.cond (.t 4) (.seq (oQ [M 5 0, O 6 (.bin .shr (.t 5) (.c (.int .u64 (16)))), M 0 6] [2, 4, 5, 6]) (oQ [O 2 (.mv (I 16))] [])) .skip)) (.seq (.seq (oQ [M 7 0, O 8 (.bin .geq (.t 7) (.c (.int .u32 (256))))] [4, 7]) (.cond (.t 8) (.seq (oQ [M 9 0, O 10 (.bin .shr (.t 9) (.c (.int .u64 (8)))), M 0 10] [8, 9, 10]) (oQ [M 11 2, O 12 (.bin .add (.t 11) (I 8)), M 2 12] [11, 12])) .skip)) (.seq (oQ [M 13 2, M 14 0, O 15 (.conv .u8 (.t 14)), O 16 (.idx false 256 1 (.c (.agg [(.int .u8 (0)), (.int .u8 (1)), (.int .u8 (2)), (.int .u8 (2)), (.int .u8 (3)), (.int .u8 (3)), (.int .u8 (3)), (.int .u8 (3)), (.int .u8 (4)), (.int .u8 (4)), (.int .u8 (4)), (.int .u8 (4)), (.int .u8 (4)), (.int .u8 (4)), (.int .u8 (4)), (.int .u8 (4)), (.int .u8 (5)), (.int .u8 (5)), (.int .u8 (5)), (.int .u8 (5)), (.int .u8 (5)), (.int .u8 (5)), (.int .u8 (5)), (.int .u8 (5)), (.int .u8 (5)), (.int .u8 (5)), (.int .u8 (5)), (.int .u8 (5)), (.int .u8 (5)), (.int .u8 (5)), (.int .u8 (5)), (.int .u8 (5)), (.int .u8 (6)), (.int .u8 (6)), (.int .u8 (6)), (.int .u8 (6)), (.int .u8 (6)), (.int .u8 (6)), (.int .u8 (6)), (.int .u8 (6)), (.int .u8 (6)), (.int .u8 (6)), (.int .u8 (6)), (.int .u8 (6)), (.int .u8 (6)), (.int .u8 (6)), (.int .u8 (6)), (.int .u8 (6)), (.int .u8 (6)), (.int .u8 (6)), (.int .u8 (6)), (.int .u8 (6)), (.int .u8 (6)), (.int .u8 (6)), (.int .u8 (6)), (.int .u8 (6)), (.int .u8 (6)), (.int .u8 (6)), (.int .u8 (6)), (.int .u8 (6)), (.int .u8 (6)), (.int .u8 (6)), (.int .u8 (6)), (.int .u8 (6)), (.int .u8 (7)), (.int .u8 (7)), (.int .u8 (7)), (.int .u8 (7)), (.int .u8 (7)), (.int .u8 (7)), (.int .u8 (7)), (.int .u8 (7)), (.int .u8 (7)), (.int .u8 (7)), (.int .u8 (7)), (.int .u8 (7)), (.int .u8 (7)), (.int .u8 (7)), (.int .u8 (7)), (.int .u8 (7)), (.int .u8 (7)), (.int .u8 (7)), (.int .u8 (7)), (.int .u8 (7)), (.int .u8 (7)), (.int .u8 (7)), (.int .u8 (7)), (.int .u8 (7)), (.int .u8 (7)), (.int .u8 (7)), (.int .u8 (7)), (.int .u8 (7)), (.int .u8 (7)), (.int .u8 (7)), (.int .u8 (7)), (.int .u8 (7)), (.int .u8 (7)), (.int .u8 (7)), (.int .u8 (7)), (.int .u8 (7)), (.int .u8 (7)), (.int .u8 (7)), (.int .u8 (7)), (.int .u8 (7)), (.int .u8 (7)), (.int .u8 (7)), (.int .u8 (7)), (.int .u8 (7)), (.int .u8 (7)), (.int .u8 (7)), (.int .u8 (7)), (.int .u8 (7)), (.int .u8 (7)), (.int .u8 (7)), (.int .u8 (7)), (.int .u8 (7)), (.int .u8 (7)), (.int .u8 (7)), (.int .u8 (7)), (.int .u8 (7)), (.int .u8 (7)), (.int .u8 (7)), (.int .u8 (7)), (.int .u8 (7)), (.int .u8 (7)), (.int .u8 (7)), (.int .u8 (7)), (.int .u8 (7)), (.int .u8 (8)), (.int .u8 (8)), (.int .u8 (8)), (.int .u8 (8)), (.int .u8 (8)), (.int .u8 (8)), (.int .u8 (8)), (.int .u8 (8)), (.int .u8 (8)), (.int .u8 (8)), (.int .u8 (8)), (.int .u8 (8)), (.int .u8 (8)), (.int .u8 (8)), (.int .u8 (8)), (.int .u8 (8)), (.int .u8 (8)), (.int .u8 (8)), (.int .u8 (8)), (.int .u8 (8)), (.int .u8 (8)), (.int .u8 (8)), (.int .u8 (8)), (.int .u8 (8)), (.int .u8 (8)), (.int .u8 (8)), (.int .u8 (8)), (.int .u8 (8)), (.int .u8 (8)), (.int .u8 (8)), (.int .u8 (8)), (.int .u8 (8)), (.int .u8 (8)), (.int .u8 (8)), (.int .u8 (8)), (.int .u8 (8)), (.int .u8 (8)), (.int .u8 (8)), (.int .u8 (8)), (.int .u8 (8)), (.int .u8 (8)), (.int .u8 (8)), (.int .u8 (8)), (.int .u8 (8)), (.int .u8 (8)), (.int .u8 (8)), (.int .u8 (8)), (.int .u8 (8)), (.int .u8 (8)), (.int .u8 (8)), (.int .u8 (8)), (.int .u8 (8)), (.int .u8 (8)), (.int .u8 (8)), (.int .u8 (8)), (.int .u8 (8)), (.int .u8 (8)), (.int .u8 (8)), (.int .u8 (8)), (.int .u8 (8)), (.int .u8 (8)), (.int .u8 (8)), (.int .u8 (8)), (.int .u8 (8)), (.int .u8 (8)), (.int .u8 (8)), (.int .u8 (8)), (.int .u8 (8)), (.int .u8 (8)), (.int .u8 (8)), (.int .u8 (8)), (.int .u8 (8)), (.int .u8 (8)), (.int .u8 (8)), (.int .u8 (8)), (.int .u8 (8)), (.int .u8 (8)), (.int .u8 (8)), (.int .u8 (8)), (.int .u8 (8)), (.int .u8 (8)), (.int .u8 (8)), (.int .u8 (8)), (.int .u8 (8)), (.int .u8 (8)), (.int .u8 (8)), (.int .u8 (8)), (.int .u8 (8)), (.int .u8 (8)), (.int .u8 (8)), (.int .u8 (8)), (.int .u8 (8)), (.int .u8 (8)), (.int .u8 (8)), (.int .u8 (8)), (.int .u8 (8)), (.int .u8 (8)), (.int .u8 (8)), (.int .u8 (8)), (.int .u8 (8)), (.int .u8 (8)), (.int .u8 (8)), (.int .u8 (8)), (.int .u8 (8)), (.int .u8 (8)), (.int .u8 (8)), (.int .u8 (8)), (.int .u8 (8)), (.int .u8 (8)), (.int .u8 (8)), (.int .u8 (8)), (.int .u8 (8)), (.int .u8 (8)), (.int .u8 (8)), (.int .u8 (8)), (.int .u8 (8)), (.int .u8 (8)), (.int .u8 (8)), (.int .u8 (8)), (.int .u8 (8)), (.int .u8 (8)), (.int .u8 (8)), (.int .u8 (8)), (.int .u8 (8)), (.int .u8 (8)), (.int .u8 (8)), (.int .u8 (8)), (.int .u8 (8))])) (.t 15)), O 17 (.conv .i64 (.t 16)), oX 18 .add 13 17, M 2 18] [0, 8, 13, 14, 15, 16, 17, 18]) .ret))))⟩
def t_m_Len64 : TFn := ⟨1, [.tmp 2], (.seq (oQ [O 2 (.mv (I 0))] []) (.seq (.seq (oQ [M 3 0, O 4 (.bin .geq (.t 3) (.c (.int .u64 (4294967296))))] [3]) (.cond (.t 4) (.seq (oQ [M 5 0, O 6 (.bin .shr (.t 5) (.c (.int .u64 (32)))), M 0 6] [2, 4, 5, 6]) (oQ [O 2 (.mv (I 32))] [])) .skip)) (.seq (.seq (oQ [M 7 0, O 8 (.bin .geq (.t 7) (.c (.int .u64 (65536))))] [4, 7]) (.cond (.t 8) (.seq (oQ [M 9 0, O 10 (.bin .shr (.t 9) (.c (.int .u64 (16)))), M 0 10] [8, 9, 10]) (oQ [M 11 2, O 12 (.bin .add (.t 11) (I 16)), M 2 12] [11, 12])) .skip)) (.seq (.seq (oQ [M 13 0, O 14 (.bin .geq (.t 13) (.c (.int .u64 (256))))] [8, 13]) (.cond (.t 14) (.seq (oQ [M 15 0, O 16 (.bin .shr (.t 15) (.c (.int .u64 (8)))), M 0 16] [14, 15, 16]) (oQ [M 17 2, O 18 (.bin .add (.t 17) (I 8)), M 2 18] [17, 18])) .skip)) (.seq (oQ [M 19 2, M 20 0, O 21 (.conv .u8 (.t 20)), O 22 (.idx false 256 1 (.c (.agg [(.int .u8 (0)), (.int .u8 (1)), (.int .u8 (2)), (.int .u8 (2)), (.int .u8 (3)), (.int .u8 (3)), (.int .u8 (3)), (.int .u8 (3)), (.int .u8 (4)), (.int .u8 (4)), (.int .u8 (4)), (.int .u8 (4)), (.int .u8 (4)), (.int .u8 (4)), (.int .u8 (4)), (.int .u8 (4)), (.int .u8 (5)), (.int .u8 (5)), (.int .u8 (5)), (.int .u8 (5)), (.int .u8 (5)), (.int .u8 (5)), (.int .u8 (5)), (.int .u8 (5)), (.int .u8 (5)), (.int .u8 (5)), (.int .u8 (5)), (.int .u8 (5)), (.int .u8 (5)), (.int .u8 (5)), (.int .u8 (5)), (.int .u8 (5)), (.int .u8 (6)), (.int .u8 (6)), (.int .u8 (6)), (.int .u8 (6)), (.int .u8 (6)), (.int .u8 (6)), (.int .u8 (6)), (.int .u8 (6)), (.int .u8 (6)), (.int .u8 (6)), (.int .u8 (6)), (.int .u8 (6)), (.int .u8 (6)), (.int .u8 (6)), (.int .u8 (6)), (.int .u8 (6)), (.int .u8 (6)), (.int .u8 (6)), (.int .u8 (6)), (.int .u8 (6)), (.int .u8 (6)), (.int .u8 (6)), (.int .u8 (6)), (.int .u8 (6)), (.int .u8 (6)), (.int .u8 (6)), (.int .u8 (6)), (.int .u8 (6)), (.int .u8 (6)), (.int .u8 (6)), (.int .u8 (6)), (.int .u8 (6)), (.int .u8 (7)), (.int .u8 (7)), (.int .u8 (7)), (.int .u8 (7)), (.int .u8 (7)), (.int .u8 (7)), (.int .u8 (7)), (.int .u8 (7)), (.int .u8 (7)), (.int .u8 (7)), (.int .u8 (7)), (.int .u8 (7)), (.int .u8 (7)), (.int .u8 (7)), (.int .u8 (7)), (.int .u8 (7)), (.int .u8 (7)), (.int .u8 (7)), (.int .u8 (7)), (.int .u8 (7)), (.int .u8 (7)), (.int .u8 (7)), (.int .u8 (7)), (.int .u8 (7)), (.int .u8 (7)), (.int .u8 (7)), (.int .u8 (7)), (.int .u8 (7)), (.int .u8 (7)), (.int .u8 (7)), (.int .u8 (7)), (.int .u8 (7)), (.int .u8 (7)), (.int .u8 (7)), (.int .u8 (7)), (.int .u8 (7)), (.int .u8 (7)), (.int .u8 (7)), (.int .u8 (7)), (.int .u8 (7)), (.int .u8 (7)), (.int .u8 (7)), (.int .u8 (7)), (.int .u8 (7)), (.int .u8 (7)), (.int .u8 (7)), (.int .u8 (7)), (.int .u8 (7)), (.int .u8 (7)), (.int .u8 (7)), (.int .u8 (7)), (.int .u8 (7)), (.int .u8 (7)), (.int .u8 (7)), (.int .u8 (7)), (.int .u8 (7)), (.int .u8 (7)), (.int .u8 (7)), (.int .u8 (7)), (.int .u8 (7)), (.int .u8 (7)), (.int .u8 (7)), (.int .u8 (7)), (.int .u8 (7)), (.int .u8 (8)), (.int .u8 (8)), (.int .u8 (8)), (.int .u8 (8)), (.int .u8 (8)), (.int .u8 (8)), (.int .u8 (8)), (.int .u8 (8)), (.int .u8 (8)), (.int .u8 (8)), (.int .u8 (8)), (.int .u8 (8)), (.int .u8 (8)), (.int .u8 (8)), (.int .u8 (8)), (.int .u8 (8)), (.int .u8 (8)), (.int .u8 (8)), (.int .u8 (8)), (.int .u8 (8)), (.int .u8 (8)), (.int .u8 (8)), (.int .u8 (8)), (.int .u8 (8)), (.int .u8 (8)), (.int .u8 (8)), (.int .u8 (8)), (.int .u8 (8)), (.int .u8 (8)), (.int .u8 (8)), (.int .u8 (8)), (.int .u8 (8)), (.int .u8 (8)), (.int .u8 (8)), (.int .u8 (8)), (.int .u8 (8)), (.int .u8 (8)), (.int .u8 (8)), (.int .u8 (8)), (.int .u8 (8)), (.int .u8 (8)), (.int .u8 (8)), (.int .u8 (8)), (.int .u8 (8)), (.int .u8 (8)), (.int .u8 (8)), (.int .u8 (8)), (.int .u8 (8)), (.int .u8 (8)), (.int .u8 (8)), (.int .u8 (8)), (.int .u8 (8)), (.int .u8 (8)), (.int .u8 (8)), (.int .u8 (8)), (.int .u8 (8)), (.int .u8 (8)), (.int .u8 (8)), (.int .u8 (8)), (.int .u8 (8)), (.int .u8 (8)), (.int .u8 (8)), (.int .u8 (8)), (.int .u8 (8)), (.int .u8 (8)), (.int .u8 (8)), (.int .u8 (8)), (.int .u8 (8)), (.int .u8 (8)), (.int .u8 (8)), (.int .u8 (8)), (.int .u8 (8)), (.int .u8 (8)), (.int .u8 (8)), (.int .u8 (8)), (.int .u8 (8)), (.int .u8 (8)), (.int .u8 (8)), (.int .u8 (8)), (.int .u8 (8)), (.int .u8 (8)), (.int .u8 (8)), (.int .u8 (8)), (.int .u8 (8)), (.int .u8 (8)), (.int .u8 (8)), (.int .u8 (8)), (.int .u8 (8)), (.int .u8 (8)), (.int .u8 (8)), (.int .u8 (8)), (.int .u8 (8)), (.int .u8 (8)), (.int .u8 (8)), (.int .u8 (8)), (.int .u8 (8)), (.int .u8 (8)), (.int .u8 (8)), (.int .u8 (8)), (.int .u8 (8)), (.int .u8 (8)), (.int .u8 (8)), (.int .u8 (8)), (.int .u8 (8)), (.int .u8 (8)), (.int .u8 (8)), (.int .u8 (8)), (.int .u8 (8)), (.int .u8 (8)), (.int .u8 (8)), (.int .u8 (8)), (.int .u8 (8)), (.int .u8 (8)), (.int .u8 (8)), (.int .u8 (8)), (.int .u8 (8)), (.int .u8 (8)), (.int .u8 (8)), (.int .u8 (8)), (.int .u8 (8)), (.int .u8 (8)), (.int .u8 (8)), (.int .u8 (8)), (.int .u8 (8)), (.int .u8 (8)), (.int .u8 (8)), (.int .u8 (8)), (.int .u8 (8))])) (.t 21)), O 23 (.conv .i64 (.t 22)), oX 24 .add 19 23, M 2 24] [0, 14, 19, 20, 21, 22, 23, 24]) .ret)))))⟩
def t_m_Len : TFn := ⟨1, [.tmp 2], (.seq (oQ [O 2 (.mv (I 0))] [2]) (.seq (.cond (.c (.bool false)) (.seq (oQ [M 3 0, O 4 (.conv .u32 (.t 3)), O 5 (.call (.f n_m_Len32) [(.t 4)]), M 2 5] [0, 3, 4, 5]) .ret) .skip) (.seq (oQ [M 6 0, O 7 (.call (.f n_m_Len64) [(.t 6)]), M 2 7] [0, 6, 7]) .ret)))⟩
def b_53122800 : TCode := (.seq (.seq (.ops [M 18 9, M 19 1, oX 20 .gtr 18 19, M 21 20, ⟨some 22, (.mv (.t 3)), some (21, true)⟩, ⟨some 23, (.mv (.t 0)), some (21, true)⟩, ⟨some 24, (.mv (.t 9)), some (21, true)⟩, ⟨some 25, (.iad 4 (.t 23) (.t 24)), some (21, true)⟩, ⟨some 26, (.load true 4 (.t 25)), some (21, true)⟩, ⟨some 27, (.mv (.t 0)), some (21, true)⟩, ⟨some 28, (.mv (.t 9)), some (21, true)⟩, ⟨some 29, (.bin .sub (.t 28) (I 1)), some (21, true)⟩, ⟨some 30, (.iad 4 (.t 27) (.t 29)), some (21, true)⟩, ⟨some 31, (.load true 4 (.t 30)), some (21, true)⟩, ⟨some 32, (.call (.t 22) [(.t 26), (.t 31)]), some (21, true)⟩, ⟨some 33, (.bin .lss (.t 32) (I 0)), some (21, true)⟩, O 34 (.pick (.t 21) (.t 33) (.c (.bool false)))] [⟨7, (.agg [.i .i64, .i .i64, .i .i64, .i .i64]), 0⟩, ⟨8, (.agg [.i .i64, .i .i64, .i .i64, .i .i64]), 0⟩, ⟨12, (.agg [.i .i64, .i .i64, .i .i64, .i .i64]), 0⟩, ⟨13, (.agg [.i .i64, .i .i64, .i .i64, .i .i64]), 0⟩] [(0, 1), (4, 5), (4, 6), (5, 6), (4, 7), (4, 8), (4, 9), (5, 9), (6, 9), (7, 9), (8, 9), (4, 10), (5, 10), (6, 10), (7, 10), (8, 10), (9, 10), (4, 11), (5, 11), (6, 11), (7, 11), (8, 11), (9, 11), (4, 12), (5, 12), (6, 12), (7, 12), (8, 12), (4, 13), (5, 13), (6, 13), (7, 13), (8, 13)] [18, 19, 20, 21, 22, 23, 24, 25, 26, 27, 28, 29, 30, 31, 32, 33]) (.cond (.t 34) .skip (.exit 2))) (.seq (.block 3 (.ops [M 37 0, M 38 9, M 39 0, M 40 9, O 41 (.bin .sub (.t 40) (I 1)), M 42 0, M 43 9, O 44 (.bin .sub (.t 43) (I 1)), O 45 (.iad 4 (.t 42) (.t 44)), oT 46 4 45, M 47 0, M 48 9, O 49 (.iad 4 (.t 47) (.t 48)), oT 50 4 49, O 51 (.iad 4 (.t 37) (.t 38)), ⟨none, (.store 4 (.t 51) (.t 46)), none⟩, O 52 (.iad 4 (.t 39) (.t 41)), ⟨none, (.store 4 (.t 52) (.t 50)), none⟩] [⟨8, (.agg [.i .i64, .i .i64, .i .i64, .i .i64]), 0⟩, ⟨9, (.agg [.i .i64, .i .i64, .i .i64, .i .i64]), 0⟩, ⟨12, (.agg [.i .i64, .i .i64, .i .i64, .i .i64]), 0⟩, ⟨13, (.agg [.i .i64, .i .i64, .i .i64, .i .i64]), 0⟩, ⟨14, (.agg [.i .i64, .i .i64, .i .i64, .i .i64]), 0⟩, ⟨15, (.agg [.i .i64, .i .i64, .i .i64, .i .i64]), 0⟩, ⟨16, (.agg [.i .i64, .i .i64, .i .i64, .i .i64]), 0⟩, ⟨17, (.agg [.i .i64, .i .i64, .i .i64, .i .i64]), 0⟩] [(0, 1), (0, 2), (1, 2), (0, 3), (1, 3), (2, 3), (0, 4), (1, 4), (2, 4), (0, 5), (1, 5), (2, 5), (3, 5), (4, 5), (0, 6), (1, 6), (2, 6), (3, 6), (4, 6), (5, 6), (0, 7), (1, 7), (2, 7), (3, 7), (4, 7), (5, 7), (0, 8), (1, 8), (2, 8), (3, 8), (4, 8), (0, 9), (1, 9), (2, 9), (3, 9), (4, 9), (0, 10), (1, 10), (2, 10), (3, 10), (4, 10), (5, 10), (6, 10), (7, 10), (8, 10), (9, 10), (0, 11), (1, 11), (2, 11), (3, 11), (4, 11), (5, 11), (6, 11), (7, 11), (8, 11), (9, 11), (10, 11), (0, 12), (1, 12), (2, 12), (3, 12), (4, 12), (5, 12), (6, 12), (7, 12), (8, 12), (9, 12), (0, 13), (1, 13), (2, 13), (3, 13), (4, 13), (5, 13), (6, 13), (7, 13), (8, 13), (9, 13), (2, 14), (3, 14), (4, 14), (2, 15), (3, 15), (4, 15)] [34, 37, 38, 39, 40, 41, 42, 43, 44, 45, 46, 47, 48, 49, 50, 51, 52])) (oQ [M 35 9, O 36 (.bin .sub (.t 35) (I 1)), M 9 36] [35, 36])))
def b_53122801 : TCode := (.seq (.seq (oQ [M 12 8, M 13 2, oX 14 .lss 12 13] [12, 13]) (.cond (.t 14) .skip (.exit 0))) (.seq (.block 1 (.seq (oQ [M 17 8, M 9 17] [14, 17]) (.block 2 (.loop 53122800 b_53122800)))) (oQ [M 15 8, O 16 (.bin .add (.t 15) (I 1)), M 8 16] [9, 15, 16, 34])))
def t_slices_insertionSortCmpFunc_api_Span : TFn := ⟨4, [], (.seq (oQ [M 10 1, O 11 (.bin .add (.t 10) (I 1)), M 8 11] [10, 11]) (.block 0 (.loop 53122801 b_53122801)))⟩
def b_92709400 : TCode := (.block 1 (.seq (oQ [M 21 2, M 22 1, oX 23 .sub 21 22, M 12 23] [21, 22, 23]) (.seq (.seq (oQ [M 24 12, O 25 (.bin .leq (.t 24) (I 12))] [24]) (.cond (.t 25) (.seq (oQ [M 26 0, M 27 1, M 28 2, M 29 4, O 30 (.call (.f n_slices_insertionSortCmpFunc_api_Span) [(.t 26), (.t 27), (.t 28), (.t 29)])] [0, 1, 2, 3, 4, 10, 11, 12, 25, 26, 27, 28, 29, 30]) .ret) .skip)) (.seq (.seq (oQ [M 31 3, O 32 (.bin .eql (.t 31) (I 0))] [25, 31]) (.cond (.t 32) (.seq (oQ [M 33 0, M 34 1, M 35 2, M 36 4, O 37 (.call (.f 97) [(.t 33), (.t 34), (.t 35), (.t 36)])] [0, 1, 2, 3, 4, 10, 11, 12, 32, 33, 34, 35, 36, 37]) .ret) .skip)) (.seq (.seq (oQ [M 38 10, O 39 (.un .not (.t 38))] [32, 38]) (.cond (.t 39) (.seq (oQ [M 40 0, M 41 1, M 42 2, M 43 4, O 44 (.call (.f 98) [(.t 40), (.t 41), (.t 42), (.t 43)])] [39, 40, 41, 42, 43, 44]) (oQ [M 45 3, O 46 (.bin .sub (.t 45) (I 1)), M 3 46] [45, 46])) .skip)) (.seq (oQ [M 48 0, M 49 1, M 50 2, M 51 4, O 52 (.call (.f 99) [(.t 48), (.t 49), (.t 50), (.t 51)]), M 47 52, O 53 (.ext (.t 47) 0), O 54 (.ext (.t 47) 1), M 13 53, M 14 54] [39, 47, 48, 49, 50, 51, 52, 53, 54]) (.seq (.seq (oQ [M 55 14, O 56 (.bin .eql (.t 55) (I 2))] [55]) (.cond (.t 56) (.seq (oQ [M 57 0, M 58 1, M 59 2, M 60 4, O 61 (.call (.f 100) [(.t 57), (.t 58), (.t 59), (.t 60)])] [14, 56, 57, 58, 59, 60, 61]) (.seq (oQ [M 62 2, O 63 (.bin .sub (.t 62) (I 1)), M 64 13, M 65 1, oX 66 .sub 64 65, oX 67 .sub 63 66, M 13 67] [62, 63, 64, 65, 66, 67]) (oQ [O 14 (.mv (I 1))] []))) .skip)) (.seq (.seq (oQ [M 68 10, M 69 68, ⟨some 70, (.mv (.t 11)), some (69, true)⟩, O 71 (.pick (.t 69) (.t 70) (.c (.bool false))), M 72 71, ⟨some 73, (.mv (.t 14)), some (72, true)⟩, ⟨some 74, (.bin .eql (.t 73) (I 1)), some (72, true)⟩, O 75 (.pick (.t 72) (.t 74) (.c (.bool false)))] [14, 56, 68, 69, 70, 71, 72, 73, 74]) (.cond (.t 75) (.seq (oQ [M 76 0, M 77 1, M 78 2, M 79 4, O 80 (.call (.f 101) [(.t 76), (.t 77), (.t 78), (.t 79)])] [75, 76, 77, 78, 79]) (.cond (.t 80) .ret .skip)) .skip)) (.seq (.seq (.ops [M 81 1, O 82 (.bin .gtr (.t 81) (I 0)), M 83 82, ⟨some 84, (.mv (.t 4)), some (83, true)⟩, ⟨some 85, (.mv (.t 0)), some (83, true)⟩, ⟨some 86, (.mv (.t 1)), some (83, true)⟩, ⟨some 87, (.bin .sub (.t 86) (I 1)), some (83, true)⟩, ⟨some 88, (.iad 4 (.t 85) (.t 87)), some (83, true)⟩, ⟨some 89, (.load true 4 (.t 88)), some (83, true)⟩, ⟨some 90, (.mv (.t 0)), some (83, true)⟩, ⟨some 91, (.mv (.t 13)), some (83, true)⟩, ⟨some 92, (.iad 4 (.t 90) (.t 91)), some (83, true)⟩, ⟨some 93, (.load true 4 (.t 92)), some (83, true)⟩, ⟨some 94, (.call (.t 84) [(.t 89), (.t 93)]), some (83, true)⟩, ⟨some 95, (.bin .lss (.t 94) (I 0)), some (83, true)⟩, ⟨some 96, (.un .not (.t 95)), some (83, true)⟩, O 97 (.pick (.t 83) (.t 96) (.c (.bool false)))] [⟨7, (.agg [.i .i64, .i .i64, .i .i64, .i .i64]), 0⟩, ⟨8, (.agg [.i .i64, .i .i64, .i .i64, .i .i64]), 0⟩, ⟨11, (.agg [.i .i64, .i .i64, .i .i64, .i .i64]), 0⟩, ⟨12, (.agg [.i .i64, .i .i64, .i .i64, .i .i64]), 0⟩] [(3, 4), (3, 5), (4, 5), (3, 6), (4, 6), (3, 7), (3, 8), (3, 9), (4, 9), (5, 9), (6, 9), (7, 9), (8, 9), (3, 10), (4, 10), (5, 10), (6, 10), (7, 10), (8, 10), (9, 10), (3, 11), (4, 11), (5, 11), (6, 11), (7, 11), (8, 11), (3, 12), (4, 12), (5, 12), (6, 12), (7, 12), (8, 12)] [75, 80, 81, 82, 83, 84, 85, 86, 87, 88, 89, 90, 91, 92, 93, 94, 95, 96]) (.cond (.t 97) (.seq (oQ [M 98 0, M 99 1, M 100 2, M 101 13, M 102 4, O 103 (.call (.f 102) [(.t 98), (.t 99), (.t 100), (.t 101), (.t 102)]), M 15 103] [1, 12, 13, 97, 98, 99, 100, 101, 102, 103]) (.seq (oQ [M 104 15, M 1 104] [15, 104]) (.exit 1))) .skip)) (.seq (oQ [M 106 0, M 107 1, M 108 2, M 109 13, M 110 4, O 111 (.call (.f 103) [(.t 106), (.t 107), (.t 108), (.t 109), (.t 110)]), M 105 111, O 112 (.ext (.t 105) 0), O 113 (.ext (.t 105) 1), M 16 112, M 17 113] [10, 11, 13, 97, 105, 106, 107, 108, 109, 110, 111, 112, 113]) (.seq (oQ [M 114 17, M 11 114] [17, 114]) (.seq (oQ [M 115 16, M 116 1, oX 117 .sub 115 116, M 118 2, M 119 16, oX 120 .sub 118 119, M 18 117, M 19 120] [115, 116, 117, 118, 119, 120]) (.seq (oQ [M 121 12, O 122 (.bin .quo (.t 121) (I 8)), M 20 122] [12, 121, 122]) (.seq (oQ [M 123 18, M 124 19, oX 125 .lss 123 124] [123, 124]) (.cond (.t 125) (.seq (oQ [M 126 18, M 127 20, oX 128 .geq 126 127, M 10 128] [18, 19, 20, 125, 126, 127, 128]) (.seq (oQ [M 129 0, M 130 1, M 131 16, M 132 3, M 133 4, O 134 (.call (.f n_slices_pdqsortCmpFunc_api_Span) [(.t 129), (.t 130), (.t 131), (.t 132), (.t 133)])] [1, 129, 130, 131, 132, 133, 134]) (oQ [M 135 16, O 136 (.bin .add (.t 135) (I 1)), M 1 136] [16, 135, 136]))) (.seq (oQ [M 137 19, M 138 20, oX 139 .geq 137 138, M 10 139] [18, 19, 20, 125, 137, 138, 139]) (.seq (oQ [M 140 0, M 141 16, O 142 (.bin .add (.t 141) (I 1)), M 143 2, M 144 3, M 145 4, O 146 (.call (.f n_slices_pdqsortCmpFunc_api_Span) [(.t 140), (.t 142), (.t 143), (.t 144), (.t 145)])] [2, 140, 141, 142, 143, 144, 145, 146]) (oQ [M 147 16, M 2 147] [16, 147]))))))))))))))))))
def t_slices_pdqsortCmpFunc_api_Span : TFn := ⟨5, [], (.seq (oQ [O 10 (.mv (.c (.bool true)))] []) (.seq (oQ [O 11 (.mv (.c (.bool true)))] []) (.block 0 (.loop 92709400 b_92709400))))⟩
def t_s_SortFunc_api_Span_api_Span : TFn := ⟨2, [], (.seq (oQ [M 5 0, O 6 (.len (.t 5)), M 4 6] [5, 6]) (oQ [M 7 0, M 8 4, M 9 4, O 10 (.conv .u64 (.t 9)), O 11 (.call (.f n_m_Len) [(.t 10)]), M 12 1, O 13 (.call (.f n_slices_pdqsortCmpFunc_api_Span) [(.t 7), (I 0), (.t 8), (.t 11), (.t 12)])] [0, 1, 4, 7, 8, 9, 10, 11, 12, 13]))⟩
def t_piece_order : TFn := ⟨2, [.tmp 4], (.seq (oQ [O 2 (.boxL (.t 0)), O 3 (.boxL (.t 1)), O 4 (.mv (I 0))] [0, 1, 4]) (.seq (oQ [oT 8 2 2, oT 9 2 3, O 10 (.call (.f n_ratio_Cmp) [(.t 8), (.t 9)]), M 7 10, O 11 (.ext (.t 7) 0), O 12 (.ext (.t 7) 1), M 5 11, M 6 12] [2, 3, 6, 7, 8, 9, 10, 11, 12]) (.seq (oQ [M 13 5, M 4 13] [5, 13]) .ret)))⟩
def t_piece_merged_1 : TFn := ⟨2, [.tmp 4], (.seq (oQ [O 2 (.boxL (.t 0)), O 3 (.boxL (.t 1)), O 4 (.mv (I 0))] [0, 1, 4]) (.seq (.ops [O 5 (.fad 0 (.t 2)), oT 6 2 5, O 7 (.fad 0 (.t 3)), oT 8 2 7, O 9 (.call (.f n_piece_order) [(.t 6), (.t 8)]), M 4 9] [⟨1, (.agg [.i .i64, .i .i64, .i .i64, .i .i64]), 0⟩, ⟨3, (.agg [.i .i64, .i .i64, .i .i64, .i .i64]), 0⟩] [] [2, 3, 5, 6, 7, 8, 9]) .ret))⟩
def b_63960300 : TCode := (.seq (oQ [oX 14 .lss 13 12] []) (.seq (.cond (.t 14) .skip (.exit 0)) (.seq (.block 1 (.seq (.ops [O 15 (.iad 4 (.t 11) (.t 13)), oT 16 4 15, O 5 (.allocL (.agg [(.int .i64 (0)), (.int .i64 (0)), (.int .i64 (0)), (.int .i64 (0))])), ⟨none, (.store 4 (.t 5) (.t 16)), none⟩] [⟨0, (.agg [.i .i64, .i .i64, .i .i64, .i .i64]), 0⟩, ⟨1, (.agg [.i .i64, .i .i64, .i .i64, .i .i64]), 0⟩] [] [14, 15, 16]) (.seq (.seq (oQ [M 17 3, O 18 (.len (.t 17)), M 6 18] [17, 18]) (.seq (.ops [M 19 6, O 20 (.bin .gtr (.t 19) (I 0)), M 21 20, ⟨some 22, (.fad 0 (.t 5)), some (21, true)⟩, ⟨some 23, (.load true 2 (.t 22)), some (21, true)⟩, ⟨some 24, (.mv (.t 3)), some (21, true)⟩, ⟨some 25, (.mv (.t 6)), some (21, true)⟩, ⟨some 26, (.bin .sub (.t 25) (I 1)), some (21, true)⟩, ⟨some 27, (.iad 4 (.t 24) (.t 26)), some (21, true)⟩, ⟨some 28, (.fad 2 (.t 27)), some (21, true)⟩, ⟨some 29, (.load true 2 (.t 28)), some (21, true)⟩, ⟨some 30, (.call (.f n_piece_order) [(.t 23), (.t 29)]), some (21, true)⟩, ⟨some 31, (.bin .leq (.t 30) (I 0)), some (21, true)⟩, O 32 (.pick (.t 21) (.t 31) (.c (.bool false)))] [⟨4, (.agg [.i .i64, .i .i64, .i .i64, .i .i64]), 0⟩, ⟨8, (.agg [.i .i64, .i .i64, .i .i64, .i .i64]), 0⟩, ⟨10, (.agg [.i .i64, .i .i64, .i .i64, .i .i64]), 0⟩] [(3, 5), (4, 5), (3, 6), (4, 6), (5, 6), (3, 7), (4, 7), (5, 7), (3, 8), (4, 8), (3, 9), (4, 9), (3, 10), (4, 10)] [19, 20, 21, 22, 23, 24, 25, 26, 27, 28, 29, 30, 31]) (.cond (.t 32) (.seq (.seq (.ops [O 33 (.fad 2 (.t 5)), oT 34 2 33, M 35 3, M 36 6, O 37 (.bin .sub (.t 36) (I 1)), O 38 (.iad 4 (.t 35) (.t 37)), O 39 (.fad 2 (.t 38)), oT 40 2 39, O 41 (.call (.f n_piece_order) [(.t 34), (.t 40)]), O 42 (.bin .gtr (.t 41) (I 0))] [⟨1, (.agg [.i .i64, .i .i64, .i .i64, .i .i64]), 0⟩, ⟨5, (.agg [.i .i64, .i .i64, .i .i64, .i .i64]), 0⟩, ⟨7, (.agg [.i .i64, .i .i64, .i .i64, .i .i64]), 0⟩] [(0, 2), (1, 2), (0, 3), (1, 3), (2, 3), (0, 4), (1, 4), (2, 4), (0, 5), (1, 5), (0, 6), (1, 6), (0, 7), (1, 7)] [32, 33, 34, 35, 36, 37, 38, 39, 40, 41]) (.cond (.t 42) (.ops [M 43 3, M 44 6, O 45 (.bin .sub (.t 44) (I 1)), O 46 (.fad 2 (.t 5)), oT 47 2 46, O 48 (.iad 4 (.t 43) (.t 45)), O 49 (.fad 2 (.t 48)), ⟨none, (.store 2 (.t 49) (.t 47)), none⟩] [⟨4, (.agg [.i .i64, .i .i64, .i .i64, .i .i64]), 0⟩, ⟨5, (.agg [.i .i64, .i .i64, .i .i64, .i .i64]), 0⟩, ⟨7, (.agg [.i .i64, .i .i64, .i .i64, .i .i64]), 0⟩] [] [5, 6, 42, 43, 44, 45, 46, 47, 48, 49]) .skip)) (.exit 1)) .skip))) (oQ [M 50 3, oT 51 4 5, O 52 (.buildD 4 (.agg [(.int .i64 (0)), (.int .i64 (0)), (.int .i64 (0)), (.int .i64 (0))]) 1 [(0, (.t 51))]), O 53 (.app true 4 32 (.t 50) (.t 52)), M 3 53] [5, 6, 32, 50, 51, 52, 53])))) (oQ [O 54 (.bin .add (.t 13) (I 1)), M 13 54] [5, 6, 42, 54]))))
def t_piece_merged : TFn := ⟨1, [.tmp 2], (.seq (oQ [O 2 (.mv (.c .nils))] [2]) (.seq (oQ [M 7 0, O 8 (.call (.f n_s_Clone_api_Span_api_Span) [(.t 7)]), M 0 8] [7, 8]) (.seq (oQ [M 9 0, O 10 (.call (.f n_s_SortFunc_api_Span_api_Span) [(.t 9), (.f n_piece_merged_1)])] [9, 10]) (.seq (oQ [O 3 (.mv (.c .nils))] []) (.seq (.seq (oQ [M 11 0, O 12 (.len (.t 11)), O 13 (.mv (I 0))] [0]) (.block 0 (.loop 63960300 b_63960300))) (.seq (oQ [M 55 3, M 2 55] [3, 11, 12, 13, 14, 55]) .ret))))))⟩
def t_piece_Make : TFn := ⟨1, [.tmp 2, .tmp 3], (.seq (oQ [O 2 (.mv (.c .nils)), O 3 (.mv (I 0))] [2, 3]) (.seq (.seq (oQ [M 5 0, O 6 (.call (.f n_piece_all) [(.t 5)]), M 4 6] [5, 6]) (.seq (oQ [M 7 4, O 8 (.bin .neq (.t 7) (I 0))] [7]) (.cond (.t 8) (.seq (oQ [M 9 4, O 2 (.mv (.c .nils)), M 3 9] [0, 4, 8, 9]) .ret) .skip))) (.seq (oQ [M 10 0, O 11 (.call (.f n_piece_merged) [(.t 10)]), M 2 11, O 3 (.mv (I 0))] [0, 4, 8, 10, 11]) .ret)))⟩
def b_17365500 : TCode := (.seq (.seq (oQ [M 10 4, M 11 0, O 12 (.len (.t 11)), oX 13 .lss 10 12] [10, 11, 12]) (.cond (.t 13) .skip (.exit 0))) (.seq (.block 1 (.seq (.ops [M 16 0, M 17 4, O 18 (.bin .sub (.t 17) (I 1)), O 19 (.iad 4 (.t 16) (.t 18)), O 20 (.fad 2 (.t 19)), oT 21 2 20, M 22 0, M 23 4, O 24 (.iad 4 (.t 22) (.t 23)), O 25 (.fad 0 (.t 24)), oT 26 2 25, O 27 (.call (.f n_piece_order) [(.t 21), (.t 26)]), O 28 (.bin .geq (.t 27) (I 0))] [⟨3, (.agg [.i .i64, .i .i64, .i .i64, .i .i64]), 0⟩, ⟨5, (.agg [.i .i64, .i .i64, .i .i64, .i .i64]), 0⟩, ⟨8, (.agg [.i .i64, .i .i64, .i .i64, .i .i64]), 0⟩, ⟨10, (.agg [.i .i64, .i .i64, .i .i64, .i .i64]), 0⟩] [(0, 1), (0, 2), (0, 6), (1, 6), (2, 6), (3, 6), (4, 6), (5, 6), (0, 7), (1, 7), (2, 7), (3, 7), (4, 7), (5, 7), (6, 7), (0, 8), (1, 8), (2, 8), (3, 8), (4, 8), (5, 8), (0, 9), (1, 9), (2, 9), (3, 9), (4, 9), (5, 9), (0, 10), (1, 10), (2, 10), (3, 10), (4, 10), (5, 10)] [13, 16, 17, 18, 19, 20, 21, 22, 23, 24, 25, 26, 27]) (.cond (.t 28) (.seq (oQ [O 2 (.mv (I 8))] [0, 4, 28]) .ret) .skip))) (oQ [M 14 4, O 15 (.bin .add (.t 14) (I 1)), M 4 15] [14, 15, 28])))
def t_piece_Check : TFn := ⟨1, [.tmp 2], (.seq (oQ [O 2 (.mv (I 0))] [2]) (.seq (.seq (oQ [M 5 0, O 6 (.call (.f n_piece_all) [(.t 5)]), M 3 6] [5, 6]) (.seq (oQ [M 7 3, O 8 (.bin .neq (.t 7) (I 0))] [7]) (.cond (.t 8) (.seq (oQ [M 9 3, M 2 9] [0, 3, 8, 9]) .ret) .skip))) (.seq (.seq (oQ [O 4 (.mv (I 1))] [3, 8]) (.block 0 (.loop 17365500 b_17365500))) (.seq (oQ [O 2 (.mv (I 0))] [0, 4, 13]) .ret))))⟩
def t_piece_Has_1 : TFn := ⟨2, [.tmp 3], (.seq (oQ [O 2 (.boxL (.t 0)), O 3 (.mv (.c (.bool false)))] [0, 3]) (.seq (.ops [O 4 (.fad 0 (.t 2)), oT 5 2 4, oT 6 2 1, O 7 (.call (.f n_piece_order) [(.t 5), (.t 6)]), O 8 (.bin .leq (.t 7) (I 0)), M 9 8, ⟨some 10, (.load true 2 (.t 1)), some (9, true)⟩, ⟨some 11, (.fad 2 (.t 2)), some (9, true)⟩, ⟨some 12, (.load true 2 (.t 11)), some (9, true)⟩, ⟨some 13, (.call (.f n_piece_order) [(.t 10), (.t 12)]), some (9, true)⟩, ⟨some 14, (.bin .lss (.t 13) (I 0)), some (9, true)⟩, O 15 (.pick (.t 9) (.t 14) (.c (.bool false))), M 3 15] [⟨1, (.agg [.i .i64, .i .i64, .i .i64, .i .i64]), 0⟩, ⟨8, (.agg [.i .i64, .i .i64, .i .i64, .i .i64]), 0⟩] [] [1, 2, 4, 5, 6, 7, 8, 9, 10, 11, 12, 13, 14, 15]) .ret))⟩
def b_68674300 : TCode := (.seq (oQ [oX 9 .lss 8 7] []) (.seq (.cond (.t 9) .skip (.exit 0)) (.seq (.block 1 (.seq (oQ [M 10 8, M 5 10] [9, 10]) (.seq (.ops [M 11 1, M 12 0, M 13 5, O 14 (.iad 4 (.t 12) (.t 13)), oT 15 4 14, O 16 (.call (.t 11) [(.t 15)])] [⟨3, (.agg [.i .i64, .i .i64, .i .i64, .i .i64]), 0⟩, ⟨4, (.agg [.i .i64, .i .i64, .i .i64, .i .i64]), 0⟩] [] [11, 12, 13, 14, 15]) (.cond (.t 16) (.seq (oQ [M 17 5, M 4 17] [0, 1, 5, 7, 8, 16, 17]) .ret) .skip)))) (oQ [O 18 (.bin .add (.t 8) (I 1)), M 8 18] [5, 16, 18]))))
def t_s_IndexFunc_api_Span_api_Span : TFn := ⟨2, [.tmp 4], (.seq (oQ [O 4 (.mv (I 0))] [4]) (.seq (.seq (oQ [M 6 0, O 7 (.len (.t 6)), O 8 (.mv (I 0))] [6]) (.block 0 (.loop 68674300 b_68674300))) (.seq (oQ [O 4 (.mv (I (-1)))] [0, 1, 7, 8, 9]) .ret)))⟩
def t_s_ContainsFunc_api_Span_api_Span : TFn := ⟨2, [.tmp 4], (.seq (oQ [O 4 (.mv (.c (.bool false)))] [4]) (.seq (oQ [M 5 0, M 6 1, O 7 (.call (.f n_s_IndexFunc_api_Span_api_Span) [(.t 5), (.t 6)]), O 8 (.bin .geq (.t 7) (I 0)), M 4 8] [0, 1, 5, 6, 7, 8]) .ret))⟩
def t_piece_Has : TFn := ⟨2, [.tmp 4, .tmp 5], (.seq (oQ [O 3 (.boxH true 2 (.t 1)), O 4 (.mv (.c (.bool false))), O 5 (.mv (I 0))] [1, 4, 5]) (.seq (.seq (oQ [M 7 0, O 8 (.call (.f n_piece_Check) [(.t 7)]), M 6 8] [7, 8]) (.seq (oQ [M 9 6, O 10 (.bin .neq (.t 9) (I 0))] [9]) (.cond (.t 10) (.seq (oQ [M 11 6, O 4 (.mv (.c (.bool false))), M 5 11] [0, 3, 6, 10, 11]) .ret) .skip))) (.seq (.seq (.ops [oT 12 2 3, O 13 (.call (.f n_ratio_Check) [(.t 12)]), O 14 (.bin .neq (.t 13) (I 0))] [⟨0, (.agg [.i .i64, .i .i64]), 0⟩] [] [6, 10, 12, 13]) (.cond (.t 14) (.seq (oQ [O 4 (.mv (.c (.bool false))), O 5 (.mv (I 2))] [0, 3, 14]) .ret) .skip)) (.seq (oQ [M 15 0, O 16 (.mkFn (.func n_piece_Has_1) [] [(.t 3)]), O 17 (.call (.f n_s_ContainsFunc_api_Span_api_Span) [(.t 15), (.t 16)]), M 4 17, O 5 (.mv (I 0))] [0, 3, 14, 15, 16, 17]) .ret))))⟩
def t_piece_both : TFn := ⟨2, [.tmp 4], (.seq (oQ [O 4 (.mv (I 0))] [4]) (.seq (.seq (oQ [M 6 0, O 7 (.call (.f n_piece_Check) [(.t 6)]), M 5 7] [0, 6, 7]) (.seq (oQ [M 8 5, O 9 (.bin .neq (.t 8) (I 0))] [8]) (.cond (.t 9) (.seq (oQ [M 10 5, M 4 10] [1, 5, 9, 10]) .ret) .skip))) (.seq (oQ [M 11 1, O 12 (.call (.f n_piece_Check) [(.t 11)]), M 4 12] [1, 5, 9, 11, 12]) .ret)))⟩
def t_piece_few : TFn := ⟨1, [.tmp 2, .tmp 3], (.seq (oQ [O 2 (.mv (.c .nils)), O 3 (.mv (I 0))] [2, 3]) (.seq (.seq (oQ [M 4 0, O 5 (.len (.t 4)), O 6 (.bin .gtr (.t 5) (I 60))] [4, 5]) (.cond (.t 6) (.seq (oQ [O 2 (.mv (.c .nils)), O 3 (.mv (I 4))] [0, 6]) .ret) .skip)) (.seq (oQ [M 7 0, M 2 7, O 3 (.mv (I 0))] [0, 6, 7]) .ret)))⟩
def b_62787000 : TCode := (.seq (oQ [oX 30 .lss 29 28] []) (.seq (.cond (.t 30) .skip (.exit 2)) (.seq (.block 3 (.seq (.ops [O 31 (.iad 4 (.t 27) (.t 29)), oT 32 4 31, O 12 (.allocL (.agg [(.int .i64 (0)), (.int .i64 (0)), (.int .i64 (0)), (.int .i64 (0))])), ⟨none, (.store 4 (.t 12) (.t 32)), none⟩] [⟨0, (.agg [.i .i64, .i .i64, .i .i64, .i .i64]), 0⟩, ⟨1, (.agg [.i .i64, .i .i64, .i .i64, .i .i64]), 0⟩] [] [30, 31, 32]) (.seq (.seq (.ops [O 33 (.fad 2 (.t 12)), oT 34 2 33, oT 35 2 10, O 36 (.call (.f n_piece_order) [(.t 34), (.t 35)]), O 37 (.bin .leq (.t 36) (I 0)), M 38 37, ⟨some 39, (.fad 0 (.t 12)), some (38, false)⟩, ⟨some 40, (.load true 2 (.t 39)), some (38, false)⟩, ⟨some 41, (.fad 2 (.t 9)), some (38, false)⟩, ⟨some 42, (.load true 2 (.t 41)), some (38, false)⟩, ⟨some 43, (.call (.f n_piece_order) [(.t 40), (.t 42)]), some (38, false)⟩, ⟨some 44, (.bin .geq (.t 43) (I 0)), some (38, false)⟩, O 45 (.pick (.t 38) (.c (.bool true)) (.t 44))] [⟨1, (.agg [.i .i64, .i .i64, .i .i64, .i .i64]), 0⟩, ⟨7, (.agg [.i .i64, .i .i64, .i .i64, .i .i64]), 0⟩, ⟨9, (.agg [.i .i64, .i .i64, .i .i64, .i .i64]), 0⟩] [] [33, 34, 35, 36, 37, 38, 39, 40, 41, 42, 43, 44]) (.cond (.t 45) (.exit 3) .skip)) (.seq (.seq (.ops [oT 46 2 10, O 47 (.fad 0 (.t 12)), oT 48 2 47, O 49 (.call (.f n_piece_order) [(.t 46), (.t 48)]), O 50 (.bin .lss (.t 49) (I 0))] [⟨2, (.agg [.i .i64, .i .i64, .i .i64, .i .i64]), 0⟩] [] [45, 46, 47, 48, 49]) (.cond (.t 50) (.ops [M 51 7, oT 52 2 10, O 53 (.fad 0 (.t 12)), oT 54 2 53, O 55 (.build [(.int .i64 (0)), (.int .i64 (0)), (.int .i64 (0)), (.int .i64 (0))] [(0, 2, (.t 52)), (2, 2, (.t 54))]), O 56 (.buildD 4 (.agg [(.int .i64 (0)), (.int .i64 (0)), (.int .i64 (0)), (.int .i64 (0))]) 1 [(0, (.t 55))]), O 57 (.app true 4 32 (.t 51) (.t 56)), M 7 57] [⟨3, (.agg [.i .i64, .i .i64, .i .i64, .i .i64]), 0⟩] [] [50, 51, 52, 53, 54, 55, 56, 57]) .skip)) (.ops [O 58 (.fad 2 (.t 12)), oT 59 2 58, ⟨none, (.store 2 (.t 10) (.t 59)), none⟩] [⟨1, (.agg [.i .i64, .i .i64, .i .i64, .i .i64]), 0⟩] [] [12, 50, 58, 59]))))) (oQ [O 60 (.bin .add (.t 29) (I 1)), M 29 60] [12, 45, 60]))))
def b_62787001 : TCode := (.seq (oQ [oX 22 .lss 21 20] []) (.seq (.cond (.t 22) .skip (.exit 0)) (.seq (.block 1 (.seq (.ops [O 23 (.iad 4 (.t 19) (.t 21)), oT 24 4 23, O 9 (.allocL (.agg [(.int .i64 (0)), (.int .i64 (0)), (.int .i64 (0)), (.int .i64 (0))])), ⟨none, (.store 4 (.t 9) (.t 24)), none⟩] [⟨0, (.agg [.i .i64, .i .i64, .i .i64, .i .i64]), 0⟩, ⟨1, (.agg [.i .i64, .i .i64, .i .i64, .i .i64]), 0⟩] [] [22, 23, 24]) (.seq (.ops [O 25 (.fad 0 (.t 9)), oT 26 2 25, O 10 (.allocL (.agg [(.int .i64 (0)), (.int .i64 (0))])), ⟨none, (.store 2 (.t 10) (.t 26)), none⟩] [⟨1, (.agg [.i .i64, .i .i64, .i .i64, .i .i64]), 0⟩] [] [25, 26]) (.seq (.seq (oQ [M 27 1, O 28 (.len (.t 27)), O 29 (.mv (I 0))] []) (.block 2 (.loop 62787000 b_62787000))) (.seq (.ops [oT 61 2 10, O 62 (.fad 2 (.t 9)), oT 63 2 62, O 64 (.call (.f n_piece_order) [(.t 61), (.t 63)]), O 65 (.bin .lss (.t 64) (I 0))] [⟨2, (.agg [.i .i64, .i .i64, .i .i64, .i .i64]), 0⟩] [] [27, 28, 29, 30, 61, 62, 63, 64]) (.cond (.t 65) (.ops [M 66 7, oT 67 2 10, O 68 (.fad 2 (.t 9)), oT 69 2 68, O 70 (.build [(.int .i64 (0)), (.int .i64 (0)), (.int .i64 (0)), (.int .i64 (0))] [(0, 2, (.t 67)), (2, 2, (.t 69))]), O 71 (.buildD 4 (.agg [(.int .i64 (0)), (.int .i64 (0)), (.int .i64 (0)), (.int .i64 (0))]) 1 [(0, (.t 70))]), O 72 (.app true 4 32 (.t 66) (.t 71)), M 7 72] [⟨3, (.agg [.i .i64, .i .i64, .i .i64, .i .i64]), 0⟩] [] [9, 10, 65, 66, 67, 68, 69, 70, 71, 72]) .skip)))))) (oQ [O 73 (.bin .add (.t 21) (I 1)), M 21 73] [9, 10, 65, 73]))))
def t_piece_Minus : TFn := ⟨2, [.tmp 4, .tmp 5], (.seq (oQ [O 4 (.mv (.c .nils)), O 5 (.mv (I 0))] [4, 5]) (.seq (.seq (oQ [M 13 0, M 14 1, O 15 (.call (.f n_piece_both) [(.t 13), (.t 14)]), M 6 15] [13, 14, 15]) (.seq (oQ [M 16 6, O 17 (.bin .neq (.t 16) (I 0))] [16]) (.cond (.t 17) (.seq (oQ [M 18 6, O 4 (.mv (.c .nils)), M 5 18] [0, 1, 6, 17, 18]) .ret) .skip))) (.seq (oQ [O 7 (.mv (.c .nils))] [6, 17]) (.seq (.seq (oQ [M 19 0, O 20 (.len (.t 19)), O 21 (.mv (I 0))] [0]) (.block 0 (.loop 62787001 b_62787001))) (.seq (oQ [M 74 7, O 75 (.call (.f n_piece_few) [(.t 74)]), O 76 (.ext (.t 75) 0), O 77 (.ext (.t 75) 1), M 4 76, M 5 77] [1, 7, 19, 20, 21, 22, 74, 75, 76, 77]) .ret)))))⟩
def t_m_LeadingZeros64 : TFn := ⟨1, [.tmp 2], (.seq (oQ [O 2 (.mv (I 0))] [2]) (.seq (oQ [M 3 0, O 4 (.call (.f n_m_Len64) [(.t 3)]), O 5 (.bin .sub (I 64) (.t 4)), M 2 5] [0, 3, 4, 5]) .ret))⟩
def b_60530100 : TCode := (.seq (.seq (oQ [M 67 15, O 68 (.bin .geq (.t 67) (.c (.int .u64 (4294967296)))), M 69 68, ⟨some 70, (.mv (.t 15)), some (69, false)⟩, ⟨some 71, (.mv (.t 10)), some (69, false)⟩, ⟨some 72, (.bin .mul (.t 70) (.t 71)), some (69, false)⟩, ⟨some 73, (.mv (.t 16)), some (69, false)⟩, ⟨some 74, (.bin .mul (.c (.int .u64 (4294967296))) (.t 73)), some (69, false)⟩, ⟨some 75, (.mv (.t 13)), some (69, false)⟩, ⟨some 76, (.bin .add (.t 74) (.t 75)), some (69, false)⟩, ⟨some 77, (.bin .gtr (.t 72) (.t 76)), some (69, false)⟩, O 78 (.pick (.t 69) (.c (.bool true)) (.t 77))] [67, 68, 69, 70, 71, 72, 73, 74, 75, 76, 77, 85]) (.cond (.t 78) .skip (.exit 0))) (.block 1 (.seq (oQ [M 79 15, O 80 (.bin .sub (.t 79) (.c (.int .u64 (1)))), M 15 80] [78, 79, 80]) (.seq (oQ [M 81 16, M 82 9, oX 83 .add 81 82, M 16 83] [81, 82, 83]) (.seq (oQ [M 84 16, O 85 (.bin .geq (.t 84) (.c (.int .u64 (4294967296))))] [84]) (.cond (.t 85) (.exit 0) .skip))))))
def b_60530101 : TCode := (.seq (.seq (oQ [M 102 18, O 103 (.bin .geq (.t 102) (.c (.int .u64 (4294967296)))), M 104 103, ⟨some 105, (.mv (.t 18)), some (104, false)⟩, ⟨some 106, (.mv (.t 10)), some (104, false)⟩, ⟨some 107, (.bin .mul (.t 105) (.t 106)), some (104, false)⟩, ⟨some 108, (.mv (.t 16)), some (104, false)⟩, ⟨some 109, (.bin .mul (.c (.int .u64 (4294967296))) (.t 108)), some (104, false)⟩, ⟨some 110, (.mv (.t 14)), some (104, false)⟩, ⟨some 111, (.bin .add (.t 109) (.t 110)), some (104, false)⟩, ⟨some 112, (.bin .gtr (.t 107) (.t 111)), some (104, false)⟩, O 113 (.pick (.t 104) (.c (.bool true)) (.t 112))] [102, 103, 104, 105, 106, 107, 108, 109, 110, 111, 112, 120]) (.cond (.t 113) .skip (.exit 2))) (.block 3 (.seq (oQ [M 114 18, O 115 (.bin .sub (.t 114) (.c (.int .u64 (1)))), M 18 115] [113, 114, 115]) (.seq (oQ [M 116 16, M 117 9, oX 118 .add 116 117, M 16 118] [116, 117, 118]) (.seq (oQ [M 119 16, O 120 (.bin .geq (.t 119) (.c (.int .u64 (4294967296))))] [119]) (.cond (.t 120) (.exit 2) .skip))))))
def t_m_Div64 : TFn := ⟨3, [.tmp 6, .tmp 7], (.seq (oQ [O 6 (.mv (.c (.int .u64 (0)))), O 7 (.mv (.c (.int .u64 (0))))] [6, 7]) (.seq (.seq (oQ [M 19 2, O 20 (.bin .eql (.t 19) (.c (.int .u64 (0))))] [19]) (.cond (.t 20) (oQ [O 21 (.load false 1 (.g 0)), ⟨none, .bad, none⟩] [20, 21]) .skip)) (.seq (.seq (oQ [M 22 2, M 23 0, oX 24 .leq 22 23] [20, 22, 23]) (.cond (.t 24) (oQ [O 25 (.load false 1 (.g 1)), ⟨none, .bad, none⟩] [24, 25]) .skip)) (.seq (.seq (oQ [M 26 0, O 27 (.bin .eql (.t 26) (.c (.int .u64 (0))))] [24, 26]) (.cond (.t 27) (.seq (.ops [M 28 1, M 29 2, oX 30 .quo 28 29, M 31 1, M 32 2, oX 33 .rem 31 32, M 6 30, M 7 33] [] [(0, 1), (0, 3), (1, 3), (2, 3), (0, 4), (1, 4), (2, 4), (3, 4), (0, 5), (1, 5), (2, 5), (3, 6), (4, 6), (5, 6)] [0, 1, 2, 27, 28, 29, 30, 31, 32, 33]) .ret) .skip)) (.seq (oQ [M 34 2, O 35 (.call (.f n_m_LeadingZeros64) [(.t 34)]), O 36 (.conv .u64 (.t 35)), M 8 36] [27, 34, 35, 36]) (.seq (oQ [M 37 2, M 38 8, oX 39 .shl 37 38, M 2 39] [37, 38, 39]) (.seq (oQ [M 40 2, O 41 (.bin .shr (.t 40) (.c (.int .u64 (32)))), M 9 41] [40, 41]) (.seq (oQ [M 42 2, O 43 (.bin .and (.t 42) (.c (.int .u64 (4294967295)))), M 10 43] [42, 43]) (.seq (oQ [M 44 0, M 45 8, oX 46 .shl 44 45, M 47 1, M 48 8, O 49 (.bin .sub (.c (.int .u64 (64))) (.t 48)), oX 50 .shr 47 49, oX 51 .or 46 50, M 11 51] [0, 44, 45, 46, 47, 48, 49, 50, 51]) (.seq (oQ [M 52 1, M 53 8, oX 54 .shl 52 53, M 12 54] [1, 52, 53, 54]) (.seq (oQ [M 55 12, O 56 (.bin .shr (.t 55) (.c (.int .u64 (32)))), M 13 56] [55, 56]) (.seq (oQ [M 57 12, O 58 (.bin .and (.t 57) (.c (.int .u64 (4294967295)))), M 14 58] [12, 57, 58]) (.seq (oQ [M 59 11, M 60 9, oX 61 .quo 59 60, M 15 61] [59, 60, 61]) (.seq (oQ [M 62 11, M 63 15, M 64 9, oX 65 .mul 63 64, oX 66 .sub 62 65, M 16 66] [62, 63, 64, 65, 66]) (.seq (.block 0 (.loop 60530100 b_60530100)) (.seq (oQ [M 86 11, O 87 (.bin .mul (.t 86) (.c (.int .u64 (4294967296)))), M 88 13, oX 89 .add 87 88, M 90 15, M 91 2, oX 92 .mul 90 91, oX 93 .sub 89 92, M 17 93] [11, 13, 16, 78, 85, 86, 87, 88, 89, 90, 91, 92, 93]) (.seq (oQ [M 94 17, M 95 9, oX 96 .quo 94 95, M 18 96] [94, 95, 96]) (.seq (oQ [M 97 17, M 98 18, M 99 9, oX 100 .mul 98 99, oX 101 .sub 97 100, M 16 101] [97, 98, 99, 100, 101]) (.seq (.block 2 (.loop 60530101 b_60530101)) (.seq (oQ [M 121 15, O 122 (.bin .mul (.t 121) (.c (.int .u64 (4294967296)))), M 123 18, oX 124 .add 122 123, M 125 17, O 126 (.bin .mul (.t 125) (.c (.int .u64 (4294967296)))), M 127 14, oX 128 .add 126 127, M 129 18, M 130 2, oX 131 .mul 129 130, oX 132 .sub 128 131, M 133 8, oX 134 .shr 132 133, M 6 124, M 7 134] [2, 8, 9, 10, 14, 15, 16, 17, 18, 113, 120, 121, 122, 123, 124, 125, 126, 127, 128, 129, 130, 131, 132, 133, 134]) .ret))))))))))))))))))))⟩
def t_m_Rem64 : TFn := ⟨3, [.tmp 6], (.seq (oQ [O 6 (.mv (.c (.int .u64 (0))))] [6]) (.seq (oQ [M 10 0, M 11 2, oX 12 .rem 10 11, M 13 1, M 14 2, O 15 (.call (.f n_m_Div64) [(.t 12), (.t 13), (.t 14)]), M 9 15, O 16 (.ext (.t 9) 0), O 17 (.ext (.t 9) 1), M 7 16, M 8 17] [0, 1, 2, 7, 9, 10, 11, 12, 13, 14, 15, 16, 17]) (.seq (oQ [M 18 8, M 6 18] [8, 18]) .ret)))⟩
def t_ratio_signed : TFn := ⟨3, [.cell 6 true 2, .tmp 7], (.seq (oQ [O 6 (.allocL (.agg [(.int .i64 (0)), (.int .i64 (0))])), O 7 (.mv (I 0))] [7]) (.seq (.seq (oQ [M 8 1, M 9 2, O 10 (.minmax true [(.t 8), (.t 9)]), O 11 (.bin .gtr (.t 10) (.c (.int .u64 (1000000000000000000))))] [8, 9, 10]) (.cond (.t 11) (.seq (oQ [O 12 (.build [(.int .i64 (0)), (.int .i64 (0))] []), ⟨none, (.store 2 (.t 6) (.t 12)), none⟩, O 7 (.mv (I 16))] [0, 1, 2, 11, 12]) .ret) .skip)) (.seq (.seq (oQ [M 13 0] [0, 11]) (.cond (.t 13) (.seq (oQ [M 14 1, O 15 (.conv .i64 (.t 14)), O 16 (.un .neg (.t 15)), M 17 2, O 18 (.conv .i64 (.t 17)), O 19 (.build [(.int .i64 (0)), (.int .i64 (0))] [(0, 1, (.t 16)), (1, 1, (.t 18))]), ⟨none, (.store 2 (.t 6) (.t 19)), none⟩, O 7 (.mv (I 0))] [1, 2, 13, 14, 15, 16, 17, 18, 19]) .ret) .skip)) (.seq (oQ [M 20 1, O 21 (.conv .i64 (.t 20)), M 22 2, O 23 (.conv .i64 (.t 22)), O 24 (.build [(.int .i64 (0)), (.int .i64 (0))] [(0, 1, (.t 21)), (1, 1, (.t 23))]), ⟨none, (.store 2 (.t 6) (.t 24)), none⟩, O 7 (.mv (I 0))] [1, 2, 13, 20, 21, 22, 23, 24]) .ret))))⟩
def t_ratio_Add : TFn := ⟨2, [.cell 4 true 2, .tmp 5], (.seq (oQ [O 2 (.boxL (.t 0)), O 3 (.boxL (.t 1)), O 4 (.allocL (.agg [(.int .i64 (0)), (.int .i64 (0))])), O 5 (.mv (I 0))] [0, 1, 5]) (.seq (.seq (oQ [oT 21 2 2, oT 22 2 3, O 23 (.call (.f n_ratio_check) [(.t 21), (.t 22)]), M 6 23] [21, 22, 23]) (.seq (oQ [M 24 6, O 25 (.bin .neq (.t 24) (I 0))] [24]) (.cond (.t 25) (.seq (oQ [O 26 (.build [(.int .i64 (0)), (.int .i64 (0))] []), M 27 6, ⟨none, (.store 2 (.t 4) (.t 26)), none⟩, M 5 27] [2, 3, 6, 25, 26, 27]) .ret) .skip))) (.seq (.ops [O 28 (.fad 1 (.t 2)), oF 29 1 28, O 30 (.conv .u64 (.t 29)), O 31 (.fad 1 (.t 3)), oF 32 1 31, O 33 (.conv .u64 (.t 32)), O 34 (.call (.f n_ratio_gcd) [(.t 30), (.t 33)]), M 7 34] [⟨1, (.agg [.i .i64, .i .i64]), 0⟩, ⟨4, (.agg [.i .i64, .i .i64]), 0⟩] [] [6, 25, 28, 29, 30, 31, 32, 33, 34]) (.seq (.ops [O 36 (.fad 0 (.t 2)), oF 37 1 36, O 38 (.call (.f n_ratio_size) [(.t 37)]), O 39 (.fad 1 (.t 3)), oF 40 1 39, O 41 (.conv .u64 (.t 40)), M 42 7, oX 43 .quo 41 42, O 44 (.call (.f n_m_Mul64) [(.t 38), (.t 43)]), M 35 44, O 45 (.ext (.t 35) 0), O 46 (.ext (.t 35) 1), M 8 45, M 9 46] [⟨1, (.agg [.i .i64, .i .i64]), 0⟩, ⟨4, (.agg [.i .i64, .i .i64]), 0⟩] [(0, 3), (1, 3), (2, 3), (0, 4), (1, 4), (2, 4), (0, 5), (1, 5), (2, 5), (0, 6), (1, 6), (2, 6), (3, 6), (4, 6), (5, 6), (0, 7), (1, 7), (2, 7), (10, 11), (11, 12)] [35, 36, 37, 38, 39, 40, 41, 42, 43, 44, 45, 46]) (.seq (.ops [O 48 (.fad 0 (.t 3)), oF 49 1 48, O 50 (.call (.f n_ratio_size) [(.t 49)]), O 51 (.fad 1 (.t 2)), oF 52 1 51, O 53 (.conv .u64 (.t 52)), M 54 7, oX 55 .quo 53 54, O 56 (.call (.f n_m_Mul64) [(.t 50), (.t 55)]), M 47 56, O 57 (.ext (.t 47) 0), O 58 (.ext (.t 47) 1), M 10 57, M 11 58] [⟨1, (.agg [.i .i64, .i .i64]), 0⟩, ⟨4, (.agg [.i .i64, .i .i64]), 0⟩] [(0, 3), (1, 3), (2, 3), (0, 4), (1, 4), (2, 4), (0, 5), (1, 5), (2, 5), (0, 6), (1, 6), (2, 6), (3, 6), (4, 6), (5, 6), (0, 7), (1, 7), (2, 7), (10, 11), (11, 12)] [47, 48, 49, 50, 51, 52, 53, 54, 55, 56, 57, 58]) (.seq (.ops [O 59 (.fad 0 (.t 2)), oF 60 1 59, O 61 (.bin .lss (.t 60) (I 0)), M 12 61] [⟨1, (.agg [.i .i64, .i .i64]), 0⟩] [] [59, 60, 61]) (.seq (oQ [O 13 (.mv (.c (.int .u64 (0)))), O 14 (.mv (.c (.int .u64 (0)))), O 15 (.mv (.c (.int .u64 (0))))] [13, 14, 15]) (.seq (.seq (.ops [O 62 (.fad 0 (.t 2)), oF 63 1 62, O 64 (.bin .lss (.t 63) (I 0)), O 65 (.fad 0 (.t 3)), oF 66 1 65, O 67 (.bin .lss (.t 66) (I 0)), O 68 (.eqB false (.t 64) (.t 67))] [⟨1, (.agg [.i .i64, .i .i64]), 0⟩, ⟨4, (.agg [.i .i64, .i .i64]), 0⟩] [] [62, 63, 64, 65, 66, 67]) (.cond (.t 68) (.seq (oQ [M 70 9, M 71 11, O 72 (.call (.f n_m_Add64) [(.t 70), (.t 71), (.c (.int .u64 (0)))]), M 69 72, O 73 (.ext (.t 69) 0), O 74 (.ext (.t 69) 1), M 14 73, M 15 74] [9, 11, 68, 69, 70, 71, 72, 73, 74]) (oQ [M 76 8, M 77 10, M 78 15, O 79 (.call (.f n_m_Add64) [(.t 76), (.t 77), (.t 78)]), M 75 79, O 80 (.ext (.t 75) 0), O 81 (.ext (.t 75) 1), M 13 80] [8, 10, 15, 75, 76, 77, 78, 79, 80, 81])) (.seq (.seq (oQ [M 82 8, M 83 10, oX 84 .lss 82 83, M 85 84, ⟨some 86, (.mv (.t 8)), some (85, false)⟩, ⟨some 87, (.mv (.t 10)), some (85, false)⟩, ⟨some 88, (.bin .eql (.t 86) (.t 87)), some (85, false)⟩, ⟨some 89, (.mv (.t 88)), some (85, false)⟩, ⟨some 90, (.mv (.t 9)), some (89, true)⟩, ⟨some 91, (.mv (.t 11)), some (89, true)⟩, ⟨some 92, (.bin .lss (.t 90) (.t 91)), some (89, true)⟩, ⟨some 93, (.pick (.t 89) (.t 92) (.c (.bool false))), some (85, false)⟩, O 94 (.pick (.t 85) (.c (.bool true)) (.t 93))] [68, 82, 83, 84, 85, 86, 87, 88, 89, 90, 91, 92, 93]) (.cond (.t 94) (.seq (oQ [M 95 10, M 96 11, M 97 8, M 98 9, M 8 95, M 9 96, M 10 97, M 11 98] [94, 95, 96, 97, 98]) (oQ [M 99 12, O 100 (.un .not (.t 99)), M 12 100] [99, 100])) .skip)) (.seq (oQ [M 102 9, M 103 11, O 104 (.call (.f n_m_Sub64) [(.t 102), (.t 103), (.c (.int .u64 (0)))]), M 101 104, O 105 (.ext (.t 101) 0), O 106 (.ext (.t 101) 1), M 14 105, M 15 106] [9, 11, 94, 101, 102, 103, 104, 105, 106]) (oQ [M 108 8, M 109 10, M 110 15, O 111 (.call (.f n_m_Sub64) [(.t 108), (.t 109), (.t 110)]), M 107 111, O 112 (.ext (.t 107) 0), O 113 (.ext (.t 107) 1), M 13 112] [8, 10, 15, 107, 108, 109, 110, 111, 112, 113]))))) (.seq (.seq (oQ [M 114 13, O 115 (.bin .eql (.t 114) (.c (.int .u64 (0)))), M 116 115, ⟨some 117, (.mv (.t 14)), some (116, true)⟩, ⟨some 118, (.bin .eql (.t 117) (.c (.int .u64 (0)))), some (116, true)⟩, O 119 (.pick (.t 116) (.t 118) (.c (.bool false)))] [114, 115, 116, 117, 118]) (.cond (.t 119) (.seq (oQ [O 120 (.build [(.int .i64 (0)), (.int .i64 (0))] [(1, 1, (I 1))]), ⟨none, (.store 2 (.t 4) (.t 120)), none⟩, O 5 (.mv (I 0))] [2, 3, 7, 12, 13, 14, 119, 120]) .ret) .skip)) (.seq (oQ [M 121 13, M 122 14, M 123 7, O 124 (.call (.f n_m_Rem64) [(.t 121), (.t 122), (.t 123)]), M 125 7, O 126 (.call (.f n_ratio_gcd) [(.t 124), (.t 125)]), M 16 126] [119, 121, 122, 123, 124, 125, 126]) (.seq (.seq (oQ [M 127 13, M 128 16, oX 129 .geq 127 128] [127, 128]) (.cond (.t 129) (.seq (oQ [O 130 (.build [(.int .i64 (0)), (.int .i64 (0))] []), ⟨none, (.store 2 (.t 4) (.t 130)), none⟩, O 5 (.mv (I 16))] [2, 3, 7, 12, 13, 14, 16, 129, 130]) .ret) .skip)) (.seq (oQ [M 132 13, M 133 14, M 134 16, O 135 (.call (.f n_m_Div64) [(.t 132), (.t 133), (.t 134)]), M 131 135, O 136 (.ext (.t 131) 0), O 137 (.ext (.t 131) 1), M 17 136, M 18 137] [13, 14, 18, 129, 131, 132, 133, 134, 135, 136, 137]) (.seq (.ops [O 139 (.fad 1 (.t 2)), oF 140 1 139, O 141 (.conv .u64 (.t 140)), M 142 7, oX 143 .quo 141 142, O 144 (.fad 1 (.t 3)), oF 145 1 144, O 146 (.conv .u64 (.t 145)), M 147 16, oX 148 .quo 146 147, O 149 (.call (.f n_m_Mul64) [(.t 143), (.t 148)]), M 138 149, O 150 (.ext (.t 138) 0), O 151 (.ext (.t 138) 1), M 19 150, M 20 151] [⟨1, (.agg [.i .i64, .i .i64]), 0⟩, ⟨6, (.agg [.i .i64, .i .i64]), 0⟩] [(0, 3), (1, 3), (2, 3), (0, 5), (1, 5), (2, 5), (3, 5), (4, 5), (0, 6), (1, 6), (2, 6), (3, 6), (4, 6), (0, 7), (1, 7), (2, 7), (3, 7), (4, 7), (0, 8), (1, 8), (2, 8), (3, 8), (4, 8), (5, 8), (6, 8), (7, 8), (0, 9), (1, 9), (2, 9), (3, 9), (4, 9), (12, 13), (13, 14)] [2, 3, 7, 16, 138, 139, 140, 141, 142, 143, 144, 145, 146, 147, 148, 149, 150, 151]) (.seq (.seq (oQ [M 152 19, O 153 (.bin .gtr (.t 152) (.c (.int .u64 (0))))] [19, 152]) (.cond (.t 153) (.seq (oQ [O 154 (.build [(.int .i64 (0)), (.int .i64 (0))] []), ⟨none, (.store 2 (.t 4) (.t 154)), none⟩, O 5 (.mv (I 16))] [12, 17, 20, 153, 154]) .ret) .skip)) (.seq (oQ [M 155 12, M 156 17, M 157 20, O 158 (.call (.f n_ratio_signed) [(.t 155), (.t 156), (.t 157)]), O 159 (.ext (.t 158) 0), O 160 (.ext (.t 158) 1), ⟨none, (.store 2 (.t 4) (.t 159)), none⟩, M 5 160] [12, 17, 20, 153, 155, 156, 157, 158, 159, 160]) .ret)))))))))))))))⟩
def b_87165700 : TCode := (.seq (oQ [oX 15 .lss 14 13] []) (.seq (.cond (.t 15) .skip (.exit 0)) (.seq (.block 1 (.seq (.ops [O 16 (.iad 4 (.t 12) (.t 14)), oT 17 4 16, O 8 (.allocL (.agg [(.int .i64 (0)), (.int .i64 (0)), (.int .i64 (0)), (.int .i64 (0))])), ⟨none, (.store 4 (.t 8) (.t 17)), none⟩] [⟨0, (.agg [.i .i64, .i .i64, .i .i64, .i .i64]), 0⟩, ⟨1, (.agg [.i .i64, .i .i64, .i .i64, .i .i64]), 0⟩] [] [15, 16, 17]) (.seq (oQ [M 19 1, oT 20 4 8, O 21 (.call (.t 19) [(.t 20)]), M 18 21, O 22 (.ext (.t 18) 0), O 23 (.ext (.t 18) 1), O 9 (.allocL (.agg [(.int .i64 (0)), (.int .i64 (0))])), ⟨none, (.store 2 (.t 9) (.t 22)), none⟩, M 10 23] [8, 18, 19, 20, 21, 22, 23]) (.seq (.seq (oQ [M 24 10, O 25 (.bin .neq (.t 24) (I 0))] [24]) (.cond (.t 25) (.seq (oQ [O 26 (.build [(.int .i64 (0)), (.int .i64 (0))] []), M 27 10, ⟨none, (.store 2 (.t 4) (.t 26)), none⟩, M 5 27] [1, 6, 9, 10, 12, 13, 14, 25, 26, 27]) .ret) .skip)) (.seq (oQ [oT 29 2 6, oT 30 2 9, O 31 (.call (.f n_ratio_Add) [(.t 29), (.t 30)]), M 28 31, O 32 (.ext (.t 28) 0), O 33 (.ext (.t 28) 1), ⟨none, (.store 2 (.t 6) (.t 32)), none⟩, M 10 33] [9, 25, 28, 29, 30, 31, 32, 33]) (.seq (oQ [M 34 10, O 35 (.bin .neq (.t 34) (I 0))] [34]) (.cond (.t 35) (.seq (oQ [O 36 (.build [(.int .i64 (0)), (.int .i64 (0))] []), M 37 10, ⟨none, (.store 2 (.t 4) (.t 36)), none⟩, M 5 37] [1, 6, 10, 12, 13, 14, 35, 36, 37]) .ret) .skip))))))) (oQ [O 38 (.bin .add (.t 14) (I 1)), M 14 38] [10, 35, 38]))))
def t_piece_sum : TFn := ⟨2, [.cell 4 true 2, .tmp 5], (.seq (oQ [O 4 (.allocL (.agg [(.int .i64 (0)), (.int .i64 (0))])), O 5 (.mv (I 0))] [5]) (.seq (oQ [O 11 (.build [(.int .i64 (0)), (.int .i64 (0))] [(1, 1, (I 1))]), O 6 (.allocL (.agg [(.int .i64 (0)), (.int .i64 (0))])), ⟨none, (.store 2 (.t 6) (.t 11)), none⟩] [11]) (.seq (.seq (oQ [M 12 0, O 13 (.len (.t 12)), O 14 (.mv (I 0))] [0]) (.block 0 (.loop 87165700 b_87165700))) (.seq (oQ [oT 39 2 6, ⟨none, (.store 2 (.t 4) (.t 39)), none⟩, O 5 (.mv (I 0))] [1, 6, 12, 13, 14, 15, 39]) .ret))))⟩
def t_ratio_Sub : TFn := ⟨2, [.cell 4 true 2, .tmp 5], (.seq (oQ [O 2 (.boxL (.t 0)), O 3 (.boxL (.t 1)), O 4 (.allocL (.agg [(.int .i64 (0)), (.int .i64 (0))])), O 5 (.mv (I 0))] [0, 1, 5]) (.seq (.seq (oQ [oT 7 2 2, oT 8 2 3, O 9 (.call (.f n_ratio_check) [(.t 7), (.t 8)]), M 6 9] [7, 8, 9]) (.seq (oQ [M 10 6, O 11 (.bin .neq (.t 10) (I 0))] [10]) (.cond (.t 11) (.seq (oQ [O 12 (.build [(.int .i64 (0)), (.int .i64 (0))] []), M 13 6, ⟨none, (.store 2 (.t 4) (.t 12)), none⟩, M 5 13] [2, 3, 6, 11, 12, 13]) .ret) .skip))) (.seq (.ops [O 14 (.fad 0 (.t 3)), oF 15 1 14, O 16 (.un .neg (.t 15)), O 17 (.fad 0 (.t 3)), ⟨none, (.store 1 (.t 17) (.t 16)), none⟩] [⟨1, (.agg [.i .i64, .i .i64]), 0⟩, ⟨4, (.agg [.i .i64, .i .i64]), 0⟩] [] [6, 11, 14, 15, 16, 17]) (.seq (oQ [oT 18 2 2, oT 19 2 3, O 20 (.call (.f n_ratio_Add) [(.t 18), (.t 19)]), O 21 (.ext (.t 20) 0), O 22 (.ext (.t 20) 1), ⟨none, (.store 2 (.t 4) (.t 21)), none⟩, M 5 22] [2, 3, 18, 19, 20, 21, 22]) .ret))))⟩
def t_piece_Length_1 : TFn := ⟨1, [.cell 2 true 2, .tmp 3], (.seq (oQ [O 1 (.boxL (.t 0)), O 2 (.allocL (.agg [(.int .i64 (0)), (.int .i64 (0))])), O 3 (.mv (I 0))] [0, 3]) (.seq (.ops [O 4 (.fad 2 (.t 1)), oT 5 2 4, O 6 (.fad 0 (.t 1)), oT 7 2 6, O 8 (.call (.f n_ratio_Sub) [(.t 5), (.t 7)]), O 9 (.ext (.t 8) 0), O 10 (.ext (.t 8) 1), ⟨none, (.store 2 (.t 2) (.t 9)), none⟩, M 3 10] [⟨1, (.agg [.i .i64, .i .i64, .i .i64, .i .i64]), 0⟩, ⟨3, (.agg [.i .i64, .i .i64, .i .i64, .i .i64]), 0⟩] [] [1, 4, 5, 6, 7, 8, 9, 10]) .ret))⟩
def t_piece_Length : TFn := ⟨1, [.cell 2 true 2, .tmp 3], (.seq (oQ [O 2 (.allocL (.agg [(.int .i64 (0)), (.int .i64 (0))])), O 3 (.mv (I 0))] [3]) (.seq (.seq (oQ [M 5 0, O 6 (.call (.f n_piece_Check) [(.t 5)]), M 4 6] [5, 6]) (.seq (oQ [M 7 4, O 8 (.bin .neq (.t 7) (I 0))] [7]) (.cond (.t 8) (.seq (oQ [O 9 (.build [(.int .i64 (0)), (.int .i64 (0))] []), M 10 4, ⟨none, (.store 2 (.t 2) (.t 9)), none⟩, M 3 10] [0, 4, 8, 9, 10]) .ret) .skip))) (.seq (oQ [M 11 0, O 12 (.call (.f n_piece_sum) [(.t 11), (.f n_piece_Length_1)]), O 13 (.ext (.t 12) 0), O 14 (.ext (.t 12) 1), ⟨none, (.store 2 (.t 2) (.t 13)), none⟩, M 3 14] [0, 4, 8, 11, 12, 13, 14]) .ret)))⟩
def t_piece_sooner : TFn := ⟨2, [.cell 4 true 2], (.seq (oQ [O 2 (.boxL (.t 0)), O 3 (.boxL (.t 1)), O 4 (.allocL (.agg [(.int .i64 (0)), (.int .i64 (0))]))] [0, 1]) (.seq (.seq (oQ [oT 5 2 2, oT 6 2 3, O 7 (.call (.f n_piece_order) [(.t 5), (.t 6)]), O 8 (.bin .lss (.t 7) (I 0))] [5, 6, 7]) (.cond (.t 8) (.seq (oQ [oT 9 2 2, ⟨none, (.store 2 (.t 4) (.t 9)), none⟩] [2, 3, 8, 9]) .ret) .skip)) (.seq (oQ [oT 10 2 3, ⟨none, (.store 2 (.t 4) (.t 10)), none⟩] [2, 3, 8, 10]) .ret)))⟩
def t_piece_later : TFn := ⟨2, [.cell 4 true 2], (.seq (oQ [O 2 (.boxL (.t 0)), O 3 (.boxL (.t 1)), O 4 (.allocL (.agg [(.int .i64 (0)), (.int .i64 (0))]))] [0, 1]) (.seq (.seq (oQ [oT 5 2 2, oT 6 2 3, O 7 (.call (.f n_piece_order) [(.t 5), (.t 6)]), O 8 (.bin .lss (.t 7) (I 0))] [5, 6, 7]) (.cond (.t 8) (.seq (oQ [oT 9 2 3, ⟨none, (.store 2 (.t 4) (.t 9)), none⟩] [2, 3, 8, 9]) .ret) .skip)) (.seq (oQ [oT 10 2 2, ⟨none, (.store 2 (.t 4) (.t 10)), none⟩] [2, 3, 8, 10]) .ret)))⟩
def b_4793600 : TCode := (.seq (oQ [oX 23 .lss 22 21] []) (.seq (.cond (.t 23) .skip (.exit 0)) (.seq (.block 1 (.seq (.ops [O 24 (.iad 4 (.t 20) (.t 22)), oT 25 4 24, O 9 (.allocL (.agg [(.int .i64 (0)), (.int .i64 (0)), (.int .i64 (0)), (.int .i64 (0))])), ⟨none, (.store 4 (.t 9) (.t 25)), none⟩] [⟨0, (.agg [.i .i64, .i .i64, .i .i64, .i .i64]), 0⟩, ⟨1, (.agg [.i .i64, .i .i64, .i .i64, .i .i64]), 0⟩] [] [23, 24, 25]) (.seq (.seq (.ops [O 26 (.fad 0 (.t 9)), oT 27 2 26, O 28 (.fad 2 (.t 9)), oT 29 2 28, oT 30 2 3, O 31 (.call (.f n_piece_sooner) [(.t 29), (.t 30)]), O 32 (.build [(.int .i64 (0)), (.int .i64 (0)), (.int .i64 (0)), (.int .i64 (0))] [(0, 2, (.t 27)), (2, 2, (.t 31))]), O 10 (.allocL (.agg [(.int .i64 (0)), (.int .i64 (0)), (.int .i64 (0)), (.int .i64 (0))])), ⟨none, (.store 4 (.t 10) (.t 32)), none⟩] [⟨1, (.agg [.i .i64, .i .i64, .i .i64, .i .i64]), 0⟩, ⟨3, (.agg [.i .i64, .i .i64, .i .i64, .i .i64]), 0⟩] [(0, 2), (1, 2), (0, 3), (1, 3), (0, 4), (1, 4), (2, 4), (3, 4), (0, 5), (1, 5), (0, 7), (1, 7), (2, 7), (3, 7), (4, 7), (5, 7), (6, 7)] [26, 27, 28, 29, 30, 31, 32]) (.seq (oQ [oT 33 4 10, O 34 (.call (.f n_piece_valid) [(.t 33)])] [33]) (.cond (.t 34) (oQ [M 35 4, oT 36 4 10, O 37 (.buildD 4 (.agg [(.int .i64 (0)), (.int .i64 (0)), (.int .i64 (0)), (.int .i64 (0))]) 1 [(0, (.t 36))]), O 38 (.app true 4 32 (.t 35) (.t 37)), M 4 38] [10, 34, 35, 36, 37, 38]) .skip))) (.seq (.ops [O 39 (.fad 0 (.t 9)), oT 40 2 39, oT 41 2 3, O 42 (.call (.f n_piece_later) [(.t 40), (.t 41)]), O 43 (.fad 2 (.t 9)), oT 44 2 43, O 45 (.build [(.int .i64 (0)), (.int .i64 (0)), (.int .i64 (0)), (.int .i64 (0))] [(0, 2, (.t 42)), (2, 2, (.t 44))]), O 11 (.allocL (.agg [(.int .i64 (0)), (.int .i64 (0)), (.int .i64 (0)), (.int .i64 (0))])), ⟨none, (.store 4 (.t 11) (.t 45)), none⟩] [⟨1, (.agg [.i .i64, .i .i64, .i .i64, .i .i64]), 0⟩, ⟨5, (.agg [.i .i64, .i .i64, .i .i64, .i .i64]), 0⟩] [(0, 2), (1, 2), (0, 4), (1, 4), (2, 4), (3, 4), (0, 5), (1, 5), (2, 5), (3, 5), (0, 7), (1, 7), (2, 7), (3, 7), (4, 7), (5, 7), (6, 7)] [9, 10, 34, 39, 40, 41, 42, 43, 44, 45]) (.seq (oQ [oT 46 4 11, O 47 (.call (.f n_piece_valid) [(.t 46)])] [46]) (.cond (.t 47) (oQ [M 48 5, oT 49 4 11, O 50 (.buildD 4 (.agg [(.int .i64 (0)), (.int .i64 (0)), (.int .i64 (0)), (.int .i64 (0))]) 1 [(0, (.t 49))]), O 51 (.app true 4 32 (.t 48) (.t 50)), M 5 51] [11, 47, 48, 49, 50, 51]) .skip)))))) (oQ [O 52 (.bin .add (.t 22) (I 1)), M 22 52] [11, 47, 52]))))
def t_piece_Cut : TFn := ⟨2, [.tmp 4, .tmp 5, .tmp 6], (.seq (oQ [O 3 (.boxL (.t 1)), O 4 (.mv (.c .nils)), O 5 (.mv (.c .nils)), O 6 (.mv (I 0))] [1, 6]) (.seq (.seq (oQ [M 12 0, O 13 (.call (.f n_piece_Check) [(.t 12)]), M 7 13] [12, 13]) (.seq (oQ [M 14 7, O 15 (.bin .neq (.t 14) (I 0))] [14]) (.cond (.t 15) (.seq (oQ [M 16 7, O 4 (.mv (.c .nils)), O 5 (.mv (.c .nils)), M 6 16] [0, 3, 7, 15, 16]) .ret) .skip))) (.seq (.seq (oQ [oT 17 2 3, O 18 (.call (.f n_ratio_Check) [(.t 17)]), O 19 (.bin .neq (.t 18) (I 0))] [7, 15, 17, 18]) (.cond (.t 19) (.seq (oQ [O 4 (.mv (.c .nils)), O 5 (.mv (.c .nils)), O 6 (.mv (I 2))] [0, 3, 19]) .ret) .skip)) (.seq (.seq (oQ [M 20 0, O 21 (.len (.t 20)), O 22 (.mv (I 0))] [0, 19]) (.block 0 (.loop 4793600 b_4793600))) (.seq (oQ [M 53 4, M 54 5, M 4 53, M 5 54, O 6 (.mv (I 0))] [3, 20, 21, 22, 23, 53, 54]) .ret)))))⟩
def b_27088800 : TCode := (.seq (.seq (oQ [M 11 5, M 12 0, O 13 (.len (.t 12)), oX 14 .lss 11 13] [11, 12, 13]) (.cond (.t 14) .skip (.exit 0))) (.seq (.block 1 (.seq (.ops [M 17 0, M 18 5, O 19 (.iad 4 (.t 17) (.t 18)), oT 20 4 19, M 21 1, M 22 5, O 23 (.iad 4 (.t 21) (.t 22)), oT 24 4 23, O 25 (.eqA true 4 [(0, (some .i64)), (1, (some .i64)), (2, (some .i64)), (3, (some .i64))] (.t 20) (.t 24))] [⟨2, (.agg [.i .i64, .i .i64, .i .i64, .i .i64]), 0⟩, ⟨3, (.agg [.i .i64, .i .i64, .i .i64, .i .i64]), 0⟩, ⟨6, (.agg [.i .i64, .i .i64, .i .i64, .i .i64]), 0⟩, ⟨7, (.agg [.i .i64, .i .i64, .i .i64, .i .i64]), 0⟩] [(0, 1), (0, 4), (1, 4), (2, 4), (3, 4), (0, 5), (1, 5), (2, 5), (3, 5), (4, 5), (0, 6), (1, 6), (2, 6), (3, 6), (0, 7), (1, 7), (2, 7), (3, 7)] [14, 17, 18, 19, 20, 21, 22, 23, 24]) (.cond (.t 25) (.seq (oQ [O 4 (.mv (.c (.bool false)))] [0, 1, 5, 25]) .ret) .skip))) (oQ [M 15 5, O 16 (.bin .add (.t 15) (I 1)), M 5 16] [15, 16, 25])))
def t_r03_Same : TFn := ⟨2, [.tmp 4], (.seq (oQ [O 4 (.mv (.c (.bool false)))] [4]) (.seq (.seq (oQ [M 6 0, O 7 (.len (.t 6)), M 8 1, O 9 (.len (.t 8)), oX 10 .neq 7 9] [6, 7, 8, 9]) (.cond (.t 10) (.seq (oQ [O 4 (.mv (.c (.bool false)))] [0, 1, 10]) .ret) .skip)) (.seq (.seq (oQ [O 5 (.mv (I 0))] [10]) (.block 0 (.loop 27088800 b_27088800))) (.seq (oQ [O 4 (.mv (.c (.bool true)))] [0, 1, 5, 14]) .ret))))⟩
def t_l03_is : TFn := ⟨3, [.tmp 6], (.seq (oQ [O 6 (.mv (.c (.bool false)))] [6]) (.seq (oQ [M 7 1, O 8 (.bin .eql (.t 7) (I 0)), M 9 8, ⟨some 10, (.mv (.t 0)), some (9, true)⟩, ⟨some 11, (.mv (.t 2)), some (9, true)⟩, ⟨some 12, (.call (.f n_r03_Same) [(.t 10), (.t 11)]), some (9, true)⟩, O 13 (.pick (.t 9) (.t 12) (.c (.bool false))), M 6 13] [0, 1, 2, 7, 8, 9, 10, 11, 12, 13]) .ret))⟩
def t_l03_alive : TFn := ⟨0, [.tmp 0], (.seq (oQ [O 0 (.mv (.c (.bool false)))] [0]) (.seq (oQ [O 15 (.call (.f n_l03_of) [(I 2), (I 5)]), O 16 (.call (.f n_l03_of) [(I 0), (I 1)]), O 17 (.call (.f n_l03_of) [(I 1), (I 2)]), O 18 (.buildD 4 (.agg [(.int .i64 (0)), (.int .i64 (0)), (.int .i64 (0)), (.int .i64 (0))]) 3 [(0, (.t 15)), (1, (.t 16)), (2, (.t 17))]), O 19 (.call (.f n_piece_Make) [(.t 18)]), M 14 19, O 20 (.ext (.t 14) 0), O 21 (.ext (.t 14) 1), M 1 20, M 2 21] [14, 15, 16, 17, 18, 19, 20, 21]) (.seq (oQ [M 23 1, O 24 (.call (.f n_l03_of) [(I 4), (I 5)]), O 25 (.fld true 2 0 (.t 24)), O 26 (.call (.f n_piece_Has) [(.t 23), (.t 25)]), M 22 26, O 27 (.ext (.t 22) 0), O 28 (.ext (.t 22) 1), M 3 27, M 4 28] [22, 23, 24, 25, 26, 27, 28]) (.seq (oQ [M 30 1, O 31 (.call (.f n_l03_of) [(I 4), (I 5)]), O 32 (.fld true 2 2 (.t 31)), O 33 (.call (.f n_piece_Has) [(.t 30), (.t 32)]), M 29 33, O 34 (.ext (.t 29) 0), O 35 (.ext (.t 29) 1), M 5 34, M 6 35] [29, 30, 31, 32, 33, 34, 35]) (.seq (oQ [M 37 1, O 38 (.call (.f n_l03_of) [(I 1), (I 2)]), O 39 (.buildD 4 (.agg [(.int .i64 (0)), (.int .i64 (0)), (.int .i64 (0)), (.int .i64 (0))]) 1 [(0, (.t 38))]), O 40 (.call (.f n_piece_Minus) [(.t 37), (.t 39)]), M 36 40, O 41 (.ext (.t 36) 0), O 42 (.ext (.t 36) 1), M 7 41, M 8 42] [36, 37, 38, 39, 40, 41, 42]) (.seq (oQ [M 44 7, O 45 (.call (.f n_piece_Length) [(.t 44)]), M 43 45, O 46 (.ext (.t 43) 0), O 47 (.ext (.t 43) 1), O 9 (.allocL (.agg [(.int .i64 (0)), (.int .i64 (0))])), ⟨none, (.store 2 (.t 9) (.t 46)), none⟩, M 10 47] [43, 44, 45, 46, 47]) (.seq (oQ [M 49 7, O 50 (.call (.f n_l03_of) [(I 3), (I 4)]), O 51 (.fld true 2 0 (.t 50)), O 52 (.call (.f n_piece_Cut) [(.t 49), (.t 51)]), M 48 52, O 53 (.ext (.t 48) 0), O 54 (.ext (.t 48) 1), O 55 (.ext (.t 48) 2), M 11 53, M 12 54, M 13 55] [48, 49, 50, 51, 52, 53, 54, 55]) (.seq (oQ [M 56 1, M 57 2, O 58 (.call (.f n_l03_of) [(I 0), (I 5)]), O 59 (.buildD 4 (.agg [(.int .i64 (0)), (.int .i64 (0)), (.int .i64 (0)), (.int .i64 (0))]) 1 [(0, (.t 58))]), O 60 (.call (.f n_l03_is) [(.t 56), (.t 57), (.t 59)]), M 61 60, ⟨some 62, (.mv (.t 4)), some (61, true)⟩, ⟨some 63, (.bin .eql (.t 62) (I 0)), some (61, true)⟩, O 64 (.pick (.t 61) (.t 63) (.c (.bool false))), M 65 64, ⟨some 66, (.mv (.t 3)), some (65, true)⟩, O 67 (.pick (.t 65) (.t 66) (.c (.bool false))), M 68 67, ⟨some 69, (.mv (.t 6)), some (68, true)⟩, ⟨some 70, (.bin .eql (.t 69) (I 0)), some (68, true)⟩, O 71 (.pick (.t 68) (.t 70) (.c (.bool false))), M 72 71, ⟨some 73, (.mv (.t 5)), some (72, true)⟩, ⟨some 74, (.un .not (.t 73)), some (72, true)⟩, O 75 (.pick (.t 72) (.t 74) (.c (.bool false))), M 76 75, ⟨some 77, (.mv (.t 7)), some (76, true)⟩, ⟨some 78, (.mv (.t 8)), some (76, true)⟩, ⟨some 79, (.call (.f n_l03_of) [(I 0), (I 1)]), some (76, true)⟩, ⟨some 80, (.call (.f n_l03_of) [(I 2), (I 5)]), some (76, true)⟩, ⟨some 81, (.buildD 4 (.agg [(.int .i64 (0)), (.int .i64 (0)), (.int .i64 (0)), (.int .i64 (0))]) 2 [(0, (.t 79)), (1, (.t 80))]), some (76, true)⟩, ⟨some 82, (.call (.f n_l03_is) [(.t 77), (.t 78), (.t 81)]), some (76, true)⟩, O 83 (.pick (.t 76) (.t 82) (.c (.bool false))), M 84 83, ⟨some 85, (.mv (.t 10)), some (84, true)⟩, ⟨some 86, (.bin .eql (.t 85) (I 0)), some (84, true)⟩, O 87 (.pick (.t 84) (.t 86) (.c (.bool false))), M 88 87, ⟨some 89, (.load true 2 (.t 9)), some (88, true)⟩, ⟨some 90, (.build [(.int .i64 (0)), (.int .i64 (0))] [(0, 1, (I 4)), (1, 1, (I 1))]), some (88, true)⟩, ⟨some 91, (.eqA false 2 [(0, (some .i64)), (1, (some .i64))] (.t 89) (.t 90)), some (88, true)⟩, O 92 (.pick (.t 88) (.t 91) (.c (.bool false))), M 93 92, ⟨some 94, (.mv (.t 11)), some (93, true)⟩, ⟨some 95, (.mv (.t 13)), some (93, true)⟩, ⟨some 96, (.call (.f n_l03_of) [(I 0), (I 1)]), some (93, true)⟩, ⟨some 97, (.call (.f n_l03_of) [(I 2), (I 3)]), some (93, true)⟩, ⟨some 98, (.buildD 4 (.agg [(.int .i64 (0)), (.int .i64 (0)), (.int .i64 (0)), (.int .i64 (0))]) 2 [(0, (.t 96)), (1, (.t 97))]), some (93, true)⟩, ⟨some 99, (.call (.f n_l03_is) [(.t 94), (.t 95), (.t 98)]), some (93, true)⟩, O 100 (.pick (.t 93) (.t 99) (.c (.bool false))), M 101 100, ⟨some 102, (.mv (.t 12)), some (101, true)⟩, ⟨some 103, (.mv (.t 13)), some (101, true)⟩, ⟨some 104, (.call (.f n_l03_of) [(I 3), (I 5)]), some (101, true)⟩, ⟨some 105, (.buildD 4 (.agg [(.int .i64 (0)), (.int .i64 (0)), (.int .i64 (0)), (.int .i64 (0))]) 1 [(0, (.t 104))]), some (101, true)⟩, ⟨some 106, (.call (.f n_l03_is) [(.t 102), (.t 103), (.t 105)]), some (101, true)⟩, O 107 (.pick (.t 101) (.t 106) (.c (.bool false))), M 0 107] [1, 2, 3, 4, 5, 6, 7, 8, 9, 10, 11, 12, 13, 56, 57, 58, 59, 60, 61, 62, 63, 64, 65, 66, 67, 68, 69, 70, 71, 72, 73, 74, 75, 76, 77, 78, 79, 80, 81, 82, 83, 84, 85, 86, 87, 88, 89, 90, 91, 92, 93, 94, 95, 96, 97, 98, 99, 100, 101, 102, 103, 104, 105, 106, 107]) .ret))))))))⟩
def t_s_Grow_api_Span_api_Span : TFn := ⟨2, [.tmp 4], (.seq (oQ [O 4 (.mv (.c .nils))] [4]) (.seq (.seq (oQ [M 5 1, O 6 (.bin .lss (.t 5) (I 0))] [5]) (.cond (.t 6) (oQ [⟨some 7, .bad, none⟩, ⟨none, .bad, none⟩] [6, 7]) .skip)) (.seq (.seq (oQ [M 8 1, M 9 0, O 10 (.cap (.t 9)), M 11 0, O 12 (.len (.t 11)), oX 13 .sub 10 12, oX 14 .sub 8 13, M 1 14] [6, 8, 9, 10, 11, 12, 13, 14]) (.seq (oQ [M 15 1, O 16 (.bin .gtr (.t 15) (I 0))] [15]) (.cond (.t 16) (oQ [M 17 0, M 18 0, O 19 (.cap (.t 18)), O 20 (.slc 4 (.t 17) none (some (.t 19)) none), M 21 1, O 22 (.appZ true 4 32 (.agg [(.int .i64 (0)), (.int .i64 (0)), (.int .i64 (0)), (.int .i64 (0))]) (.t 20) (.t 21)), M 23 0, O 24 (.len (.t 23)), O 25 (.slc 4 (.t 22) none (some (.t 24)) none), M 0 25] [1, 16, 17, 18, 19, 20, 21, 22, 23, 24, 25]) .skip))) (.seq (oQ [M 26 0, M 4 26] [0, 1, 16, 26]) .ret))))⟩
def b_14451100 : TCode := (.seq (oQ [oX 12 .lss 11 10] []) (.seq (.cond (.t 12) .skip (.exit 0)) (.seq (.block 1 (.seq (.ops [O 13 (.iad 1 (.t 9) (.t 11)), oF 14 1 13, M 5 14] [⟨0, (.one (.d)), 0⟩, ⟨1, (.one (.d)), 0⟩] [] [12, 13, 14]) (.seq (oQ [M 15 3, M 16 5, O 17 (.len (.t 16)), oX 18 .add 15 17, M 3 18] [5, 15, 16, 17, 18]) (.seq (oQ [M 19 3, O 20 (.bin .lss (.t 19) (I 0))] [19]) (.cond (.t 20) (oQ [⟨some 21, .bad, none⟩, ⟨none, .bad, none⟩] [20, 21]) .skip))))) (oQ [O 22 (.bin .add (.t 11) (I 1)), M 11 22] [20, 22]))))
def b_14451101 : TCode := (.seq (oQ [oX 28 .lss 27 26] []) (.seq (.cond (.t 28) .skip (.exit 2)) (.seq (.block 3 (.seq (.ops [O 29 (.iad 1 (.t 25) (.t 27)), oF 30 1 29, M 8 30] [⟨0, (.one (.d)), 0⟩, ⟨1, (.one (.d)), 0⟩] [] [28, 29, 30]) (.ops [M 31 6, M 32 8, O 33 (.app true 4 32 (.t 31) (.t 32)), M 6 33] [⟨2, .raw, 1⟩] [] [8, 31, 32, 33]))) (oQ [O 34 (.bin .add (.t 27) (I 1)), M 27 34] [34]))))
def t_s_Concat_api_Span_api_Span : TFn := ⟨1, [.tmp 2], (.seq (oQ [O 2 (.mv (.c .nils))] [2]) (.seq (oQ [O 3 (.mv (I 0))] []) (.seq (.seq (oQ [M 9 0, O 10 (.len (.t 9)), O 11 (.mv (I 0))] []) (.block 0 (.loop 14451100 b_14451100))) (.seq (oQ [M 23 3, O 24 (.call (.f n_s_Grow_api_Span_api_Span) [(.c .nils), (.t 23)]), M 6 24] [3, 9, 10, 11, 12, 23, 24]) (.seq (.seq (oQ [M 25 0, O 26 (.len (.t 25)), O 27 (.mv (I 0))] [0]) (.block 2 (.loop 14451101 b_14451101))) (.seq (oQ [M 35 6, M 2 35] [6, 25, 26, 27, 28, 35]) .ret))))))⟩
def t_piece_Union : TFn := ⟨2, [.tmp 4, .tmp 5], (.seq (oQ [O 4 (.mv (.c .nils)), O 5 (.mv (I 0))] [4, 5]) (.seq (.seq (oQ [M 7 0, M 8 1, O 9 (.call (.f n_piece_both) [(.t 7), (.t 8)]), M 6 9] [7, 8, 9]) (.seq (oQ [M 10 6, O 11 (.bin .neq (.t 10) (I 0))] [10]) (.cond (.t 11) (.seq (oQ [M 12 6, O 4 (.mv (.c .nils)), M 5 12] [0, 1, 6, 11, 12]) .ret) .skip))) (.seq (oQ [M 13 0, M 14 1, O 15 (.buildD 1 (.data []) 2 [(0, (.t 13)), (1, (.t 14))]), O 16 (.call (.f n_s_Concat_api_Span_api_Span) [(.t 15)]), O 17 (.call (.f n_piece_merged) [(.t 16)]), O 18 (.call (.f n_piece_few) [(.t 17)]), O 19 (.ext (.t 18) 0), O 20 (.ext (.t 18) 1), M 4 19, M 5 20] [0, 1, 6, 11, 13, 14, 15, 16, 17, 18, 19, 20]) .ret)))⟩
def b_48457700 : TCode := (.seq (.seq (oQ [M 17 8, M 18 0, O 19 (.len (.t 18)), oX 20 .lss 17 19, M 21 20, ⟨some 22, (.mv (.t 9)), some (21, true)⟩, ⟨some 23, (.mv (.t 1)), some (21, true)⟩, ⟨some 24, (.len (.t 23)), some (21, true)⟩, ⟨some 25, (.bin .lss (.t 22) (.t 24)), some (21, true)⟩, O 26 (.pick (.t 21) (.t 25) (.c (.bool false)))] [17, 18, 19, 20, 21, 22, 23, 24, 25]) (.cond (.t 26) .skip (.exit 0))) (.block 1 (.seq (.ops [M 27 0, M 28 8, O 29 (.iad 4 (.t 27) (.t 28)), O 30 (.fad 0 (.t 29)), oT 31 2 30, M 32 1, M 33 9, O 34 (.iad 4 (.t 32) (.t 33)), O 35 (.fad 0 (.t 34)), oT 36 2 35, O 37 (.call (.f n_piece_later) [(.t 31), (.t 36)]), M 38 0, M 39 8, O 40 (.iad 4 (.t 38) (.t 39)), O 41 (.fad 2 (.t 40)), oT 42 2 41, M 43 1, M 44 9, O 45 (.iad 4 (.t 43) (.t 44)), O 46 (.fad 2 (.t 45)), oT 47 2 46, O 48 (.call (.f n_piece_sooner) [(.t 42), (.t 47)]), O 49 (.build [(.int .i64 (0)), (.int .i64 (0)), (.int .i64 (0)), (.int .i64 (0))] [(0, 2, (.t 37)), (2, 2, (.t 48))]), O 10 (.allocL (.agg [(.int .i64 (0)), (.int .i64 (0)), (.int .i64 (0)), (.int .i64 (0))])), ⟨none, (.store 4 (.t 10) (.t 49)), none⟩] [⟨2, (.agg [.i .i64, .i .i64, .i .i64, .i .i64]), 0⟩, ⟨4, (.agg [.i .i64, .i .i64, .i .i64, .i .i64]), 0⟩, ⟨7, (.agg [.i .i64, .i .i64, .i .i64, .i .i64]), 0⟩, ⟨9, (.agg [.i .i64, .i .i64, .i .i64, .i .i64]), 0⟩, ⟨13, (.agg [.i .i64, .i .i64, .i .i64, .i .i64]), 0⟩, ⟨15, (.agg [.i .i64, .i .i64, .i .i64, .i .i64]), 0⟩, ⟨18, (.agg [.i .i64, .i .i64, .i .i64, .i .i64]), 0⟩, ⟨20, (.agg [.i .i64, .i .i64, .i .i64, .i .i64]), 0⟩] [(0, 1), (0, 5), (1, 5), (2, 5), (3, 5), (4, 5), (0, 6), (1, 6), (2, 6), (3, 6), (4, 6), (5, 6), (0, 7), (1, 7), (2, 7), (3, 7), (4, 7), (0, 8), (1, 8), (2, 8), (3, 8), (4, 8), (0, 9), (1, 9), (2, 9), (3, 9), (4, 9), (0, 11), (1, 11), (2, 11), (3, 11), (4, 11), (5, 11), (6, 11), (7, 11), (8, 11), (9, 11), (10, 11), (0, 12), (1, 12), (2, 12), (3, 12), (4, 12), (5, 12), (6, 12), (7, 12), (8, 12), (9, 12), (10, 12), (11, 12), (0, 13), (1, 13), (2, 13), (3, 13), (4, 13), (5, 13), (6, 13), (7, 13), (8, 13), (9, 13), (10, 13), (0, 14), (1, 14), (2, 14), (3, 14), (4, 14), (5, 14), (6, 14), (7, 14), (8, 14), (9, 14), (10, 14), (0, 15), (1, 15), (2, 15), (3, 15), (4, 15), (5, 15), (6, 15), (7, 15), (8, 15), (9, 15), (10, 15), (0, 16), (1, 16), (2, 16), (3, 16), (4, 16), (5, 16), (6, 16), (7, 16), (8, 16), (9, 16), (10, 16), (11, 16), (12, 16), (13, 16), (14, 16), (15, 16), (0, 17), (1, 17), (2, 17), (3, 17), (4, 17), (5, 17), (6, 17), (7, 17), (8, 17), (9, 17), (10, 17), (11, 17), (12, 17), (13, 17), (14, 17), (15, 17), (16, 17), (0, 18), (1, 18), (2, 18), (3, 18), (4, 18), (5, 18), (6, 18), (7, 18), (8, 18), (9, 18), (10, 18), (11, 18), (12, 18), (13, 18), (14, 18), (15, 18), (0, 19), (1, 19), (2, 19), (3, 19), (4, 19), (5, 19), (6, 19), (7, 19), (8, 19), (9, 19), (10, 19), (11, 19), (12, 19), (13, 19), (14, 19), (15, 19), (0, 20), (1, 20), (2, 20), (3, 20), (4, 20), (5, 20), (6, 20), (7, 20), (8, 20), (9, 20), (10, 20), (11, 20), (12, 20), (13, 20), (14, 20), (15, 20), (0, 23), (1, 23), (2, 23), (3, 23), (4, 23), (5, 23), (6, 23), (7, 23), (8, 23), (9, 23), (10, 23), (11, 23), (12, 23), (13, 23), (14, 23), (15, 23), (16, 23), (17, 23), (18, 23), (19, 23), (20, 23), (21, 23), (22, 23)] [26, 27, 28, 29, 30, 31, 32, 33, 34, 35, 36, 37, 38, 39, 40, 41, 42, 43, 44, 45, 46, 47, 48, 49]) (.seq (.seq (oQ [oT 50 4 10, O 51 (.call (.f n_piece_valid) [(.t 50)])] [50]) (.cond (.t 51) (oQ [M 52 7, oT 53 4 10, O 54 (.buildD 4 (.agg [(.int .i64 (0)), (.int .i64 (0)), (.int .i64 (0)), (.int .i64 (0))]) 1 [(0, (.t 53))]), O 55 (.app true 4 32 (.t 52) (.t 54)), M 7 55] [10, 51, 52, 53, 54, 55]) .skip)) (.seq (.ops [M 56 0, M 57 8, O 58 (.iad 4 (.t 56) (.t 57)), O 59 (.fad 2 (.t 58)), oT 60 2 59, M 61 1, M 62 9, O 63 (.iad 4 (.t 61) (.t 62)), O 64 (.fad 2 (.t 63)), oT 65 2 64, O 66 (.call (.f n_piece_order) [(.t 60), (.t 65)]), O 67 (.bin .leq (.t 66) (I 0))] [⟨2, (.agg [.i .i64, .i .i64, .i .i64, .i .i64]), 0⟩, ⟨4, (.agg [.i .i64, .i .i64, .i .i64, .i .i64]), 0⟩, ⟨7, (.agg [.i .i64, .i .i64, .i .i64, .i .i64]), 0⟩, ⟨9, (.agg [.i .i64, .i .i64, .i .i64, .i .i64]), 0⟩] [(0, 1), (0, 5), (1, 5), (2, 5), (3, 5), (4, 5), (0, 6), (1, 6), (2, 6), (3, 6), (4, 6), (5, 6), (0, 7), (1, 7), (2, 7), (3, 7), (4, 7), (0, 8), (1, 8), (2, 8), (3, 8), (4, 8), (0, 9), (1, 9), (2, 9), (3, 9), (4, 9)] [10, 51, 56, 57, 58, 59, 60, 61, 62, 63, 64, 65, 66]) (.cond (.t 67) (oQ [M 68 8, O 69 (.bin .add (.t 68) (I 1)), M 8 69] [67, 68, 69]) (oQ [M 70 9, O 71 (.bin .add (.t 70) (I 1)), M 9 71] [67, 70, 71])))))))
def t_piece_Meet : TFn := ⟨2, [.tmp 4, .tmp 5], (.seq (oQ [O 4 (.mv (.c .nils)), O 5 (.mv (I 0))] [4, 5]) (.seq (.seq (oQ [M 11 0, M 12 1, O 13 (.call (.f n_piece_both) [(.t 11), (.t 12)]), M 6 13] [11, 12, 13]) (.seq (oQ [M 14 6, O 15 (.bin .neq (.t 14) (I 0))] [14]) (.cond (.t 15) (.seq (oQ [M 16 6, O 4 (.mv (.c .nils)), M 5 16] [0, 1, 6, 15, 16]) .ret) .skip))) (.seq (oQ [O 7 (.mv (.c .nils))] [6, 15]) (.seq (.seq (oQ [O 8 (.mv (I 0)), O 9 (.mv (I 0))] []) (.block 0 (.loop 48457700 b_48457700))) (.seq (oQ [M 72 7, O 73 (.call (.f n_piece_few) [(.t 72)]), O 74 (.ext (.t 73) 0), O 75 (.ext (.t 73) 1), M 4 74, M 5 75] [0, 1, 7, 8, 9, 26, 72, 73, 74, 75]) .ret)))))⟩
def t_l03_lengths : TFn := ⟨4, [.cell 8 true 8, .tmp 9], (.seq (oQ [O 8 (.allocL (.agg [(.int .i64 (0)), (.int .i64 (0)), (.int .i64 (0)), (.int .i64 (0)), (.int .i64 (0)), (.int .i64 (0)), (.int .i64 (0)), (.int .i64 (0))])), O 9 (.mv (.c (.bool false)))] [9]) (.seq (oQ [M 19 0, O 20 (.call (.f n_piece_Length) [(.t 19)]), M 18 20, O 21 (.ext (.t 18) 0), O 22 (.ext (.t 18) 1), O 10 (.allocL (.agg [(.int .i64 (0)), (.int .i64 (0))])), ⟨none, (.store 2 (.t 10) (.t 21)), none⟩, M 11 22] [0, 18, 19, 20, 21, 22]) (.seq (oQ [M 24 1, O 25 (.call (.f n_piece_Length) [(.t 24)]), M 23 25, O 26 (.ext (.t 23) 0), O 27 (.ext (.t 23) 1), O 12 (.allocL (.agg [(.int .i64 (0)), (.int .i64 (0))])), ⟨none, (.store 2 (.t 12) (.t 26)), none⟩, M 13 27] [1, 23, 24, 25, 26, 27]) (.seq (oQ [M 29 2, O 30 (.call (.f n_piece_Length) [(.t 29)]), M 28 30, O 31 (.ext (.t 28) 0), O 32 (.ext (.t 28) 1), O 14 (.allocL (.agg [(.int .i64 (0)), (.int .i64 (0))])), ⟨none, (.store 2 (.t 14) (.t 31)), none⟩, M 15 32] [2, 28, 29, 30, 31, 32]) (.seq (oQ [M 34 3, O 35 (.call (.f n_piece_Length) [(.t 34)]), M 33 35, O 36 (.ext (.t 33) 0), O 37 (.ext (.t 33) 1), O 16 (.allocL (.agg [(.int .i64 (0)), (.int .i64 (0))])), ⟨none, (.store 2 (.t 16) (.t 36)), none⟩, M 17 37] [3, 33, 34, 35, 36, 37]) (.seq (oQ [oT 38 2 10, oT 39 2 12, oT 40 2 14, oT 41 2 16, O 42 (.build [(.int .i64 (0)), (.int .i64 (0)), (.int .i64 (0)), (.int .i64 (0)), (.int .i64 (0)), (.int .i64 (0)), (.int .i64 (0)), (.int .i64 (0))] [(0, 2, (.t 38)), (2, 2, (.t 39)), (4, 2, (.t 40)), (6, 2, (.t 41))]), M 43 11, O 44 (.bin .eql (.t 43) (I 0)), M 45 44, ⟨some 46, (.mv (.t 13)), some (45, true)⟩, ⟨some 47, (.bin .eql (.t 46) (I 0)), some (45, true)⟩, O 48 (.pick (.t 45) (.t 47) (.c (.bool false))), M 49 48, ⟨some 50, (.mv (.t 15)), some (49, true)⟩, ⟨some 51, (.bin .eql (.t 50) (I 0)), some (49, true)⟩, O 52 (.pick (.t 49) (.t 51) (.c (.bool false))), M 53 52, ⟨some 54, (.mv (.t 17)), some (53, true)⟩, ⟨some 55, (.bin .eql (.t 54) (I 0)), some (53, true)⟩, O 56 (.pick (.t 53) (.t 55) (.c (.bool false))), ⟨none, (.store 8 (.t 8) (.t 42)), none⟩, M 9 56] [10, 11, 12, 13, 14, 15, 16, 17, 38, 39, 40, 41, 42, 43, 44, 45, 46, 47, 48, 49, 50, 51, 52, 53, 54, 55, 56]) .ret))))))⟩
def t_l03_adds : TFn := ⟨2, [.tmp 4], (.seq (oQ [O 2 (.boxL (.t 0)), O 4 (.mv (.c (.bool false)))] [0, 4]) (.seq (.seq (oQ [M 9 1, O 10 (.un .not (.t 9))] [1, 9]) (.cond (.t 10) (.seq (oQ [O 4 (.mv (.c (.bool true)))] [2, 10]) .ret) .skip)) (.seq (.ops [O 12 (.iadA 4 2 (.t 2) (I 0)), oT 13 2 12, O 14 (.iadA 4 2 (.t 2) (I 1)), oT 15 2 14, O 16 (.call (.f n_ratio_Add) [(.t 13), (.t 15)]), M 11 16, O 17 (.ext (.t 11) 0), O 18 (.ext (.t 11) 1), O 5 (.allocL (.agg [(.int .i64 (0)), (.int .i64 (0))])), ⟨none, (.store 2 (.t 5) (.t 17)), none⟩, M 6 18] [⟨1, (.agg [.i .i64, .i .i64, .i .i64, .i .i64, .i .i64, .i .i64, .i .i64, .i .i64]), 0⟩, ⟨3, (.agg [.i .i64, .i .i64, .i .i64, .i .i64, .i .i64, .i .i64, .i .i64, .i .i64]), 0⟩] [] [10, 11, 12, 13, 14, 15, 16, 17, 18]) (.seq (.ops [O 20 (.iadA 4 2 (.t 2) (I 2)), oT 21 2 20, O 22 (.iadA 4 2 (.t 2) (I 3)), oT 23 2 22, O 24 (.call (.f n_ratio_Add) [(.t 21), (.t 23)]), M 19 24, O 25 (.ext (.t 19) 0), O 26 (.ext (.t 19) 1), O 7 (.allocL (.agg [(.int .i64 (0)), (.int .i64 (0))])), ⟨none, (.store 2 (.t 7) (.t 25)), none⟩, M 8 26] [⟨1, (.agg [.i .i64, .i .i64, .i .i64, .i .i64, .i .i64, .i .i64, .i .i64, .i .i64]), 0⟩, ⟨3, (.agg [.i .i64, .i .i64, .i .i64, .i .i64, .i .i64, .i .i64, .i .i64, .i .i64]), 0⟩] [] [2, 19, 20, 21, 22, 23, 24, 25, 26]) (.seq (oQ [M 27 6, O 28 (.bin .neq (.t 27) (I 0)), M 29 28, ⟨some 30, (.mv (.t 8)), some (29, false)⟩, ⟨some 31, (.bin .neq (.t 30) (I 0)), some (29, false)⟩, O 32 (.pick (.t 29) (.c (.bool true)) (.t 31)), M 33 32, ⟨some 34, (.load true 2 (.t 5)), some (33, false)⟩, ⟨some 35, (.load true 2 (.t 7)), some (33, false)⟩, ⟨some 36, (.eqA false 2 [(0, (some .i64)), (1, (some .i64))] (.t 34) (.t 35)), some (33, false)⟩, O 37 (.pick (.t 33) (.c (.bool true)) (.t 36)), M 4 37] [5, 6, 7, 8, 27, 28, 29, 30, 31, 32, 33, 34, 35, 36, 37]) .ret)))))⟩
def b_94526800 : TCode := (.seq (.seq (.ops [M 53 4, O 54 (.fad 2 (.t 1)), oF 55 1 54, O 56 (.len (.t 55)), oX 57 .lss 53 56] [⟨2, (.agg [.i .i64, .d, .d]), 0⟩] [] [53, 54, 55, 56]) (.cond (.t 57) .skip (.exit 0))) (.seq (.block 1 (.seq (.seq (.ops [O 60 (.fad 1 (.t 1)), oF 61 1 60, M 62 4, O 63 (.bin .add (.t 62) (I 1)), O 64 (.iad 1 (.t 61) (.t 63)), oF 65 1 64, O 66 (.fad 1 (.t 1)), oF 67 1 66, M 68 4, O 69 (.iad 1 (.t 67) (.t 68)), oF 70 1 69, oX 71 .leq 65 70, M 72 71, ⟨some 73, (.fad 2 (.t 1)), some (72, false)⟩, ⟨some 74, (.load false 1 (.t 73)), some (72, false)⟩, ⟨some 75, (.mv (.t 4)), some (72, false)⟩, ⟨some 76, (.iad 1 (.t 74) (.t 75)), some (72, false)⟩, ⟨some 77, (.load false 1 (.t 76)), some (72, false)⟩, ⟨some 78, (.bin .lss (.t 77) (I 0)), some (72, false)⟩, O 79 (.pick (.t 72) (.c (.bool true)) (.t 78)), M 80 79, ⟨some 81, (.fad 2 (.t 1)), some (80, false)⟩, ⟨some 82, (.load false 1 (.t 81)), some (80, false)⟩, ⟨some 83, (.mv (.t 4)), some (80, false)⟩, ⟨some 84, (.iad 1 (.t 82) (.t 83)), some (80, false)⟩, ⟨some 85, (.load false 1 (.t 84)), some (80, false)⟩, ⟨some 86, (.bin .gtr (.t 85) (I 12)), some (80, false)⟩, O 87 (.pick (.t 80) (.c (.bool true)) (.t 86))] [⟨1, (.agg [.i .i64, .d, .d]), 0⟩, ⟨4, (.one (.i .i64)), 0⟩, ⟨5, (.one (.i .i64)), 0⟩, ⟨7, (.agg [.i .i64, .d, .d]), 0⟩, ⟨9, (.one (.i .i64)), 0⟩, ⟨10, (.one (.i .i64)), 0⟩, ⟨14, (.agg [.i .i64, .d, .d]), 0⟩, ⟨16, (.one (.i .i64)), 0⟩, ⟨17, (.one (.i .i64)), 0⟩, ⟨22, (.agg [.i .i64, .d, .d]), 0⟩, ⟨24, (.one (.i .i64)), 0⟩, ⟨25, (.one (.i .i64)), 0⟩] [(0, 2), (1, 2), (0, 3), (1, 3), (0, 6), (1, 6), (2, 6), (3, 6), (4, 6), (5, 6), (0, 7), (1, 7), (2, 7), (3, 7), (4, 7), (5, 7), (0, 8), (1, 8), (2, 8), (3, 8), (4, 8), (5, 8), (6, 8), (7, 8), (0, 9), (1, 9), (2, 9), (3, 9), (4, 9), (5, 9), (0, 10), (1, 10), (2, 10), (3, 10), (4, 10), (5, 10), (13, 15), (14, 15), (21, 23), (22, 23)] [57, 60, 61, 62, 63, 64, 65, 66, 67, 68, 69, 70, 71, 72, 73, 74, 75, 76, 77, 78, 79, 80, 81, 82, 83, 84, 85, 86]) (.cond (.t 87) (.seq (oQ [O 2 (.mv (I 8))] [1, 3, 4, 87]) .ret) .skip)) (.ops [M 88 3, M 89 88, ⟨some 90, (.fad 2 (.t 1)), some (89, false)⟩, ⟨some 91, (.load false 1 (.t 90)), some (89, false)⟩, ⟨some 92, (.mv (.t 4)), some (89, false)⟩, ⟨some 93, (.iad 1 (.t 91) (.t 92)), some (89, false)⟩, ⟨some 94, (.load false 1 (.t 93)), some (89, false)⟩, ⟨some 95, (.bin .gtr (.t 94) (I 0)), some (89, false)⟩, O 96 (.pick (.t 89) (.c (.bool true)) (.t 95)), M 3 96] [⟨3, (.agg [.i .i64, .d, .d]), 0⟩, ⟨5, (.one (.i .i64)), 0⟩, ⟨6, (.one (.i .i64)), 0⟩] [] [87, 88, 89, 90, 91, 92, 93, 94, 95, 96]))) (oQ [M 58 4, O 59 (.bin .add (.t 58) (I 1)), M 4 59] [58, 59])))
def t_r02_Check : TFn := ⟨1, [.tmp 2], (.seq (oQ [O 1 (.boxL (.t 0)), O 2 (.mv (I 0))] [0, 2]) (.seq (.seq (.ops [O 5 (.fad 0 (.t 1)), oF 6 1 5, O 7 (.bin .gtr (.t 6) (I 1000)), M 8 7, ⟨some 9, (.fad 1 (.t 1)), some (8, false)⟩, ⟨some 10, (.load false 1 (.t 9)), some (8, false)⟩, ⟨some 11, (.len (.t 10)), some (8, false)⟩, ⟨some 12, (.bin .gtr (.t 11) (I 40)), some (8, false)⟩, O 13 (.pick (.t 8) (.c (.bool true)) (.t 12))] [⟨1, (.agg [.i .i64, .d, .d]), 0⟩, ⟨5, (.agg [.i .i64, .d, .d]), 0⟩] [] [5, 6, 7, 8, 9, 10, 11, 12]) (.cond (.t 13) (.seq (oQ [O 2 (.mv (I 4))] [1, 13]) .ret) .skip)) (.seq (.seq (.ops [O 14 (.fad 0 (.t 1)), oF 15 1 14, O 16 (.bin .lss (.t 15) (I 1)), M 17 16, ⟨some 18, (.fad 1 (.t 1)), some (17, false)⟩, ⟨some 19, (.load false 1 (.t 18)), some (17, false)⟩, ⟨some 20, (.len (.t 19)), some (17, false)⟩, ⟨some 21, (.bin .lss (.t 20) (I 2)), some (17, false)⟩, O 22 (.pick (.t 17) (.c (.bool true)) (.t 21)), M 23 22, ⟨some 24, (.fad 2 (.t 1)), some (23, false)⟩, ⟨some 25, (.load false 1 (.t 24)), some (23, false)⟩, ⟨some 26, (.len (.t 25)), some (23, false)⟩, ⟨some 27, (.fad 1 (.t 1)), some (23, false)⟩, ⟨some 28, (.load false 1 (.t 27)), some (23, false)⟩, ⟨some 29, (.len (.t 28)), some (23, false)⟩, ⟨some 30, (.bin .sub (.t 29) (I 1)), some (23, false)⟩, ⟨some 31, (.bin .neq (.t 26) (.t 30)), some (23, false)⟩, O 32 (.pick (.t 23) (.c (.bool true)) (.t 31)), M 33 32, ⟨some 34, (.fad 1 (.t 1)), some (33, false)⟩, ⟨some 35, (.load false 1 (.t 34)), some (33, false)⟩, ⟨some 36, (.iad 1 (.t 35) (I 0)), some (33, false)⟩, ⟨some 37, (.load false 1 (.t 36)), some (33, false)⟩, ⟨some 38, (.bin .neq (.t 37) (I 0)), some (33, false)⟩, O 39 (.pick (.t 33) (.c (.bool true)) (.t 38)), M 40 39, ⟨some 41, (.fad 1 (.t 1)), some (40, false)⟩, ⟨some 42, (.load false 1 (.t 41)), some (40, false)⟩, ⟨some 43, (.fad 1 (.t 1)), some (40, false)⟩, ⟨some 44, (.load false 1 (.t 43)), some (40, false)⟩, ⟨some 45, (.len (.t 44)), some (40, false)⟩, ⟨some 46, (.bin .sub (.t 45) (I 1)), some (40, false)⟩, ⟨some 47, (.iad 1 (.t 42) (.t 46)), some (40, false)⟩, ⟨some 48, (.load false 1 (.t 47)), some (40, false)⟩, ⟨some 49, (.fad 0 (.t 1)), some (40, false)⟩, ⟨some 50, (.load false 1 (.t 49)), some (40, false)⟩, ⟨some 51, (.bin .neq (.t 48) (.t 50)), some (40, false)⟩, O 52 (.pick (.t 40) (.c (.bool true)) (.t 51))] [⟨1, (.agg [.i .i64, .d, .d]), 0⟩, ⟨5, (.agg [.i .i64, .d, .d]), 0⟩, ⟨11, (.agg [.i .i64, .d, .d]), 0⟩, ⟨14, (.agg [.i .i64, .d, .d]), 0⟩, ⟨21, (.agg [.i .i64, .d, .d]), 0⟩, ⟨22, (.one (.i .i64)), 0⟩, ⟨23, (.one (.i .i64)), 0⟩, ⟨28, (.agg [.i .i64, .d, .d]), 0⟩, ⟨30, (.agg [.i .i64, .d, .d]), 0⟩, ⟨33, (.one (.i .i64)), 0⟩, ⟨34, (.one (.i .i64)), 0⟩, ⟨36, (.agg [.i .i64, .d, .d]), 0⟩] [(10, 13), (11, 13), (12, 13), (10, 14), (11, 14), (12, 14), (10, 15), (11, 15), (12, 15), (10, 16), (11, 16), (12, 16), (27, 29), (28, 29), (27, 30), (28, 30), (27, 31), (28, 31), (27, 32), (28, 32), (27, 35), (28, 35), (29, 35), (30, 35), (31, 35), (32, 35), (33, 35), (34, 35), (27, 36), (28, 36), (29, 36), (30, 36), (31, 36), (32, 36), (33, 36), (34, 36)] [13, 14, 15, 16, 17, 18, 19, 20, 21, 22, 23, 24, 25, 26, 27, 28, 29, 30, 31, 32, 33, 34, 35, 36, 37, 38, 39, 40, 41, 42, 43, 44, 45, 46, 47, 48, 49, 50, 51]) (.cond (.t 52) (.seq (oQ [O 2 (.mv (I 8))] [1, 52]) .ret) .skip)) (.seq (oQ [O 3 (.mv (.c (.bool false)))] [52]) (.seq (.seq (oQ [O 4 (.mv (I 0))] []) (.block 0 (.loop 94526800 b_94526800))) (.seq (.seq (oQ [M 97 3, O 98 (.un .not (.t 97))] [1, 3, 4, 57, 97]) (.cond (.t 98) (.seq (oQ [O 2 (.mv (I 8))] [98]) .ret) .skip)) (.seq (oQ [O 2 (.mv (I 0))] [98]) .ret)))))))⟩
def t_r01_Of : TFn := ⟨1, [.cell 2 true 2], (.seq (oQ [O 2 (.allocL (.agg [(.int .i64 (0)), (.int .i64 (0))]))] []) (.seq (oQ [M 3 0, O 4 (.build [(.int .i64 (0)), (.int .i64 (0))] [(0, 1, (.t 3)), (1, 1, (I 1))]), ⟨none, (.store 2 (.t 2) (.t 4)), none⟩] [0, 3, 4]) .ret))⟩
def t_r02_Point : TFn := ⟨2, [.tmp 4], (.seq (oQ [O 3 (.boxL (.t 1)), O 4 (.mv (.c (.bool false)))] [1, 4]) (.seq (.ops [oT 5 2 3, O 6 (.call (.f n_r01_Check) [(.t 5)]), O 7 (.bin .eql (.t 6) (I 0)), M 8 7, ⟨some 9, (.fad 0 (.t 3)), some (8, true)⟩, ⟨some 10, (.load false 1 (.t 9)), some (8, true)⟩, ⟨some 11, (.bin .geq (.t 10) (I 0)), some (8, true)⟩, O 12 (.pick (.t 8) (.t 11) (.c (.bool false))), M 13 12, ⟨some 14, (.mv (.t 0)), some (13, true)⟩, ⟨some 15, (.call (.f n_r01_Of) [(.t 14)]), some (13, true)⟩, ⟨some 16, (.load true 2 (.t 3)), some (13, true)⟩, ⟨some 17, (.call (.f n_r01_Less) [(.t 15), (.t 16)]), some (13, true)⟩, ⟨some 18, (.un .not (.t 17)), some (13, true)⟩, O 19 (.pick (.t 13) (.t 18) (.c (.bool false))), M 4 19] [⟨5, (.agg [.i .i64, .i .i64]), 0⟩] [(9, 11), (10, 11)] [0, 3, 5, 6, 7, 8, 9, 10, 11, 12, 13, 14, 15, 16, 17, 18, 19]) .ret))⟩
def b_21172200 : TCode := (.seq (.seq (oQ [M 6 5, M 7 1, O 8 (.len (.t 7)), oX 9 .lss 6 8] [6, 7, 8]) (.cond (.t 9) .skip (.exit 0))) (.seq (.block 1 (.seq (.ops [M 12 0, M 13 1, M 14 5, O 15 (.iad 4 (.t 13) (.t 14)), O 16 (.fad 0 (.t 15)), oT 17 2 16, O 18 (.call (.f n_r02_Point) [(.t 12), (.t 17)]), O 19 (.un .not (.t 18)), M 20 19, ⟨some 21, (.mv (.t 0)), some (20, false)⟩, ⟨some 22, (.mv (.t 1)), some (20, false)⟩, ⟨some 23, (.mv (.t 5)), some (20, false)⟩, ⟨some 24, (.iad 4 (.t 22) (.t 23)), some (20, false)⟩, ⟨some 25, (.fad 2 (.t 24)), some (20, false)⟩, ⟨some 26, (.load true 2 (.t 25)), some (20, false)⟩, ⟨some 27, (.call (.f n_r02_Point) [(.t 21), (.t 26)]), some (20, false)⟩, ⟨some 28, (.un .not (.t 27)), some (20, false)⟩, O 29 (.pick (.t 20) (.c (.bool true)) (.t 28))] [⟨3, (.agg [.i .i64, .i .i64, .i .i64, .i .i64]), 0⟩, ⟨5, (.agg [.i .i64, .i .i64, .i .i64, .i .i64]), 0⟩, ⟨12, (.agg [.i .i64, .i .i64, .i .i64, .i .i64]), 0⟩, ⟨14, (.agg [.i .i64, .i .i64, .i .i64, .i .i64]), 0⟩] [] [9, 12, 13, 14, 15, 16, 17, 18, 19, 20, 21, 22, 23, 24, 25, 26, 27, 28]) (.cond (.t 29) (.seq (oQ [O 4 (.mv (.c (.bool false)))] [0, 1, 5, 29]) .ret) .skip))) (oQ [M 10 5, O 11 (.bin .add (.t 10) (I 1)), M 5 11] [10, 11, 29])))
def t_r03_Within : TFn := ⟨2, [.tmp 4], (.seq (oQ [O 4 (.mv (.c (.bool false)))] [4]) (.seq (.seq (oQ [O 5 (.mv (I 0))] []) (.block 0 (.loop 21172200 b_21172200))) (.seq (oQ [O 4 (.mv (.c (.bool true)))] [0, 1, 5, 9]) .ret)))⟩
def b_10434000 : TCode := (.seq (.seq (oQ [M 12 4, M 13 0, O 14 (.len (.t 13)), oX 15 .lss 12 14] [12, 13, 14]) (.cond (.t 15) .skip (.exit 0))) (.seq (.block 1 (.ops [M 18 3, M 19 0, M 20 4, O 21 (.iad 1 (.t 19) (.t 20)), oF 22 1 21, O 23 (.minmax false [(.t 18), (.t 22)]), M 3 23] [⟨3, (.one (.i .i64)), 0⟩, ⟨4, (.one (.i .i64)), 0⟩] [] [15, 18, 19, 20, 21, 22, 23])) (oQ [M 16 4, O 17 (.bin .add (.t 16) (I 1)), M 4 17] [16, 17])))
def t_s_Min_int_int : TFn := ⟨1, [.tmp 2], (.seq (oQ [O 2 (.mv (I 0))] [2]) (.seq (.seq (oQ [M 5 0, O 6 (.len (.t 5)), O 7 (.bin .lss (.t 6) (I 1))] [5, 6]) (.cond (.t 7) (oQ [⟨some 8, .bad, none⟩, ⟨none, .bad, none⟩] [7, 8]) .skip)) (.seq (.ops [M 9 0, O 10 (.iad 1 (.t 9) (I 0)), oF 11 1 10, M 3 11] [⟨1, (.one (.i .i64)), 0⟩, ⟨2, (.one (.i .i64)), 0⟩] [] [7, 9, 10, 11]) (.seq (.seq (oQ [O 4 (.mv (I 1))] []) (.block 0 (.loop 10434000 b_10434000))) (.seq (oQ [M 24 3, M 2 24] [0, 3, 4, 15, 24]) .ret)))))⟩
def b_64079100 : TCode := (.seq (.seq (oQ [M 12 4, M 13 0, O 14 (.len (.t 13)), oX 15 .lss 12 14] [12, 13, 14]) (.cond (.t 15) .skip (.exit 0))) (.seq (.block 1 (.ops [M 18 3, M 19 0, M 20 4, O 21 (.iad 1 (.t 19) (.t 20)), oF 22 1 21, O 23 (.minmax true [(.t 18), (.t 22)]), M 3 23] [⟨3, (.one (.i .i64)), 0⟩, ⟨4, (.one (.i .i64)), 0⟩] [] [15, 18, 19, 20, 21, 22, 23])) (oQ [M 16 4, O 17 (.bin .add (.t 16) (I 1)), M 4 17] [16, 17])))
def t_s_Max_int_int : TFn := ⟨1, [.tmp 2], (.seq (oQ [O 2 (.mv (I 0))] [2]) (.seq (.seq (oQ [M 5 0, O 6 (.len (.t 5)), O 7 (.bin .lss (.t 6) (I 1))] [5, 6]) (.cond (.t 7) (oQ [⟨some 8, .bad, none⟩, ⟨none, .bad, none⟩] [7, 8]) .skip)) (.seq (.ops [M 9 0, O 10 (.iad 1 (.t 9) (I 0)), oF 11 1 10, M 3 11] [⟨1, (.one (.i .i64)), 0⟩, ⟨2, (.one (.i .i64)), 0⟩] [] [7, 9, 10, 11]) (.seq (.seq (oQ [O 4 (.mv (I 1))] []) (.block 0 (.loop 64079100 b_64079100))) (.seq (oQ [M 24 3, M 2 24] [0, 3, 4, 15, 24]) .ret)))))⟩
def b_87419700 : TCode := (.seq (oQ [oX 51 .lss 50 49] []) (.seq (.cond (.t 51) .skip (.exit 0)) (.seq (.block 1 (.seq (oQ [M 52 50, M 4 52] [51, 52]) (.seq (.ops [O 53 (.fad 1 (.t 1)), oF 54 1 53, M 55 4, O 56 (.iad 1 (.t 54) (.t 55)), oF 57 1 56, O 58 (.fad 1 (.t 1)), oF 59 1 58, M 60 4, O 61 (.bin .add (.t 60) (I 1)), O 62 (.iad 1 (.t 59) (.t 61)), oF 63 1 62, oX 64 .geq 57 63] [⟨1, (.agg [.i .i64, .d, .d]), 0⟩, ⟨3, (.one (.i .i64)), 0⟩, ⟨4, (.one (.i .i64)), 0⟩, ⟨6, (.agg [.i .i64, .d, .d]), 0⟩, ⟨9, (.one (.i .i64)), 0⟩, ⟨10, (.one (.i .i64)), 0⟩] [(0, 2), (1, 2), (0, 5), (1, 5), (2, 5), (3, 5), (4, 5), (0, 6), (1, 6), (2, 6), (3, 6), (4, 6), (0, 7), (1, 7), (2, 7), (3, 7), (4, 7), (5, 7), (6, 7), (0, 8), (1, 8), (2, 8), (3, 8), (4, 8), (5, 8), (6, 8), (0, 9), (1, 9), (2, 9), (3, 9), (4, 9), (0, 10), (1, 10), (2, 10), (3, 10), (4, 10)] [4, 53, 54, 55, 56, 57, 58, 59, 60, 61, 62, 63]) (.cond (.t 64) (.seq (oQ [O 2 (.mv (I 8))] [1, 49, 50, 64]) .ret) .skip)))) (oQ [O 65 (.bin .add (.t 50) (I 1)), M 50 65] [64, 65]))))
def t_cake_Check : TFn := ⟨1, [.tmp 2], (.seq (oQ [O 1 (.boxL (.t 0)), O 2 (.mv (I 0))] [0, 2]) (.seq (.ops [O 5 (.fad 1 (.t 1)), oF 6 1 5, O 7 (.len (.t 6)), M 3 7] [⟨1, (.agg [.i .i64, .d, .d]), 0⟩] [] [5, 6, 7]) (.seq (.seq (.ops [O 8 (.fad 0 (.t 1)), oF 9 1 8, O 10 (.bin .gtr (.t 9) (I 1000)), M 11 10, ⟨some 12, (.mv (.t 3)), some (11, false)⟩, ⟨some 13, (.bin .gtr (.t 12) (I 40)), some (11, false)⟩, O 14 (.pick (.t 11) (.c (.bool true)) (.t 13))] [⟨1, (.agg [.i .i64, .d, .d]), 0⟩] [] [8, 9, 10, 11, 12, 13]) (.cond (.t 14) (.seq (oQ [O 2 (.mv (I 4))] [1, 3, 14]) .ret) .skip)) (.seq (.seq (.ops [O 15 (.fad 0 (.t 1)), oF 16 1 15, O 17 (.bin .lss (.t 16) (I 1)), M 18 17, ⟨some 19, (.mv (.t 3)), some (18, false)⟩, ⟨some 20, (.bin .lss (.t 19) (I 2)), some (18, false)⟩, O 21 (.pick (.t 18) (.c (.bool true)) (.t 20)), M 22 21, ⟨some 23, (.fad 2 (.t 1)), some (22, false)⟩, ⟨some 24, (.load false 1 (.t 23)), some (22, false)⟩, ⟨some 25, (.len (.t 24)), some (22, false)⟩, ⟨some 26, (.mv (.t 3)), some (22, false)⟩, ⟨some 27, (.bin .sub (.t 26) (I 1)), some (22, false)⟩, ⟨some 28, (.bin .neq (.t 25) (.t 27)), some (22, false)⟩, O 29 (.pick (.t 22) (.c (.bool true)) (.t 28)), M 30 29, ⟨some 31, (.fad 1 (.t 1)), some (30, false)⟩, ⟨some 32, (.load false 1 (.t 31)), some (30, false)⟩, ⟨some 33, (.iad 1 (.t 32) (I 0)), some (30, false)⟩, ⟨some 34, (.load false 1 (.t 33)), some (30, false)⟩, ⟨some 35, (.bin .neq (.t 34) (I 0)), some (30, false)⟩, O 36 (.pick (.t 30) (.c (.bool true)) (.t 35)), M 37 36, ⟨some 38, (.fad 1 (.t 1)), some (37, false)⟩, ⟨some 39, (.load false 1 (.t 38)), some (37, false)⟩, ⟨some 40, (.mv (.t 3)), some (37, false)⟩, ⟨some 41, (.bin .sub (.t 40) (I 1)), some (37, false)⟩, ⟨some 42, (.iad 1 (.t 39) (.t 41)), some (37, false)⟩, ⟨some 43, (.load false 1 (.t 42)), some (37, false)⟩, ⟨some 44, (.fad 0 (.t 1)), some (37, false)⟩, ⟨some 45, (.load false 1 (.t 44)), some (37, false)⟩, ⟨some 46, (.bin .neq (.t 43) (.t 45)), some (37, false)⟩, O 47 (.pick (.t 37) (.c (.bool true)) (.t 46))] [⟨1, (.agg [.i .i64, .d, .d]), 0⟩, ⟨9, (.agg [.i .i64, .d, .d]), 0⟩, ⟨17, (.agg [.i .i64, .d, .d]), 0⟩, ⟨18, (.one (.i .i64)), 0⟩, ⟨19, (.one (.i .i64)), 0⟩, ⟨24, (.agg [.i .i64, .d, .d]), 0⟩, ⟨27, (.one (.i .i64)), 0⟩, ⟨28, (.one (.i .i64)), 0⟩, ⟨30, (.agg [.i .i64, .d, .d]), 0⟩] [(8, 11), (9, 11), (10, 11), (8, 12), (9, 12), (10, 12), (23, 25), (24, 25), (23, 26), (24, 26), (23, 29), (24, 29), (25, 29), (26, 29), (27, 29), (28, 29), (23, 30), (24, 30), (25, 30), (26, 30), (27, 30), (28, 30)] [14, 15, 16, 17, 18, 19, 20, 21, 22, 23, 24, 25, 26, 27, 28, 29, 30, 31, 32, 33, 34, 35, 36, 37, 38, 39, 40, 41, 42, 43, 44, 45, 46]) (.cond (.t 47) (.seq (oQ [O 2 (.mv (I 8))] [1, 3, 47]) .ret) .skip)) (.seq (.seq (oQ [M 48 3, O 49 (.bin .sub (.t 48) (I 1)), O 50 (.mv (I 0))] [3, 47, 48]) (.block 0 (.loop 87419700 b_87419700))) (.seq (.seq (.ops [O 66 (.fad 2 (.t 1)), oF 67 1 66, O 68 (.call (.f n_s_Min_int_int) [(.t 67)]), O 69 (.bin .lss (.t 68) (I 0)), M 70 69, ⟨some 71, (.fad 2 (.t 1)), some (70, false)⟩, ⟨some 72, (.load false 1 (.t 71)), some (70, false)⟩, ⟨some 73, (.call (.f n_s_Max_int_int) [(.t 72)]), some (70, false)⟩, ⟨some 74, (.bin .gtr (.t 73) (I 12)), some (70, false)⟩, O 75 (.pick (.t 70) (.c (.bool true)) (.t 74)), M 76 75, ⟨some 77, (.fad 2 (.t 1)), some (76, false)⟩, ⟨some 78, (.load false 1 (.t 77)), some (76, false)⟩, ⟨some 79, (.call (.f n_s_Max_int_int) [(.t 78)]), some (76, false)⟩, ⟨some 80, (.bin .eql (.t 79) (I 0)), some (76, false)⟩, O 81 (.pick (.t 76) (.c (.bool true)) (.t 80))] [⟨1, (.agg [.i .i64, .d, .d]), 0⟩, ⟨6, (.agg [.i .i64, .d, .d]), 0⟩, ⟨12, (.agg [.i .i64, .d, .d]), 0⟩] [] [1, 49, 50, 51, 66, 67, 68, 69, 70, 71, 72, 73, 74, 75, 76, 77, 78, 79, 80]) (.cond (.t 81) (.seq (oQ [O 2 (.mv (I 8))] [81]) .ret) .skip)) (.seq (oQ [O 2 (.mv (I 0))] [81]) .ret)))))))⟩
def t_cake_whole : TFn := ⟨1, [.cell 2 true 2], (.seq (oQ [O 2 (.allocL (.agg [(.int .i64 (0)), (.int .i64 (0))]))] []) (.seq (oQ [M 3 0, O 4 (.build [(.int .i64 (0)), (.int .i64 (0))] [(0, 1, (.t 3)), (1, 1, (I 1))]), ⟨none, (.store 2 (.t 2) (.t 4)), none⟩] [0, 3, 4]) .ret))⟩
def t_cake_less : TFn := ⟨2, [.tmp 4], (.seq (oQ [O 2 (.boxL (.t 0)), O 3 (.boxL (.t 1)), O 4 (.mv (.c (.bool false)))] [0, 1, 4]) (.seq (oQ [oT 8 2 2, oT 9 2 3, O 10 (.call (.f n_ratio_Cmp) [(.t 8), (.t 9)]), M 7 10, O 11 (.ext (.t 7) 0), O 12 (.ext (.t 7) 1), M 5 11, M 6 12] [2, 3, 6, 7, 8, 9, 10, 11, 12]) (.seq (oQ [M 13 5, O 14 (.bin .lss (.t 13) (I 0)), M 4 14] [5, 13, 14]) .ret)))⟩
def t_cake_point : TFn := ⟨2, [.tmp 4], (.seq (oQ [O 2 (.boxL (.t 0)), O 3 (.boxL (.t 1)), O 4 (.mv (.c (.bool false)))] [0, 1, 4]) (.seq (.ops [oT 5 2 3, O 6 (.call (.f n_ratio_Check) [(.t 5)]), O 7 (.bin .eql (.t 6) (I 0)), M 8 7, ⟨some 9, (.fad 0 (.t 3)), some (8, true)⟩, ⟨some 10, (.load false 1 (.t 9)), some (8, true)⟩, ⟨some 11, (.bin .geq (.t 10) (I 0)), some (8, true)⟩, O 12 (.pick (.t 8) (.t 11) (.c (.bool false))), M 13 12, ⟨some 14, (.fad 0 (.t 2)), some (13, true)⟩, ⟨some 15, (.load false 1 (.t 14)), some (13, true)⟩, ⟨some 16, (.call (.f n_cake_whole) [(.t 15)]), some (13, true)⟩, ⟨some 17, (.load true 2 (.t 3)), some (13, true)⟩, ⟨some 18, (.call (.f n_cake_less) [(.t 16), (.t 17)]), some (13, true)⟩, ⟨some 19, (.un .not (.t 18)), some (13, true)⟩, O 20 (.pick (.t 13) (.t 19) (.c (.bool false))), M 4 20] [⟨5, (.agg [.i .i64, .i .i64]), 0⟩, ⟨10, (.agg [.i .i64, .d, .d]), 0⟩] [(9, 12), (10, 12), (11, 12)] [2, 3, 5, 6, 7, 8, 9, 10, 11, 12, 13, 14, 15, 16, 17, 18, 19, 20]) .ret))⟩
def t_ratio_Mul : TFn := ⟨2, [.cell 4 true 2, .tmp 5], (.seq (oQ [O 2 (.boxL (.t 0)), O 3 (.boxL (.t 1)), O 4 (.allocL (.agg [(.int .i64 (0)), (.int .i64 (0))])), O 5 (.mv (I 0))] [0, 1, 5]) (.seq (.seq (oQ [oT 17 2 2, oT 18 2 3, O 19 (.call (.f n_ratio_check) [(.t 17), (.t 18)]), M 6 19] [17, 18, 19]) (.seq (oQ [M 20 6, O 21 (.bin .neq (.t 20) (I 0))] [20]) (.cond (.t 21) (.seq (oQ [O 22 (.build [(.int .i64 (0)), (.int .i64 (0))] []), M 23 6, ⟨none, (.store 2 (.t 4) (.t 22)), none⟩, M 5 23] [2, 3, 6, 21, 22, 23]) .ret) .skip))) (.seq (.ops [O 24 (.fad 0 (.t 2)), oF 25 1 24, O 26 (.call (.f n_ratio_size) [(.t 25)]), O 27 (.fad 1 (.t 2)), oF 28 1 27, O 29 (.conv .u64 (.t 28)), O 30 (.fad 0 (.t 3)), oF 31 1 30, O 32 (.call (.f n_ratio_size) [(.t 31)]), O 33 (.fad 1 (.t 3)), oF 34 1 33, O 35 (.conv .u64 (.t 34)), M 7 26, M 8 29, M 9 32, M 10 35] [⟨1, (.agg [.i .i64, .i .i64]), 0⟩, ⟨4, (.agg [.i .i64, .i .i64]), 0⟩, ⟨7, (.agg [.i .i64, .i .i64]), 0⟩, ⟨10, (.agg [.i .i64, .i .i64]), 0⟩] [(0, 3), (1, 3), (2, 3), (0, 4), (1, 4), (2, 4), (0, 5), (1, 5), (2, 5), (0, 6), (1, 6), (2, 6), (3, 6), (4, 6), (5, 6), (0, 7), (1, 7), (2, 7), (3, 7), (4, 7), (5, 7), (3, 8), (4, 8), (5, 8), (0, 9), (1, 9), (2, 9), (3, 9), (4, 9), (5, 9), (6, 9), (7, 9), (8, 9), (0, 10), (1, 10), (2, 10), (3, 10), (4, 10), (5, 10), (6, 10), (7, 10), (8, 10), (0, 11), (1, 11), (2, 11), (3, 11), (4, 11), (5, 11), (6, 11), (7, 11), (8, 11), (3, 12), (4, 12), (5, 12), (9, 12), (10, 12), (11, 12), (9, 13), (10, 13), (11, 13), (9, 14), (10, 14), (11, 14)] [6, 21, 24, 25, 26, 27, 28, 29, 30, 31, 32, 33, 34, 35]) (.seq (oQ [M 36 7, M 37 10, O 38 (.call (.f n_ratio_gcd) [(.t 36), (.t 37)]), M 39 9, M 40 8, O 41 (.call (.f n_ratio_gcd) [(.t 39), (.t 40)]), M 11 38, M 12 41] [36, 37, 38, 39, 40, 41]) (.seq (.ops [M 43 7, M 44 11, oX 45 .quo 43 44, M 46 9, M 47 12, oX 48 .quo 46 47, O 49 (.call (.f n_m_Mul64) [(.t 45), (.t 48)]), M 42 49, O 50 (.ext (.t 42) 0), O 51 (.ext (.t 42) 1), M 13 50, M 14 51] [] [(0, 1), (0, 3), (1, 3), (2, 3), (0, 4), (1, 4), (2, 4), (3, 4), (0, 5), (1, 5), (2, 5), (8, 9), (9, 10)] [7, 9, 42, 43, 44, 45, 46, 47, 48, 49, 50, 51]) (.seq (.ops [M 53 8, M 54 12, oX 55 .quo 53 54, M 56 10, M 57 11, oX 58 .quo 56 57, O 59 (.call (.f n_m_Mul64) [(.t 55), (.t 58)]), M 52 59, O 60 (.ext (.t 52) 0), O 61 (.ext (.t 52) 1), M 15 60, M 16 61] [] [(0, 1), (0, 3), (1, 3), (2, 3), (0, 4), (1, 4), (2, 4), (3, 4), (0, 5), (1, 5), (2, 5), (8, 9), (9, 10)] [8, 10, 11, 12, 52, 53, 54, 55, 56, 57, 58, 59, 60, 61]) (.seq (.seq (oQ [M 62 13, M 63 15, oX 64 .add 62 63, O 65 (.bin .gtr (.t 64) (.c (.int .u64 (0))))] [13, 15, 62, 63, 64]) (.cond (.t 65) (.seq (oQ [O 66 (.build [(.int .i64 (0)), (.int .i64 (0))] []), ⟨none, (.store 2 (.t 4) (.t 66)), none⟩, O 5 (.mv (I 16))] [2, 3, 14, 16, 65, 66]) .ret) .skip)) (.seq (.ops [M 67 14, O 68 (.bin .gtr (.t 67) (.c (.int .u64 (0)))), M 69 68, ⟨some 70, (.fad 0 (.t 2)), some (69, true)⟩, ⟨some 71, (.load false 1 (.t 70)), some (69, true)⟩, ⟨some 72, (.bin .lss (.t 71) (I 0)), some (69, true)⟩, ⟨some 73, (.fad 0 (.t 3)), some (69, true)⟩, ⟨some 74, (.load false 1 (.t 73)), some (69, true)⟩, ⟨some 75, (.bin .lss (.t 74) (I 0)), some (69, true)⟩, ⟨some 76, (.eqB true (.t 72) (.t 75)), some (69, true)⟩, O 77 (.pick (.t 69) (.t 76) (.c (.bool false))), M 78 14, M 79 16, O 80 (.call (.f n_ratio_signed) [(.t 77), (.t 78), (.t 79)]), O 81 (.ext (.t 80) 0), O 82 (.ext (.t 80) 1), ⟨none, (.store 2 (.t 4) (.t 81)), none⟩, M 5 82] [⟨4, (.agg [.i .i64, .i .i64]), 0⟩, ⟨7, (.agg [.i .i64, .i .i64]), 0⟩] [] [2, 3, 14, 16, 65, 67, 68, 69, 70, 71, 72, 73, 74, 75, 76, 77, 78, 79, 80, 81, 82]) .ret))))))))⟩
def b_85339800 : TCode := (.seq (oQ [oX 45 .lss 44 43] []) (.seq (.cond (.t 45) .skip (.exit 0)) (.seq (.block 1 (.seq (.ops [M 46 44, O 47 (.iad 1 (.t 42) (.t 44)), oF 48 1 47, M 11 46, M 12 48] [⟨1, (.one (.i .i64)), 0⟩, ⟨2, (.one (.i .i64)), 0⟩] [] [45, 46, 47, 48]) (.seq (.ops [O 49 (.fad 1 (.t 3)), oF 50 1 49, M 51 11, O 52 (.bin .add (.t 51) (I 1)), O 53 (.iad 1 (.t 50) (.t 52)), oF 54 1 53, O 55 (.call (.f n_cake_whole) [(.t 54)]), O 13 (.allocL (.agg [(.int .i64 (0)), (.int .i64 (0))])), ⟨none, (.store 2 (.t 13) (.t 55)), none⟩] [⟨1, (.agg [.i .i64, .d, .d]), 0⟩, ⟨4, (.one (.i .i64)), 0⟩, ⟨5, (.one (.i .i64)), 0⟩] [] [11, 49, 50, 51, 52, 53, 54, 55]) (.seq (.seq (oQ [oT 56 2 5, oT 57 2 13, O 58 (.call (.f n_cake_less) [(.t 56), (.t 57)])] [56, 57]) (.cond (.t 58) (oQ [oT 59 2 5, ⟨none, (.store 2 (.t 13) (.t 59)), none⟩] [58, 59]) .skip)) (.seq (.seq (oQ [M 60 12, O 61 (.bin .eql (.t 60) (I 0)), M 62 61, ⟨some 63, (.load true 2 (.t 10)), some (62, false)⟩, ⟨some 64, (.load true 2 (.t 13)), some (62, false)⟩, ⟨some 65, (.call (.f n_cake_less) [(.t 63), (.t 64)]), some (62, false)⟩, ⟨some 66, (.un .not (.t 65)), some (62, false)⟩, O 67 (.pick (.t 62) (.c (.bool true)) (.t 66))] [58, 60, 61, 62, 63, 64, 65, 66]) (.cond (.t 67) (.seq (.seq (oQ [oT 68 2 10, oT 69 2 13, O 70 (.call (.f n_cake_less) [(.t 68), (.t 69)])] [12, 67, 68, 69]) (.cond (.t 70) (oQ [oT 71 2 13, ⟨none, (.store 2 (.t 10) (.t 71)), none⟩] [13, 70, 71]) .skip)) (.exit 1)) .skip)) (.seq (oQ [oT 73 2 13, oT 74 2 10, O 75 (.call (.f n_ratio_Sub) [(.t 73), (.t 74)]), M 72 75, O 76 (.ext (.t 72) 0), O 77 (.ext (.t 72) 1), O 14 (.allocL (.agg [(.int .i64 (0)), (.int .i64 (0))])), ⟨none, (.store 2 (.t 14) (.t 76)), none⟩, M 15 77] [67, 72, 73, 74, 75, 76, 77]) (.seq (.seq (oQ [M 78 15, O 79 (.bin .neq (.t 78) (I 0))] [78]) (.cond (.t 79) (.seq (oQ [O 80 (.build [(.int .i64 (0)), (.int .i64 (0))] []), M 81 15, ⟨none, (.store 2 (.t 6) (.t 80)), none⟩, M 7 81] [3, 5, 9, 10, 12, 13, 14, 15, 42, 43, 44, 79, 80, 81]) .ret) .skip)) (.seq (.ops [oT 83 2 14, M 84 12, O 85 (.call (.f n_cake_whole) [(.t 84)]), O 86 (.call (.f n_ratio_Mul) [(.t 83), (.t 85)]), M 82 86, O 87 (.ext (.t 82) 0), O 88 (.ext (.t 82) 1), O 16 (.allocL (.agg [(.int .i64 (0)), (.int .i64 (0))])), ⟨none, (.store 2 (.t 16) (.t 87)), none⟩, M 15 88] [] [(0, 1), (0, 2), (5, 6), (0, 7), (1, 7), (2, 7), (3, 7), (4, 7), (5, 7), (6, 7), (6, 8)] [12, 14, 79, 82, 83, 84, 85, 86, 87, 88]) (.seq (.seq (oQ [M 89 15, O 90 (.bin .neq (.t 89) (I 0))] [89]) (.cond (.t 90) (.seq (oQ [O 91 (.build [(.int .i64 (0)), (.int .i64 (0))] []), M 92 15, ⟨none, (.store 2 (.t 6) (.t 91)), none⟩, M 7 92] [3, 5, 9, 10, 13, 15, 16, 42, 43, 44, 90, 91, 92]) .ret) .skip)) (.seq (.seq (oQ [oT 94 2 9, oT 95 2 16, O 96 (.call (.f n_ratio_Add) [(.t 94), (.t 95)]), M 93 96, O 97 (.ext (.t 93) 0), O 98 (.ext (.t 93) 1), ⟨none, (.store 2 (.t 9) (.t 97)), none⟩, M 15 98] [16, 90, 93, 94, 95, 96, 97, 98]) (.seq (oQ [M 99 15, O 100 (.bin .neq (.t 99) (I 0))] [99]) (.cond (.t 100) (.seq (oQ [O 101 (.build [(.int .i64 (0)), (.int .i64 (0))] []), M 102 15, ⟨none, (.store 2 (.t 6) (.t 101)), none⟩, M 7 102] [3, 5, 9, 10, 13, 15, 42, 43, 44, 100, 101, 102]) .ret) .skip))) (oQ [oT 103 2 13, ⟨none, (.store 2 (.t 10) (.t 103)), none⟩] [13, 15, 100, 103]))))))))))) (oQ [O 104 (.bin .add (.t 44) (I 1)), M 44 104] [13, 70, 104]))))
def t_cake_Value : TFn := ⟨3, [.cell 6 true 2, .tmp 7], (.seq (oQ [O 3 (.boxL (.t 0)), O 4 (.boxL (.t 1)), O 5 (.boxL (.t 2)), O 6 (.allocL (.agg [(.int .i64 (0)), (.int .i64 (0))])), O 7 (.mv (I 0))] [0, 1, 2, 7]) (.seq (.seq (oQ [oT 17 3 3, O 18 (.call (.f n_cake_Check) [(.t 17)]), M 8 18] [17, 18]) (.seq (oQ [M 19 8, O 20 (.bin .neq (.t 19) (I 0))] [19]) (.cond (.t 20) (.seq (oQ [O 21 (.build [(.int .i64 (0)), (.int .i64 (0))] []), M 22 8, ⟨none, (.store 2 (.t 6) (.t 21)), none⟩, M 7 22] [3, 4, 5, 8, 20, 21, 22]) .ret) .skip))) (.seq (.seq (oQ [oT 23 3 3, oT 24 2 4, O 25 (.call (.f n_cake_point) [(.t 23), (.t 24)]), O 26 (.un .not (.t 25)), M 27 26, ⟨some 28, (.load true 3 (.t 3)), some (27, false)⟩, ⟨some 29, (.load true 2 (.t 5)), some (27, false)⟩, ⟨some 30, (.call (.f n_cake_point) [(.t 28), (.t 29)]), some (27, false)⟩, ⟨some 31, (.un .not (.t 30)), some (27, false)⟩, O 32 (.pick (.t 27) (.c (.bool true)) (.t 31)), M 33 32, ⟨some 34, (.load true 2 (.t 5)), some (33, false)⟩, ⟨some 35, (.load true 2 (.t 4)), some (33, false)⟩, ⟨some 36, (.call (.f n_cake_less) [(.t 34), (.t 35)]), some (33, false)⟩, O 37 (.pick (.t 33) (.c (.bool true)) (.t 36))] [8, 20, 23, 24, 25, 26, 27, 28, 29, 30, 31, 32, 33, 34, 35, 36]) (.cond (.t 37) (.seq (oQ [O 38 (.build [(.int .i64 (0)), (.int .i64 (0))] []), ⟨none, (.store 2 (.t 6) (.t 38)), none⟩, O 7 (.mv (I 2))] [3, 4, 5, 37, 38]) .ret) .skip)) (.seq (oQ [O 39 (.call (.f n_cake_whole) [(I 0)]), O 9 (.allocL (.agg [(.int .i64 (0)), (.int .i64 (0))])), ⟨none, (.store 2 (.t 9) (.t 39)), none⟩] [37, 39]) (.seq (oQ [oT 40 2 4, O 10 (.allocL (.agg [(.int .i64 (0)), (.int .i64 (0))])), ⟨none, (.store 2 (.t 10) (.t 40)), none⟩] [4, 40]) (.seq (.seq (.ops [O 41 (.fad 2 (.t 3)), oF 42 1 41, O 43 (.len (.t 42)), O 44 (.mv (I 0))] [⟨1, (.agg [.i .i64, .d, .d]), 0⟩] [] [41]) (.block 0 (.loop 85339800 b_85339800))) (.seq (oQ [oT 105 2 9, ⟨none, (.store 2 (.t 6) (.t 105)), none⟩, O 7 (.mv (I 0))] [3, 5, 9, 10, 42, 43, 44, 45, 105]) .ret)))))))⟩
def t_piece_Worth_1 : TFn := ⟨2, [.cell 3 true 2, .tmp 4], (.seq (oQ [O 2 (.boxL (.t 0)), O 3 (.allocL (.agg [(.int .i64 (0)), (.int .i64 (0))])), O 4 (.mv (I 0))] [0, 4]) (.seq (.ops [oT 5 3 1, O 6 (.fad 0 (.t 2)), oT 7 2 6, O 8 (.fad 2 (.t 2)), oT 9 2 8, O 10 (.call (.f n_cake_Value) [(.t 5), (.t 7), (.t 9)]), O 11 (.ext (.t 10) 0), O 12 (.ext (.t 10) 1), ⟨none, (.store 2 (.t 3) (.t 11)), none⟩, M 4 12] [⟨2, (.agg [.i .i64, .i .i64, .i .i64, .i .i64]), 0⟩, ⟨4, (.agg [.i .i64, .i .i64, .i .i64, .i .i64]), 0⟩] [] [1, 2, 5, 6, 7, 8, 9, 10, 11, 12]) .ret))⟩
def t_piece_Worth : TFn := ⟨2, [.cell 4 true 2, .tmp 5], (.seq (oQ [O 2 (.boxH true 3 (.t 0)), O 4 (.allocL (.agg [(.int .i64 (0)), (.int .i64 (0))])), O 5 (.mv (I 0))] [0, 5]) (.seq (.seq (.ops [oT 9 3 2, O 10 (.call (.f n_cake_Check) [(.t 9)]), M 6 10] [⟨0, (.agg [.i .i64, .d, .d]), 0⟩] [] [9, 10]) (.seq (oQ [M 11 6, O 12 (.bin .neq (.t 11) (I 0))] [11]) (.cond (.t 12) (.seq (oQ [O 13 (.build [(.int .i64 (0)), (.int .i64 (0))] []), M 14 6, ⟨none, (.store 2 (.t 4) (.t 13)), none⟩, M 5 14] [1, 2, 6, 12, 13, 14]) .ret) .skip))) (.seq (.seq (oQ [M 15 1, O 16 (.call (.f n_piece_Check) [(.t 15)]), M 7 16] [6, 12, 15, 16]) (.seq (oQ [M 17 7, O 18 (.bin .neq (.t 17) (I 0))] [17]) (.cond (.t 18) (.seq (oQ [O 19 (.build [(.int .i64 (0)), (.int .i64 (0))] []), M 20 7, ⟨none, (.store 2 (.t 4) (.t 19)), none⟩, M 5 20] [1, 2, 7, 18, 19, 20]) .ret) .skip))) (.seq (.seq (oQ [M 21 1, O 22 (.len (.t 21)), M 8 22] [7, 18, 21, 22]) (.seq (.ops [M 23 8, O 24 (.bin .gtr (.t 23) (I 0)), M 25 24, ⟨some 26, (.mv (.t 1)), some (25, true)⟩, ⟨some 27, (.iad 4 (.t 26) (I 0)), some (25, true)⟩, ⟨some 28, (.fad 0 (.t 27)), some (25, true)⟩, ⟨some 29, (.fad 0 (.t 28)), some (25, true)⟩, ⟨some 30, (.load false 1 (.t 29)), some (25, true)⟩, ⟨some 31, (.bin .lss (.t 30) (I 0)), some (25, true)⟩, ⟨some 32, (.mv (.t 31)), some (25, true)⟩, ⟨some 33, (.mv (.t 1)), some (32, false)⟩, ⟨some 34, (.mv (.t 8)), some (32, false)⟩, ⟨some 35, (.bin .sub (.t 34) (I 1)), some (32, false)⟩, ⟨some 36, (.iad 4 (.t 33) (.t 35)), some (32, false)⟩, ⟨some 37, (.fad 2 (.t 36)), some (32, false)⟩, ⟨some 38, (.load true 2 (.t 37)), some (32, false)⟩, ⟨some 39, (.fad 0 (.t 2)), some (32, false)⟩, ⟨some 40, (.load false 1 (.t 39)), some (32, false)⟩, ⟨some 41, (.build [(.int .i64 (0)), (.int .i64 (0))] [(0, 1, (.t 40)), (1, 1, (I 1))]), some (32, false)⟩, ⟨some 42, (.call (.f n_piece_order) [(.t 38), (.t 41)]), some (32, false)⟩, ⟨some 43, (.bin .gtr (.t 42) (I 0)), some (32, false)⟩, ⟨some 44, (.pick (.t 32) (.c (.bool true)) (.t 43)), some (25, true)⟩, O 45 (.pick (.t 25) (.t 44) (.c (.bool false)))] [⟨4, (.agg [.i .i64, .i .i64, .i .i64, .i .i64]), 0⟩, ⟨7, (.agg [.i .i64, .i .i64, .i .i64, .i .i64]), 0⟩, ⟨13, (.agg [.i .i64, .i .i64, .i .i64, .i .i64]), 0⟩, ⟨15, (.agg [.i .i64, .i .i64, .i .i64, .i .i64]), 0⟩, ⟨17, (.agg [.i .i64, .d, .d]), 0⟩] [(10, 11), (10, 12), (10, 16), (11, 16), (12, 16), (13, 16), (14, 16), (15, 16), (10, 17), (11, 17), (12, 17), (13, 17), (14, 17), (15, 17), (10, 18), (11, 18), (12, 18), (13, 18), (14, 18), (15, 18)] [8, 23, 24, 25, 26, 27, 28, 29, 30, 31, 32, 33, 34, 35, 36, 37, 38, 39, 40, 41, 42, 43, 44]) (.cond (.t 45) (.seq (oQ [O 46 (.build [(.int .i64 (0)), (.int .i64 (0))] []), ⟨none, (.store 2 (.t 4) (.t 46)), none⟩, O 5 (.mv (I 2))] [1, 2, 45, 46]) .ret) .skip))) (.seq (oQ [M 47 1, O 48 (.mkFn (.func n_piece_Worth_1) [] [(.t 2)]), O 49 (.call (.f n_piece_sum) [(.t 47), (.t 48)]), O 50 (.ext (.t 49) 0), O 51 (.ext (.t 49) 1), ⟨none, (.store 2 (.t 4) (.t 50)), none⟩, M 5 51] [1, 2, 45, 47, 48, 49, 50, 51]) .ret)))))⟩
end Go.Pf.Vc
namespace Go.Pf.Vc
open Go Go.Pf
def t_l03_worths : TFn := ⟨5, [.cell 10 true 8, .tmp 11], (.seq (oQ [O 5 (.boxL (.t 0)), O 10 (.allocL (.agg [(.int .i64 (0)), (.int .i64 (0)), (.int .i64 (0)), (.int .i64 (0)), (.int .i64 (0)), (.int .i64 (0)), (.int .i64 (0)), (.int .i64 (0))])), O 11 (.mv (.c (.bool false)))] [0, 11]) (.seq (oQ [oT 21 3 5, M 22 1, O 23 (.call (.f n_piece_Worth) [(.t 21), (.t 22)]), M 20 23, O 24 (.ext (.t 20) 0), O 25 (.ext (.t 20) 1), O 12 (.allocL (.agg [(.int .i64 (0)), (.int .i64 (0))])), ⟨none, (.store 2 (.t 12) (.t 24)), none⟩, M 13 25] [1, 20, 21, 22, 23, 24, 25]) (.seq (oQ [oT 27 3 5, M 28 2, O 29 (.call (.f n_piece_Worth) [(.t 27), (.t 28)]), M 26 29, O 30 (.ext (.t 26) 0), O 31 (.ext (.t 26) 1), O 14 (.allocL (.agg [(.int .i64 (0)), (.int .i64 (0))])), ⟨none, (.store 2 (.t 14) (.t 30)), none⟩, M 15 31] [2, 26, 27, 28, 29, 30, 31]) (.seq (oQ [oT 33 3 5, M 34 3, O 35 (.call (.f n_piece_Worth) [(.t 33), (.t 34)]), M 32 35, O 36 (.ext (.t 32) 0), O 37 (.ext (.t 32) 1), O 16 (.allocL (.agg [(.int .i64 (0)), (.int .i64 (0))])), ⟨none, (.store 2 (.t 16) (.t 36)), none⟩, M 17 37] [3, 32, 33, 34, 35, 36, 37]) (.seq (oQ [oT 39 3 5, M 40 4, O 41 (.call (.f n_piece_Worth) [(.t 39), (.t 40)]), M 38 41, O 42 (.ext (.t 38) 0), O 43 (.ext (.t 38) 1), O 18 (.allocL (.agg [(.int .i64 (0)), (.int .i64 (0))])), ⟨none, (.store 2 (.t 18) (.t 42)), none⟩, M 19 43] [4, 5, 38, 39, 40, 41, 42, 43]) (.seq (oQ [oT 44 2 12, oT 45 2 14, oT 46 2 16, oT 47 2 18, O 48 (.build [(.int .i64 (0)), (.int .i64 (0)), (.int .i64 (0)), (.int .i64 (0)), (.int .i64 (0)), (.int .i64 (0)), (.int .i64 (0)), (.int .i64 (0))] [(0, 2, (.t 44)), (2, 2, (.t 45)), (4, 2, (.t 46)), (6, 2, (.t 47))]), M 49 13, O 50 (.bin .eql (.t 49) (I 0)), M 51 50, ⟨some 52, (.mv (.t 15)), some (51, true)⟩, ⟨some 53, (.bin .eql (.t 52) (I 0)), some (51, true)⟩, O 54 (.pick (.t 51) (.t 53) (.c (.bool false))), M 55 54, ⟨some 56, (.mv (.t 17)), some (55, true)⟩, ⟨some 57, (.bin .eql (.t 56) (I 0)), some (55, true)⟩, O 58 (.pick (.t 55) (.t 57) (.c (.bool false))), M 59 58, ⟨some 60, (.mv (.t 19)), some (59, true)⟩, ⟨some 61, (.bin .eql (.t 60) (I 0)), some (59, true)⟩, O 62 (.pick (.t 59) (.t 61) (.c (.bool false))), ⟨none, (.store 8 (.t 10) (.t 48)), none⟩, M 11 62] [12, 13, 14, 15, 16, 17, 18, 19, 44, 45, 46, 47, 48, 49, 50, 51, 52, 53, 54, 55, 56, 57, 58, 59, 60, 61, 62]) .ret))))))⟩
def t_l03_PieceSums : TFn := ⟨3, [.tmp 6], (.seq (oQ [O 5 (.boxL (.t 2)), O 6 (.mv (.c (.bool false)))] [2, 6]) (.seq (.seq (oQ [M 11 0, O 12 (.call (.f n_l03_valid) [(.t 11)]), O 13 (.un .not (.t 12)), M 14 13, ⟨some 15, (.mv (.t 1)), some (14, false)⟩, ⟨some 16, (.call (.f n_l03_valid) [(.t 15)]), some (14, false)⟩, ⟨some 17, (.un .not (.t 16)), some (14, false)⟩, O 18 (.pick (.t 14) (.c (.bool true)) (.t 17)), M 19 18, ⟨some 20, (.load true 3 (.t 5)), some (19, false)⟩, ⟨some 21, (.call (.f n_r02_Great) [(.t 20)]), some (19, false)⟩, O 22 (.pick (.t 19) (.c (.bool true)) (.t 21))] [11, 12, 13, 14, 15, 16, 17, 18, 19, 20, 21]) (.cond (.t 22) (.seq (oQ [O 23 (.call (.f n_l03_alive) []), M 6 23] [0, 1, 5, 22, 23]) .ret) .skip)) (.seq (oQ [M 25 0, M 26 1, O 27 (.call (.f n_piece_Union) [(.t 25), (.t 26)]), M 24 27, O 28 (.ext (.t 24) 0), O 29 (.ext (.t 24) 1), M 7 28, M 8 29] [22, 24, 25, 26, 27, 28, 29]) (.seq (oQ [M 31 0, M 32 1, O 33 (.call (.f n_piece_Meet) [(.t 31), (.t 32)]), M 30 33, O 34 (.ext (.t 30) 0), O 35 (.ext (.t 30) 1), M 9 34, M 10 35] [30, 31, 32, 33, 34, 35]) (.seq (.seq (oQ [M 36 8, O 37 (.bin .neq (.t 36) (I 0)), M 38 37, ⟨some 39, (.mv (.t 10)), some (38, false)⟩, ⟨some 40, (.bin .neq (.t 39) (I 0)), some (38, false)⟩, O 41 (.pick (.t 38) (.c (.bool true)) (.t 40))] [8, 10, 36, 37, 38, 39, 40]) (.cond (.t 41) (.seq (oQ [O 6 (.mv (.c (.bool false)))] [0, 1, 5, 7, 9, 41]) .ret) .skip)) (.seq (.seq (oQ [M 42 0, M 43 1, M 44 7, M 45 9, O 46 (.call (.f n_l03_lengths) [(.t 42), (.t 43), (.t 44), (.t 45)]), O 47 (.ext (.t 46) 0), O 48 (.ext (.t 46) 1), O 49 (.call (.f n_l03_adds) [(.t 47), (.t 48)]), O 50 (.un .not (.t 49))] [41, 42, 43, 44, 45, 46, 47, 48, 49]) (.cond (.t 50) (.seq (oQ [O 6 (.mv (.c (.bool false)))] [0, 1, 5, 7, 9, 50]) .ret) .skip)) (.seq (.seq (.ops [oT 51 3 5, O 52 (.call (.f n_r02_Check) [(.t 51)]), O 53 (.bin .neq (.t 52) (I 0)), M 54 53, ⟨some 55, (.fad 0 (.t 5)), some (54, false)⟩, ⟨some 56, (.load false 1 (.t 55)), some (54, false)⟩, ⟨some 57, (.mv (.t 0)), some (54, false)⟩, ⟨some 58, (.call (.f n_r03_Within) [(.t 56), (.t 57)]), some (54, false)⟩, ⟨some 59, (.un .not (.t 58)), some (54, false)⟩, O 60 (.pick (.t 54) (.c (.bool true)) (.t 59)), M 61 60, ⟨some 62, (.fad 0 (.t 5)), some (61, false)⟩, ⟨some 63, (.load false 1 (.t 62)), some (61, false)⟩, ⟨some 64, (.mv (.t 1)), some (61, false)⟩, ⟨some 65, (.call (.f n_r03_Within) [(.t 63), (.t 64)]), some (61, false)⟩, ⟨some 66, (.un .not (.t 65)), some (61, false)⟩, O 67 (.pick (.t 61) (.c (.bool true)) (.t 66))] [⟨5, (.agg [.i .i64, .d, .d]), 0⟩, ⟨12, (.agg [.i .i64, .d, .d]), 0⟩] [] [50, 51, 52, 53, 54, 55, 56, 57, 58, 59, 60, 61, 62, 63, 64, 65, 66]) (.cond (.t 67) (.seq (oQ [O 68 (.call (.f n_l03_alive) []), M 6 68] [0, 1, 5, 7, 9, 67, 68]) .ret) .skip)) (.seq (oQ [oT 69 3 5, M 70 0, M 71 1, M 72 7, M 73 9, O 74 (.call (.f n_l03_worths) [(.t 69), (.t 70), (.t 71), (.t 72), (.t 73)]), O 75 (.ext (.t 74) 0), O 76 (.ext (.t 74) 1), O 77 (.call (.f n_l03_adds) [(.t 75), (.t 76)]), M 78 77, ⟨some 79, (.call (.f n_l03_alive) []), some (78, true)⟩, O 80 (.pick (.t 78) (.t 79) (.c (.bool false))), M 6 80] [0, 1, 5, 7, 9, 67, 69, 70, 71, 72, 73, 74, 75, 76, 77, 78, 79, 80]) .ret))))))))⟩
def tab : List (Nat × AFn) := [(n_r03_Great, t_r03_Great.fn), (n_r01_abs, t_r01_abs.fn), (n_r01_gcd, t_r01_gcd.fn), (n_r01_Check, t_r01_Check.fn), (n_r01_Both, t_r01_Both.fn), (n_r01_times, t_r01_times.fn), (n_r01_less, t_r01_less.fn), (n_r01_Less, t_r01_Less.fn), (n_r03_Valid, t_r03_Valid.fn), (n_r03_Check, t_r03_Check.fn), (n_l03_valid, t_l03_valid.fn), (n_r02_Great, t_r02_Great.fn), (n_l03_of, t_l03_of.fn), (n_ratio_size, t_ratio_size.fn), (n_ratio_gcd, t_ratio_gcd.fn), (n_ratio_Check, t_ratio_Check.fn), (n_cmp_Or_api_Errno, t_cmp_Or_api_Errno.fn), (n_ratio_check, t_ratio_check.fn), (n_cmp_isNaN_int64, t_cmp_isNaN_int64.fn), (n_cmp_Compare_int64, t_cmp_Compare_int64.fn), (n_m_Mul64, t_m_Mul64.fn), (n_cmp_isNaN_uint64, t_cmp_isNaN_uint64.fn), (n_cmp_Compare_uint64, t_cmp_Compare_uint64.fn), (n_cmp_Or_int, t_cmp_Or_int.fn), (n_ratio_Cmp, t_ratio_Cmp.fn), (n_piece_valid, t_piece_valid.fn), (n_piece_all, t_piece_all.fn), (n_s_Clone_api_Span_api_Span, t_s_Clone_api_Span_api_Span.fn), (n_m_Len32, t_m_Len32.fn), (n_m_Len64, t_m_Len64.fn), (n_m_Len, t_m_Len.fn), (n_slices_insertionSortCmpFunc_api_Span, t_slices_insertionSortCmpFunc_api_Span.fn), (n_slices_pdqsortCmpFunc_api_Span, t_slices_pdqsortCmpFunc_api_Span.fn), (n_s_SortFunc_api_Span_api_Span, t_s_SortFunc_api_Span_api_Span.fn), (n_piece_order, t_piece_order.fn), (n_piece_merged_1, t_piece_merged_1.fn), (n_piece_merged, t_piece_merged.fn), (n_piece_Make, t_piece_Make.fn), (n_piece_Check, t_piece_Check.fn), (n_piece_Has_1, t_piece_Has_1.fn), (n_s_IndexFunc_api_Span_api_Span, t_s_IndexFunc_api_Span_api_Span.fn), (n_s_ContainsFunc_api_Span_api_Span, t_s_ContainsFunc_api_Span_api_Span.fn), (n_piece_Has, t_piece_Has.fn), (n_piece_both, t_piece_both.fn), (n_piece_few, t_piece_few.fn), (n_piece_Minus, t_piece_Minus.fn), (n_m_LeadingZeros64, t_m_LeadingZeros64.fn), (n_m_Div64, t_m_Div64.fn), (n_m_Rem64, t_m_Rem64.fn), (n_ratio_signed, t_ratio_signed.fn), (n_ratio_Add, t_ratio_Add.fn), (n_piece_sum, t_piece_sum.fn), (n_ratio_Sub, t_ratio_Sub.fn), (n_piece_Length_1, t_piece_Length_1.fn), (n_piece_Length, t_piece_Length.fn), (n_piece_sooner, t_piece_sooner.fn), (n_piece_later, t_piece_later.fn), (n_piece_Cut, t_piece_Cut.fn), (n_r03_Same, t_r03_Same.fn), (n_l03_is, t_l03_is.fn), (n_l03_alive, t_l03_alive.fn), (n_s_Grow_api_Span_api_Span, t_s_Grow_api_Span_api_Span.fn), (n_s_Concat_api_Span_api_Span, t_s_Concat_api_Span_api_Span.fn), (n_piece_Union, t_piece_Union.fn), (n_piece_Meet, t_piece_Meet.fn), (n_l03_lengths, t_l03_lengths.fn), (n_l03_adds, t_l03_adds.fn), (n_r02_Check, t_r02_Check.fn), (n_r01_Of, t_r01_Of.fn), (n_r02_Point, t_r02_Point.fn), (n_r03_Within, t_r03_Within.fn), (n_s_Min_int_int, t_s_Min_int_int.fn), (n_s_Max_int_int, t_s_Max_int_int.fn), (n_cake_Check, t_cake_Check.fn), (n_cake_whole, t_cake_whole.fn), (n_cake_less, t_cake_less.fn), (n_cake_point, t_cake_point.fn), (n_ratio_Mul, t_ratio_Mul.fn), (n_cake_Value, t_cake_Value.fn), (n_piece_Worth_1, t_piece_Worth_1.fn), (n_piece_Worth, t_piece_Worth.fn), (n_l03_worths, t_l03_worths.fn), (n_l03_PieceSums, t_l03_PieceSums.fn)]
def quiL : List Nat := [n_r03_Great, n_r01_abs, n_r01_gcd, n_r01_Check, n_r01_Both, n_r01_times, n_r01_less, n_r01_Less, n_r03_Valid, n_r03_Check, n_l03_valid, n_r02_Great, n_l03_of, n_ratio_size, n_ratio_gcd, n_ratio_Check, n_cmp_Or_api_Errno, n_ratio_check, n_cmp_isNaN_int64, n_cmp_Compare_int64, n_m_Mul64, n_cmp_isNaN_uint64, n_cmp_Compare_uint64, n_cmp_Or_int, n_ratio_Cmp, n_piece_valid, n_piece_all, n_m_Len32, n_m_Len64, n_m_Len, n_piece_order, n_piece_merged_1, n_piece_merged, n_piece_Make, n_piece_Check, n_piece_Has, n_piece_both, n_piece_few, n_piece_Minus, n_m_Add64, n_m_Sub64, n_m_LeadingZeros64, n_m_Div64, n_m_Rem64, n_ratio_signed, n_ratio_Add, n_ratio_Sub, n_piece_Length_1, n_piece_Length, n_piece_sooner, n_piece_later, n_piece_Cut, n_r03_Same, n_l03_is, n_l03_alive, n_piece_Union, n_piece_Meet, n_l03_lengths, n_l03_adds, n_r02_Check, n_r01_Of, n_r02_Point, n_r03_Within, n_s_Min_int_int, n_s_Max_int_int, n_cake_Check, n_cake_whole, n_cake_less, n_cake_point, n_ratio_Mul, n_cake_Value, n_piece_Worth, n_l03_worths, n_l03_PieceSums]
def cloL : Clones := []
def gloL : List (Nat × PV) := []
def E (ef : List (Nat × EffF)) : Env := baseS n_m_Add64 n_m_Sub64 tab quiL cloL gloL ef
def E0C : Env := baseC n_m_Add64 n_m_Sub64 tab quiL cloL gloL
abbrev srt_piece_merged_1 : Srts := spSrt n_s_SortFunc_api_Span_api_Span n_piece_merged_1
def effNums : List Nat := [n_s_SortFunc_api_Span_api_Span, n_s_Clone_api_Span_api_Span]
abbrev EG (e : List (Nat × EffF)) : Prop := EffG E effNums e
theorem effG_nil : EG [] := ⟨fun _ _ _ _ h => (by cases h), fun _ _ _ _ => rfl⟩
def ef0 : List (Nat × EffF) := [(n_s_SortFunc_api_Span_api_Span, srtEff srt_piece_merged_1.s srt_piece_merged_1.srt), (n_s_Clone_api_Span_api_Span, clnEff n_s_Clone_api_Span_api_Span 4 32)]
theorem effG0 : EG ef0 := ⟨baseS_eff (by kernel_rfl), fun n h xs H => lookE_none (l := ef0) h⟩
abbrev T_m_Add64 : Type := Int → Int → Int → (Int → Int → Prop) → Prop
abbrev T_m_Sub64 : Type := Int → Int → Int → (Int → Int → Prop) → Prop
theorem ok_m_Add64 (e : List (Nat × EffF)) (_ : EG e) : OkF (E e) wp_m_Add64 n_m_Add64 := add64_okS
theorem ok_m_Sub64 (e : List (Nat × EffF)) (_ : EG e) : OkF (E e) wp_m_Sub64 n_m_Sub64 := sub64_okS (by kernel_rfl)
end Go.Pf.Vc
namespace Go.Pf.Vc
open Go Go.Pf
set_option maxRecDepth 100000
abbrev T_ratio_size : Type := Int → (Int → Prop) → Prop
def wv_ratio_size (p0 : Int) (K : Int → Prop) : Prop :=
 (cbr (decide (p0 < (0 : Int)))
 (K (IntKind.u64.wrap ((0 : Int) - (IntKind.u64.wrap p0))))
 (K (IntKind.u64.wrap p0)))
def w_ratio_size (p0 : Int) (K : Int → Prop) : Prop := wv_ratio_size p0 K
def pw_ratio_size (w : T_ratio_size) (as : List PV) (K : PV → Prop) : Prop :=
 match as with
 | [(.int .i64 p0)] => w p0 (fun r0 => K (.int .u64 r0))
 | _ => False
def wp_ratio_size (as : List PV) (K : PV → Prop) : Prop := pw_ratio_size w_ratio_size as K
def lp_ratio_size : LP := fun _ _ _ _ =>
 False
def S0_ratio_size (e : List (Nat × EffF)) : SE := ⟨(E e), lookS [], lookI [], lp_ratio_size⟩
theorem se0_ratio_size (e : List (Nat × EffF)) (he : EG e) : SEOk (S0_ratio_size e) := seOk_of trivial trivial he.ok
theorem eq_ratio_size (e : List (Nat × EffF)) ( p0 K) : WP (S0_ratio_size e) 6 t_ratio_size [(.int .i64 p0)] K = wv_ratio_size p0 (fun r0 => K (.int .u64 r0)) := by kernel_rfl
theorem ok_ratio_size (e : List (Nat × EffF)) (he : EG e) : OkF (E e) wp_ratio_size n_ratio_size := by
 intro as K h
 unfold wp_ratio_size pw_ratio_size at h
 split at h
 · exact WP_ok (se0_ratio_size e he) (LpOk_no (by kernel_rfl)) (by kernel_rfl) (by kernel_rfl) (fun _ => baseS_none (by kernel_rfl) _) (he.num _ (by kernel_rfl)) ((eq_ratio_size ..).mpr h)
 · exact h.elim
abbrev T_ratio_gcd : Type := Int → Int → (Int → Prop) → Prop
def L_ratio_gcd_0_0 (x0 : Int → Int → Bool → Prop) : Nat → Int → Int → Prop
 | 0, _, _ => False
 | n + 1, i0, i1 =>
 (cbr (decide (i1 > (0 : Int)))
 (asr (!(decide (i1 = (0 : Int))))
 (L_ratio_gcd_0_0 x0 n i1 (Int.tmod i0 i1)))
 (x0 i0 i1 false))
def wv_ratio_gcd (p0 p1 : Int) (K : Int → Prop) : Prop :=
 (∃ n : Nat, L_ratio_gcd_0_0
 (fun yi0 _ _ => (K yi0))
 n p0 p1)
def w_ratio_gcd (p0 p1 : Int) (K : Int → Prop) : Prop := wv_ratio_gcd p0 p1 K
def pw_ratio_gcd (w : T_ratio_gcd) (as : List PV) (K : PV → Prop) : Prop :=
 match as with
 | [(.int .u64 p0), (.int .u64 p1)] => w p0 p1 (fun r0 => K (.int .u64 r0))
 | _ => False
def wp_ratio_gcd (as : List PV) (K : PV → Prop) : Prop := pw_ratio_gcd w_ratio_gcd as K
def D_ratio_gcd_0 (F : Frm) (H : Hp) (A0 : Int → Int → Prop) : Prop :=
 match F, H with
 | [(0, .v (.int .u64 i0)), (1, .v (.int .u64 i1))], [] => (A0 i0 i1)
 | _, _ => False
def X_ratio_gcd_0_0 (Q : Ex → Frm → Hp → Prop) : Int → Int → Bool → Prop := (fun i0 i1 b2 => Q (.exit 0) [(0, .v (.int .u64 i0)), (1, .v (.int .u64 i1)), (6, .v (.bool b2))] [])
def R_ratio_gcd_0 (Q : Ex → Frm → Hp → Prop) (n : Nat) (F : Frm) (H : Hp) : Prop := D_ratio_gcd_0 F H (fun i0 i1 => L_ratio_gcd_0_0 (X_ratio_gcd_0_0 Q) n i0 i1)
def lp_ratio_gcd : LP := fun id F H Q =>
 bif Nat.beq id 32725300 then D_ratio_gcd_0 F H (fun i0 i1 => ∃ n : Nat, L_ratio_gcd_0_0 (X_ratio_gcd_0_0 Q) n i0 i1) else
 False
def S0_ratio_gcd (e : List (Nat × EffF)) : SE := ⟨(E e), lookS [], lookI [], lp_ratio_gcd⟩
theorem se0_ratio_gcd (e : List (Nat × EffF)) (he : EG e) : SEOk (S0_ratio_gcd e) := seOk_of trivial trivial he.ok
theorem body_ratio_gcd_0_0 (e : List (Nat × EffF)) ( Q n i0 i1) : WC (E e) (callW (S0_ratio_gcd e) 5) (lp_ratio_gcd) b_32725300 [(0, .v (.int .u64 i0)), (1, .v (.int .u64 i1))] [] (fun x F' H' => match x with | .norm => R_ratio_gcd_0 Q n F' H' | .exit i => Q (.exit i) F' H' | .ret => Q .ret F' H') = L_ratio_gcd_0_0 (X_ratio_gcd_0_0 Q) (n + 1) i0 i1 := by kernel_rfl
theorem lpb_ratio_gcd_0 (e : List (Nat × EffF)) (_ : EG e) : LpOk (E e) (lp_ratio_gcd) b_32725300 := (LpOk_no (by kernel_rfl))
theorem loop_ratio_gcd_0 (e : List (Nat × EffF)) (he : EG e) : ∀ F H Q, lp_ratio_gcd 32725300 F H Q → LoopT (E e) b_32725300 F H Q := by
 intro F H Q h
 have go := LoopT.intro (callW_ok (se0_ratio_gcd e he) 5) (lpb_ratio_gcd_0 e he) (R_ratio_gcd_0 Q) (by
   intro F H h
   unfold R_ratio_gcd_0 D_ratio_gcd_0 at h
   split at h
   · exact h
   · exact h) (by
   intro n F H h
   unfold R_ratio_gcd_0 D_ratio_gcd_0 at h
   split at h
   · exact (body_ratio_gcd_0_0 ..).mpr h
   · exact h.elim)
 have h : D_ratio_gcd_0 F H _ := h
 unfold D_ratio_gcd_0 at h
 split at h
 · obtain ⟨n, h⟩ := h; exact go n _ _ h
 · exact h.elim
theorem eq_ratio_gcd (e : List (Nat × EffF)) ( p0 p1 K) : WP (S0_ratio_gcd e) 6 t_ratio_gcd [(.int .u64 p0), (.int .u64 p1)] K = wv_ratio_gcd p0 p1 (fun r0 => K (.int .u64 r0)) := by kernel_rfl
theorem ok_ratio_gcd (e : List (Nat × EffF)) (he : EG e) : OkF (E e) wp_ratio_gcd n_ratio_gcd := by
 intro as K h
 unfold wp_ratio_gcd pw_ratio_gcd at h
 split at h
 · exact WP_ok (se0_ratio_gcd e he) (LpOk_by (l := [(32725300, b_32725300)]) ⟨loop_ratio_gcd_0 e he, trivial⟩ (by kernel_rfl)) (by kernel_rfl) (by kernel_rfl) (fun _ => baseS_none (by kernel_rfl) _) (he.num _ (by kernel_rfl)) ((eq_ratio_gcd ..).mpr h)
 · exact h.elim
abbrev T_ratio_Check : Type := Int → Int → (Int → Prop) → Prop
def wv_ratio_Check (a0 : T_ratio_size) (a1 : T_ratio_gcd) (p0 p1 : Int) (K : Int → Prop) : Prop :=
 (cbr (decide (p1 < (1 : Int)))
 (K (8 : Int))
 (a0 p0 (fun yi0 => 
 (cbr (decide ((if (IntKind.u64.wrap p1) > yi0 then (IntKind.u64.wrap p1) else yi0) > (1000000000000000000 : Int)))
 (K (8 : Int))
 (a0 p0 (fun yi1 => 
 (a1 yi1 (IntKind.u64.wrap p1) (fun yi2 => 
 (cbr (decide (yi2 > (1 : Int)))
 (K (8 : Int))
 (K (0 : Int)))))))))))
def w_ratio_Check (p0 p1 : Int) (K : Int → Prop) : Prop := wv_ratio_Check w_ratio_size w_ratio_gcd p0 p1 K
def pw_ratio_Check (w : T_ratio_Check) (as : List PV) (K : PV → Prop) : Prop :=
 match as with
 | [(.agg [(.int .i64 p0), (.int .i64 p1)])] => w p0 p1 (fun r0 => K (.int .i64 r0))
 | _ => False
def wp_ratio_Check (as : List PV) (K : PV → Prop) : Prop := pw_ratio_Check w_ratio_Check as K
def lp_ratio_Check (_ : T_ratio_size) (_ : T_ratio_gcd) : LP := fun _ _ _ _ =>
 False
def S0_ratio_Check (e : List (Nat × EffF)) (a0 : T_ratio_size) (a1 : T_ratio_gcd) : SE := ⟨(E e), lookS [(n_ratio_size, pw_ratio_size a0), (n_ratio_gcd, pw_ratio_gcd a1)], lookI [], lp_ratio_Check a0 a1⟩
theorem se0_ratio_Check (e : List (Nat × EffF)) (he : EG e) : SEOk (S0_ratio_Check e w_ratio_size w_ratio_gcd) := seOk_of ⟨(ok_ratio_size e he), (ok_ratio_gcd e he), trivial⟩ trivial he.ok
theorem eq_ratio_Check (e : List (Nat × EffF)) (a0 a1 p0 p1 K) : WP (S0_ratio_Check e a0 a1) 6 t_ratio_Check [(.agg [(.int .i64 p0), (.int .i64 p1)])] K = wv_ratio_Check a0 a1 p0 p1 (fun r0 => K (.int .i64 r0)) := by kernel_rfl
theorem ok_ratio_Check (e : List (Nat × EffF)) (he : EG e) : OkF (E e) wp_ratio_Check n_ratio_Check := by
 intro as K h
 unfold wp_ratio_Check pw_ratio_Check at h
 split at h
 · exact WP_ok (se0_ratio_Check e he) (LpOk_no (by kernel_rfl)) (by kernel_rfl) (by kernel_rfl) (fun _ => baseS_none (by kernel_rfl) _) (he.num _ (by kernel_rfl)) ((eq_ratio_Check ..).mpr h)
 · exact h.elim
abbrev T_cmp_Or_api_Errno : Type := List PV → (Int → Prop) → Prop
def L_cmp_Or_api_Errno_0_0 (x0 : Int → Prop) (x1 : Int → List PV → Int → Int → Bool → Prop) : Nat → Int → List PV → Int → Int → Prop
 | 0, _, _, _, _ => False
 | n + 1, i0, l1, i2, i3 =>
 (cbr (decide (i3 < i2))
 (asr (decide ((0 : Int) ≤ i3))
 (asr (decide (i3 < (((List.length l1) : Nat) : Int)))
 (asr (conf (.one (.i .i64)) (List.getD l1 (i3.toNat) .nils))
 (cbr ((intOfV (List.getD l1 (i3.toNat) .nils)) != i0)
 (x0 (intOfV (List.getD l1 (i3.toNat) .nils)))
 (L_cmp_Or_api_Errno_0_0 x0 x1 n i0 l1 i2 (IntKind.i64.wrap (i3 + (1 : Int))))))))
 (x1 i0 l1 i2 i3 false))
def wv_cmp_Or_api_Errno (p0 : List PV) (K : Int → Prop) : Prop :=
 (∃ n : Nat, L_cmp_Or_api_Errno_0_0
 (fun yi0 => (K yi0))
 (fun yi1 _ _ _ _ => (K yi1))
 n (0 : Int) p0 (((List.length p0) : Nat) : Int) (0 : Int))
def w_cmp_Or_api_Errno (p0 : List PV) (K : Int → Prop) : Prop := wv_cmp_Or_api_Errno p0 K
def pw_cmp_Or_api_Errno (w : T_cmp_Or_api_Errno) (as : List PV) (K : PV → Prop) : Prop :=
 match as with
 | [(.data p0)] => w p0 (fun r0 => K (.int .i64 r0))
 | _ => False
def wp_cmp_Or_api_Errno (as : List PV) (K : PV → Prop) : Prop := pw_cmp_Or_api_Errno w_cmp_Or_api_Errno as K
def D_cmp_Or_api_Errno_0 (F : Frm) (H : Hp) (A0 : Int → List PV → Int → Int → Prop) : Prop :=
 match F, H with
 | [(3, .v (.int .i64 i0)), (6, .v (.data l1)), (7, .v (.int .i64 i2)), (8, .v (.int .i64 i3))], [] => (A0 i0 l1 i2 i3)
 | _, _ => False
def X_cmp_Or_api_Errno_0_0 (Q : Ex → Frm → Hp → Prop) : Int → Prop := (fun i0 => Q .ret [(2, .v (.int .i64 i0))] [])
def X_cmp_Or_api_Errno_0_1 (Q : Ex → Frm → Hp → Prop) : Int → List PV → Int → Int → Bool → Prop := (fun i0 l1 i2 i3 b4 => Q (.exit 0) [(3, .v (.int .i64 i0)), (6, .v (.data l1)), (7, .v (.int .i64 i2)), (8, .v (.int .i64 i3)), (9, .v (.bool b4))] [])
def R_cmp_Or_api_Errno_0 (Q : Ex → Frm → Hp → Prop) (n : Nat) (F : Frm) (H : Hp) : Prop := D_cmp_Or_api_Errno_0 F H (fun i0 l1 i2 i3 => L_cmp_Or_api_Errno_0_0 (X_cmp_Or_api_Errno_0_0 Q) (X_cmp_Or_api_Errno_0_1 Q) n i0 l1 i2 i3)
def lp_cmp_Or_api_Errno : LP := fun id F H Q =>
 bif Nat.beq id 38508400 then D_cmp_Or_api_Errno_0 F H (fun i0 l1 i2 i3 => ∃ n : Nat, L_cmp_Or_api_Errno_0_0 (X_cmp_Or_api_Errno_0_0 Q) (X_cmp_Or_api_Errno_0_1 Q) n i0 l1 i2 i3) else
 False
def S0_cmp_Or_api_Errno (e : List (Nat × EffF)) : SE := ⟨(E e), lookS [], lookI [], lp_cmp_Or_api_Errno⟩
theorem se0_cmp_Or_api_Errno (e : List (Nat × EffF)) (he : EG e) : SEOk (S0_cmp_Or_api_Errno e) := seOk_of trivial trivial he.ok
theorem body_cmp_Or_api_Errno_0_0 (e : List (Nat × EffF)) ( Q n i0 l1 i2 i3) : WC (E e) (callW (S0_cmp_Or_api_Errno e) 5) (lp_cmp_Or_api_Errno) b_38508400 [(3, .v (.int .i64 i0)), (6, .v (.data l1)), (7, .v (.int .i64 i2)), (8, .v (.int .i64 i3))] [] (fun x F' H' => match x with | .norm => R_cmp_Or_api_Errno_0 Q n F' H' | .exit i => Q (.exit i) F' H' | .ret => Q .ret F' H') = L_cmp_Or_api_Errno_0_0 (X_cmp_Or_api_Errno_0_0 Q) (X_cmp_Or_api_Errno_0_1 Q) (n + 1) i0 l1 i2 i3 := by kernel_rfl
theorem lpb_cmp_Or_api_Errno_0 (e : List (Nat × EffF)) (_ : EG e) : LpOk (E e) (lp_cmp_Or_api_Errno) b_38508400 := (LpOk_no (by kernel_rfl))
theorem loop_cmp_Or_api_Errno_0 (e : List (Nat × EffF)) (he : EG e) : ∀ F H Q, lp_cmp_Or_api_Errno 38508400 F H Q → LoopT (E e) b_38508400 F H Q := by
 intro F H Q h
 have go := LoopT.intro (callW_ok (se0_cmp_Or_api_Errno e he) 5) (lpb_cmp_Or_api_Errno_0 e he) (R_cmp_Or_api_Errno_0 Q) (by
   intro F H h
   unfold R_cmp_Or_api_Errno_0 D_cmp_Or_api_Errno_0 at h
   split at h
   · exact h
   · exact h) (by
   intro n F H h
   unfold R_cmp_Or_api_Errno_0 D_cmp_Or_api_Errno_0 at h
   split at h
   · exact (body_cmp_Or_api_Errno_0_0 ..).mpr h
   · exact h.elim)
 have h : D_cmp_Or_api_Errno_0 F H _ := h
 unfold D_cmp_Or_api_Errno_0 at h
 split at h
 · obtain ⟨n, h⟩ := h; exact go n _ _ h
 · exact h.elim
theorem eq_cmp_Or_api_Errno (e : List (Nat × EffF)) ( p0 K) : WP (S0_cmp_Or_api_Errno e) 6 t_cmp_Or_api_Errno [(.data p0)] K = wv_cmp_Or_api_Errno p0 (fun r0 => K (.int .i64 r0)) := by kernel_rfl
theorem ok_cmp_Or_api_Errno (e : List (Nat × EffF)) (he : EG e) : OkF (E e) wp_cmp_Or_api_Errno n_cmp_Or_api_Errno := by
 intro as K h
 unfold wp_cmp_Or_api_Errno pw_cmp_Or_api_Errno at h
 split at h
 · exact WP_ok (se0_cmp_Or_api_Errno e he) (LpOk_by (l := [(38508400, b_38508400)]) ⟨loop_cmp_Or_api_Errno_0 e he, trivial⟩ (by kernel_rfl)) (by kernel_rfl) (by kernel_rfl) (fun _ => baseS_none (by kernel_rfl) _) (he.num _ (by kernel_rfl)) ((eq_cmp_Or_api_Errno ..).mpr h)
 · exact h.elim
abbrev T_ratio_check : Type := Int → Int → Int → Int → (Int → Prop) → Prop
def wv_ratio_check (a0 : T_ratio_Check) (a1 : T_cmp_Or_api_Errno) (p0 p1 p2 p3 : Int) (K : Int → Prop) : Prop :=
 (a0 p0 p1 (fun yi0 => 
 (a0 p2 p3 (fun yi1 => 
 (a1 ([(.int .i64 yi0), (.int .i64 yi1)] : List PV) (fun yi2 => 
 (K yi2)))))))
def w_ratio_check (p0 p1 p2 p3 : Int) (K : Int → Prop) : Prop := wv_ratio_check w_ratio_Check w_cmp_Or_api_Errno p0 p1 p2 p3 K
def pw_ratio_check (w : T_ratio_check) (as : List PV) (K : PV → Prop) : Prop :=
 match as with
 | [(.agg [(.int .i64 p0), (.int .i64 p1)]), (.agg [(.int .i64 p2), (.int .i64 p3)])] => w p0 p1 p2 p3 (fun r0 => K (.int .i64 r0))
 | _ => False
def wp_ratio_check (as : List PV) (K : PV → Prop) : Prop := pw_ratio_check w_ratio_check as K
def lp_ratio_check (_ : T_ratio_Check) (_ : T_cmp_Or_api_Errno) : LP := fun _ _ _ _ =>
 False
def S0_ratio_check (e : List (Nat × EffF)) (a0 : T_ratio_Check) (a1 : T_cmp_Or_api_Errno) : SE := ⟨(E e), lookS [(n_ratio_Check, pw_ratio_Check a0), (n_cmp_Or_api_Errno, pw_cmp_Or_api_Errno a1)], lookI [], lp_ratio_check a0 a1⟩
theorem se0_ratio_check (e : List (Nat × EffF)) (he : EG e) : SEOk (S0_ratio_check e w_ratio_Check w_cmp_Or_api_Errno) := seOk_of ⟨(ok_ratio_Check e he), (ok_cmp_Or_api_Errno e he), trivial⟩ trivial he.ok
theorem eq_ratio_check (e : List (Nat × EffF)) (a0 a1 p0 p1 p2 p3 K) : WP (S0_ratio_check e a0 a1) 6 t_ratio_check [(.agg [(.int .i64 p0), (.int .i64 p1)]), (.agg [(.int .i64 p2), (.int .i64 p3)])] K = wv_ratio_check a0 a1 p0 p1 p2 p3 (fun r0 => K (.int .i64 r0)) := by kernel_rfl
theorem ok_ratio_check (e : List (Nat × EffF)) (he : EG e) : OkF (E e) wp_ratio_check n_ratio_check := by
 intro as K h
 unfold wp_ratio_check pw_ratio_check at h
 split at h
 · exact WP_ok (se0_ratio_check e he) (LpOk_no (by kernel_rfl)) (by kernel_rfl) (by kernel_rfl) (fun _ => baseS_none (by kernel_rfl) _) (he.num _ (by kernel_rfl)) ((eq_ratio_check ..).mpr h)
 · exact h.elim
abbrev T_cmp_isNaN_int64 : Type := Int → (Bool → Prop) → Prop
def wv_cmp_isNaN_int64 (p0 : Int) (K : Bool → Prop) : Prop :=
 (K (p0 != p0))
def w_cmp_isNaN_int64 (p0 : Int) (K : Bool → Prop) : Prop := wv_cmp_isNaN_int64 p0 K
def pw_cmp_isNaN_int64 (w : T_cmp_isNaN_int64) (as : List PV) (K : PV → Prop) : Prop :=
 match as with
 | [(.int .i64 p0)] => w p0 (fun r0 => K (.bool r0))
 | _ => False
def wp_cmp_isNaN_int64 (as : List PV) (K : PV → Prop) : Prop := pw_cmp_isNaN_int64 w_cmp_isNaN_int64 as K
def lp_cmp_isNaN_int64 : LP := fun _ _ _ _ =>
 False
def S0_cmp_isNaN_int64 (e : List (Nat × EffF)) : SE := ⟨(E e), lookS [], lookI [], lp_cmp_isNaN_int64⟩
theorem se0_cmp_isNaN_int64 (e : List (Nat × EffF)) (he : EG e) : SEOk (S0_cmp_isNaN_int64 e) := seOk_of trivial trivial he.ok
theorem eq_cmp_isNaN_int64 (e : List (Nat × EffF)) ( p0 K) : WP (S0_cmp_isNaN_int64 e) 6 t_cmp_isNaN_int64 [(.int .i64 p0)] K = wv_cmp_isNaN_int64 p0 (fun r0 => K (.bool r0)) := by kernel_rfl
theorem ok_cmp_isNaN_int64 (e : List (Nat × EffF)) (he : EG e) : OkF (E e) wp_cmp_isNaN_int64 n_cmp_isNaN_int64 := by
 intro as K h
 unfold wp_cmp_isNaN_int64 pw_cmp_isNaN_int64 at h
 split at h
 · exact WP_ok (se0_cmp_isNaN_int64 e he) (LpOk_no (by kernel_rfl)) (by kernel_rfl) (by kernel_rfl) (fun _ => baseS_none (by kernel_rfl) _) (he.num _ (by kernel_rfl)) ((eq_cmp_isNaN_int64 ..).mpr h)
 · exact h.elim
abbrev T_cmp_Compare_int64 : Type := Int → Int → (Int → Prop) → Prop
def wv_cmp_Compare_int64 (a0 : T_cmp_isNaN_int64) (p0 p1 : Int) (K : Int → Prop) : Prop :=
 (a0 p0 (fun yb0 => 
 (a0 p1 (fun yb1 => 
 (cbr yb0
 (cbr yb1
 (K (0 : Int))
 (K (-1 : Int)))
 (cbr yb1
 (K (1 : Int))
 (cbr (decide (p0 < p1))
 (K (-1 : Int))
 (cbr (decide (p0 > p1))
 (K (1 : Int))
 (K (0 : Int))))))))))
def w_cmp_Compare_int64 (p0 p1 : Int) (K : Int → Prop) : Prop := wv_cmp_Compare_int64 w_cmp_isNaN_int64 p0 p1 K
def pw_cmp_Compare_int64 (w : T_cmp_Compare_int64) (as : List PV) (K : PV → Prop) : Prop :=
 match as with
 | [(.int .i64 p0), (.int .i64 p1)] => w p0 p1 (fun r0 => K (.int .i64 r0))
 | _ => False
def wp_cmp_Compare_int64 (as : List PV) (K : PV → Prop) : Prop := pw_cmp_Compare_int64 w_cmp_Compare_int64 as K
def lp_cmp_Compare_int64 (_ : T_cmp_isNaN_int64) : LP := fun _ _ _ _ =>
 False
def S0_cmp_Compare_int64 (e : List (Nat × EffF)) (a0 : T_cmp_isNaN_int64) : SE := ⟨(E e), lookS [(n_cmp_isNaN_int64, pw_cmp_isNaN_int64 a0)], lookI [], lp_cmp_Compare_int64 a0⟩
theorem se0_cmp_Compare_int64 (e : List (Nat × EffF)) (he : EG e) : SEOk (S0_cmp_Compare_int64 e w_cmp_isNaN_int64) := seOk_of ⟨(ok_cmp_isNaN_int64 e he), trivial⟩ trivial he.ok
theorem eq_cmp_Compare_int64 (e : List (Nat × EffF)) (a0 p0 p1 K) : WP (S0_cmp_Compare_int64 e a0) 6 t_cmp_Compare_int64 [(.int .i64 p0), (.int .i64 p1)] K = wv_cmp_Compare_int64 a0 p0 p1 (fun r0 => K (.int .i64 r0)) := by kernel_rfl
theorem ok_cmp_Compare_int64 (e : List (Nat × EffF)) (he : EG e) : OkF (E e) wp_cmp_Compare_int64 n_cmp_Compare_int64 := by
 intro as K h
 unfold wp_cmp_Compare_int64 pw_cmp_Compare_int64 at h
 split at h
 · exact WP_ok (se0_cmp_Compare_int64 e he) (LpOk_no (by kernel_rfl)) (by kernel_rfl) (by kernel_rfl) (fun _ => baseS_none (by kernel_rfl) _) (he.num _ (by kernel_rfl)) ((eq_cmp_Compare_int64 ..).mpr h)
 · exact h.elim
abbrev T_m_Mul64 : Type := Int → Int → (Int → Int → Prop) → Prop
def wv_m_Mul64 (p0 p1 : Int) (K : Int → Int → Prop) : Prop :=
 (K (IntKind.u64.wrap ((IntKind.u64.wrap ((IntKind.u64.wrap ((Int.fdiv p0 4294967296) * (Int.fdiv p1 4294967296))) + (Int.fdiv (IntKind.u64.wrap ((IntKind.u64.wrap ((Int.fdiv p0 4294967296) * (IntKind.u64.wrap (BitVec.ofInt IntKind.u64.bits p1 &&& BitVec.ofInt IntKind.u64.bits (4294967295 : Int)).toNat))) + (Int.fdiv (IntKind.u64.wrap ((IntKind.u64.wrap (BitVec.ofInt IntKind.u64.bits p0 &&& BitVec.ofInt IntKind.u64.bits (4294967295 : Int)).toNat) * (IntKind.u64.wrap (BitVec.ofInt IntKind.u64.bits p1 &&& BitVec.ofInt IntKind.u64.bits (4294967295 : Int)).toNat))) 4294967296))) 4294967296))) + (Int.fdiv (IntKind.u64.wrap ((IntKind.u64.wrap (BitVec.ofInt IntKind.u64.bits (IntKind.u64.wrap ((IntKind.u64.wrap ((Int.fdiv p0 4294967296) * (IntKind.u64.wrap (BitVec.ofInt IntKind.u64.bits p1 &&& BitVec.ofInt IntKind.u64.bits (4294967295 : Int)).toNat))) + (Int.fdiv (IntKind.u64.wrap ((IntKind.u64.wrap (BitVec.ofInt IntKind.u64.bits p0 &&& BitVec.ofInt IntKind.u64.bits (4294967295 : Int)).toNat) * (IntKind.u64.wrap (BitVec.ofInt IntKind.u64.bits p1 &&& BitVec.ofInt IntKind.u64.bits (4294967295 : Int)).toNat))) 4294967296))) &&& BitVec.ofInt IntKind.u64.bits (4294967295 : Int)).toNat) + (IntKind.u64.wrap ((IntKind.u64.wrap (BitVec.ofInt IntKind.u64.bits p0 &&& BitVec.ofInt IntKind.u64.bits (4294967295 : Int)).toNat) * (Int.fdiv p1 4294967296))))) 4294967296))) (IntKind.u64.wrap (p0 * p1)))
def w_m_Mul64 (p0 p1 : Int) (K : Int → Int → Prop) : Prop := wv_m_Mul64 p0 p1 K
def pw_m_Mul64 (w : T_m_Mul64) (as : List PV) (K : PV → Prop) : Prop :=
 match as with
 | [(.int .u64 p0), (.int .u64 p1)] => w p0 p1 (fun r0 r1 => K (.tup [(.int .u64 r0), (.int .u64 r1)]))
 | _ => False
def wp_m_Mul64 (as : List PV) (K : PV → Prop) : Prop := pw_m_Mul64 w_m_Mul64 as K
def lp_m_Mul64 : LP := fun _ _ _ _ =>
 False
def S0_m_Mul64 (e : List (Nat × EffF)) : SE := ⟨(E e), lookS [], lookI [], lp_m_Mul64⟩
theorem se0_m_Mul64 (e : List (Nat × EffF)) (he : EG e) : SEOk (S0_m_Mul64 e) := seOk_of trivial trivial he.ok
theorem eq_m_Mul64 (e : List (Nat × EffF)) ( p0 p1 K) : WP (S0_m_Mul64 e) 6 t_m_Mul64 [(.int .u64 p0), (.int .u64 p1)] K = wv_m_Mul64 p0 p1 (fun r0 r1 => K (.tup [(.int .u64 r0), (.int .u64 r1)])) := by kernel_rfl
theorem ok_m_Mul64 (e : List (Nat × EffF)) (he : EG e) : OkF (E e) wp_m_Mul64 n_m_Mul64 := by
 intro as K h
 unfold wp_m_Mul64 pw_m_Mul64 at h
 split at h
 · exact WP_ok (se0_m_Mul64 e he) (LpOk_no (by kernel_rfl)) (by kernel_rfl) (by kernel_rfl) (fun _ => baseS_none (by kernel_rfl) _) (he.num _ (by kernel_rfl)) ((eq_m_Mul64 ..).mpr h)
 · exact h.elim
abbrev T_cmp_isNaN_uint64 : Type := Int → (Bool → Prop) → Prop
def wv_cmp_isNaN_uint64 (p0 : Int) (K : Bool → Prop) : Prop :=
 (K (p0 != p0))
def w_cmp_isNaN_uint64 (p0 : Int) (K : Bool → Prop) : Prop := wv_cmp_isNaN_uint64 p0 K
def pw_cmp_isNaN_uint64 (w : T_cmp_isNaN_uint64) (as : List PV) (K : PV → Prop) : Prop :=
 match as with
 | [(.int .u64 p0)] => w p0 (fun r0 => K (.bool r0))
 | _ => False
def wp_cmp_isNaN_uint64 (as : List PV) (K : PV → Prop) : Prop := pw_cmp_isNaN_uint64 w_cmp_isNaN_uint64 as K
def lp_cmp_isNaN_uint64 : LP := fun _ _ _ _ =>
 False
def S0_cmp_isNaN_uint64 (e : List (Nat × EffF)) : SE := ⟨(E e), lookS [], lookI [], lp_cmp_isNaN_uint64⟩
theorem se0_cmp_isNaN_uint64 (e : List (Nat × EffF)) (he : EG e) : SEOk (S0_cmp_isNaN_uint64 e) := seOk_of trivial trivial he.ok
theorem eq_cmp_isNaN_uint64 (e : List (Nat × EffF)) ( p0 K) : WP (S0_cmp_isNaN_uint64 e) 6 t_cmp_isNaN_uint64 [(.int .u64 p0)] K = wv_cmp_isNaN_uint64 p0 (fun r0 => K (.bool r0)) := by kernel_rfl
theorem ok_cmp_isNaN_uint64 (e : List (Nat × EffF)) (he : EG e) : OkF (E e) wp_cmp_isNaN_uint64 n_cmp_isNaN_uint64 := by
 intro as K h
 unfold wp_cmp_isNaN_uint64 pw_cmp_isNaN_uint64 at h
 split at h
 · exact WP_ok (se0_cmp_isNaN_uint64 e he) (LpOk_no (by kernel_rfl)) (by kernel_rfl) (by kernel_rfl) (fun _ => baseS_none (by kernel_rfl) _) (he.num _ (by kernel_rfl)) ((eq_cmp_isNaN_uint64 ..).mpr h)
 · exact h.elim
abbrev T_cmp_Compare_uint64 : Type := Int → Int → (Int → Prop) → Prop
def wv_cmp_Compare_uint64 (a0 : T_cmp_isNaN_uint64) (p0 p1 : Int) (K : Int → Prop) : Prop :=
 (a0 p0 (fun yb0 => 
 (a0 p1 (fun yb1 => 
 (cbr yb0
 (cbr yb1
 (K (0 : Int))
 (K (-1 : Int)))
 (cbr yb1
 (K (1 : Int))
 (cbr (decide (p0 < p1))
 (K (-1 : Int))
 (cbr (decide (p0 > p1))
 (K (1 : Int))
 (K (0 : Int))))))))))
def w_cmp_Compare_uint64 (p0 p1 : Int) (K : Int → Prop) : Prop := wv_cmp_Compare_uint64 w_cmp_isNaN_uint64 p0 p1 K
def pw_cmp_Compare_uint64 (w : T_cmp_Compare_uint64) (as : List PV) (K : PV → Prop) : Prop :=
 match as with
 | [(.int .u64 p0), (.int .u64 p1)] => w p0 p1 (fun r0 => K (.int .i64 r0))
 | _ => False
def wp_cmp_Compare_uint64 (as : List PV) (K : PV → Prop) : Prop := pw_cmp_Compare_uint64 w_cmp_Compare_uint64 as K
def lp_cmp_Compare_uint64 (_ : T_cmp_isNaN_uint64) : LP := fun _ _ _ _ =>
 False
def S0_cmp_Compare_uint64 (e : List (Nat × EffF)) (a0 : T_cmp_isNaN_uint64) : SE := ⟨(E e), lookS [(n_cmp_isNaN_uint64, pw_cmp_isNaN_uint64 a0)], lookI [], lp_cmp_Compare_uint64 a0⟩
theorem se0_cmp_Compare_uint64 (e : List (Nat × EffF)) (he : EG e) : SEOk (S0_cmp_Compare_uint64 e w_cmp_isNaN_uint64) := seOk_of ⟨(ok_cmp_isNaN_uint64 e he), trivial⟩ trivial he.ok
theorem eq_cmp_Compare_uint64 (e : List (Nat × EffF)) (a0 p0 p1 K) : WP (S0_cmp_Compare_uint64 e a0) 6 t_cmp_Compare_uint64 [(.int .u64 p0), (.int .u64 p1)] K = wv_cmp_Compare_uint64 a0 p0 p1 (fun r0 => K (.int .i64 r0)) := by kernel_rfl
theorem ok_cmp_Compare_uint64 (e : List (Nat × EffF)) (he : EG e) : OkF (E e) wp_cmp_Compare_uint64 n_cmp_Compare_uint64 := by
 intro as K h
 unfold wp_cmp_Compare_uint64 pw_cmp_Compare_uint64 at h
 split at h
 · exact WP_ok (se0_cmp_Compare_uint64 e he) (LpOk_no (by kernel_rfl)) (by kernel_rfl) (by kernel_rfl) (fun _ => baseS_none (by kernel_rfl) _) (he.num _ (by kernel_rfl)) ((eq_cmp_Compare_uint64 ..).mpr h)
 · exact h.elim
abbrev T_cmp_Or_int : Type := List PV → (Int → Prop) → Prop
def L_cmp_Or_int_0_0 (x0 : Int → Prop) (x1 : Int → List PV → Int → Int → Bool → Prop) : Nat → Int → List PV → Int → Int → Prop
 | 0, _, _, _, _ => False
 | n + 1, i0, l1, i2, i3 =>
 (cbr (decide (i3 < i2))
 (asr (decide ((0 : Int) ≤ i3))
 (asr (decide (i3 < (((List.length l1) : Nat) : Int)))
 (asr (conf (.one (.i .i64)) (List.getD l1 (i3.toNat) .nils))
 (cbr ((intOfV (List.getD l1 (i3.toNat) .nils)) != i0)
 (x0 (intOfV (List.getD l1 (i3.toNat) .nils)))
 (L_cmp_Or_int_0_0 x0 x1 n i0 l1 i2 (IntKind.i64.wrap (i3 + (1 : Int))))))))
 (x1 i0 l1 i2 i3 false))
def wv_cmp_Or_int (p0 : List PV) (K : Int → Prop) : Prop :=
 (∃ n : Nat, L_cmp_Or_int_0_0
 (fun yi0 => (K yi0))
 (fun yi1 _ _ _ _ => (K yi1))
 n (0 : Int) p0 (((List.length p0) : Nat) : Int) (0 : Int))
def w_cmp_Or_int (p0 : List PV) (K : Int → Prop) : Prop := wv_cmp_Or_int p0 K
def pw_cmp_Or_int (w : T_cmp_Or_int) (as : List PV) (K : PV → Prop) : Prop :=
 match as with
 | [(.data p0)] => w p0 (fun r0 => K (.int .i64 r0))
 | _ => False
def wp_cmp_Or_int (as : List PV) (K : PV → Prop) : Prop := pw_cmp_Or_int w_cmp_Or_int as K
def D_cmp_Or_int_0 (F : Frm) (H : Hp) (A0 : Int → List PV → Int → Int → Prop) : Prop :=
 match F, H with
 | [(3, .v (.int .i64 i0)), (6, .v (.data l1)), (7, .v (.int .i64 i2)), (8, .v (.int .i64 i3))], [] => (A0 i0 l1 i2 i3)
 | _, _ => False
def X_cmp_Or_int_0_0 (Q : Ex → Frm → Hp → Prop) : Int → Prop := (fun i0 => Q .ret [(2, .v (.int .i64 i0))] [])
def X_cmp_Or_int_0_1 (Q : Ex → Frm → Hp → Prop) : Int → List PV → Int → Int → Bool → Prop := (fun i0 l1 i2 i3 b4 => Q (.exit 0) [(3, .v (.int .i64 i0)), (6, .v (.data l1)), (7, .v (.int .i64 i2)), (8, .v (.int .i64 i3)), (9, .v (.bool b4))] [])
def R_cmp_Or_int_0 (Q : Ex → Frm → Hp → Prop) (n : Nat) (F : Frm) (H : Hp) : Prop := D_cmp_Or_int_0 F H (fun i0 l1 i2 i3 => L_cmp_Or_int_0_0 (X_cmp_Or_int_0_0 Q) (X_cmp_Or_int_0_1 Q) n i0 l1 i2 i3)
def lp_cmp_Or_int : LP := fun id F H Q =>
 bif Nat.beq id 53260600 then D_cmp_Or_int_0 F H (fun i0 l1 i2 i3 => ∃ n : Nat, L_cmp_Or_int_0_0 (X_cmp_Or_int_0_0 Q) (X_cmp_Or_int_0_1 Q) n i0 l1 i2 i3) else
 False
def S0_cmp_Or_int (e : List (Nat × EffF)) : SE := ⟨(E e), lookS [], lookI [], lp_cmp_Or_int⟩
theorem se0_cmp_Or_int (e : List (Nat × EffF)) (he : EG e) : SEOk (S0_cmp_Or_int e) := seOk_of trivial trivial he.ok
theorem body_cmp_Or_int_0_0 (e : List (Nat × EffF)) ( Q n i0 l1 i2 i3) : WC (E e) (callW (S0_cmp_Or_int e) 5) (lp_cmp_Or_int) b_53260600 [(3, .v (.int .i64 i0)), (6, .v (.data l1)), (7, .v (.int .i64 i2)), (8, .v (.int .i64 i3))] [] (fun x F' H' => match x with | .norm => R_cmp_Or_int_0 Q n F' H' | .exit i => Q (.exit i) F' H' | .ret => Q .ret F' H') = L_cmp_Or_int_0_0 (X_cmp_Or_int_0_0 Q) (X_cmp_Or_int_0_1 Q) (n + 1) i0 l1 i2 i3 := by kernel_rfl
theorem lpb_cmp_Or_int_0 (e : List (Nat × EffF)) (_ : EG e) : LpOk (E e) (lp_cmp_Or_int) b_53260600 := (LpOk_no (by kernel_rfl))
theorem loop_cmp_Or_int_0 (e : List (Nat × EffF)) (he : EG e) : ∀ F H Q, lp_cmp_Or_int 53260600 F H Q → LoopT (E e) b_53260600 F H Q := by
 intro F H Q h
 have go := LoopT.intro (callW_ok (se0_cmp_Or_int e he) 5) (lpb_cmp_Or_int_0 e he) (R_cmp_Or_int_0 Q) (by
   intro F H h
   unfold R_cmp_Or_int_0 D_cmp_Or_int_0 at h
   split at h
   · exact h
   · exact h) (by
   intro n F H h
   unfold R_cmp_Or_int_0 D_cmp_Or_int_0 at h
   split at h
   · exact (body_cmp_Or_int_0_0 ..).mpr h
   · exact h.elim)
 have h : D_cmp_Or_int_0 F H _ := h
 unfold D_cmp_Or_int_0 at h
 split at h
 · obtain ⟨n, h⟩ := h; exact go n _ _ h
 · exact h.elim
theorem eq_cmp_Or_int (e : List (Nat × EffF)) ( p0 K) : WP (S0_cmp_Or_int e) 6 t_cmp_Or_int [(.data p0)] K = wv_cmp_Or_int p0 (fun r0 => K (.int .i64 r0)) := by kernel_rfl
theorem ok_cmp_Or_int (e : List (Nat × EffF)) (he : EG e) : OkF (E e) wp_cmp_Or_int n_cmp_Or_int := by
 intro as K h
 unfold wp_cmp_Or_int pw_cmp_Or_int at h
 split at h
 · exact WP_ok (se0_cmp_Or_int e he) (LpOk_by (l := [(53260600, b_53260600)]) ⟨loop_cmp_Or_int_0 e he, trivial⟩ (by kernel_rfl)) (by kernel_rfl) (by kernel_rfl) (fun _ => baseS_none (by kernel_rfl) _) (he.num _ (by kernel_rfl)) ((eq_cmp_Or_int ..).mpr h)
 · exact h.elim
abbrev T_ratio_Cmp : Type := Int → Int → Int → Int → (Int → Int → Prop) → Prop
def wv_ratio_Cmp (a0 : T_ratio_check) (a1 : T_cmp_Compare_int64) (a2 : T_ratio_size) (a3 : T_m_Mul64) (a4 : T_cmp_Compare_uint64) (a5 : T_cmp_Or_int) (p0 p1 p2 p3 : Int) (K : Int → Int → Prop) : Prop :=
 (a0 p0 p1 p2 p3 (fun yi0 => 
 (cbr (yi0 != (0 : Int))
 (K (0 : Int) yi0)
 (cbr ((decide (p0 < (0 : Int))) != (decide (p2 < (0 : Int))))
 (a1 p0 p2 (fun yi1 => 
 (K yi1 (0 : Int))))
 (a2 p0 (fun yi2 => 
 (a3 yi2 (IntKind.u64.wrap p3) (fun yi3 yi4 => 
 (a2 p2 (fun yi5 => 
 (a3 yi5 (IntKind.u64.wrap p1) (fun yi6 yi7 => 
 (a4 yi3 yi6 (fun yi8 => 
 (a4 yi4 yi7 (fun yi9 => 
 (a5 ([(.int .i64 yi8), (.int .i64 yi9)] : List PV) (fun yi10 => 
 (cbr (decide (p0 < (0 : Int)))
 (K (IntKind.i64.wrap ((0 : Int) - yi10)) (0 : Int))
 (K yi10 (0 : Int)))))))))))))))))))))
def w_ratio_Cmp (p0 p1 p2 p3 : Int) (K : Int → Int → Prop) : Prop := wv_ratio_Cmp w_ratio_check w_cmp_Compare_int64 w_ratio_size w_m_Mul64 w_cmp_Compare_uint64 w_cmp_Or_int p0 p1 p2 p3 K
def pw_ratio_Cmp (w : T_ratio_Cmp) (as : List PV) (K : PV → Prop) : Prop :=
 match as with
 | [(.agg [(.int .i64 p0), (.int .i64 p1)]), (.agg [(.int .i64 p2), (.int .i64 p3)])] => w p0 p1 p2 p3 (fun r0 r1 => K (.tup [(.int .i64 r0), (.int .i64 r1)]))
 | _ => False
def wp_ratio_Cmp (as : List PV) (K : PV → Prop) : Prop := pw_ratio_Cmp w_ratio_Cmp as K
def lp_ratio_Cmp (_ : T_ratio_check) (_ : T_cmp_Compare_int64) (_ : T_ratio_size) (_ : T_m_Mul64) (_ : T_cmp_Compare_uint64) (_ : T_cmp_Or_int) : LP := fun _ _ _ _ =>
 False
def S0_ratio_Cmp (e : List (Nat × EffF)) (a0 : T_ratio_check) (a1 : T_cmp_Compare_int64) (a2 : T_ratio_size) (a3 : T_m_Mul64) (a4 : T_cmp_Compare_uint64) (a5 : T_cmp_Or_int) : SE := ⟨(E e), lookS [(n_ratio_check, pw_ratio_check a0), (n_cmp_Compare_int64, pw_cmp_Compare_int64 a1), (n_ratio_size, pw_ratio_size a2), (n_m_Mul64, pw_m_Mul64 a3), (n_cmp_Compare_uint64, pw_cmp_Compare_uint64 a4), (n_cmp_Or_int, pw_cmp_Or_int a5)], lookI [], lp_ratio_Cmp a0 a1 a2 a3 a4 a5⟩
theorem se0_ratio_Cmp (e : List (Nat × EffF)) (he : EG e) : SEOk (S0_ratio_Cmp e w_ratio_check w_cmp_Compare_int64 w_ratio_size w_m_Mul64 w_cmp_Compare_uint64 w_cmp_Or_int) := seOk_of ⟨(ok_ratio_check e he), (ok_cmp_Compare_int64 e he), (ok_ratio_size e he), (ok_m_Mul64 e he), (ok_cmp_Compare_uint64 e he), (ok_cmp_Or_int e he), trivial⟩ trivial he.ok
theorem eq_ratio_Cmp (e : List (Nat × EffF)) (a0 a1 a2 a3 a4 a5 p0 p1 p2 p3 K) : WP (S0_ratio_Cmp e a0 a1 a2 a3 a4 a5) 6 t_ratio_Cmp [(.agg [(.int .i64 p0), (.int .i64 p1)]), (.agg [(.int .i64 p2), (.int .i64 p3)])] K = wv_ratio_Cmp a0 a1 a2 a3 a4 a5 p0 p1 p2 p3 (fun r0 r1 => K (.tup [(.int .i64 r0), (.int .i64 r1)])) := by kernel_rfl
theorem ok_ratio_Cmp (e : List (Nat × EffF)) (he : EG e) : OkF (E e) wp_ratio_Cmp n_ratio_Cmp := by
 intro as K h
 unfold wp_ratio_Cmp pw_ratio_Cmp at h
 split at h
 · exact WP_ok (se0_ratio_Cmp e he) (LpOk_no (by kernel_rfl)) (by kernel_rfl) (by kernel_rfl) (fun _ => baseS_none (by kernel_rfl) _) (he.num _ (by kernel_rfl)) ((eq_ratio_Cmp ..).mpr h)
 · exact h.elim
abbrev T_m_Len64 : Type := Int → (Int → Prop) → Prop
def wv_m_Len64 (p0 : Int) (K : Int → Prop) : Prop :=
 (cbr (decide (p0 ≥ (4294967296 : Int)))
 (cbr (decide ((Int.fdiv p0 4294967296) ≥ (65536 : Int)))
 (cbr (decide ((Int.fdiv (Int.fdiv p0 4294967296) 65536) ≥ (256 : Int)))
 (asr (decide ((0 : Int) ≤ (IntKind.u8.wrap (Int.fdiv (Int.fdiv (Int.fdiv p0 4294967296) 65536) 256))))
 (asr (decide ((IntKind.u8.wrap (Int.fdiv (Int.fdiv (Int.fdiv p0 4294967296) 65536) 256)) < (256 : Int)))
 (K (IntKind.i64.wrap ((56 : Int) + (IntKind.i64.wrap (intOfV (List.getD len8tab ((IntKind.u8.wrap (Int.fdiv (Int.fdiv (Int.fdiv p0 4294967296) 65536) 256)).toNat) .nils))))))))
 (asr (decide ((0 : Int) ≤ (IntKind.u8.wrap (Int.fdiv (Int.fdiv p0 4294967296) 65536))))
 (asr (decide ((IntKind.u8.wrap (Int.fdiv (Int.fdiv p0 4294967296) 65536)) < (256 : Int)))
 (K (IntKind.i64.wrap ((48 : Int) + (IntKind.i64.wrap (intOfV (List.getD len8tab ((IntKind.u8.wrap (Int.fdiv (Int.fdiv p0 4294967296) 65536)).toNat) .nils)))))))))
 (cbr (decide ((Int.fdiv p0 4294967296) ≥ (256 : Int)))
 (asr (decide ((0 : Int) ≤ (IntKind.u8.wrap (Int.fdiv (Int.fdiv p0 4294967296) 256))))
 (asr (decide ((IntKind.u8.wrap (Int.fdiv (Int.fdiv p0 4294967296) 256)) < (256 : Int)))
 (K (IntKind.i64.wrap ((40 : Int) + (IntKind.i64.wrap (intOfV (List.getD len8tab ((IntKind.u8.wrap (Int.fdiv (Int.fdiv p0 4294967296) 256)).toNat) .nils))))))))
 (asr (decide ((0 : Int) ≤ (IntKind.u8.wrap (Int.fdiv p0 4294967296))))
 (asr (decide ((IntKind.u8.wrap (Int.fdiv p0 4294967296)) < (256 : Int)))
 (K (IntKind.i64.wrap ((32 : Int) + (IntKind.i64.wrap (intOfV (List.getD len8tab ((IntKind.u8.wrap (Int.fdiv p0 4294967296)).toNat) .nils))))))))))
 (cbr (decide (p0 ≥ (65536 : Int)))
 (cbr (decide ((Int.fdiv p0 65536) ≥ (256 : Int)))
 (asr (decide ((0 : Int) ≤ (IntKind.u8.wrap (Int.fdiv (Int.fdiv p0 65536) 256))))
 (asr (decide ((IntKind.u8.wrap (Int.fdiv (Int.fdiv p0 65536) 256)) < (256 : Int)))
 (K (IntKind.i64.wrap ((24 : Int) + (IntKind.i64.wrap (intOfV (List.getD len8tab ((IntKind.u8.wrap (Int.fdiv (Int.fdiv p0 65536) 256)).toNat) .nils))))))))
 (asr (decide ((0 : Int) ≤ (IntKind.u8.wrap (Int.fdiv p0 65536))))
 (asr (decide ((IntKind.u8.wrap (Int.fdiv p0 65536)) < (256 : Int)))
 (K (IntKind.i64.wrap ((16 : Int) + (IntKind.i64.wrap (intOfV (List.getD len8tab ((IntKind.u8.wrap (Int.fdiv p0 65536)).toNat) .nils)))))))))
 (cbr (decide (p0 ≥ (256 : Int)))
 (asr (decide ((0 : Int) ≤ (IntKind.u8.wrap (Int.fdiv p0 256))))
 (asr (decide ((IntKind.u8.wrap (Int.fdiv p0 256)) < (256 : Int)))
 (K (IntKind.i64.wrap ((8 : Int) + (IntKind.i64.wrap (intOfV (List.getD len8tab ((IntKind.u8.wrap (Int.fdiv p0 256)).toNat) .nils))))))))
 (asr (decide ((0 : Int) ≤ (IntKind.u8.wrap p0)))
 (asr (decide ((IntKind.u8.wrap p0) < (256 : Int)))
 (K (IntKind.i64.wrap ((0 : Int) + (IntKind.i64.wrap (intOfV (List.getD len8tab ((IntKind.u8.wrap p0).toNat) .nils)))))))))))
def w_m_Len64 (p0 : Int) (K : Int → Prop) : Prop := wv_m_Len64 p0 K
def pw_m_Len64 (w : T_m_Len64) (as : List PV) (K : PV → Prop) : Prop :=
 match as with
 | [(.int .u64 p0)] => w p0 (fun r0 => K (.int .i64 r0))
 | _ => False
def wp_m_Len64 (as : List PV) (K : PV → Prop) : Prop := pw_m_Len64 w_m_Len64 as K
def lp_m_Len64 : LP := fun _ _ _ _ =>
 False
def S0_m_Len64 (e : List (Nat × EffF)) : SE := ⟨(E e), lookS [], lookI [], lp_m_Len64⟩
theorem se0_m_Len64 (e : List (Nat × EffF)) (he : EG e) : SEOk (S0_m_Len64 e) := seOk_of trivial trivial he.ok
theorem eq_m_Len64 (e : List (Nat × EffF)) ( p0 K) : WP (S0_m_Len64 e) 6 t_m_Len64 [(.int .u64 p0)] K = wv_m_Len64 p0 (fun r0 => K (.int .i64 r0)) := by kernel_rfl
theorem ok_m_Len64 (e : List (Nat × EffF)) (he : EG e) : OkF (E e) wp_m_Len64 n_m_Len64 := by
 intro as K h
 unfold wp_m_Len64 pw_m_Len64 at h
 split at h
 · exact WP_ok (se0_m_Len64 e he) (LpOk_no (by kernel_rfl)) (by kernel_rfl) (by kernel_rfl) (fun _ => baseS_none (by kernel_rfl) _) (he.num _ (by kernel_rfl)) ((eq_m_Len64 ..).mpr h)
 · exact h.elim
abbrev T_m_LeadingZeros64 : Type := Int → (Int → Prop) → Prop
def wv_m_LeadingZeros64 (a0 : T_m_Len64) (p0 : Int) (K : Int → Prop) : Prop :=
 (a0 p0 (fun yi0 => 
 (K (IntKind.i64.wrap ((64 : Int) - yi0)))))
def w_m_LeadingZeros64 (p0 : Int) (K : Int → Prop) : Prop := wv_m_LeadingZeros64 w_m_Len64 p0 K
def pw_m_LeadingZeros64 (w : T_m_LeadingZeros64) (as : List PV) (K : PV → Prop) : Prop :=
 match as with
 | [(.int .u64 p0)] => w p0 (fun r0 => K (.int .i64 r0))
 | _ => False
def wp_m_LeadingZeros64 (as : List PV) (K : PV → Prop) : Prop := pw_m_LeadingZeros64 w_m_LeadingZeros64 as K
def lp_m_LeadingZeros64 (_ : T_m_Len64) : LP := fun _ _ _ _ =>
 False
def S0_m_LeadingZeros64 (e : List (Nat × EffF)) (a0 : T_m_Len64) : SE := ⟨(E e), lookS [(n_m_Len64, pw_m_Len64 a0)], lookI [], lp_m_LeadingZeros64 a0⟩
theorem se0_m_LeadingZeros64 (e : List (Nat × EffF)) (he : EG e) : SEOk (S0_m_LeadingZeros64 e w_m_Len64) := seOk_of ⟨(ok_m_Len64 e he), trivial⟩ trivial he.ok
theorem eq_m_LeadingZeros64 (e : List (Nat × EffF)) (a0 p0 K) : WP (S0_m_LeadingZeros64 e a0) 6 t_m_LeadingZeros64 [(.int .u64 p0)] K = wv_m_LeadingZeros64 a0 p0 (fun r0 => K (.int .i64 r0)) := by kernel_rfl
theorem ok_m_LeadingZeros64 (e : List (Nat × EffF)) (he : EG e) : OkF (E e) wp_m_LeadingZeros64 n_m_LeadingZeros64 := by
 intro as K h
 unfold wp_m_LeadingZeros64 pw_m_LeadingZeros64 at h
 split at h
 · exact WP_ok (se0_m_LeadingZeros64 e he) (LpOk_no (by kernel_rfl)) (by kernel_rfl) (by kernel_rfl) (fun _ => baseS_none (by kernel_rfl) _) (he.num _ (by kernel_rfl)) ((eq_m_LeadingZeros64 ..).mpr h)
 · exact h.elim
abbrev T_m_Div64 : Type := Int → Int → Int → (Int → Int → Prop) → Prop
mutual
def L_m_Div64_0_0 (a0 : T_m_LeadingZeros64) (x60530100_0 : Int → Int → Int → Int → Int → Int → Int → Int → Int → Bool → Prop) (x60530100_1 : Int → Int → Int → Int → Int → Int → Int → Int → Int → Bool → Prop) : Nat → Int → Int → Int → Int → Int → Int → Int → Int → Int → Prop
 | 0, _, _, _, _, _, _, _, _, _ => False
 | n60530100 + 1, i0, i1, i2, i3, i4, i5, i6, i7, i8 =>
 (cbr (decide (i7 ≥ (4294967296 : Int)))
 (cbr (decide ((IntKind.u64.wrap (i8 + i2)) ≥ (4294967296 : Int)))
 (x60530100_0 i0 i1 i2 i3 i4 i5 i6 (IntKind.u64.wrap (i7 - (1 : Int))) (IntKind.u64.wrap (i8 + i2)) true)
 (L_m_Div64_0_1 a0 x60530100_0 x60530100_1 n60530100 i0 i1 i2 i3 i4 i5 i6 (IntKind.u64.wrap (i7 - (1 : Int))) (IntKind.u64.wrap (i8 + i2)) false))
 (cbr (decide ((IntKind.u64.wrap (i7 * i3)) > (IntKind.u64.wrap ((IntKind.u64.wrap ((4294967296 : Int) * i8)) + i5))))
 (cbr (decide ((IntKind.u64.wrap (i8 + i2)) ≥ (4294967296 : Int)))
 (x60530100_0 i0 i1 i2 i3 i4 i5 i6 (IntKind.u64.wrap (i7 - (1 : Int))) (IntKind.u64.wrap (i8 + i2)) true)
 (L_m_Div64_0_1 a0 x60530100_0 x60530100_1 n60530100 i0 i1 i2 i3 i4 i5 i6 (IntKind.u64.wrap (i7 - (1 : Int))) (IntKind.u64.wrap (i8 + i2)) false))
 (x60530100_1 i0 i1 i2 i3 i4 i5 i6 i7 i8 false)))
def L_m_Div64_0_1 (a0 : T_m_LeadingZeros64) (x60530100_0 : Int → Int → Int → Int → Int → Int → Int → Int → Int → Bool → Prop) (x60530100_1 : Int → Int → Int → Int → Int → Int → Int → Int → Int → Bool → Prop) : Nat → Int → Int → Int → Int → Int → Int → Int → Int → Int → Bool → Prop
 | 0, _, _, _, _, _, _, _, _, _, _ => False
 | n60530100 + 1, i0, i1, i2, i3, i4, i5, i6, i7, i8, _ =>
 (cbr (decide (i7 ≥ (4294967296 : Int)))
 (cbr (decide ((IntKind.u64.wrap (i8 + i2)) ≥ (4294967296 : Int)))
 (x60530100_0 i0 i1 i2 i3 i4 i5 i6 (IntKind.u64.wrap (i7 - (1 : Int))) (IntKind.u64.wrap (i8 + i2)) true)
 (L_m_Div64_0_1 a0 x60530100_0 x60530100_1 n60530100 i0 i1 i2 i3 i4 i5 i6 (IntKind.u64.wrap (i7 - (1 : Int))) (IntKind.u64.wrap (i8 + i2)) false))
 (cbr (decide ((IntKind.u64.wrap (i7 * i3)) > (IntKind.u64.wrap ((IntKind.u64.wrap ((4294967296 : Int) * i8)) + i5))))
 (cbr (decide ((IntKind.u64.wrap (i8 + i2)) ≥ (4294967296 : Int)))
 (x60530100_0 i0 i1 i2 i3 i4 i5 i6 (IntKind.u64.wrap (i7 - (1 : Int))) (IntKind.u64.wrap (i8 + i2)) true)
 (L_m_Div64_0_1 a0 x60530100_0 x60530100_1 n60530100 i0 i1 i2 i3 i4 i5 i6 (IntKind.u64.wrap (i7 - (1 : Int))) (IntKind.u64.wrap (i8 + i2)) false))
 (x60530100_1 i0 i1 i2 i3 i4 i5 i6 i7 i8 false)))
end
mutual
def L_m_Div64_1_0 (a0 : T_m_LeadingZeros64) (x60530101_0 : Int → Int → Int → Int → Int → Int → Int → Int → Int → Bool → Prop) (x60530101_1 : Int → Int → Int → Int → Int → Int → Int → Int → Int → Bool → Prop) : Nat → Int → Int → Int → Int → Int → Int → Int → Int → Int → Prop
 | 0, _, _, _, _, _, _, _, _, _ => False
 | n60530101 + 1, i0, i1, i2, i3, i4, i5, i6, i7, i8 =>
 (cbr (decide (i8 ≥ (4294967296 : Int)))
 (cbr (decide ((IntKind.u64.wrap (i6 + i2)) ≥ (4294967296 : Int)))
 (x60530101_0 i0 i1 i2 i3 i4 i5 (IntKind.u64.wrap (i6 + i2)) i7 (IntKind.u64.wrap (i8 - (1 : Int))) true)
 (L_m_Div64_1_1 a0 x60530101_0 x60530101_1 n60530101 i0 i1 i2 i3 i4 i5 (IntKind.u64.wrap (i6 + i2)) i7 (IntKind.u64.wrap (i8 - (1 : Int))) false))
 (cbr (decide ((IntKind.u64.wrap (i8 * i3)) > (IntKind.u64.wrap ((IntKind.u64.wrap ((4294967296 : Int) * i6)) + i4))))
 (cbr (decide ((IntKind.u64.wrap (i6 + i2)) ≥ (4294967296 : Int)))
 (x60530101_0 i0 i1 i2 i3 i4 i5 (IntKind.u64.wrap (i6 + i2)) i7 (IntKind.u64.wrap (i8 - (1 : Int))) true)
 (L_m_Div64_1_1 a0 x60530101_0 x60530101_1 n60530101 i0 i1 i2 i3 i4 i5 (IntKind.u64.wrap (i6 + i2)) i7 (IntKind.u64.wrap (i8 - (1 : Int))) false))
 (x60530101_1 i0 i1 i2 i3 i4 i5 i6 i7 i8 false)))
def L_m_Div64_1_1 (a0 : T_m_LeadingZeros64) (x60530101_0 : Int → Int → Int → Int → Int → Int → Int → Int → Int → Bool → Prop) (x60530101_1 : Int → Int → Int → Int → Int → Int → Int → Int → Int → Bool → Prop) : Nat → Int → Int → Int → Int → Int → Int → Int → Int → Int → Bool → Prop
 | 0, _, _, _, _, _, _, _, _, _, _ => False
 | n60530101 + 1, i0, i1, i2, i3, i4, i5, i6, i7, i8, _ =>
 (cbr (decide (i8 ≥ (4294967296 : Int)))
 (cbr (decide ((IntKind.u64.wrap (i6 + i2)) ≥ (4294967296 : Int)))
 (x60530101_0 i0 i1 i2 i3 i4 i5 (IntKind.u64.wrap (i6 + i2)) i7 (IntKind.u64.wrap (i8 - (1 : Int))) true)
 (L_m_Div64_1_1 a0 x60530101_0 x60530101_1 n60530101 i0 i1 i2 i3 i4 i5 (IntKind.u64.wrap (i6 + i2)) i7 (IntKind.u64.wrap (i8 - (1 : Int))) false))
 (cbr (decide ((IntKind.u64.wrap (i8 * i3)) > (IntKind.u64.wrap ((IntKind.u64.wrap ((4294967296 : Int) * i6)) + i4))))
 (cbr (decide ((IntKind.u64.wrap (i6 + i2)) ≥ (4294967296 : Int)))
 (x60530101_0 i0 i1 i2 i3 i4 i5 (IntKind.u64.wrap (i6 + i2)) i7 (IntKind.u64.wrap (i8 - (1 : Int))) true)
 (L_m_Div64_1_1 a0 x60530101_0 x60530101_1 n60530101 i0 i1 i2 i3 i4 i5 (IntKind.u64.wrap (i6 + i2)) i7 (IntKind.u64.wrap (i8 - (1 : Int))) false))
 (x60530101_1 i0 i1 i2 i3 i4 i5 i6 i7 i8 false)))
end
def wv_m_Div64 (a0 : T_m_LeadingZeros64) (p0 p1 p2 : Int) (K : Int → Int → Prop) : Prop :=
 (cbr (p2 == (0 : Int))
 False
 (cbr (decide (p2 ≤ p0))
 False
 (cbr (p0 == (0 : Int))
 (asr (!(decide (p2 = (0 : Int))))
 (asr (!(decide (p2 = (0 : Int))))
 (K (IntKind.u64.wrap (Int.tdiv p1 p2)) (Int.tmod p1 p2))))
 (a0 p2 (fun yi0 => 
 (asr (!(decide ((IntKind.u64.wrap yi0) < (0 : Int))))
 (asr (!(decide ((IntKind.u64.wrap yi0) < (0 : Int))))
 (asr (!(decide ((IntKind.u64.wrap ((64 : Int) - (IntKind.u64.wrap yi0))) < (0 : Int))))
 (asr (!(decide ((IntKind.u64.wrap yi0) < (0 : Int))))
 (asr (!(decide ((Int.fdiv (IntKind.u64.wrap (p2 * 2 ^ (min (IntKind.u64.wrap yi0).toNat IntKind.u64.bits))) 4294967296) = (0 : Int))))
 (∃ n60530100 : Nat, L_m_Div64_0_0 a0
 (fun yi1 yi2 yi3 yi4 yi5 yi6 yi7 yi8 _ _ => (asr (!(decide (yi3 = (0 : Int))))
 (∃ n60530101 : Nat, L_m_Div64_1_0 a0
 (fun yi11 yi12 _ _ yi15 yi16 _ yi18 yi19 _ => (asr (!(decide (yi12 < (0 : Int))))
 (K (IntKind.u64.wrap ((IntKind.u64.wrap (yi16 * (4294967296 : Int))) + yi19)) (Int.fdiv (IntKind.u64.wrap ((IntKind.u64.wrap ((IntKind.u64.wrap (yi18 * (4294967296 : Int))) + yi15)) - (IntKind.u64.wrap (yi19 * yi11)))) (2 ^ (min yi12.toNat IntKind.u64.bits))))))
 (fun yi21 yi22 _ _ yi25 yi26 _ yi28 yi29 _ => (asr (!(decide (yi22 < (0 : Int))))
 (K (IntKind.u64.wrap ((IntKind.u64.wrap (yi26 * (4294967296 : Int))) + yi29)) (Int.fdiv (IntKind.u64.wrap ((IntKind.u64.wrap ((IntKind.u64.wrap (yi28 * (4294967296 : Int))) + yi25)) - (IntKind.u64.wrap (yi29 * yi21)))) (2 ^ (min yi22.toNat IntKind.u64.bits))))))
 n60530101 yi1 yi2 yi3 yi4 yi7 yi8 (IntKind.u64.wrap ((IntKind.u64.wrap ((IntKind.u64.wrap ((IntKind.u64.wrap (yi5 * (4294967296 : Int))) + yi6)) - (IntKind.u64.wrap (yi8 * yi1)))) - (IntKind.u64.wrap ((IntKind.u64.wrap (Int.tdiv (IntKind.u64.wrap ((IntKind.u64.wrap ((IntKind.u64.wrap (yi5 * (4294967296 : Int))) + yi6)) - (IntKind.u64.wrap (yi8 * yi1)))) yi3)) * yi3)))) (IntKind.u64.wrap ((IntKind.u64.wrap ((IntKind.u64.wrap (yi5 * (4294967296 : Int))) + yi6)) - (IntKind.u64.wrap (yi8 * yi1)))) (IntKind.u64.wrap (Int.tdiv (IntKind.u64.wrap ((IntKind.u64.wrap ((IntKind.u64.wrap (yi5 * (4294967296 : Int))) + yi6)) - (IntKind.u64.wrap (yi8 * yi1)))) yi3)))))
 (fun yi31 yi32 yi33 yi34 yi35 yi36 yi37 yi38 _ _ => (asr (!(decide (yi33 = (0 : Int))))
 (∃ n60530101 : Nat, L_m_Div64_1_0 a0
 (fun yi41 yi42 _ _ yi45 yi46 _ yi48 yi49 _ => (asr (!(decide (yi42 < (0 : Int))))
 (K (IntKind.u64.wrap ((IntKind.u64.wrap (yi46 * (4294967296 : Int))) + yi49)) (Int.fdiv (IntKind.u64.wrap ((IntKind.u64.wrap ((IntKind.u64.wrap (yi48 * (4294967296 : Int))) + yi45)) - (IntKind.u64.wrap (yi49 * yi41)))) (2 ^ (min yi42.toNat IntKind.u64.bits))))))
 (fun yi51 yi52 _ _ yi55 yi56 _ yi58 yi59 _ => (asr (!(decide (yi52 < (0 : Int))))
 (K (IntKind.u64.wrap ((IntKind.u64.wrap (yi56 * (4294967296 : Int))) + yi59)) (Int.fdiv (IntKind.u64.wrap ((IntKind.u64.wrap ((IntKind.u64.wrap (yi58 * (4294967296 : Int))) + yi55)) - (IntKind.u64.wrap (yi59 * yi51)))) (2 ^ (min yi52.toNat IntKind.u64.bits))))))
 n60530101 yi31 yi32 yi33 yi34 yi37 yi38 (IntKind.u64.wrap ((IntKind.u64.wrap ((IntKind.u64.wrap ((IntKind.u64.wrap (yi35 * (4294967296 : Int))) + yi36)) - (IntKind.u64.wrap (yi38 * yi31)))) - (IntKind.u64.wrap ((IntKind.u64.wrap (Int.tdiv (IntKind.u64.wrap ((IntKind.u64.wrap ((IntKind.u64.wrap (yi35 * (4294967296 : Int))) + yi36)) - (IntKind.u64.wrap (yi38 * yi31)))) yi33)) * yi33)))) (IntKind.u64.wrap ((IntKind.u64.wrap ((IntKind.u64.wrap (yi35 * (4294967296 : Int))) + yi36)) - (IntKind.u64.wrap (yi38 * yi31)))) (IntKind.u64.wrap (Int.tdiv (IntKind.u64.wrap ((IntKind.u64.wrap ((IntKind.u64.wrap (yi35 * (4294967296 : Int))) + yi36)) - (IntKind.u64.wrap (yi38 * yi31)))) yi33)))))
 n60530100 (IntKind.u64.wrap (p2 * 2 ^ (min (IntKind.u64.wrap yi0).toNat IntKind.u64.bits))) (IntKind.u64.wrap yi0) (Int.fdiv (IntKind.u64.wrap (p2 * 2 ^ (min (IntKind.u64.wrap yi0).toNat IntKind.u64.bits))) 4294967296) (IntKind.u64.wrap (BitVec.ofInt IntKind.u64.bits (IntKind.u64.wrap (p2 * 2 ^ (min (IntKind.u64.wrap yi0).toNat IntKind.u64.bits))) &&& BitVec.ofInt IntKind.u64.bits (4294967295 : Int)).toNat) (IntKind.u64.wrap (BitVec.ofInt IntKind.u64.bits (IntKind.u64.wrap (p0 * 2 ^ (min (IntKind.u64.wrap yi0).toNat IntKind.u64.bits))) ||| BitVec.ofInt IntKind.u64.bits (Int.fdiv p1 (2 ^ (min (IntKind.u64.wrap ((64 : Int) - (IntKind.u64.wrap yi0))).toNat IntKind.u64.bits)))).toNat) (Int.fdiv (IntKind.u64.wrap (p1 * 2 ^ (min (IntKind.u64.wrap yi0).toNat IntKind.u64.bits))) 4294967296) (IntKind.u64.wrap (BitVec.ofInt IntKind.u64.bits (IntKind.u64.wrap (p1 * 2 ^ (min (IntKind.u64.wrap yi0).toNat IntKind.u64.bits))) &&& BitVec.ofInt IntKind.u64.bits (4294967295 : Int)).toNat) (IntKind.u64.wrap (Int.tdiv (IntKind.u64.wrap (BitVec.ofInt IntKind.u64.bits (IntKind.u64.wrap (p0 * 2 ^ (min (IntKind.u64.wrap yi0).toNat IntKind.u64.bits))) ||| BitVec.ofInt IntKind.u64.bits (Int.fdiv p1 (2 ^ (min (IntKind.u64.wrap ((64 : Int) - (IntKind.u64.wrap yi0))).toNat IntKind.u64.bits)))).toNat) (Int.fdiv (IntKind.u64.wrap (p2 * 2 ^ (min (IntKind.u64.wrap yi0).toNat IntKind.u64.bits))) 4294967296))) (IntKind.u64.wrap ((IntKind.u64.wrap (BitVec.ofInt IntKind.u64.bits (IntKind.u64.wrap (p0 * 2 ^ (min (IntKind.u64.wrap yi0).toNat IntKind.u64.bits))) ||| BitVec.ofInt IntKind.u64.bits (Int.fdiv p1 (2 ^ (min (IntKind.u64.wrap ((64 : Int) - (IntKind.u64.wrap yi0))).toNat IntKind.u64.bits)))).toNat) - (IntKind.u64.wrap ((IntKind.u64.wrap (Int.tdiv (IntKind.u64.wrap (BitVec.ofInt IntKind.u64.bits (IntKind.u64.wrap (p0 * 2 ^ (min (IntKind.u64.wrap yi0).toNat IntKind.u64.bits))) ||| BitVec.ofInt IntKind.u64.bits (Int.fdiv p1 (2 ^ (min (IntKind.u64.wrap ((64 : Int) - (IntKind.u64.wrap yi0))).toNat IntKind.u64.bits)))).toNat) (Int.fdiv (IntKind.u64.wrap (p2 * 2 ^ (min (IntKind.u64.wrap yi0).toNat IntKind.u64.bits))) 4294967296))) * (Int.fdiv (IntKind.u64.wrap (p2 * 2 ^ (min (IntKind.u64.wrap yi0).toNat IntKind.u64.bits))) 4294967296))))))))))))))))
def w_m_Div64 (p0 p1 p2 : Int) (K : Int → Int → Prop) : Prop := wv_m_Div64 w_m_LeadingZeros64 p0 p1 p2 K
def pw_m_Div64 (w : T_m_Div64) (as : List PV) (K : PV → Prop) : Prop :=
 match as with
 | [(.int .u64 p0), (.int .u64 p1), (.int .u64 p2)] => w p0 p1 p2 (fun r0 r1 => K (.tup [(.int .u64 r0), (.int .u64 r1)]))
 | _ => False
def wp_m_Div64 (as : List PV) (K : PV → Prop) : Prop := pw_m_Div64 w_m_Div64 as K
def D_m_Div64_0 (F : Frm) (H : Hp) (A0 : Int → Int → Int → Int → Int → Int → Int → Int → Int → Prop) (A1 : Int → Int → Int → Int → Int → Int → Int → Int → Int → Bool → Prop) : Prop :=
 match F, H with
 | [(2, .v (.int .u64 i0)), (8, .v (.int .u64 i1)), (9, .v (.int .u64 i2)), (10, .v (.int .u64 i3)), (11, .v (.int .u64 i4)), (13, .v (.int .u64 i5)), (14, .v (.int .u64 i6)), (15, .v (.int .u64 i7)), (16, .v (.int .u64 i8))], [] => (A0 i0 i1 i2 i3 i4 i5 i6 i7 i8)
 | [(2, .v (.int .u64 i0)), (8, .v (.int .u64 i1)), (9, .v (.int .u64 i2)), (10, .v (.int .u64 i3)), (11, .v (.int .u64 i4)), (13, .v (.int .u64 i5)), (14, .v (.int .u64 i6)), (15, .v (.int .u64 i7)), (16, .v (.int .u64 i8)), (85, .v (.bool b9))], [] => (A1 i0 i1 i2 i3 i4 i5 i6 i7 i8 b9)
 | _, _ => False
def D_m_Div64_1 (F : Frm) (H : Hp) (A0 : Int → Int → Int → Int → Int → Int → Int → Int → Int → Prop) (A1 : Int → Int → Int → Int → Int → Int → Int → Int → Int → Bool → Prop) : Prop :=
 match F, H with
 | [(2, .v (.int .u64 i0)), (8, .v (.int .u64 i1)), (9, .v (.int .u64 i2)), (10, .v (.int .u64 i3)), (14, .v (.int .u64 i4)), (15, .v (.int .u64 i5)), (16, .v (.int .u64 i6)), (17, .v (.int .u64 i7)), (18, .v (.int .u64 i8))], [] => (A0 i0 i1 i2 i3 i4 i5 i6 i7 i8)
 | [(2, .v (.int .u64 i0)), (8, .v (.int .u64 i1)), (9, .v (.int .u64 i2)), (10, .v (.int .u64 i3)), (14, .v (.int .u64 i4)), (15, .v (.int .u64 i5)), (16, .v (.int .u64 i6)), (17, .v (.int .u64 i7)), (18, .v (.int .u64 i8)), (120, .v (.bool b9))], [] => (A1 i0 i1 i2 i3 i4 i5 i6 i7 i8 b9)
 | _, _ => False
def X_m_Div64_0_0 (Q : Ex → Frm → Hp → Prop) : Int → Int → Int → Int → Int → Int → Int → Int → Int → Bool → Prop := (fun i0 i1 i2 i3 i4 i5 i6 i7 i8 b9 => Q (.exit 0) [(2, .v (.int .u64 i0)), (8, .v (.int .u64 i1)), (9, .v (.int .u64 i2)), (10, .v (.int .u64 i3)), (11, .v (.int .u64 i4)), (13, .v (.int .u64 i5)), (14, .v (.int .u64 i6)), (15, .v (.int .u64 i7)), (16, .v (.int .u64 i8)), (85, .v (.bool b9))] [])
def X_m_Div64_0_1 (Q : Ex → Frm → Hp → Prop) : Int → Int → Int → Int → Int → Int → Int → Int → Int → Bool → Prop := (fun i0 i1 i2 i3 i4 i5 i6 i7 i8 b9 => Q (.exit 0) [(2, .v (.int .u64 i0)), (8, .v (.int .u64 i1)), (9, .v (.int .u64 i2)), (10, .v (.int .u64 i3)), (11, .v (.int .u64 i4)), (13, .v (.int .u64 i5)), (14, .v (.int .u64 i6)), (15, .v (.int .u64 i7)), (16, .v (.int .u64 i8)), (78, .v (.bool b9))] [])
def X_m_Div64_1_0 (Q : Ex → Frm → Hp → Prop) : Int → Int → Int → Int → Int → Int → Int → Int → Int → Bool → Prop := (fun i0 i1 i2 i3 i4 i5 i6 i7 i8 b9 => Q (.exit 2) [(2, .v (.int .u64 i0)), (8, .v (.int .u64 i1)), (9, .v (.int .u64 i2)), (10, .v (.int .u64 i3)), (14, .v (.int .u64 i4)), (15, .v (.int .u64 i5)), (16, .v (.int .u64 i6)), (17, .v (.int .u64 i7)), (18, .v (.int .u64 i8)), (120, .v (.bool b9))] [])
def X_m_Div64_1_1 (Q : Ex → Frm → Hp → Prop) : Int → Int → Int → Int → Int → Int → Int → Int → Int → Bool → Prop := (fun i0 i1 i2 i3 i4 i5 i6 i7 i8 b9 => Q (.exit 2) [(2, .v (.int .u64 i0)), (8, .v (.int .u64 i1)), (9, .v (.int .u64 i2)), (10, .v (.int .u64 i3)), (14, .v (.int .u64 i4)), (15, .v (.int .u64 i5)), (16, .v (.int .u64 i6)), (17, .v (.int .u64 i7)), (18, .v (.int .u64 i8)), (113, .v (.bool b9))] [])
def R_m_Div64_0 (a0 : T_m_LeadingZeros64) (Q : Ex → Frm → Hp → Prop) (n : Nat) (F : Frm) (H : Hp) : Prop := D_m_Div64_0 F H (fun i0 i1 i2 i3 i4 i5 i6 i7 i8 => L_m_Div64_0_0 a0 (X_m_Div64_0_0 Q) (X_m_Div64_0_1 Q) n i0 i1 i2 i3 i4 i5 i6 i7 i8) (fun i0 i1 i2 i3 i4 i5 i6 i7 i8 b9 => L_m_Div64_0_1 a0 (X_m_Div64_0_0 Q) (X_m_Div64_0_1 Q) n i0 i1 i2 i3 i4 i5 i6 i7 i8 b9)
def R_m_Div64_1 (a0 : T_m_LeadingZeros64) (Q : Ex → Frm → Hp → Prop) (n : Nat) (F : Frm) (H : Hp) : Prop := D_m_Div64_1 F H (fun i0 i1 i2 i3 i4 i5 i6 i7 i8 => L_m_Div64_1_0 a0 (X_m_Div64_1_0 Q) (X_m_Div64_1_1 Q) n i0 i1 i2 i3 i4 i5 i6 i7 i8) (fun i0 i1 i2 i3 i4 i5 i6 i7 i8 b9 => L_m_Div64_1_1 a0 (X_m_Div64_1_0 Q) (X_m_Div64_1_1 Q) n i0 i1 i2 i3 i4 i5 i6 i7 i8 b9)
def lp_m_Div64 (a0 : T_m_LeadingZeros64) : LP := fun id F H Q =>
 bif Nat.beq id 60530100 then D_m_Div64_0 F H (fun i0 i1 i2 i3 i4 i5 i6 i7 i8 => ∃ n : Nat, L_m_Div64_0_0 a0 (X_m_Div64_0_0 Q) (X_m_Div64_0_1 Q) n i0 i1 i2 i3 i4 i5 i6 i7 i8) (fun i0 i1 i2 i3 i4 i5 i6 i7 i8 b9 => ∃ n : Nat, L_m_Div64_0_1 a0 (X_m_Div64_0_0 Q) (X_m_Div64_0_1 Q) n i0 i1 i2 i3 i4 i5 i6 i7 i8 b9) else
 bif Nat.beq id 60530101 then D_m_Div64_1 F H (fun i0 i1 i2 i3 i4 i5 i6 i7 i8 => ∃ n : Nat, L_m_Div64_1_0 a0 (X_m_Div64_1_0 Q) (X_m_Div64_1_1 Q) n i0 i1 i2 i3 i4 i5 i6 i7 i8) (fun i0 i1 i2 i3 i4 i5 i6 i7 i8 b9 => ∃ n : Nat, L_m_Div64_1_1 a0 (X_m_Div64_1_0 Q) (X_m_Div64_1_1 Q) n i0 i1 i2 i3 i4 i5 i6 i7 i8 b9) else
 False
def S0_m_Div64 (e : List (Nat × EffF)) (a0 : T_m_LeadingZeros64) : SE := ⟨(E e), lookS [(n_m_LeadingZeros64, pw_m_LeadingZeros64 a0)], lookI [], lp_m_Div64 a0⟩
theorem se0_m_Div64 (e : List (Nat × EffF)) (he : EG e) : SEOk (S0_m_Div64 e w_m_LeadingZeros64) := seOk_of ⟨(ok_m_LeadingZeros64 e he), trivial⟩ trivial he.ok
theorem body_m_Div64_0_0 (e : List (Nat × EffF)) (a0 Q n i0 i1 i2 i3 i4 i5 i6 i7 i8) : WC (E e) (callW (S0_m_Div64 e a0) 5) (lp_m_Div64 a0) b_60530100 [(2, .v (.int .u64 i0)), (8, .v (.int .u64 i1)), (9, .v (.int .u64 i2)), (10, .v (.int .u64 i3)), (11, .v (.int .u64 i4)), (13, .v (.int .u64 i5)), (14, .v (.int .u64 i6)), (15, .v (.int .u64 i7)), (16, .v (.int .u64 i8))] [] (fun x F' H' => match x with | .norm => R_m_Div64_0 a0 Q n F' H' | .exit i => Q (.exit i) F' H' | .ret => Q .ret F' H') = L_m_Div64_0_0 a0 (X_m_Div64_0_0 Q) (X_m_Div64_0_1 Q) (n + 1) i0 i1 i2 i3 i4 i5 i6 i7 i8 := by kernel_rfl
theorem body_m_Div64_0_1 (e : List (Nat × EffF)) (a0 Q n i0 i1 i2 i3 i4 i5 i6 i7 i8 b9) : WC (E e) (callW (S0_m_Div64 e a0) 5) (lp_m_Div64 a0) b_60530100 [(2, .v (.int .u64 i0)), (8, .v (.int .u64 i1)), (9, .v (.int .u64 i2)), (10, .v (.int .u64 i3)), (11, .v (.int .u64 i4)), (13, .v (.int .u64 i5)), (14, .v (.int .u64 i6)), (15, .v (.int .u64 i7)), (16, .v (.int .u64 i8)), (85, .v (.bool b9))] [] (fun x F' H' => match x with | .norm => R_m_Div64_0 a0 Q n F' H' | .exit i => Q (.exit i) F' H' | .ret => Q .ret F' H') = L_m_Div64_0_1 a0 (X_m_Div64_0_0 Q) (X_m_Div64_0_1 Q) (n + 1) i0 i1 i2 i3 i4 i5 i6 i7 i8 b9 := by kernel_rfl
theorem lpb_m_Div64_0 (e : List (Nat × EffF)) (_ : EG e) : LpOk (E e) (lp_m_Div64 w_m_LeadingZeros64) b_60530100 := (LpOk_no (by kernel_rfl))
theorem loop_m_Div64_0 (e : List (Nat × EffF)) (he : EG e) : ∀ F H Q, lp_m_Div64 w_m_LeadingZeros64 60530100 F H Q → LoopT (E e) b_60530100 F H Q := by
 intro F H Q h
 have go := LoopT.intro (callW_ok (se0_m_Div64 e he) 5) (lpb_m_Div64_0 e he) (R_m_Div64_0 w_m_LeadingZeros64 Q) (by
   intro F H h
   unfold R_m_Div64_0 D_m_Div64_0 at h
   split at h
   · exact h
   · exact h
   · exact h) (by
   intro n F H h
   unfold R_m_Div64_0 D_m_Div64_0 at h
   split at h
   · exact (body_m_Div64_0_0 ..).mpr h
   · exact (body_m_Div64_0_1 ..).mpr h
   · exact h.elim)
 have h : D_m_Div64_0 F H _ _ := h
 unfold D_m_Div64_0 at h
 split at h
 · obtain ⟨n, h⟩ := h; exact go n _ _ h
 · obtain ⟨n, h⟩ := h; exact go n _ _ h
 · exact h.elim
theorem body_m_Div64_1_0 (e : List (Nat × EffF)) (a0 Q n i0 i1 i2 i3 i4 i5 i6 i7 i8) : WC (E e) (callW (S0_m_Div64 e a0) 5) (lp_m_Div64 a0) b_60530101 [(2, .v (.int .u64 i0)), (8, .v (.int .u64 i1)), (9, .v (.int .u64 i2)), (10, .v (.int .u64 i3)), (14, .v (.int .u64 i4)), (15, .v (.int .u64 i5)), (16, .v (.int .u64 i6)), (17, .v (.int .u64 i7)), (18, .v (.int .u64 i8))] [] (fun x F' H' => match x with | .norm => R_m_Div64_1 a0 Q n F' H' | .exit i => Q (.exit i) F' H' | .ret => Q .ret F' H') = L_m_Div64_1_0 a0 (X_m_Div64_1_0 Q) (X_m_Div64_1_1 Q) (n + 1) i0 i1 i2 i3 i4 i5 i6 i7 i8 := by kernel_rfl
theorem body_m_Div64_1_1 (e : List (Nat × EffF)) (a0 Q n i0 i1 i2 i3 i4 i5 i6 i7 i8 b9) : WC (E e) (callW (S0_m_Div64 e a0) 5) (lp_m_Div64 a0) b_60530101 [(2, .v (.int .u64 i0)), (8, .v (.int .u64 i1)), (9, .v (.int .u64 i2)), (10, .v (.int .u64 i3)), (14, .v (.int .u64 i4)), (15, .v (.int .u64 i5)), (16, .v (.int .u64 i6)), (17, .v (.int .u64 i7)), (18, .v (.int .u64 i8)), (120, .v (.bool b9))] [] (fun x F' H' => match x with | .norm => R_m_Div64_1 a0 Q n F' H' | .exit i => Q (.exit i) F' H' | .ret => Q .ret F' H') = L_m_Div64_1_1 a0 (X_m_Div64_1_0 Q) (X_m_Div64_1_1 Q) (n + 1) i0 i1 i2 i3 i4 i5 i6 i7 i8 b9 := by kernel_rfl
theorem lpb_m_Div64_1 (e : List (Nat × EffF)) (_ : EG e) : LpOk (E e) (lp_m_Div64 w_m_LeadingZeros64) b_60530101 := (LpOk_no (by kernel_rfl))
theorem loop_m_Div64_1 (e : List (Nat × EffF)) (he : EG e) : ∀ F H Q, lp_m_Div64 w_m_LeadingZeros64 60530101 F H Q → LoopT (E e) b_60530101 F H Q := by
 intro F H Q h
 have go := LoopT.intro (callW_ok (se0_m_Div64 e he) 5) (lpb_m_Div64_1 e he) (R_m_Div64_1 w_m_LeadingZeros64 Q) (by
   intro F H h
   unfold R_m_Div64_1 D_m_Div64_1 at h
   split at h
   · exact h
   · exact h
   · exact h) (by
   intro n F H h
   unfold R_m_Div64_1 D_m_Div64_1 at h
   split at h
   · exact (body_m_Div64_1_0 ..).mpr h
   · exact (body_m_Div64_1_1 ..).mpr h
   · exact h.elim)
 have h : D_m_Div64_1 F H _ _ := h
 unfold D_m_Div64_1 at h
 split at h
 · obtain ⟨n, h⟩ := h; exact go n _ _ h
 · obtain ⟨n, h⟩ := h; exact go n _ _ h
 · exact h.elim
theorem eq_m_Div64 (e : List (Nat × EffF)) (a0 p0 p1 p2 K) : WP (S0_m_Div64 e a0) 6 t_m_Div64 [(.int .u64 p0), (.int .u64 p1), (.int .u64 p2)] K = wv_m_Div64 a0 p0 p1 p2 (fun r0 r1 => K (.tup [(.int .u64 r0), (.int .u64 r1)])) := by kernel_rfl
theorem ok_m_Div64 (e : List (Nat × EffF)) (he : EG e) : OkF (E e) wp_m_Div64 n_m_Div64 := by
 intro as K h
 unfold wp_m_Div64 pw_m_Div64 at h
 split at h
 · exact WP_ok (se0_m_Div64 e he) (LpOk_by (l := [(60530100, b_60530100), (60530101, b_60530101)]) ⟨loop_m_Div64_0 e he, loop_m_Div64_1 e he, trivial⟩ (by kernel_rfl)) (by kernel_rfl) (by kernel_rfl) (fun _ => baseS_none (by kernel_rfl) _) (he.num _ (by kernel_rfl)) ((eq_m_Div64 ..).mpr h)
 · exact h.elim
abbrev T_m_Rem64 : Type := Int → Int → Int → (Int → Prop) → Prop
def wv_m_Rem64 (a0 : T_m_Div64) (p0 p1 p2 : Int) (K : Int → Prop) : Prop :=
 (asr (!(decide (p2 = (0 : Int))))
 (a0 (Int.tmod p0 p2) p1 p2 (fun _ yi1 => 
 (K yi1))))
def w_m_Rem64 (p0 p1 p2 : Int) (K : Int → Prop) : Prop := wv_m_Rem64 w_m_Div64 p0 p1 p2 K
def pw_m_Rem64 (w : T_m_Rem64) (as : List PV) (K : PV → Prop) : Prop :=
 match as with
 | [(.int .u64 p0), (.int .u64 p1), (.int .u64 p2)] => w p0 p1 p2 (fun r0 => K (.int .u64 r0))
 | _ => False
def wp_m_Rem64 (as : List PV) (K : PV → Prop) : Prop := pw_m_Rem64 w_m_Rem64 as K
def lp_m_Rem64 (_ : T_m_Div64) : LP := fun _ _ _ _ =>
 False
def S0_m_Rem64 (e : List (Nat × EffF)) (a0 : T_m_Div64) : SE := ⟨(E e), lookS [(n_m_Div64, pw_m_Div64 a0)], lookI [], lp_m_Rem64 a0⟩
theorem se0_m_Rem64 (e : List (Nat × EffF)) (he : EG e) : SEOk (S0_m_Rem64 e w_m_Div64) := seOk_of ⟨(ok_m_Div64 e he), trivial⟩ trivial he.ok
theorem eq_m_Rem64 (e : List (Nat × EffF)) (a0 p0 p1 p2 K) : WP (S0_m_Rem64 e a0) 6 t_m_Rem64 [(.int .u64 p0), (.int .u64 p1), (.int .u64 p2)] K = wv_m_Rem64 a0 p0 p1 p2 (fun r0 => K (.int .u64 r0)) := by kernel_rfl
theorem ok_m_Rem64 (e : List (Nat × EffF)) (he : EG e) : OkF (E e) wp_m_Rem64 n_m_Rem64 := by
 intro as K h
 unfold wp_m_Rem64 pw_m_Rem64 at h
 split at h
 · exact WP_ok (se0_m_Rem64 e he) (LpOk_no (by kernel_rfl)) (by kernel_rfl) (by kernel_rfl) (fun _ => baseS_none (by kernel_rfl) _) (he.num _ (by kernel_rfl)) ((eq_m_Rem64 ..).mpr h)
 · exact h.elim
abbrev T_ratio_signed : Type := Bool → Int → Int → (Int → Int → Int → Prop) → Prop
def wv_ratio_signed (p0 : Bool) (p1 p2 : Int) (K : Int → Int → Int → Prop) : Prop :=
 (cbr (decide ((if p2 > p1 then p2 else p1) > (1000000000000000000 : Int)))
 (K (0 : Int) (0 : Int) (16 : Int))
 (cbr p0
 (K (IntKind.i64.wrap ((0 : Int) - (IntKind.i64.wrap p1))) (IntKind.i64.wrap p2) (0 : Int))
 (K (IntKind.i64.wrap p1) (IntKind.i64.wrap p2) (0 : Int))))
def w_ratio_signed (p0 : Bool) (p1 p2 : Int) (K : Int → Int → Int → Prop) : Prop := wv_ratio_signed p0 p1 p2 K
def pw_ratio_signed (w : T_ratio_signed) (as : List PV) (K : PV → Prop) : Prop :=
 match as with
 | [(.bool p0), (.int .u64 p1), (.int .u64 p2)] => w p0 p1 p2 (fun r0 r1 r2 => K (.tup [(.agg [(.int .i64 r0), (.int .i64 r1)]), (.int .i64 r2)]))
 | _ => False
def wp_ratio_signed (as : List PV) (K : PV → Prop) : Prop := pw_ratio_signed w_ratio_signed as K
def lp_ratio_signed : LP := fun _ _ _ _ =>
 False
def S0_ratio_signed (e : List (Nat × EffF)) : SE := ⟨(E e), lookS [], lookI [], lp_ratio_signed⟩
theorem se0_ratio_signed (e : List (Nat × EffF)) (he : EG e) : SEOk (S0_ratio_signed e) := seOk_of trivial trivial he.ok
theorem eq_ratio_signed (e : List (Nat × EffF)) ( p0 p1 p2 K) : WP (S0_ratio_signed e) 6 t_ratio_signed [(.bool p0), (.int .u64 p1), (.int .u64 p2)] K = wv_ratio_signed p0 p1 p2 (fun r0 r1 r2 => K (.tup [(.agg [(.int .i64 r0), (.int .i64 r1)]), (.int .i64 r2)])) := by kernel_rfl
theorem ok_ratio_signed (e : List (Nat × EffF)) (he : EG e) : OkF (E e) wp_ratio_signed n_ratio_signed := by
 intro as K h
 unfold wp_ratio_signed pw_ratio_signed at h
 split at h
 · exact WP_ok (se0_ratio_signed e he) (LpOk_no (by kernel_rfl)) (by kernel_rfl) (by kernel_rfl) (fun _ => baseS_none (by kernel_rfl) _) (he.num _ (by kernel_rfl)) ((eq_ratio_signed ..).mpr h)
 · exact h.elim
abbrev T_ratio_Add : Type := Int → Int → Int → Int → (Int → Int → Int → Prop) → Prop
def wv_ratio_Add (a0 : T_ratio_check) (a1 : T_ratio_gcd) (a2 : T_ratio_size) (a3 : T_m_Mul64) (a4 : T_m_Add64) (a5 : T_m_Rem64) (a6 : T_m_Div64) (a7 : T_ratio_signed) (a8 : T_m_Sub64) (p0 p1 p2 p3 : Int) (K : Int → Int → Int → Prop) : Prop :=
 (a0 p0 p1 p2 p3 (fun yi0 => 
 (cbr (yi0 != (0 : Int))
 (K (0 : Int) (0 : Int) yi0)
 (a1 (IntKind.u64.wrap p1) (IntKind.u64.wrap p3) (fun yi1 => 
 (a2 p0 (fun yi2 => 
 (asr (!(decide (yi1 = (0 : Int))))
 (a3 yi2 (IntKind.u64.wrap (Int.tdiv (IntKind.u64.wrap p3) yi1)) (fun yi3 yi4 => 
 (a2 p2 (fun yi5 => 
 (asr (!(decide (yi1 = (0 : Int))))
 (a3 yi5 (IntKind.u64.wrap (Int.tdiv (IntKind.u64.wrap p1) yi1)) (fun yi6 yi7 => 
 (cbr ((decide (p0 < (0 : Int))) == (decide (p2 < (0 : Int))))
 (a4 yi4 yi7 (0 : Int) (fun yi8 yi9 => 
 (a4 yi3 yi6 yi9 (fun yi10 _ => 
 (cbr (yi10 == (0 : Int))
 (cbr (yi8 == (0 : Int))
 (K (0 : Int) (1 : Int) (0 : Int))
 (a5 yi10 yi8 yi1 (fun yi12 => 
 (a1 yi12 yi1 (fun yi13 => 
 (cbr (decide (yi10 ≥ yi13))
 (K (0 : Int) (0 : Int) (16 : Int))
 (a6 yi10 yi8 yi13 (fun yi14 _ => 
 (asr (!(decide (yi1 = (0 : Int))))
 (asr (!(decide (yi13 = (0 : Int))))
 (a3 (IntKind.u64.wrap (Int.tdiv (IntKind.u64.wrap p1) yi1)) (IntKind.u64.wrap (Int.tdiv (IntKind.u64.wrap p3) yi13)) (fun yi16 yi17 => 
 (cbr (decide (yi16 > (0 : Int)))
 (K (0 : Int) (0 : Int) (16 : Int))
 (a7 (decide (p0 < (0 : Int))) yi14 yi17 (fun yi18 yi19 yi20 => 
 (K yi18 yi19 yi20))))))))))))))))
 (a5 yi10 yi8 yi1 (fun yi21 => 
 (a1 yi21 yi1 (fun yi22 => 
 (cbr (decide (yi10 ≥ yi22))
 (K (0 : Int) (0 : Int) (16 : Int))
 (a6 yi10 yi8 yi22 (fun yi23 _ => 
 (asr (!(decide (yi1 = (0 : Int))))
 (asr (!(decide (yi22 = (0 : Int))))
 (a3 (IntKind.u64.wrap (Int.tdiv (IntKind.u64.wrap p1) yi1)) (IntKind.u64.wrap (Int.tdiv (IntKind.u64.wrap p3) yi22)) (fun yi25 yi26 => 
 (cbr (decide (yi25 > (0 : Int)))
 (K (0 : Int) (0 : Int) (16 : Int))
 (a7 (decide (p0 < (0 : Int))) yi23 yi26 (fun yi27 yi28 yi29 => 
 (K yi27 yi28 yi29))))))))))))))))))))
 (cbr (decide (yi3 < yi6))
 (a8 yi7 yi4 (0 : Int) (fun yi30 yi31 => 
 (a8 yi6 yi3 yi31 (fun yi32 _ => 
 (cbr (yi32 == (0 : Int))
 (cbr (yi30 == (0 : Int))
 (K (0 : Int) (1 : Int) (0 : Int))
 (a5 yi32 yi30 yi1 (fun yi34 => 
 (a1 yi34 yi1 (fun yi35 => 
 (cbr (decide (yi32 ≥ yi35))
 (K (0 : Int) (0 : Int) (16 : Int))
 (a6 yi32 yi30 yi35 (fun yi36 _ => 
 (asr (!(decide (yi1 = (0 : Int))))
 (asr (!(decide (yi35 = (0 : Int))))
 (a3 (IntKind.u64.wrap (Int.tdiv (IntKind.u64.wrap p1) yi1)) (IntKind.u64.wrap (Int.tdiv (IntKind.u64.wrap p3) yi35)) (fun yi38 yi39 => 
 (cbr (decide (yi38 > (0 : Int)))
 (K (0 : Int) (0 : Int) (16 : Int))
 (a7 (!(decide (p0 < (0 : Int)))) yi36 yi39 (fun yi40 yi41 yi42 => 
 (K yi40 yi41 yi42))))))))))))))))
 (a5 yi32 yi30 yi1 (fun yi43 => 
 (a1 yi43 yi1 (fun yi44 => 
 (cbr (decide (yi32 ≥ yi44))
 (K (0 : Int) (0 : Int) (16 : Int))
 (a6 yi32 yi30 yi44 (fun yi45 _ => 
 (asr (!(decide (yi1 = (0 : Int))))
 (asr (!(decide (yi44 = (0 : Int))))
 (a3 (IntKind.u64.wrap (Int.tdiv (IntKind.u64.wrap p1) yi1)) (IntKind.u64.wrap (Int.tdiv (IntKind.u64.wrap p3) yi44)) (fun yi47 yi48 => 
 (cbr (decide (yi47 > (0 : Int)))
 (K (0 : Int) (0 : Int) (16 : Int))
 (a7 (!(decide (p0 < (0 : Int)))) yi45 yi48 (fun yi49 yi50 yi51 => 
 (K yi49 yi50 yi51))))))))))))))))))))
 (cbr (yi3 == yi6)
 (cbr (decide (yi4 < yi7))
 (a8 yi7 yi4 (0 : Int) (fun yi52 yi53 => 
 (a8 yi6 yi3 yi53 (fun yi54 _ => 
 (cbr (yi54 == (0 : Int))
 (cbr (yi52 == (0 : Int))
 (K (0 : Int) (1 : Int) (0 : Int))
 (a5 yi54 yi52 yi1 (fun yi56 => 
 (a1 yi56 yi1 (fun yi57 => 
 (cbr (decide (yi54 ≥ yi57))
 (K (0 : Int) (0 : Int) (16 : Int))
 (a6 yi54 yi52 yi57 (fun yi58 _ => 
 (asr (!(decide (yi1 = (0 : Int))))
 (asr (!(decide (yi57 = (0 : Int))))
 (a3 (IntKind.u64.wrap (Int.tdiv (IntKind.u64.wrap p1) yi1)) (IntKind.u64.wrap (Int.tdiv (IntKind.u64.wrap p3) yi57)) (fun yi60 yi61 => 
 (cbr (decide (yi60 > (0 : Int)))
 (K (0 : Int) (0 : Int) (16 : Int))
 (a7 (!(decide (p0 < (0 : Int)))) yi58 yi61 (fun yi62 yi63 yi64 => 
 (K yi62 yi63 yi64))))))))))))))))
 (a5 yi54 yi52 yi1 (fun yi65 => 
 (a1 yi65 yi1 (fun yi66 => 
 (cbr (decide (yi54 ≥ yi66))
 (K (0 : Int) (0 : Int) (16 : Int))
 (a6 yi54 yi52 yi66 (fun yi67 _ => 
 (asr (!(decide (yi1 = (0 : Int))))
 (asr (!(decide (yi66 = (0 : Int))))
 (a3 (IntKind.u64.wrap (Int.tdiv (IntKind.u64.wrap p1) yi1)) (IntKind.u64.wrap (Int.tdiv (IntKind.u64.wrap p3) yi66)) (fun yi69 yi70 => 
 (cbr (decide (yi69 > (0 : Int)))
 (K (0 : Int) (0 : Int) (16 : Int))
 (a7 (!(decide (p0 < (0 : Int)))) yi67 yi70 (fun yi71 yi72 yi73 => 
 (K yi71 yi72 yi73))))))))))))))))))))
 (a8 yi4 yi7 (0 : Int) (fun yi74 yi75 => 
 (a8 yi3 yi6 yi75 (fun yi76 _ => 
 (cbr (yi76 == (0 : Int))
 (cbr (yi74 == (0 : Int))
 (K (0 : Int) (1 : Int) (0 : Int))
 (a5 yi76 yi74 yi1 (fun yi78 => 
 (a1 yi78 yi1 (fun yi79 => 
 (cbr (decide (yi76 ≥ yi79))
 (K (0 : Int) (0 : Int) (16 : Int))
 (a6 yi76 yi74 yi79 (fun yi80 _ => 
 (asr (!(decide (yi1 = (0 : Int))))
 (asr (!(decide (yi79 = (0 : Int))))
 (a3 (IntKind.u64.wrap (Int.tdiv (IntKind.u64.wrap p1) yi1)) (IntKind.u64.wrap (Int.tdiv (IntKind.u64.wrap p3) yi79)) (fun yi82 yi83 => 
 (cbr (decide (yi82 > (0 : Int)))
 (K (0 : Int) (0 : Int) (16 : Int))
 (a7 (decide (p0 < (0 : Int))) yi80 yi83 (fun yi84 yi85 yi86 => 
 (K yi84 yi85 yi86))))))))))))))))
 (a5 yi76 yi74 yi1 (fun yi87 => 
 (a1 yi87 yi1 (fun yi88 => 
 (cbr (decide (yi76 ≥ yi88))
 (K (0 : Int) (0 : Int) (16 : Int))
 (a6 yi76 yi74 yi88 (fun yi89 _ => 
 (asr (!(decide (yi1 = (0 : Int))))
 (asr (!(decide (yi88 = (0 : Int))))
 (a3 (IntKind.u64.wrap (Int.tdiv (IntKind.u64.wrap p1) yi1)) (IntKind.u64.wrap (Int.tdiv (IntKind.u64.wrap p3) yi88)) (fun yi91 yi92 => 
 (cbr (decide (yi91 > (0 : Int)))
 (K (0 : Int) (0 : Int) (16 : Int))
 (a7 (decide (p0 < (0 : Int))) yi89 yi92 (fun yi93 yi94 yi95 => 
 (K yi93 yi94 yi95)))))))))))))))))))))
 (a8 yi4 yi7 (0 : Int) (fun yi96 yi97 => 
 (a8 yi3 yi6 yi97 (fun yi98 _ => 
 (cbr (yi98 == (0 : Int))
 (cbr (yi96 == (0 : Int))
 (K (0 : Int) (1 : Int) (0 : Int))
 (a5 yi98 yi96 yi1 (fun yi100 => 
 (a1 yi100 yi1 (fun yi101 => 
 (cbr (decide (yi98 ≥ yi101))
 (K (0 : Int) (0 : Int) (16 : Int))
 (a6 yi98 yi96 yi101 (fun yi102 _ => 
 (asr (!(decide (yi1 = (0 : Int))))
 (asr (!(decide (yi101 = (0 : Int))))
 (a3 (IntKind.u64.wrap (Int.tdiv (IntKind.u64.wrap p1) yi1)) (IntKind.u64.wrap (Int.tdiv (IntKind.u64.wrap p3) yi101)) (fun yi104 yi105 => 
 (cbr (decide (yi104 > (0 : Int)))
 (K (0 : Int) (0 : Int) (16 : Int))
 (a7 (decide (p0 < (0 : Int))) yi102 yi105 (fun yi106 yi107 yi108 => 
 (K yi106 yi107 yi108))))))))))))))))
 (a5 yi98 yi96 yi1 (fun yi109 => 
 (a1 yi109 yi1 (fun yi110 => 
 (cbr (decide (yi98 ≥ yi110))
 (K (0 : Int) (0 : Int) (16 : Int))
 (a6 yi98 yi96 yi110 (fun yi111 _ => 
 (asr (!(decide (yi1 = (0 : Int))))
 (asr (!(decide (yi110 = (0 : Int))))
 (a3 (IntKind.u64.wrap (Int.tdiv (IntKind.u64.wrap p1) yi1)) (IntKind.u64.wrap (Int.tdiv (IntKind.u64.wrap p3) yi110)) (fun yi113 yi114 => 
 (cbr (decide (yi113 > (0 : Int)))
 (K (0 : Int) (0 : Int) (16 : Int))
 (a7 (decide (p0 < (0 : Int))) yi111 yi114 (fun yi115 yi116 yi117 => 
 (K yi115 yi116 yi117))))))))))))))))))))))))))))))))))))))
def w_ratio_Add (p0 p1 p2 p3 : Int) (K : Int → Int → Int → Prop) : Prop := wv_ratio_Add w_ratio_check w_ratio_gcd w_ratio_size w_m_Mul64 w_m_Add64 w_m_Rem64 w_m_Div64 w_ratio_signed w_m_Sub64 p0 p1 p2 p3 K
def pw_ratio_Add (w : T_ratio_Add) (as : List PV) (K : PV → Prop) : Prop :=
 match as with
 | [(.agg [(.int .i64 p0), (.int .i64 p1)]), (.agg [(.int .i64 p2), (.int .i64 p3)])] => w p0 p1 p2 p3 (fun r0 r1 r2 => K (.tup [(.agg [(.int .i64 r0), (.int .i64 r1)]), (.int .i64 r2)]))
 | _ => False
def wp_ratio_Add (as : List PV) (K : PV → Prop) : Prop := pw_ratio_Add w_ratio_Add as K
def lp_ratio_Add (_ : T_ratio_check) (_ : T_ratio_gcd) (_ : T_ratio_size) (_ : T_m_Mul64) (_ : T_m_Add64) (_ : T_m_Rem64) (_ : T_m_Div64) (_ : T_ratio_signed) (_ : T_m_Sub64) : LP := fun _ _ _ _ =>
 False
def S0_ratio_Add (e : List (Nat × EffF)) (a0 : T_ratio_check) (a1 : T_ratio_gcd) (a2 : T_ratio_size) (a3 : T_m_Mul64) (a4 : T_m_Add64) (a5 : T_m_Rem64) (a6 : T_m_Div64) (a7 : T_ratio_signed) (a8 : T_m_Sub64) : SE := ⟨(E e), lookS [(n_ratio_check, pw_ratio_check a0), (n_ratio_gcd, pw_ratio_gcd a1), (n_ratio_size, pw_ratio_size a2), (n_m_Mul64, pw_m_Mul64 a3), (n_m_Add64, pw_m_Add64 a4), (n_m_Rem64, pw_m_Rem64 a5), (n_m_Div64, pw_m_Div64 a6), (n_ratio_signed, pw_ratio_signed a7), (n_m_Sub64, pw_m_Sub64 a8)], lookI [], lp_ratio_Add a0 a1 a2 a3 a4 a5 a6 a7 a8⟩
theorem se0_ratio_Add (e : List (Nat × EffF)) (he : EG e) : SEOk (S0_ratio_Add e w_ratio_check w_ratio_gcd w_ratio_size w_m_Mul64 w_m_Add64 w_m_Rem64 w_m_Div64 w_ratio_signed w_m_Sub64) := seOk_of ⟨(ok_ratio_check e he), (ok_ratio_gcd e he), (ok_ratio_size e he), (ok_m_Mul64 e he), (ok_m_Add64 e he), (ok_m_Rem64 e he), (ok_m_Div64 e he), (ok_ratio_signed e he), (ok_m_Sub64 e he), trivial⟩ trivial he.ok
theorem eq_ratio_Add (e : List (Nat × EffF)) (a0 a1 a2 a3 a4 a5 a6 a7 a8 p0 p1 p2 p3 K) : WP (S0_ratio_Add e a0 a1 a2 a3 a4 a5 a6 a7 a8) 6 t_ratio_Add [(.agg [(.int .i64 p0), (.int .i64 p1)]), (.agg [(.int .i64 p2), (.int .i64 p3)])] K = wv_ratio_Add a0 a1 a2 a3 a4 a5 a6 a7 a8 p0 p1 p2 p3 (fun r0 r1 r2 => K (.tup [(.agg [(.int .i64 r0), (.int .i64 r1)]), (.int .i64 r2)])) := by kernel_rfl
theorem ok_ratio_Add (e : List (Nat × EffF)) (he : EG e) : OkF (E e) wp_ratio_Add n_ratio_Add := by
 intro as K h
 unfold wp_ratio_Add pw_ratio_Add at h
 split at h
 · exact WP_ok (se0_ratio_Add e he) (LpOk_no (by kernel_rfl)) (by kernel_rfl) (by kernel_rfl) (fun _ => baseS_none (by kernel_rfl) _) (he.num _ (by kernel_rfl)) ((eq_ratio_Add ..).mpr h)
 · exact h.elim
abbrev T_ratio_Sub : Type := Int → Int → Int → Int → (Int → Int → Int → Prop) → Prop
def wv_ratio_Sub (a0 : T_ratio_check) (a1 : T_ratio_Add) (p0 p1 p2 p3 : Int) (K : Int → Int → Int → Prop) : Prop :=
 (a0 p0 p1 p2 p3 (fun yi0 => 
 (cbr (yi0 != (0 : Int))
 (K (0 : Int) (0 : Int) yi0)
 (a1 p0 p1 (IntKind.i64.wrap ((0 : Int) - p2)) p3 (fun yi1 yi2 yi3 => 
 (K yi1 yi2 yi3))))))
def w_ratio_Sub (p0 p1 p2 p3 : Int) (K : Int → Int → Int → Prop) : Prop := wv_ratio_Sub w_ratio_check w_ratio_Add p0 p1 p2 p3 K
def pw_ratio_Sub (w : T_ratio_Sub) (as : List PV) (K : PV → Prop) : Prop :=
 match as with
 | [(.agg [(.int .i64 p0), (.int .i64 p1)]), (.agg [(.int .i64 p2), (.int .i64 p3)])] => w p0 p1 p2 p3 (fun r0 r1 r2 => K (.tup [(.agg [(.int .i64 r0), (.int .i64 r1)]), (.int .i64 r2)]))
 | _ => False
def wp_ratio_Sub (as : List PV) (K : PV → Prop) : Prop := pw_ratio_Sub w_ratio_Sub as K
def lp_ratio_Sub (_ : T_ratio_check) (_ : T_ratio_Add) : LP := fun _ _ _ _ =>
 False
def S0_ratio_Sub (e : List (Nat × EffF)) (a0 : T_ratio_check) (a1 : T_ratio_Add) : SE := ⟨(E e), lookS [(n_ratio_check, pw_ratio_check a0), (n_ratio_Add, pw_ratio_Add a1)], lookI [], lp_ratio_Sub a0 a1⟩
theorem se0_ratio_Sub (e : List (Nat × EffF)) (he : EG e) : SEOk (S0_ratio_Sub e w_ratio_check w_ratio_Add) := seOk_of ⟨(ok_ratio_check e he), (ok_ratio_Add e he), trivial⟩ trivial he.ok
theorem eq_ratio_Sub (e : List (Nat × EffF)) (a0 a1 p0 p1 p2 p3 K) : WP (S0_ratio_Sub e a0 a1) 6 t_ratio_Sub [(.agg [(.int .i64 p0), (.int .i64 p1)]), (.agg [(.int .i64 p2), (.int .i64 p3)])] K = wv_ratio_Sub a0 a1 p0 p1 p2 p3 (fun r0 r1 r2 => K (.tup [(.agg [(.int .i64 r0), (.int .i64 r1)]), (.int .i64 r2)])) := by kernel_rfl
theorem ok_ratio_Sub (e : List (Nat × EffF)) (he : EG e) : OkF (E e) wp_ratio_Sub n_ratio_Sub := by
 intro as K h
 unfold wp_ratio_Sub pw_ratio_Sub at h
 split at h
 · exact WP_ok (se0_ratio_Sub e he) (LpOk_no (by kernel_rfl)) (by kernel_rfl) (by kernel_rfl) (fun _ => baseS_none (by kernel_rfl) _) (he.num _ (by kernel_rfl)) ((eq_ratio_Sub ..).mpr h)
 · exact h.elim
abbrev T_ratio_Mul : Type := Int → Int → Int → Int → (Int → Int → Int → Prop) → Prop
def wv_ratio_Mul (a0 : T_ratio_check) (a1 : T_ratio_size) (a2 : T_ratio_gcd) (a3 : T_m_Mul64) (a4 : T_ratio_signed) (p0 p1 p2 p3 : Int) (K : Int → Int → Int → Prop) : Prop :=
 (a0 p0 p1 p2 p3 (fun yi0 => 
 (cbr (yi0 != (0 : Int))
 (K (0 : Int) (0 : Int) yi0)
 (a1 p0 (fun yi1 => 
 (a1 p2 (fun yi2 => 
 (a2 yi1 (IntKind.u64.wrap p3) (fun yi3 => 
 (a2 yi2 (IntKind.u64.wrap p1) (fun yi4 => 
 (asr (!(decide (yi3 = (0 : Int))))
 (asr (!(decide (yi4 = (0 : Int))))
 (a3 (IntKind.u64.wrap (Int.tdiv yi1 yi3)) (IntKind.u64.wrap (Int.tdiv yi2 yi4)) (fun yi5 yi6 => 
 (asr (!(decide (yi4 = (0 : Int))))
 (asr (!(decide (yi3 = (0 : Int))))
 (a3 (IntKind.u64.wrap (Int.tdiv (IntKind.u64.wrap p1) yi4)) (IntKind.u64.wrap (Int.tdiv (IntKind.u64.wrap p3) yi3)) (fun yi7 yi8 => 
 (cbr (decide ((IntKind.u64.wrap (yi5 + yi7)) > (0 : Int)))
 (K (0 : Int) (0 : Int) (16 : Int))
 (cbr (decide (yi6 > (0 : Int)))
 (a4 ((decide (p0 < (0 : Int))) != (decide (p2 < (0 : Int)))) yi6 yi8 (fun yi9 yi10 yi11 => 
 (K yi9 yi10 yi11)))
 (a4 false yi6 yi8 (fun yi12 yi13 yi14 => 
 (K yi12 yi13 yi14))))))))))))))))))))))))
def w_ratio_Mul (p0 p1 p2 p3 : Int) (K : Int → Int → Int → Prop) : Prop := wv_ratio_Mul w_ratio_check w_ratio_size w_ratio_gcd w_m_Mul64 w_ratio_signed p0 p1 p2 p3 K
def pw_ratio_Mul (w : T_ratio_Mul) (as : List PV) (K : PV → Prop) : Prop :=
 match as with
 | [(.agg [(.int .i64 p0), (.int .i64 p1)]), (.agg [(.int .i64 p2), (.int .i64 p3)])] => w p0 p1 p2 p3 (fun r0 r1 r2 => K (.tup [(.agg [(.int .i64 r0), (.int .i64 r1)]), (.int .i64 r2)]))
 | _ => False
def wp_ratio_Mul (as : List PV) (K : PV → Prop) : Prop := pw_ratio_Mul w_ratio_Mul as K
def lp_ratio_Mul (_ : T_ratio_check) (_ : T_ratio_size) (_ : T_ratio_gcd) (_ : T_m_Mul64) (_ : T_ratio_signed) : LP := fun _ _ _ _ =>
 False
def S0_ratio_Mul (e : List (Nat × EffF)) (a0 : T_ratio_check) (a1 : T_ratio_size) (a2 : T_ratio_gcd) (a3 : T_m_Mul64) (a4 : T_ratio_signed) : SE := ⟨(E e), lookS [(n_ratio_check, pw_ratio_check a0), (n_ratio_size, pw_ratio_size a1), (n_ratio_gcd, pw_ratio_gcd a2), (n_m_Mul64, pw_m_Mul64 a3), (n_ratio_signed, pw_ratio_signed a4)], lookI [], lp_ratio_Mul a0 a1 a2 a3 a4⟩
theorem se0_ratio_Mul (e : List (Nat × EffF)) (he : EG e) : SEOk (S0_ratio_Mul e w_ratio_check w_ratio_size w_ratio_gcd w_m_Mul64 w_ratio_signed) := seOk_of ⟨(ok_ratio_check e he), (ok_ratio_size e he), (ok_ratio_gcd e he), (ok_m_Mul64 e he), (ok_ratio_signed e he), trivial⟩ trivial he.ok
theorem eq_ratio_Mul (e : List (Nat × EffF)) (a0 a1 a2 a3 a4 p0 p1 p2 p3 K) : WP (S0_ratio_Mul e a0 a1 a2 a3 a4) 6 t_ratio_Mul [(.agg [(.int .i64 p0), (.int .i64 p1)]), (.agg [(.int .i64 p2), (.int .i64 p3)])] K = wv_ratio_Mul a0 a1 a2 a3 a4 p0 p1 p2 p3 (fun r0 r1 r2 => K (.tup [(.agg [(.int .i64 r0), (.int .i64 r1)]), (.int .i64 r2)])) := by kernel_rfl
theorem ok_ratio_Mul (e : List (Nat × EffF)) (he : EG e) : OkF (E e) wp_ratio_Mul n_ratio_Mul := by
 intro as K h
 unfold wp_ratio_Mul pw_ratio_Mul at h
 split at h
 · exact WP_ok (se0_ratio_Mul e he) (LpOk_no (by kernel_rfl)) (by kernel_rfl) (by kernel_rfl) (fun _ => baseS_none (by kernel_rfl) _) (he.num _ (by kernel_rfl)) ((eq_ratio_Mul ..).mpr h)
 · exact h.elim
end Go.Pf.Vc
namespace Go.Pf.Vc
open Go Go.Pf
set_option linter.unusedVariables false
theorem det_ratio_Check (p0 : Int) (p1 : Int) (r0 : Int) (h : ∀ K : Int → Prop, K r0 → w_ratio_Check p0 p1 K) (K : Int → Prop) : w_ratio_Check p0 p1 K = K r0 :=
 propext ⟨fun k => detC (ok_ratio_Check [] effG_nil) (as := [(.agg [(.int .i64 p0), (.int .i64 p1)])]) (x := (.int .i64 r0)) (fun K' k' => h (fun r0 => K' (.int .i64 r0)) k') (K := fun x => match x with | (.int .i64 r0) => K r0 | _ => False) k, h K⟩
theorem det_ratio_Cmp (p0 : Int) (p1 : Int) (p2 : Int) (p3 : Int) (r0 : Int) (r1 : Int) (h : ∀ K : Int → Int → Prop, K r0 r1 → w_ratio_Cmp p0 p1 p2 p3 K) (K : Int → Int → Prop) : w_ratio_Cmp p0 p1 p2 p3 K = K r0 r1 :=
 propext ⟨fun k => detC (ok_ratio_Cmp [] effG_nil) (as := [(.agg [(.int .i64 p0), (.int .i64 p1)]), (.agg [(.int .i64 p2), (.int .i64 p3)])]) (x := (.tup [(.int .i64 r0), (.int .i64 r1)])) (fun K' k' => h (fun r0 r1 => K' (.tup [(.int .i64 r0), (.int .i64 r1)])) k') (K := fun x => match x with | (.tup [(.int .i64 r0), (.int .i64 r1)]) => K r0 r1 | _ => False) k, h K⟩
theorem det_ratio_Add (p0 : Int) (p1 : Int) (p2 : Int) (p3 : Int) (r0 : Int) (r1 : Int) (r2 : Int) (h : ∀ K : Int → Int → Int → Prop, K r0 r1 r2 → w_ratio_Add p0 p1 p2 p3 K) (K : Int → Int → Int → Prop) : w_ratio_Add p0 p1 p2 p3 K = K r0 r1 r2 :=
 propext ⟨fun k => detC (ok_ratio_Add [] effG_nil) (as := [(.agg [(.int .i64 p0), (.int .i64 p1)]), (.agg [(.int .i64 p2), (.int .i64 p3)])]) (x := (.tup [(.agg [(.int .i64 r0), (.int .i64 r1)]), (.int .i64 r2)])) (fun K' k' => h (fun r0 r1 r2 => K' (.tup [(.agg [(.int .i64 r0), (.int .i64 r1)]), (.int .i64 r2)])) k') (K := fun x => match x with | (.tup [(.agg [(.int .i64 r0), (.int .i64 r1)]), (.int .i64 r2)]) => K r0 r1 r2 | _ => False) k, h K⟩
theorem det_ratio_Sub (p0 : Int) (p1 : Int) (p2 : Int) (p3 : Int) (r0 : Int) (r1 : Int) (r2 : Int) (h : ∀ K : Int → Int → Int → Prop, K r0 r1 r2 → w_ratio_Sub p0 p1 p2 p3 K) (K : Int → Int → Int → Prop) : w_ratio_Sub p0 p1 p2 p3 K = K r0 r1 r2 :=
 propext ⟨fun k => detC (ok_ratio_Sub [] effG_nil) (as := [(.agg [(.int .i64 p0), (.int .i64 p1)]), (.agg [(.int .i64 p2), (.int .i64 p3)])]) (x := (.tup [(.agg [(.int .i64 r0), (.int .i64 r1)]), (.int .i64 r2)])) (fun K' k' => h (fun r0 r1 r2 => K' (.tup [(.agg [(.int .i64 r0), (.int .i64 r1)]), (.int .i64 r2)])) k') (K := fun x => match x with | (.tup [(.agg [(.int .i64 r0), (.int .i64 r1)]), (.int .i64 r2)]) => K r0 r1 r2 | _ => False) k, h K⟩
theorem det_ratio_Mul (p0 : Int) (p1 : Int) (p2 : Int) (p3 : Int) (r0 : Int) (r1 : Int) (r2 : Int) (h : ∀ K : Int → Int → Int → Prop, K r0 r1 r2 → w_ratio_Mul p0 p1 p2 p3 K) (K : Int → Int → Int → Prop) : w_ratio_Mul p0 p1 p2 p3 K = K r0 r1 r2 :=
 propext ⟨fun k => detC (ok_ratio_Mul [] effG_nil) (as := [(.agg [(.int .i64 p0), (.int .i64 p1)]), (.agg [(.int .i64 p2), (.int .i64 p3)])]) (x := (.tup [(.agg [(.int .i64 r0), (.int .i64 r1)]), (.int .i64 r2)])) (fun K' k' => h (fun r0 r1 r2 => K' (.tup [(.agg [(.int .i64 r0), (.int .i64 r1)]), (.int .i64 r2)])) k') (K := fun x => match x with | (.tup [(.agg [(.int .i64 r0), (.int .i64 r1)]), (.int .i64 r2)]) => K r0 r1 r2 | _ => False) k, h K⟩
end Go.Pf.Vc
namespace Go.Pf.Vc
open Go Go.Pf
set_option maxRecDepth 100000
abbrev T_s_Min_int_int : Type := List PV → (Int → Prop) → Prop
def L_s_Min_int_int_0_0 (x0 : List PV → Int → Int → Bool → Prop) : Nat → List PV → Int → Int → Prop
 | 0, _, _, _ => False
 | n + 1, l0, i1, i2 =>
 (cbr (decide (i2 < (((List.length l0) : Nat) : Int)))
 (asr (decide ((0 : Int) ≤ i2))
 (asr (decide (i2 < (((List.length l0) : Nat) : Int)))
 (asr (conf (.one (.i .i64)) (List.getD l0 (i2.toNat) .nils))
 (L_s_Min_int_int_0_0 x0 n l0 (if (intOfV (List.getD l0 (i2.toNat) .nils)) < i1 then (intOfV (List.getD l0 (i2.toNat) .nils)) else i1) (IntKind.i64.wrap (i2 + (1 : Int)))))))
 (x0 l0 i1 i2 false))
def wv_s_Min_int_int (p0 : List PV) (K : Int → Prop) : Prop :=
 (cbr (decide ((((List.length p0) : Nat) : Int) < (1 : Int)))
 False
 (asr (decide ((0 : Int) < (((List.length p0) : Nat) : Int)))
 (asr (conf (.one (.i .i64)) (List.getD p0 0 .nils))
 (∃ n : Nat, L_s_Min_int_int_0_0
 (fun _ yi1 _ _ => (K yi1))
 n p0 (intOfV (List.getD p0 0 .nils)) (1 : Int)))))
def w_s_Min_int_int (p0 : List PV) (K : Int → Prop) : Prop := wv_s_Min_int_int p0 K
def pw_s_Min_int_int (w : T_s_Min_int_int) (as : List PV) (K : PV → Prop) : Prop :=
 match as with
 | [(.data p0)] => w p0 (fun r0 => K (.int .i64 r0))
 | _ => False
def wp_s_Min_int_int (as : List PV) (K : PV → Prop) : Prop := pw_s_Min_int_int w_s_Min_int_int as K
def D_s_Min_int_int_0 (F : Frm) (H : Hp) (A0 : List PV → Int → Int → Prop) : Prop :=
 match F, H with
 | [(0, .v (.data l0)), (3, .v (.int .i64 i1)), (4, .v (.int .i64 i2))], [] => (A0 l0 i1 i2)
 | _, _ => False
def X_s_Min_int_int_0_0 (Q : Ex → Frm → Hp → Prop) : List PV → Int → Int → Bool → Prop := (fun l0 i1 i2 b3 => Q (.exit 0) [(0, .v (.data l0)), (3, .v (.int .i64 i1)), (4, .v (.int .i64 i2)), (15, .v (.bool b3))] [])
def R_s_Min_int_int_0 (Q : Ex → Frm → Hp → Prop) (n : Nat) (F : Frm) (H : Hp) : Prop := D_s_Min_int_int_0 F H (fun l0 i1 i2 => L_s_Min_int_int_0_0 (X_s_Min_int_int_0_0 Q) n l0 i1 i2)
def lp_s_Min_int_int : LP := fun id F H Q =>
 bif Nat.beq id 10434000 then D_s_Min_int_int_0 F H (fun l0 i1 i2 => ∃ n : Nat, L_s_Min_int_int_0_0 (X_s_Min_int_int_0_0 Q) n l0 i1 i2) else
 False
def S0_s_Min_int_int (e : List (Nat × EffF)) : SE := ⟨(E e), lookS [], lookI [], lp_s_Min_int_int⟩
theorem se0_s_Min_int_int (e : List (Nat × EffF)) (he : EG e) : SEOk (S0_s_Min_int_int e) := seOk_of trivial trivial he.ok
theorem body_s_Min_int_int_0_0 (e : List (Nat × EffF)) ( Q n l0 i1 i2) : WC (E e) (callW (S0_s_Min_int_int e) 5) (lp_s_Min_int_int) b_10434000 [(0, .v (.data l0)), (3, .v (.int .i64 i1)), (4, .v (.int .i64 i2))] [] (fun x F' H' => match x with | .norm => R_s_Min_int_int_0 Q n F' H' | .exit i => Q (.exit i) F' H' | .ret => Q .ret F' H') = L_s_Min_int_int_0_0 (X_s_Min_int_int_0_0 Q) (n + 1) l0 i1 i2 := by kernel_rfl
theorem lpb_s_Min_int_int_0 (e : List (Nat × EffF)) (_ : EG e) : LpOk (E e) (lp_s_Min_int_int) b_10434000 := (LpOk_no (by kernel_rfl))
theorem loop_s_Min_int_int_0 (e : List (Nat × EffF)) (he : EG e) : ∀ F H Q, lp_s_Min_int_int 10434000 F H Q → LoopT (E e) b_10434000 F H Q := by
 intro F H Q h
 have go := LoopT.intro (callW_ok (se0_s_Min_int_int e he) 5) (lpb_s_Min_int_int_0 e he) (R_s_Min_int_int_0 Q) (by
   intro F H h
   unfold R_s_Min_int_int_0 D_s_Min_int_int_0 at h
   split at h
   · exact h
   · exact h) (by
   intro n F H h
   unfold R_s_Min_int_int_0 D_s_Min_int_int_0 at h
   split at h
   · exact (body_s_Min_int_int_0_0 ..).mpr h
   · exact h.elim)
 have h : D_s_Min_int_int_0 F H _ := h
 unfold D_s_Min_int_int_0 at h
 split at h
 · obtain ⟨n, h⟩ := h; exact go n _ _ h
 · exact h.elim
theorem eq_s_Min_int_int (e : List (Nat × EffF)) ( p0 K) : WP (S0_s_Min_int_int e) 6 t_s_Min_int_int [(.data p0)] K = wv_s_Min_int_int p0 (fun r0 => K (.int .i64 r0)) := by kernel_rfl
theorem ok_s_Min_int_int (e : List (Nat × EffF)) (he : EG e) : OkF (E e) wp_s_Min_int_int n_s_Min_int_int := by
 intro as K h
 unfold wp_s_Min_int_int pw_s_Min_int_int at h
 split at h
 · exact WP_ok (se0_s_Min_int_int e he) (LpOk_by (l := [(10434000, b_10434000)]) ⟨loop_s_Min_int_int_0 e he, trivial⟩ (by kernel_rfl)) (by kernel_rfl) (by kernel_rfl) (fun _ => baseS_none (by kernel_rfl) _) (he.num _ (by kernel_rfl)) ((eq_s_Min_int_int ..).mpr h)
 · exact h.elim
abbrev T_s_Max_int_int : Type := List PV → (Int → Prop) → Prop
def L_s_Max_int_int_0_0 (x0 : List PV → Int → Int → Bool → Prop) : Nat → List PV → Int → Int → Prop
 | 0, _, _, _ => False
 | n + 1, l0, i1, i2 =>
 (cbr (decide (i2 < (((List.length l0) : Nat) : Int)))
 (asr (decide ((0 : Int) ≤ i2))
 (asr (decide (i2 < (((List.length l0) : Nat) : Int)))
 (asr (conf (.one (.i .i64)) (List.getD l0 (i2.toNat) .nils))
 (L_s_Max_int_int_0_0 x0 n l0 (if (intOfV (List.getD l0 (i2.toNat) .nils)) > i1 then (intOfV (List.getD l0 (i2.toNat) .nils)) else i1) (IntKind.i64.wrap (i2 + (1 : Int)))))))
 (x0 l0 i1 i2 false))
def wv_s_Max_int_int (p0 : List PV) (K : Int → Prop) : Prop :=
 (cbr (decide ((((List.length p0) : Nat) : Int) < (1 : Int)))
 False
 (asr (decide ((0 : Int) < (((List.length p0) : Nat) : Int)))
 (asr (conf (.one (.i .i64)) (List.getD p0 0 .nils))
 (∃ n : Nat, L_s_Max_int_int_0_0
 (fun _ yi1 _ _ => (K yi1))
 n p0 (intOfV (List.getD p0 0 .nils)) (1 : Int)))))
def w_s_Max_int_int (p0 : List PV) (K : Int → Prop) : Prop := wv_s_Max_int_int p0 K
def pw_s_Max_int_int (w : T_s_Max_int_int) (as : List PV) (K : PV → Prop) : Prop :=
 match as with
 | [(.data p0)] => w p0 (fun r0 => K (.int .i64 r0))
 | _ => False
def wp_s_Max_int_int (as : List PV) (K : PV → Prop) : Prop := pw_s_Max_int_int w_s_Max_int_int as K
def D_s_Max_int_int_0 (F : Frm) (H : Hp) (A0 : List PV → Int → Int → Prop) : Prop :=
 match F, H with
 | [(0, .v (.data l0)), (3, .v (.int .i64 i1)), (4, .v (.int .i64 i2))], [] => (A0 l0 i1 i2)
 | _, _ => False
def X_s_Max_int_int_0_0 (Q : Ex → Frm → Hp → Prop) : List PV → Int → Int → Bool → Prop := (fun l0 i1 i2 b3 => Q (.exit 0) [(0, .v (.data l0)), (3, .v (.int .i64 i1)), (4, .v (.int .i64 i2)), (15, .v (.bool b3))] [])
def R_s_Max_int_int_0 (Q : Ex → Frm → Hp → Prop) (n : Nat) (F : Frm) (H : Hp) : Prop := D_s_Max_int_int_0 F H (fun l0 i1 i2 => L_s_Max_int_int_0_0 (X_s_Max_int_int_0_0 Q) n l0 i1 i2)
def lp_s_Max_int_int : LP := fun id F H Q =>
 bif Nat.beq id 64079100 then D_s_Max_int_int_0 F H (fun l0 i1 i2 => ∃ n : Nat, L_s_Max_int_int_0_0 (X_s_Max_int_int_0_0 Q) n l0 i1 i2) else
 False
def S0_s_Max_int_int (e : List (Nat × EffF)) : SE := ⟨(E e), lookS [], lookI [], lp_s_Max_int_int⟩
theorem se0_s_Max_int_int (e : List (Nat × EffF)) (he : EG e) : SEOk (S0_s_Max_int_int e) := seOk_of trivial trivial he.ok
theorem body_s_Max_int_int_0_0 (e : List (Nat × EffF)) ( Q n l0 i1 i2) : WC (E e) (callW (S0_s_Max_int_int e) 5) (lp_s_Max_int_int) b_64079100 [(0, .v (.data l0)), (3, .v (.int .i64 i1)), (4, .v (.int .i64 i2))] [] (fun x F' H' => match x with | .norm => R_s_Max_int_int_0 Q n F' H' | .exit i => Q (.exit i) F' H' | .ret => Q .ret F' H') = L_s_Max_int_int_0_0 (X_s_Max_int_int_0_0 Q) (n + 1) l0 i1 i2 := by kernel_rfl
theorem lpb_s_Max_int_int_0 (e : List (Nat × EffF)) (_ : EG e) : LpOk (E e) (lp_s_Max_int_int) b_64079100 := (LpOk_no (by kernel_rfl))
theorem loop_s_Max_int_int_0 (e : List (Nat × EffF)) (he : EG e) : ∀ F H Q, lp_s_Max_int_int 64079100 F H Q → LoopT (E e) b_64079100 F H Q := by
 intro F H Q h
 have go := LoopT.intro (callW_ok (se0_s_Max_int_int e he) 5) (lpb_s_Max_int_int_0 e he) (R_s_Max_int_int_0 Q) (by
   intro F H h
   unfold R_s_Max_int_int_0 D_s_Max_int_int_0 at h
   split at h
   · exact h
   · exact h) (by
   intro n F H h
   unfold R_s_Max_int_int_0 D_s_Max_int_int_0 at h
   split at h
   · exact (body_s_Max_int_int_0_0 ..).mpr h
   · exact h.elim)
 have h : D_s_Max_int_int_0 F H _ := h
 unfold D_s_Max_int_int_0 at h
 split at h
 · obtain ⟨n, h⟩ := h; exact go n _ _ h
 · exact h.elim
theorem eq_s_Max_int_int (e : List (Nat × EffF)) ( p0 K) : WP (S0_s_Max_int_int e) 6 t_s_Max_int_int [(.data p0)] K = wv_s_Max_int_int p0 (fun r0 => K (.int .i64 r0)) := by kernel_rfl
theorem ok_s_Max_int_int (e : List (Nat × EffF)) (he : EG e) : OkF (E e) wp_s_Max_int_int n_s_Max_int_int := by
 intro as K h
 unfold wp_s_Max_int_int pw_s_Max_int_int at h
 split at h
 · exact WP_ok (se0_s_Max_int_int e he) (LpOk_by (l := [(64079100, b_64079100)]) ⟨loop_s_Max_int_int_0 e he, trivial⟩ (by kernel_rfl)) (by kernel_rfl) (by kernel_rfl) (fun _ => baseS_none (by kernel_rfl) _) (he.num _ (by kernel_rfl)) ((eq_s_Max_int_int ..).mpr h)
 · exact h.elim
abbrev T_cake_Check : Type := Int → List PV → List PV → (Int → Prop) → Prop
def L_cake_Check_0_0 (a0 : T_s_Min_int_int) (a1 : T_s_Max_int_int) (x0 : Int → Prop) (x1 : Int → List PV → List PV → Int → Int → Bool → Prop) : Nat → Int → List PV → List PV → Int → Int → Prop
 | 0, _, _, _, _, _ => False
 | n + 1, i0, l1, l2, i3, i4 =>
 (cbr (decide (i4 < i3))
 (asr (decide ((0 : Int) ≤ i4))
 (asr (decide (i4 < (((List.length l1) : Nat) : Int)))
 (asr (conf (.one (.i .i64)) (List.getD l1 (i4.toNat) .nils))
 (asr (decide ((0 : Int) ≤ (IntKind.i64.wrap (i4 + (1 : Int)))))
 (asr (decide ((IntKind.i64.wrap (i4 + (1 : Int))) < (((List.length l1) : Nat) : Int)))
 (asr (conf (.one (.i .i64)) (List.getD l1 ((IntKind.i64.wrap (i4 + (1 : Int))).toNat) .nils))
 (cbr (decide ((intOfV (List.getD l1 (i4.toNat) .nils)) ≥ (intOfV (List.getD l1 ((IntKind.i64.wrap (i4 + (1 : Int))).toNat) .nils))))
 (x0 (8 : Int))
 (L_cake_Check_0_0 a0 a1 x0 x1 n i0 l1 l2 i3 (IntKind.i64.wrap (i4 + (1 : Int)))))))))))
 (x1 i0 l1 l2 i3 i4 false))
def wv_cake_Check (a0 : T_s_Min_int_int) (a1 : T_s_Max_int_int) (p0 : Int) (p1 p2 : List PV) (K : Int → Prop) : Prop :=
 (cbr (decide (p0 > (1000 : Int)))
 (K (4 : Int))
 (cbr (decide ((((List.length p1) : Nat) : Int) > (40 : Int)))
 (K (4 : Int))
 (cbr (decide (p0 < (1 : Int)))
 (K (8 : Int))
 (cbr (decide ((((List.length p1) : Nat) : Int) < (2 : Int)))
 (K (8 : Int))
 (cbr ((((List.length p2) : Nat) : Int) != (IntKind.i64.wrap ((((List.length p1) : Nat) : Int) - (1 : Int))))
 (K (8 : Int))
 (asr (decide ((0 : Int) < (((List.length p1) : Nat) : Int)))
 (asr (conf (.one (.i .i64)) (List.getD p1 0 .nils))
 (cbr ((intOfV (List.getD p1 0 .nils)) != (0 : Int))
 (K (8 : Int))
 (asr (decide ((0 : Int) ≤ (IntKind.i64.wrap ((((List.length p1) : Nat) : Int) - (1 : Int)))))
 (asr (decide ((IntKind.i64.wrap ((((List.length p1) : Nat) : Int) - (1 : Int))) < (((List.length p1) : Nat) : Int)))
 (asr (conf (.one (.i .i64)) (List.getD p1 ((IntKind.i64.wrap ((((List.length p1) : Nat) : Int) - (1 : Int))).toNat) .nils))
 (cbr ((intOfV (List.getD p1 ((IntKind.i64.wrap ((((List.length p1) : Nat) : Int) - (1 : Int))).toNat) .nils)) != p0)
 (K (8 : Int))
 (∃ n : Nat, L_cake_Check_0_0 a0 a1
 (fun yi0 => (K yi0))
 (fun _ _ yl3 _ _ _ => (a0 yl3 (fun yi7 => 
 (cbr (decide (yi7 < (0 : Int)))
 (K (8 : Int))
 (a1 yl3 (fun yi8 => 
 (cbr (decide (yi8 > (12 : Int)))
 (K (8 : Int))
 (a1 yl3 (fun yi9 => 
 (cbr (yi9 == (0 : Int))
 (K (8 : Int))
 (K (0 : Int))))))))))))
 n p0 p1 p2 (IntKind.i64.wrap ((((List.length p1) : Nat) : Int) - (1 : Int))) (0 : Int))))))))))))))
def w_cake_Check (p0 : Int) (p1 p2 : List PV) (K : Int → Prop) : Prop := wv_cake_Check w_s_Min_int_int w_s_Max_int_int p0 p1 p2 K
def pw_cake_Check (w : T_cake_Check) (as : List PV) (K : PV → Prop) : Prop :=
 match as with
 | [(.agg [(.int .i64 p0), (.data p1), (.data p2)])] => w p0 p1 p2 (fun r0 => K (.int .i64 r0))
 | _ => False
def wp_cake_Check (as : List PV) (K : PV → Prop) : Prop := pw_cake_Check w_cake_Check as K
def D_cake_Check_0 (F : Frm) (H : Hp) (A0 : Int → List PV → List PV → Int → Int → Prop) : Prop :=
 match F, H with
 | [(1, .box (.agg [(.int .i64 i0), (.data l1), (.data l2)])), (49, .v (.int .i64 i3)), (50, .v (.int .i64 i4))], [] => (A0 i0 l1 l2 i3 i4)
 | _, _ => False
def X_cake_Check_0_0 (Q : Ex → Frm → Hp → Prop) : Int → Prop := (fun i0 => Q .ret [(2, .v (.int .i64 i0))] [])
def X_cake_Check_0_1 (Q : Ex → Frm → Hp → Prop) : Int → List PV → List PV → Int → Int → Bool → Prop := (fun i0 l1 l2 i3 i4 b5 => Q (.exit 0) [(1, .box (.agg [(.int .i64 i0), (.data l1), (.data l2)])), (49, .v (.int .i64 i3)), (50, .v (.int .i64 i4)), (51, .v (.bool b5))] [])
def R_cake_Check_0 (a0 : T_s_Min_int_int) (a1 : T_s_Max_int_int) (Q : Ex → Frm → Hp → Prop) (n : Nat) (F : Frm) (H : Hp) : Prop := D_cake_Check_0 F H (fun i0 l1 l2 i3 i4 => L_cake_Check_0_0 a0 a1 (X_cake_Check_0_0 Q) (X_cake_Check_0_1 Q) n i0 l1 l2 i3 i4)
def lp_cake_Check (a0 : T_s_Min_int_int) (a1 : T_s_Max_int_int) : LP := fun id F H Q =>
 bif Nat.beq id 87419700 then D_cake_Check_0 F H (fun i0 l1 l2 i3 i4 => ∃ n : Nat, L_cake_Check_0_0 a0 a1 (X_cake_Check_0_0 Q) (X_cake_Check_0_1 Q) n i0 l1 l2 i3 i4) else
 False
def S0_cake_Check (e : List (Nat × EffF)) (a0 : T_s_Min_int_int) (a1 : T_s_Max_int_int) : SE := ⟨(E e), lookS [(n_s_Min_int_int, pw_s_Min_int_int a0), (n_s_Max_int_int, pw_s_Max_int_int a1)], lookI [], lp_cake_Check a0 a1⟩
theorem se0_cake_Check (e : List (Nat × EffF)) (he : EG e) : SEOk (S0_cake_Check e w_s_Min_int_int w_s_Max_int_int) := seOk_of ⟨(ok_s_Min_int_int e he), (ok_s_Max_int_int e he), trivial⟩ trivial he.ok
theorem body_cake_Check_0_0 (e : List (Nat × EffF)) (a0 a1 Q n i0 l1 l2 i3 i4) : WC (E e) (callW (S0_cake_Check e a0 a1) 5) (lp_cake_Check a0 a1) b_87419700 [(1, .box (.agg [(.int .i64 i0), (.data l1), (.data l2)])), (49, .v (.int .i64 i3)), (50, .v (.int .i64 i4))] [] (fun x F' H' => match x with | .norm => R_cake_Check_0 a0 a1 Q n F' H' | .exit i => Q (.exit i) F' H' | .ret => Q .ret F' H') = L_cake_Check_0_0 a0 a1 (X_cake_Check_0_0 Q) (X_cake_Check_0_1 Q) (n + 1) i0 l1 l2 i3 i4 := by kernel_rfl
theorem lpb_cake_Check_0 (e : List (Nat × EffF)) (_ : EG e) : LpOk (E e) (lp_cake_Check w_s_Min_int_int w_s_Max_int_int) b_87419700 := (LpOk_no (by kernel_rfl))
theorem loop_cake_Check_0 (e : List (Nat × EffF)) (he : EG e) : ∀ F H Q, lp_cake_Check w_s_Min_int_int w_s_Max_int_int 87419700 F H Q → LoopT (E e) b_87419700 F H Q := by
 intro F H Q h
 have go := LoopT.intro (callW_ok (se0_cake_Check e he) 5) (lpb_cake_Check_0 e he) (R_cake_Check_0 w_s_Min_int_int w_s_Max_int_int Q) (by
   intro F H h
   unfold R_cake_Check_0 D_cake_Check_0 at h
   split at h
   · exact h
   · exact h) (by
   intro n F H h
   unfold R_cake_Check_0 D_cake_Check_0 at h
   split at h
   · exact (body_cake_Check_0_0 ..).mpr h
   · exact h.elim)
 have h : D_cake_Check_0 F H _ := h
 unfold D_cake_Check_0 at h
 split at h
 · obtain ⟨n, h⟩ := h; exact go n _ _ h
 · exact h.elim
theorem eq_cake_Check (e : List (Nat × EffF)) (a0 a1 p0 p1 p2 K) : WP (S0_cake_Check e a0 a1) 6 t_cake_Check [(.agg [(.int .i64 p0), (.data p1), (.data p2)])] K = wv_cake_Check a0 a1 p0 p1 p2 (fun r0 => K (.int .i64 r0)) := by kernel_rfl
theorem ok_cake_Check (e : List (Nat × EffF)) (he : EG e) : OkF (E e) wp_cake_Check n_cake_Check := by
 intro as K h
 unfold wp_cake_Check pw_cake_Check at h
 split at h
 · exact WP_ok (se0_cake_Check e he) (LpOk_by (l := [(87419700, b_87419700)]) ⟨loop_cake_Check_0 e he, trivial⟩ (by kernel_rfl)) (by kernel_rfl) (by kernel_rfl) (fun _ => baseS_none (by kernel_rfl) _) (he.num _ (by kernel_rfl)) ((eq_cake_Check ..).mpr h)
 · exact h.elim
abbrev T_cake_whole : Type := Int → (Int → Int → Prop) → Prop
def wv_cake_whole (p0 : Int) (K : Int → Int → Prop) : Prop :=
 (K p0 (1 : Int))
def w_cake_whole (p0 : Int) (K : Int → Int → Prop) : Prop := wv_cake_whole p0 K
def pw_cake_whole (w : T_cake_whole) (as : List PV) (K : PV → Prop) : Prop :=
 match as with
 | [(.int .i64 p0)] => w p0 (fun r0 r1 => K (.agg [(.int .i64 r0), (.int .i64 r1)]))
 | _ => False
def wp_cake_whole (as : List PV) (K : PV → Prop) : Prop := pw_cake_whole w_cake_whole as K
def lp_cake_whole : LP := fun _ _ _ _ =>
 False
def S0_cake_whole (e : List (Nat × EffF)) : SE := ⟨(E e), lookS [], lookI [], lp_cake_whole⟩
theorem se0_cake_whole (e : List (Nat × EffF)) (he : EG e) : SEOk (S0_cake_whole e) := seOk_of trivial trivial he.ok
theorem eq_cake_whole (e : List (Nat × EffF)) ( p0 K) : WP (S0_cake_whole e) 6 t_cake_whole [(.int .i64 p0)] K = wv_cake_whole p0 (fun r0 r1 => K (.agg [(.int .i64 r0), (.int .i64 r1)])) := by kernel_rfl
theorem ok_cake_whole (e : List (Nat × EffF)) (he : EG e) : OkF (E e) wp_cake_whole n_cake_whole := by
 intro as K h
 unfold wp_cake_whole pw_cake_whole at h
 split at h
 · exact WP_ok (se0_cake_whole e he) (LpOk_no (by kernel_rfl)) (by kernel_rfl) (by kernel_rfl) (fun _ => baseS_none (by kernel_rfl) _) (he.num _ (by kernel_rfl)) ((eq_cake_whole ..).mpr h)
 · exact h.elim
abbrev T_cake_less : Type := Int → Int → Int → Int → (Bool → Prop) → Prop
def wv_cake_less (a0 : T_ratio_Cmp) (p0 p1 p2 p3 : Int) (K : Bool → Prop) : Prop :=
 (a0 p0 p1 p2 p3 (fun yi0 _ => 
 (K (decide (yi0 < (0 : Int))))))
def w_cake_less (p0 p1 p2 p3 : Int) (K : Bool → Prop) : Prop := wv_cake_less w_ratio_Cmp p0 p1 p2 p3 K
def pw_cake_less (w : T_cake_less) (as : List PV) (K : PV → Prop) : Prop :=
 match as with
 | [(.agg [(.int .i64 p0), (.int .i64 p1)]), (.agg [(.int .i64 p2), (.int .i64 p3)])] => w p0 p1 p2 p3 (fun r0 => K (.bool r0))
 | _ => False
def wp_cake_less (as : List PV) (K : PV → Prop) : Prop := pw_cake_less w_cake_less as K
def lp_cake_less (_ : T_ratio_Cmp) : LP := fun _ _ _ _ =>
 False
def S0_cake_less (e : List (Nat × EffF)) (a0 : T_ratio_Cmp) : SE := ⟨(E e), lookS [(n_ratio_Cmp, pw_ratio_Cmp a0)], lookI [], lp_cake_less a0⟩
theorem se0_cake_less (e : List (Nat × EffF)) (he : EG e) : SEOk (S0_cake_less e w_ratio_Cmp) := seOk_of ⟨(ok_ratio_Cmp e he), trivial⟩ trivial he.ok
theorem eq_cake_less (e : List (Nat × EffF)) (a0 p0 p1 p2 p3 K) : WP (S0_cake_less e a0) 6 t_cake_less [(.agg [(.int .i64 p0), (.int .i64 p1)]), (.agg [(.int .i64 p2), (.int .i64 p3)])] K = wv_cake_less a0 p0 p1 p2 p3 (fun r0 => K (.bool r0)) := by kernel_rfl
theorem ok_cake_less (e : List (Nat × EffF)) (he : EG e) : OkF (E e) wp_cake_less n_cake_less := by
 intro as K h
 unfold wp_cake_less pw_cake_less at h
 split at h
 · exact WP_ok (se0_cake_less e he) (LpOk_no (by kernel_rfl)) (by kernel_rfl) (by kernel_rfl) (fun _ => baseS_none (by kernel_rfl) _) (he.num _ (by kernel_rfl)) ((eq_cake_less ..).mpr h)
 · exact h.elim
abbrev T_cake_point : Type := Int → List PV → List PV → Int → Int → (Bool → Prop) → Prop
def wv_cake_point (a0 : T_ratio_Check) (a1 : T_cake_whole) (a2 : T_cake_less) (p0 : Int) (_ _ : List PV) (p3 p4 : Int) (K : Bool → Prop) : Prop :=
 (a0 p3 p4 (fun yi0 => 
 (cbr (yi0 == (0 : Int))
 (cbr (decide (p3 ≥ (0 : Int)))
 (a1 p0 (fun yi1 yi2 => 
 (a2 yi1 yi2 p3 p4 (fun yb3 => 
 (K (!yb3))))))
 (K false))
 (K false))))
def w_cake_point (p0 : Int) (p1 p2 : List PV) (p3 p4 : Int) (K : Bool → Prop) : Prop := wv_cake_point w_ratio_Check w_cake_whole w_cake_less p0 p1 p2 p3 p4 K
def pw_cake_point (w : T_cake_point) (as : List PV) (K : PV → Prop) : Prop :=
 match as with
 | [(.agg [(.int .i64 p0), (.data p1), (.data p2)]), (.agg [(.int .i64 p3), (.int .i64 p4)])] => w p0 p1 p2 p3 p4 (fun r0 => K (.bool r0))
 | _ => False
def wp_cake_point (as : List PV) (K : PV → Prop) : Prop := pw_cake_point w_cake_point as K
def lp_cake_point (_ : T_ratio_Check) (_ : T_cake_whole) (_ : T_cake_less) : LP := fun _ _ _ _ =>
 False
def S0_cake_point (e : List (Nat × EffF)) (a0 : T_ratio_Check) (a1 : T_cake_whole) (a2 : T_cake_less) : SE := ⟨(E e), lookS [(n_ratio_Check, pw_ratio_Check a0), (n_cake_whole, pw_cake_whole a1), (n_cake_less, pw_cake_less a2)], lookI [], lp_cake_point a0 a1 a2⟩
theorem se0_cake_point (e : List (Nat × EffF)) (he : EG e) : SEOk (S0_cake_point e w_ratio_Check w_cake_whole w_cake_less) := seOk_of ⟨(ok_ratio_Check e he), (ok_cake_whole e he), (ok_cake_less e he), trivial⟩ trivial he.ok
theorem eq_cake_point (e : List (Nat × EffF)) (a0 a1 a2 p0 p1 p2 p3 p4 K) : WP (S0_cake_point e a0 a1 a2) 6 t_cake_point [(.agg [(.int .i64 p0), (.data p1), (.data p2)]), (.agg [(.int .i64 p3), (.int .i64 p4)])] K = wv_cake_point a0 a1 a2 p0 p1 p2 p3 p4 (fun r0 => K (.bool r0)) := by kernel_rfl
theorem ok_cake_point (e : List (Nat × EffF)) (he : EG e) : OkF (E e) wp_cake_point n_cake_point := by
 intro as K h
 unfold wp_cake_point pw_cake_point at h
 split at h
 · exact WP_ok (se0_cake_point e he) (LpOk_no (by kernel_rfl)) (by kernel_rfl) (by kernel_rfl) (fun _ => baseS_none (by kernel_rfl) _) (he.num _ (by kernel_rfl)) ((eq_cake_point ..).mpr h)
 · exact h.elim
abbrev T_cake_Value : Type := Int → List PV → List PV → Int → Int → Int → Int → (Int → Int → Int → Prop) → Prop
def L_cake_Value_0_0 (a0 : T_cake_Check) (a1 : T_cake_point) (a2 : T_cake_less) (a3 : T_cake_whole) (a4 : T_ratio_Sub) (a5 : T_ratio_Mul) (a6 : T_ratio_Add) (x0 : Int → Int → Int → Prop) (x1 : Int → List PV → List PV → Int → Int → Int → Int → Int → Int → Int → Int → List PV → Int → Int → Bool → Prop) : Nat → Int → List PV → List PV → Int → Int → Int → Int → Int → Int → Int → Int → List PV → Int → Int → Prop
 | 0, _, _, _, _, _, _, _, _, _, _, _, _, _, _ => False
 | n + 1, i0, l1, l2, i3, i4, i5, i6, i7, i8, i9, i10, l11, i12, i13 =>
 (cbr (decide (i13 < i12))
 (asr (decide ((0 : Int) ≤ i13))
 (asr (decide (i13 < (((List.length l11) : Nat) : Int)))
 (asr (conf (.one (.i .i64)) (List.getD l11 (i13.toNat) .nils))
 (asr (decide ((0 : Int) ≤ (IntKind.i64.wrap (i13 + (1 : Int)))))
 (asr (decide ((IntKind.i64.wrap (i13 + (1 : Int))) < (((List.length l1) : Nat) : Int)))
 (asr (conf (.one (.i .i64)) (List.getD l1 ((IntKind.i64.wrap (i13 + (1 : Int))).toNat) .nils))
 (a3 (intOfV (List.getD l1 ((IntKind.i64.wrap (i13 + (1 : Int))).toNat) .nils)) (fun yi6 yi7 => 
 (a2 i3 i4 yi6 yi7 (fun yb8 => 
 (cbr yb8
 (cbr ((intOfV (List.getD l11 (i13.toNat) .nils)) == (0 : Int))
 (a2 i9 i10 i3 i4 (fun yb9 => 
 (cbr yb9
 (L_cake_Value_0_0 a0 a1 a2 a3 a4 a5 a6 x0 x1 n i0 l1 l2 i3 i4 i5 i6 i7 i8 i3 i4 l11 i12 (IntKind.i64.wrap (i13 + (1 : Int))))
 (L_cake_Value_0_0 a0 a1 a2 a3 a4 a5 a6 x0 x1 n i0 l1 l2 i3 i4 i5 i6 i7 i8 i9 i10 l11 i12 (IntKind.i64.wrap (i13 + (1 : Int)))))))
 (a2 i9 i10 i3 i4 (fun yb10 => 
 (cbr (!yb10)
 (a2 i9 i10 i3 i4 (fun yb11 => 
 (cbr yb11
 (L_cake_Value_0_0 a0 a1 a2 a3 a4 a5 a6 x0 x1 n i0 l1 l2 i3 i4 i5 i6 i7 i8 i3 i4 l11 i12 (IntKind.i64.wrap (i13 + (1 : Int))))
 (L_cake_Value_0_0 a0 a1 a2 a3 a4 a5 a6 x0 x1 n i0 l1 l2 i3 i4 i5 i6 i7 i8 i9 i10 l11 i12 (IntKind.i64.wrap (i13 + (1 : Int)))))))
 (a4 i3 i4 i9 i10 (fun yi12 yi13 yi14 => 
 (cbr (yi14 != (0 : Int))
 (x0 (0 : Int) (0 : Int) yi14)
 (a3 (intOfV (List.getD l11 (i13.toNat) .nils)) (fun yi15 yi16 => 
 (a5 yi12 yi13 yi15 yi16 (fun yi17 yi18 yi19 => 
 (cbr (yi19 != (0 : Int))
 (x0 (0 : Int) (0 : Int) yi19)
 (a6 i7 i8 yi17 yi18 (fun yi20 yi21 yi22 => 
 (cbr (yi22 != (0 : Int))
 (x0 (0 : Int) (0 : Int) yi22)
 (L_cake_Value_0_0 a0 a1 a2 a3 a4 a5 a6 x0 x1 n i0 l1 l2 i3 i4 i5 i6 yi20 yi21 i3 i4 l11 i12 (IntKind.i64.wrap (i13 + (1 : Int)))))))))))))))))))
 (cbr ((intOfV (List.getD l11 (i13.toNat) .nils)) == (0 : Int))
 (a2 i9 i10 yi6 yi7 (fun yb23 => 
 (cbr yb23
 (L_cake_Value_0_0 a0 a1 a2 a3 a4 a5 a6 x0 x1 n i0 l1 l2 i3 i4 i5 i6 i7 i8 yi6 yi7 l11 i12 (IntKind.i64.wrap (i13 + (1 : Int))))
 (L_cake_Value_0_0 a0 a1 a2 a3 a4 a5 a6 x0 x1 n i0 l1 l2 i3 i4 i5 i6 i7 i8 i9 i10 l11 i12 (IntKind.i64.wrap (i13 + (1 : Int)))))))
 (a2 i9 i10 yi6 yi7 (fun yb24 => 
 (cbr (!yb24)
 (a2 i9 i10 yi6 yi7 (fun yb25 => 
 (cbr yb25
 (L_cake_Value_0_0 a0 a1 a2 a3 a4 a5 a6 x0 x1 n i0 l1 l2 i3 i4 i5 i6 i7 i8 yi6 yi7 l11 i12 (IntKind.i64.wrap (i13 + (1 : Int))))
 (L_cake_Value_0_0 a0 a1 a2 a3 a4 a5 a6 x0 x1 n i0 l1 l2 i3 i4 i5 i6 i7 i8 i9 i10 l11 i12 (IntKind.i64.wrap (i13 + (1 : Int)))))))
 (a4 yi6 yi7 i9 i10 (fun yi26 yi27 yi28 => 
 (cbr (yi28 != (0 : Int))
 (x0 (0 : Int) (0 : Int) yi28)
 (a3 (intOfV (List.getD l11 (i13.toNat) .nils)) (fun yi29 yi30 => 
 (a5 yi26 yi27 yi29 yi30 (fun yi31 yi32 yi33 => 
 (cbr (yi33 != (0 : Int))
 (x0 (0 : Int) (0 : Int) yi33)
 (a6 i7 i8 yi31 yi32 (fun yi34 yi35 yi36 => 
 (cbr (yi36 != (0 : Int))
 (x0 (0 : Int) (0 : Int) yi36)
 (L_cake_Value_0_0 a0 a1 a2 a3 a4 a5 a6 x0 x1 n i0 l1 l2 i3 i4 i5 i6 yi34 yi35 yi6 yi7 l11 i12 (IntKind.i64.wrap (i13 + (1 : Int))))))))))))))))))))))))))))))
 (x1 i0 l1 l2 i3 i4 i5 i6 i7 i8 i9 i10 l11 i12 i13 false))
def wv_cake_Value (a0 : T_cake_Check) (a1 : T_cake_point) (a2 : T_cake_less) (a3 : T_cake_whole) (a4 : T_ratio_Sub) (a5 : T_ratio_Mul) (a6 : T_ratio_Add) (p0 : Int) (p1 p2 : List PV) (p3 p4 p5 p6 : Int) (K : Int → Int → Int → Prop) : Prop :=
 (a0 p0 p1 p2 (fun yi0 => 
 (cbr (yi0 != (0 : Int))
 (K (0 : Int) (0 : Int) yi0)
 (a1 p0 p1 p2 p3 p4 (fun yb1 => 
 (cbr (!yb1)
 (K (0 : Int) (0 : Int) (2 : Int))
 (a1 p0 p1 p2 p5 p6 (fun yb2 => 
 (cbr (!yb2)
 (K (0 : Int) (0 : Int) (2 : Int))
 (a2 p5 p6 p3 p4 (fun yb3 => 
 (cbr yb3
 (K (0 : Int) (0 : Int) (2 : Int))
 (a3 (0 : Int) (fun yi4 yi5 => 
 (∃ n : Nat, L_cake_Value_0_0 a0 a1 a2 a3 a4 a5 a6
 (fun yi37 yi38 yi39 => (K yi37 yi38 yi39))
 (fun _ _ _ _ _ _ _ yi47 yi48 _ _ _ _ _ _ => (K yi47 yi48 (0 : Int)))
 n p0 p1 p2 p5 p6 (0 : Int) (0 : Int) yi4 yi5 p3 p4 p2 (((List.length p2) : Nat) : Int) (0 : Int))))))))))))))))
def w_cake_Value (p0 : Int) (p1 p2 : List PV) (p3 p4 p5 p6 : Int) (K : Int → Int → Int → Prop) : Prop := wv_cake_Value w_cake_Check w_cake_point w_cake_less w_cake_whole w_ratio_Sub w_ratio_Mul w_ratio_Add p0 p1 p2 p3 p4 p5 p6 K
def pw_cake_Value (w : T_cake_Value) (as : List PV) (K : PV → Prop) : Prop :=
 match as with
 | [(.agg [(.int .i64 p0), (.data p1), (.data p2)]), (.agg [(.int .i64 p3), (.int .i64 p4)]), (.agg [(.int .i64 p5), (.int .i64 p6)])] => w p0 p1 p2 p3 p4 p5 p6 (fun r0 r1 r2 => K (.tup [(.agg [(.int .i64 r0), (.int .i64 r1)]), (.int .i64 r2)]))
 | _ => False
def wp_cake_Value (as : List PV) (K : PV → Prop) : Prop := pw_cake_Value w_cake_Value as K
def D_cake_Value_0 (F : Frm) (H : Hp) (A0 : Int → List PV → List PV → Int → Int → Int → Int → Int → Int → Int → Int → List PV → Int → Int → Prop) : Prop :=
 match F, H with
 | [(3, .box (.agg [(.int .i64 i0), (.data l1), (.data l2)])), (5, .box (.agg [(.int .i64 i3), (.int .i64 i4)])), (6, .box (.agg [(.int .i64 i5), (.int .i64 i6)])), (9, .box (.agg [(.int .i64 i7), (.int .i64 i8)])), (10, .box (.agg [(.int .i64 i9), (.int .i64 i10)])), (42, .v (.data l11)), (43, .v (.int .i64 i12)), (44, .v (.int .i64 i13))], [] => (A0 i0 l1 l2 i3 i4 i5 i6 i7 i8 i9 i10 l11 i12 i13)
 | _, _ => False
def X_cake_Value_0_0 (Q : Ex → Frm → Hp → Prop) : Int → Int → Int → Prop := (fun i0 i1 i2 => Q .ret [(6, .box (.agg [(.int .i64 i0), (.int .i64 i1)])), (7, .v (.int .i64 i2))] [])
def X_cake_Value_0_1 (Q : Ex → Frm → Hp → Prop) : Int → List PV → List PV → Int → Int → Int → Int → Int → Int → Int → Int → List PV → Int → Int → Bool → Prop := (fun i0 l1 l2 i3 i4 i5 i6 i7 i8 i9 i10 l11 i12 i13 b14 => Q (.exit 0) [(3, .box (.agg [(.int .i64 i0), (.data l1), (.data l2)])), (5, .box (.agg [(.int .i64 i3), (.int .i64 i4)])), (6, .box (.agg [(.int .i64 i5), (.int .i64 i6)])), (9, .box (.agg [(.int .i64 i7), (.int .i64 i8)])), (10, .box (.agg [(.int .i64 i9), (.int .i64 i10)])), (42, .v (.data l11)), (43, .v (.int .i64 i12)), (44, .v (.int .i64 i13)), (45, .v (.bool b14))] [])
def R_cake_Value_0 (a0 : T_cake_Check) (a1 : T_cake_point) (a2 : T_cake_less) (a3 : T_cake_whole) (a4 : T_ratio_Sub) (a5 : T_ratio_Mul) (a6 : T_ratio_Add) (Q : Ex → Frm → Hp → Prop) (n : Nat) (F : Frm) (H : Hp) : Prop := D_cake_Value_0 F H (fun i0 l1 l2 i3 i4 i5 i6 i7 i8 i9 i10 l11 i12 i13 => L_cake_Value_0_0 a0 a1 a2 a3 a4 a5 a6 (X_cake_Value_0_0 Q) (X_cake_Value_0_1 Q) n i0 l1 l2 i3 i4 i5 i6 i7 i8 i9 i10 l11 i12 i13)
def lp_cake_Value (a0 : T_cake_Check) (a1 : T_cake_point) (a2 : T_cake_less) (a3 : T_cake_whole) (a4 : T_ratio_Sub) (a5 : T_ratio_Mul) (a6 : T_ratio_Add) : LP := fun id F H Q =>
 bif Nat.beq id 85339800 then D_cake_Value_0 F H (fun i0 l1 l2 i3 i4 i5 i6 i7 i8 i9 i10 l11 i12 i13 => ∃ n : Nat, L_cake_Value_0_0 a0 a1 a2 a3 a4 a5 a6 (X_cake_Value_0_0 Q) (X_cake_Value_0_1 Q) n i0 l1 l2 i3 i4 i5 i6 i7 i8 i9 i10 l11 i12 i13) else
 False
def S0_cake_Value (e : List (Nat × EffF)) (a0 : T_cake_Check) (a1 : T_cake_point) (a2 : T_cake_less) (a3 : T_cake_whole) (a4 : T_ratio_Sub) (a5 : T_ratio_Mul) (a6 : T_ratio_Add) : SE := ⟨(E e), lookS [(n_cake_Check, pw_cake_Check a0), (n_cake_point, pw_cake_point a1), (n_cake_less, pw_cake_less a2), (n_cake_whole, pw_cake_whole a3), (n_ratio_Sub, pw_ratio_Sub a4), (n_ratio_Mul, pw_ratio_Mul a5), (n_ratio_Add, pw_ratio_Add a6)], lookI [], lp_cake_Value a0 a1 a2 a3 a4 a5 a6⟩
theorem se0_cake_Value (e : List (Nat × EffF)) (he : EG e) : SEOk (S0_cake_Value e w_cake_Check w_cake_point w_cake_less w_cake_whole w_ratio_Sub w_ratio_Mul w_ratio_Add) := seOk_of ⟨(ok_cake_Check e he), (ok_cake_point e he), (ok_cake_less e he), (ok_cake_whole e he), (ok_ratio_Sub e he), (ok_ratio_Mul e he), (ok_ratio_Add e he), trivial⟩ trivial he.ok
theorem body_cake_Value_0_0 (e : List (Nat × EffF)) (a0 a1 a2 a3 a4 a5 a6 Q n i0 l1 l2 i3 i4 i5 i6 i7 i8 i9 i10 l11 i12 i13) : WC (E e) (callW (S0_cake_Value e a0 a1 a2 a3 a4 a5 a6) 5) (lp_cake_Value a0 a1 a2 a3 a4 a5 a6) b_85339800 [(3, .box (.agg [(.int .i64 i0), (.data l1), (.data l2)])), (5, .box (.agg [(.int .i64 i3), (.int .i64 i4)])), (6, .box (.agg [(.int .i64 i5), (.int .i64 i6)])), (9, .box (.agg [(.int .i64 i7), (.int .i64 i8)])), (10, .box (.agg [(.int .i64 i9), (.int .i64 i10)])), (42, .v (.data l11)), (43, .v (.int .i64 i12)), (44, .v (.int .i64 i13))] [] (fun x F' H' => match x with | .norm => R_cake_Value_0 a0 a1 a2 a3 a4 a5 a6 Q n F' H' | .exit i => Q (.exit i) F' H' | .ret => Q .ret F' H') = L_cake_Value_0_0 a0 a1 a2 a3 a4 a5 a6 (X_cake_Value_0_0 Q) (X_cake_Value_0_1 Q) (n + 1) i0 l1 l2 i3 i4 i5 i6 i7 i8 i9 i10 l11 i12 i13 := by kernel_rfl
theorem lpb_cake_Value_0 (e : List (Nat × EffF)) (_ : EG e) : LpOk (E e) (lp_cake_Value w_cake_Check w_cake_point w_cake_less w_cake_whole w_ratio_Sub w_ratio_Mul w_ratio_Add) b_85339800 := (LpOk_no (by kernel_rfl))
theorem loop_cake_Value_0 (e : List (Nat × EffF)) (he : EG e) : ∀ F H Q, lp_cake_Value w_cake_Check w_cake_point w_cake_less w_cake_whole w_ratio_Sub w_ratio_Mul w_ratio_Add 85339800 F H Q → LoopT (E e) b_85339800 F H Q := by
 intro F H Q h
 have go := LoopT.intro (callW_ok (se0_cake_Value e he) 5) (lpb_cake_Value_0 e he) (R_cake_Value_0 w_cake_Check w_cake_point w_cake_less w_cake_whole w_ratio_Sub w_ratio_Mul w_ratio_Add Q) (by
   intro F H h
   unfold R_cake_Value_0 D_cake_Value_0 at h
   split at h
   · exact h
   · exact h) (by
   intro n F H h
   unfold R_cake_Value_0 D_cake_Value_0 at h
   split at h
   · exact (body_cake_Value_0_0 ..).mpr h
   · exact h.elim)
 have h : D_cake_Value_0 F H _ := h
 unfold D_cake_Value_0 at h
 split at h
 · obtain ⟨n, h⟩ := h; exact go n _ _ h
 · exact h.elim
theorem eq_cake_Value (e : List (Nat × EffF)) (a0 a1 a2 a3 a4 a5 a6 p0 p1 p2 p3 p4 p5 p6 K) : WP (S0_cake_Value e a0 a1 a2 a3 a4 a5 a6) 6 t_cake_Value [(.agg [(.int .i64 p0), (.data p1), (.data p2)]), (.agg [(.int .i64 p3), (.int .i64 p4)]), (.agg [(.int .i64 p5), (.int .i64 p6)])] K = wv_cake_Value a0 a1 a2 a3 a4 a5 a6 p0 p1 p2 p3 p4 p5 p6 (fun r0 r1 r2 => K (.tup [(.agg [(.int .i64 r0), (.int .i64 r1)]), (.int .i64 r2)])) := by kernel_rfl
theorem ok_cake_Value (e : List (Nat × EffF)) (he : EG e) : OkF (E e) wp_cake_Value n_cake_Value := by
 intro as K h
 unfold wp_cake_Value pw_cake_Value at h
 split at h
 · exact WP_ok (se0_cake_Value e he) (LpOk_by (l := [(85339800, b_85339800)]) ⟨loop_cake_Value_0 e he, trivial⟩ (by kernel_rfl)) (by kernel_rfl) (by kernel_rfl) (fun _ => baseS_none (by kernel_rfl) _) (he.num _ (by kernel_rfl)) ((eq_cake_Value ..).mpr h)
 · exact h.elim
end Go.Pf.Vc
namespace Go.Pf.Vc
open Go Go.Pf
set_option linter.unusedVariables false
theorem det_cake_Check (p0 : Int) (p1 : List PV) (p2 : List PV) (r0 : Int) (h : ∀ K : Int → Prop, K r0 → w_cake_Check p0 p1 p2 K) (K : Int → Prop) : w_cake_Check p0 p1 p2 K = K r0 :=
 propext ⟨fun k => detC (ok_cake_Check [] effG_nil) (as := [(.agg [(.int .i64 p0), (.data p1), (.data p2)])]) (x := (.int .i64 r0)) (fun K' k' => h (fun r0 => K' (.int .i64 r0)) k') (K := fun x => match x with | (.int .i64 r0) => K r0 | _ => False) k, h K⟩
theorem det_cake_Value (p0 : Int) (p1 : List PV) (p2 : List PV) (p3 : Int) (p4 : Int) (p5 : Int) (p6 : Int) (r0 : Int) (r1 : Int) (r2 : Int) (h : ∀ K : Int → Int → Int → Prop, K r0 r1 r2 → w_cake_Value p0 p1 p2 p3 p4 p5 p6 K) (K : Int → Int → Int → Prop) : w_cake_Value p0 p1 p2 p3 p4 p5 p6 K = K r0 r1 r2 :=
 propext ⟨fun k => detC (ok_cake_Value [] effG_nil) (as := [(.agg [(.int .i64 p0), (.data p1), (.data p2)]), (.agg [(.int .i64 p3), (.int .i64 p4)]), (.agg [(.int .i64 p5), (.int .i64 p6)])]) (x := (.tup [(.agg [(.int .i64 r0), (.int .i64 r1)]), (.int .i64 r2)])) (fun K' k' => h (fun r0 r1 r2 => K' (.tup [(.agg [(.int .i64 r0), (.int .i64 r1)]), (.int .i64 r2)])) k') (K := fun x => match x with | (.tup [(.agg [(.int .i64 r0), (.int .i64 r1)]), (.int .i64 r2)]) => K r0 r1 r2 | _ => False) k, h K⟩
end Go.Pf.Vc
namespace Go.Pf.Vc
open Go Go.Pf
set_option maxRecDepth 100000
abbrev T_piece_valid : Type := Int → Int → Int → Int → (Bool → Prop) → Prop
def wv_piece_valid (a0 : T_ratio_Cmp) (p0 p1 p2 p3 : Int) (K : Bool → Prop) : Prop :=
 (a0 p0 p1 p2 p3 (fun yi0 yi1 => 
 (cbr (yi1 == (0 : Int))
 (K (decide (yi0 < (0 : Int))))
 (K false))))
def w_piece_valid (p0 p1 p2 p3 : Int) (K : Bool → Prop) : Prop := wv_piece_valid w_ratio_Cmp p0 p1 p2 p3 K
def pw_piece_valid (w : T_piece_valid) (as : List PV) (K : PV → Prop) : Prop :=
 match as with
 | [(.agg [(.int .i64 p0), (.int .i64 p1), (.int .i64 p2), (.int .i64 p3)])] => w p0 p1 p2 p3 (fun r0 => K (.bool r0))
 | _ => False
def wp_piece_valid (as : List PV) (K : PV → Prop) : Prop := pw_piece_valid w_piece_valid as K
def lp_piece_valid (_ : T_ratio_Cmp) : LP := fun _ _ _ _ =>
 False
def S0_piece_valid (e : List (Nat × EffF)) (a0 : T_ratio_Cmp) : SE := ⟨(E e), lookS [(n_ratio_Cmp, pw_ratio_Cmp a0)], lookI [], lp_piece_valid a0⟩
theorem se0_piece_valid (e : List (Nat × EffF)) (he : EG e) : SEOk (S0_piece_valid e w_ratio_Cmp) := seOk_of ⟨(ok_ratio_Cmp e he), trivial⟩ trivial he.ok
theorem eq_piece_valid (e : List (Nat × EffF)) (a0 p0 p1 p2 p3 K) : WP (S0_piece_valid e a0) 6 t_piece_valid [(.agg [(.int .i64 p0), (.int .i64 p1), (.int .i64 p2), (.int .i64 p3)])] K = wv_piece_valid a0 p0 p1 p2 p3 (fun r0 => K (.bool r0)) := by kernel_rfl
theorem ok_piece_valid (e : List (Nat × EffF)) (he : EG e) : OkF (E e) wp_piece_valid n_piece_valid := by
 intro as K h
 unfold wp_piece_valid pw_piece_valid at h
 split at h
 · exact WP_ok (se0_piece_valid e he) (LpOk_no (by kernel_rfl)) (by kernel_rfl) (by kernel_rfl) (fun _ => baseS_none (by kernel_rfl) _) (he.num _ (by kernel_rfl)) ((eq_piece_valid ..).mpr h)
 · exact h.elim
abbrev T_piece_all : Type := List PV → (Int → Prop) → Prop
def L_piece_all_0_0 (a0 : T_piece_valid) (x0 : Int → Prop) (x1 : List PV → Int → Int → Bool → Prop) : Nat → List PV → Int → Int → Prop
 | 0, _, _, _ => False
 | n + 1, l0, i1, i2 =>
 (cbr (decide (i2 < i1))
 (asr (decide ((0 : Int) ≤ i2))
 (asr (decide (i2 < (((List.length l0) : Nat) : Int)))
 (asr (conf (.agg [.i .i64, .i .i64, .i .i64, .i .i64]) (List.getD l0 (i2.toNat) .nils))
 (a0 (intOfV (cellAt (List.getD l0 (i2.toNat) .nils) 0)) (intOfV (cellAt (List.getD l0 (i2.toNat) .nils) 1)) (intOfV (cellAt (List.getD l0 (i2.toNat) .nils) 2)) (intOfV (cellAt (List.getD l0 (i2.toNat) .nils) 3)) (fun yb0 => 
 (cbr (!yb0)
 (x0 (8 : Int))
 (L_piece_all_0_0 a0 x0 x1 n l0 i1 (IntKind.i64.wrap (i2 + (1 : Int))))))))))
 (x1 l0 i1 i2 false))
def wv_piece_all (a0 : T_piece_valid) (p0 : List PV) (K : Int → Prop) : Prop :=
 (cbr (decide ((((List.length p0) : Nat) : Int) > (60 : Int)))
 (K (4 : Int))
 (∃ n : Nat, L_piece_all_0_0 a0
 (fun yi1 => (K yi1))
 (fun _ _ _ _ => (K (0 : Int)))
 n p0 (((List.length p0) : Nat) : Int) (0 : Int)))
def w_piece_all (p0 : List PV) (K : Int → Prop) : Prop := wv_piece_all w_piece_valid p0 K
def pw_piece_all (w : T_piece_all) (as : List PV) (K : PV → Prop) : Prop :=
 match as with
 | [(.data p0)] => w p0 (fun r0 => K (.int .i64 r0))
 | _ => False
def wp_piece_all (as : List PV) (K : PV → Prop) : Prop := pw_piece_all w_piece_all as K
def D_piece_all_0 (F : Frm) (H : Hp) (A0 : List PV → Int → Int → Prop) : Prop :=
 match F, H with
 | [(8, .v (.data l0)), (9, .v (.int .i64 i1)), (10, .v (.int .i64 i2))], [] => (A0 l0 i1 i2)
 | _, _ => False
def X_piece_all_0_0 (Q : Ex → Frm → Hp → Prop) : Int → Prop := (fun i0 => Q .ret [(2, .v (.int .i64 i0))] [])
def X_piece_all_0_1 (Q : Ex → Frm → Hp → Prop) : List PV → Int → Int → Bool → Prop := (fun l0 i1 i2 b3 => Q (.exit 0) [(8, .v (.data l0)), (9, .v (.int .i64 i1)), (10, .v (.int .i64 i2)), (11, .v (.bool b3))] [])
def R_piece_all_0 (a0 : T_piece_valid) (Q : Ex → Frm → Hp → Prop) (n : Nat) (F : Frm) (H : Hp) : Prop := D_piece_all_0 F H (fun l0 i1 i2 => L_piece_all_0_0 a0 (X_piece_all_0_0 Q) (X_piece_all_0_1 Q) n l0 i1 i2)
def lp_piece_all (a0 : T_piece_valid) : LP := fun id F H Q =>
 bif Nat.beq id 56157900 then D_piece_all_0 F H (fun l0 i1 i2 => ∃ n : Nat, L_piece_all_0_0 a0 (X_piece_all_0_0 Q) (X_piece_all_0_1 Q) n l0 i1 i2) else
 False
def S0_piece_all (e : List (Nat × EffF)) (a0 : T_piece_valid) : SE := ⟨(E e), lookS [(n_piece_valid, pw_piece_valid a0)], lookI [], lp_piece_all a0⟩
theorem se0_piece_all (e : List (Nat × EffF)) (he : EG e) : SEOk (S0_piece_all e w_piece_valid) := seOk_of ⟨(ok_piece_valid e he), trivial⟩ trivial he.ok
theorem body_piece_all_0_0 (e : List (Nat × EffF)) (a0 Q n l0 i1 i2) : WC (E e) (callW (S0_piece_all e a0) 5) (lp_piece_all a0) b_56157900 [(8, .v (.data l0)), (9, .v (.int .i64 i1)), (10, .v (.int .i64 i2))] [] (fun x F' H' => match x with | .norm => R_piece_all_0 a0 Q n F' H' | .exit i => Q (.exit i) F' H' | .ret => Q .ret F' H') = L_piece_all_0_0 a0 (X_piece_all_0_0 Q) (X_piece_all_0_1 Q) (n + 1) l0 i1 i2 := by kernel_rfl
theorem lpb_piece_all_0 (e : List (Nat × EffF)) (_ : EG e) : LpOk (E e) (lp_piece_all w_piece_valid) b_56157900 := (LpOk_no (by kernel_rfl))
theorem loop_piece_all_0 (e : List (Nat × EffF)) (he : EG e) : ∀ F H Q, lp_piece_all w_piece_valid 56157900 F H Q → LoopT (E e) b_56157900 F H Q := by
 intro F H Q h
 have go := LoopT.intro (callW_ok (se0_piece_all e he) 5) (lpb_piece_all_0 e he) (R_piece_all_0 w_piece_valid Q) (by
   intro F H h
   unfold R_piece_all_0 D_piece_all_0 at h
   split at h
   · exact h
   · exact h) (by
   intro n F H h
   unfold R_piece_all_0 D_piece_all_0 at h
   split at h
   · exact (body_piece_all_0_0 ..).mpr h
   · exact h.elim)
 have h : D_piece_all_0 F H _ := h
 unfold D_piece_all_0 at h
 split at h
 · obtain ⟨n, h⟩ := h; exact go n _ _ h
 · exact h.elim
theorem eq_piece_all (e : List (Nat × EffF)) (a0 p0 K) : WP (S0_piece_all e a0) 6 t_piece_all [(.data p0)] K = wv_piece_all a0 p0 (fun r0 => K (.int .i64 r0)) := by kernel_rfl
theorem ok_piece_all (e : List (Nat × EffF)) (he : EG e) : OkF (E e) wp_piece_all n_piece_all := by
 intro as K h
 unfold wp_piece_all pw_piece_all at h
 split at h
 · exact WP_ok (se0_piece_all e he) (LpOk_by (l := [(56157900, b_56157900)]) ⟨loop_piece_all_0 e he, trivial⟩ (by kernel_rfl)) (by kernel_rfl) (by kernel_rfl) (fun _ => baseS_none (by kernel_rfl) _) (he.num _ (by kernel_rfl)) ((eq_piece_all ..).mpr h)
 · exact h.elim
abbrev T_piece_order : Type := Int → Int → Int → Int → (Int → Prop) → Prop
def wv_piece_order (a0 : T_ratio_Cmp) (p0 p1 p2 p3 : Int) (K : Int → Prop) : Prop :=
 (a0 p0 p1 p2 p3 (fun yi0 _ => 
 (K yi0)))
def w_piece_order (p0 p1 p2 p3 : Int) (K : Int → Prop) : Prop := wv_piece_order w_ratio_Cmp p0 p1 p2 p3 K
def pw_piece_order (w : T_piece_order) (as : List PV) (K : PV → Prop) : Prop :=
 match as with
 | [(.agg [(.int .i64 p0), (.int .i64 p1)]), (.agg [(.int .i64 p2), (.int .i64 p3)])] => w p0 p1 p2 p3 (fun r0 => K (.int .i64 r0))
 | _ => False
def wp_piece_order (as : List PV) (K : PV → Prop) : Prop := pw_piece_order w_piece_order as K
def lp_piece_order (_ : T_ratio_Cmp) : LP := fun _ _ _ _ =>
 False
def S0_piece_order (e : List (Nat × EffF)) (a0 : T_ratio_Cmp) : SE := ⟨(E e), lookS [(n_ratio_Cmp, pw_ratio_Cmp a0)], lookI [], lp_piece_order a0⟩
theorem se0_piece_order (e : List (Nat × EffF)) (he : EG e) : SEOk (S0_piece_order e w_ratio_Cmp) := seOk_of ⟨(ok_ratio_Cmp e he), trivial⟩ trivial he.ok
theorem eq_piece_order (e : List (Nat × EffF)) (a0 p0 p1 p2 p3 K) : WP (S0_piece_order e a0) 6 t_piece_order [(.agg [(.int .i64 p0), (.int .i64 p1)]), (.agg [(.int .i64 p2), (.int .i64 p3)])] K = wv_piece_order a0 p0 p1 p2 p3 (fun r0 => K (.int .i64 r0)) := by kernel_rfl
theorem ok_piece_order (e : List (Nat × EffF)) (he : EG e) : OkF (E e) wp_piece_order n_piece_order := by
 intro as K h
 unfold wp_piece_order pw_piece_order at h
 split at h
 · exact WP_ok (se0_piece_order e he) (LpOk_no (by kernel_rfl)) (by kernel_rfl) (by kernel_rfl) (fun _ => baseS_none (by kernel_rfl) _) (he.num _ (by kernel_rfl)) ((eq_piece_order ..).mpr h)
 · exact h.elim
abbrev T_piece_merged_1 : Type := Int → Int → Int → Int → Int → Int → Int → Int → (Int → Prop) → Prop
def wv_piece_merged_1 (a0 : T_piece_order) (p0 p1 _ _ p4 p5 _ _ : Int) (K : Int → Prop) : Prop :=
 (a0 p0 p1 p4 p5 (fun yi1 => 
 (K yi1)))
def w_piece_merged_1 (p0 p1 p2 p3 p4 p5 p6 p7 : Int) (K : Int → Prop) : Prop := wv_piece_merged_1 w_piece_order p0 p1 p2 p3 p4 p5 p6 p7 K
def pw_piece_merged_1 (w : T_piece_merged_1) (as : List PV) (K : PV → Prop) : Prop :=
 match as with
 | [(.agg [(.int .i64 p0), (.int .i64 p1), (.int .i64 p2), (.int .i64 p3)]), (.agg [(.int .i64 p4), (.int .i64 p5), (.int .i64 p6), (.int .i64 p7)])] => w p0 p1 p2 p3 p4 p5 p6 p7 (fun r0 => K (.int .i64 r0))
 | _ => False
def wp_piece_merged_1 (as : List PV) (K : PV → Prop) : Prop := pw_piece_merged_1 w_piece_merged_1 as K
def lp_piece_merged_1 (_ : T_piece_order) : LP := fun _ _ _ _ =>
 False
def S0_piece_merged_1 (e : List (Nat × EffF)) (a0 : T_piece_order) : SE := ⟨(E e), lookS [(n_piece_order, pw_piece_order a0)], lookI [], lp_piece_merged_1 a0⟩
theorem se0_piece_merged_1 (e : List (Nat × EffF)) (he : EG e) : SEOk (S0_piece_merged_1 e w_piece_order) := seOk_of ⟨(ok_piece_order e he), trivial⟩ trivial he.ok
theorem eq_piece_merged_1 (e : List (Nat × EffF)) (a0 p0 p1 p2 p3 p4 p5 p6 p7 K) : WP (S0_piece_merged_1 e a0) 6 t_piece_merged_1 [(.agg [(.int .i64 p0), (.int .i64 p1), (.int .i64 p2), (.int .i64 p3)]), (.agg [(.int .i64 p4), (.int .i64 p5), (.int .i64 p6), (.int .i64 p7)])] K = wv_piece_merged_1 a0 p0 p1 p2 p3 p4 p5 p6 p7 (fun r0 => K (.int .i64 r0)) := by kernel_rfl
theorem ok_piece_merged_1 (e : List (Nat × EffF)) (he : EG e) : OkF (E e) wp_piece_merged_1 n_piece_merged_1 := by
 intro as K h
 unfold wp_piece_merged_1 pw_piece_merged_1 at h
 split at h
 · exact WP_ok (se0_piece_merged_1 e he) (LpOk_no (by kernel_rfl)) (by kernel_rfl) (by kernel_rfl) (fun _ => baseS_none (by kernel_rfl) _) (he.num _ (by kernel_rfl)) ((eq_piece_merged_1 ..).mpr h)
 · exact h.elim
abbrev T_piece_merged : Type := List PV → (List PV → Prop) → Prop
end Go.Pf.Vc
