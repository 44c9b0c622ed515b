/- Part 2 of what the statement rests on: a verified evaluator over pure values, the conditions of the program's functions, and their plain laws. -/
import Derived.Test.YtniodknidoemfaaKsW1
namespace Go.Pf.Vc
open Go Go.Pf
def t_cake_less : TFn := ⟨2, [.tmp 4], (.seq (oQ [O 2 (.boxL (.t 0)), O 3 (.boxL (.t 1)), O 4 (.mv (.c (.bool false)))] [0, 1, 4]) (.seq (oQ [oT 8 2 2, oT 9 2 3, O 10 (.call (.f n_ratio_Cmp) [(.t 8), (.t 9)]), M 7 10, O 11 (.ext (.t 7) 0), O 12 (.ext (.t 7) 1), M 5 11, M 6 12] [2, 3, 6, 7, 8, 9, 10, 11, 12]) (.seq (oQ [M 13 5, O 14 (.bin .lss (.t 13) (I 0)), M 4 14] [5, 13, 14]) .ret)))⟩
def t_cake_point : TFn := ⟨2, [.tmp 4], (.seq (oQ [O 2 (.boxL (.t 0)), O 3 (.boxL (.t 1)), O 4 (.mv (.c (.bool false)))] [0, 1, 4]) (.seq (.ops [oT 5 2 3, O 6 (.call (.f n_ratio_Check) [(.t 5)]), O 7 (.bin .eql (.t 6) (I 0)), M 8 7, ⟨some 9, (.fad 0 (.t 3)), some (8, true)⟩, ⟨some 10, (.load false 1 (.t 9)), some (8, true)⟩, ⟨some 11, (.bin .geq (.t 10) (I 0)), some (8, true)⟩, O 12 (.pick (.t 8) (.t 11) (.c (.bool false))), M 13 12, ⟨some 14, (.fad 0 (.t 2)), some (13, true)⟩, ⟨some 15, (.load false 1 (.t 14)), some (13, true)⟩, ⟨some 16, (.call (.f n_cake_whole) [(.t 15)]), some (13, true)⟩, ⟨some 17, (.load true 2 (.t 3)), some (13, true)⟩, ⟨some 18, (.call (.f n_cake_less) [(.t 16), (.t 17)]), some (13, true)⟩, ⟨some 19, (.un .not (.t 18)), some (13, true)⟩, O 20 (.pick (.t 13) (.t 19) (.c (.bool false))), M 4 20] [⟨5, (.agg [.i .i64, .i .i64]), 0⟩, ⟨10, (.agg [.i .i64, .d, .d]), 0⟩] [(9, 12), (10, 12), (11, 12)] [2, 3, 5, 6, 7, 8, 9, 10, 11, 12, 13, 14, 15, 16, 17, 18, 19, 20]) .ret))⟩
def t_m_Len64 : TFn := ⟨1, [.tmp 2], (.seq (oQ [O 2 (.mv (I 0))] []) (.seq (.seq (oQ [M 3 0, O 4 (.bin .geq (.t 3) (.c (.int .u64 (4294967296))))] [3]) (.cond (.t 4) (.seq (oQ [M 5 0, O 6 (.bin .shr (.t 5) (.c (.int .u64 (32)))), M 0 6] [2, 4, 5, 6]) (oQ [O 2 (.mv (I 32))] [])) .skip)) (.seq (.seq (oQ [M 7 0, O 8 (.bin .geq (.t 7) (.c (.int .u64 (65536))))] [4, 7]) (.cond (.t 8) (.seq (oQ [M 9 0, O 10 (.bin .shr (.t 9) (.c (.int .u64 (16)))), M 0 10] [8, 9, 10]) (oQ [M 11 2, O 12 (.bin .add (.t 11) (I 16)), M 2 12] [11, 12])) .skip)) (.seq (.seq (oQ [M 13 0, O 14 (.bin .geq (.t 13) (.c (.int .u64 (256))))] [8, 13]) (.cond (.t 14) (.seq (oQ [M 15 0, O 16 (.bin .shr (.t 15) (.c (.int .u64 (8)))), M 0 16] [14, 15, 16]) (oQ [M 17 2, O 18 (.bin .add (.t 17) (I 8)), M 2 18] [17, 18])) .skip)) (.seq (oQ [M 19 2, M 20 0, O 21 (.conv .u8 (.t 20)), O 22 (.idx false 256 1 (.c (.agg [(.int .u8 (0)), (.int .u8 (1)), (.int .u8 (2)), (.int .u8 (2)), (.int .u8 (3)), (.int .u8 (3)), (.int .u8 (3)), (.int .u8 (3)), (.int .u8 (4)), (.int .u8 (4)), (.int .u8 (4)), (.int .u8 (4)), (.int .u8 (4)), (.int .u8 (4)), (.int .u8 (4)), (.int .u8 (4)), (.int .u8 (5)), (.int .u8 (5)), (.int .u8 (5)), (.int .u8 (5)), (.int .u8 (5)), (.int .u8 (5)), (.int .u8 (5)), (.int .u8 (5)), (.int .u8 (5)), (.int .u8 (5)), (.int .u8 (5)), (.int .u8 (5)), (.int .u8 (5)), (.int .u8 (5)), (.int .u8 (5)), (.int .u8 (5)), (.int .u8 (6)), (.int .u8 (6)), (.int .u8 (6)), (.int .u8 (6)), (.int .u8 (6)), (.int .u8 (6)), (.int .u8 (6)), (.int .u8 (6)), (.int .u8 (6)), (.int .u8 (6)), (.int .u8 (6)), (.int .u8 (6)), (.int .u8 (6)), (.int .u8 (6)), (.int .u8 (6)), (.int .u8 (6)), (.int .u8 (6)), (.int .u8 (6)), (.int .u8 (6)), (.int .u8 (6)), (.int .u8 (6)), (.int .u8 (6)), (.int .u8 (6)), (.int .u8 (6)), (.int .u8 (6)), (.int .u8 (6)), (.int .u8 (6)), (.int .u8 (6)), (.int .u8 (6)), (.int .u8 (6)), (.int .u8 (6)), (.int .u8 (6)), (.int .u8 (7)), (.int .u8 (7)), (.int .u8 (7)), (.int .u8 (7)), (.int .u8 (7)), (.int .u8 (7)), (.int .u8 (7)), (.int .u8 (7)), (.int .u8 (7)), (.int .u8 (7)), (.int .u8 (7)), (.int .u8 (7)), (.int .u8 (7)), (.int .u8 (7)), (.int .u8 (7)), (.int .u8 (7)), (.int .u8 (7)), (.int .u8 (7)), (.int .u8 (7)), (.int .u8 (7)), (.int .u8 (7)), (.int .u8 (7)), (.int .u8 (7)), (.int .u8 (7)), (.int .u8 (7)), (.int .u8 (7)), (.int .u8 (7)), (.int .u8 (7)), (.int .u8 (7)), (.int .u8 (7)), (.int .u8 (7)), (.int .u8 (7)), (.int .u8 (7)), (.int .u8 (7)), (.int .u8 (7)), (.int .u8 (7)), (.int .u8 (7)), (.int .u8 (7)), (.int .u8 (7)), (.int .u8 (7)), (.int .u8 (7)), (.int .u8 (7)), (.int .u8 (7)), (.int .u8 (7)), (.int .u8 (7)), (.int .u8 (7)), (.int .u8 (7)), (.int .u8 (7)), (.int .u8 (7)), (.int .u8 (7)), (.int .u8 (7)), (.int .u8 (7)), (.int .u8 (7)), (.int .u8 (7)), (.int .u8 (7)), (.int .u8 (7)), (.int .u8 (7)), (.int .u8 (7)), (.int .u8 (7)), (.int .u8 (7)), (.int .u8 (7)), (.int .u8 (7)), (.int .u8 (7)), (.int .u8 (7)), (.int .u8 (8)), (.int .u8 (8)), (.int .u8 (8)), (.int .u8 (8)), (.int .u8 (8)), (.int .u8 (8)), (.int .u8 (8)), (.int .u8 (8)), (.int .u8 (8)), (.int .u8 (8)), (.int .u8 (8)), (.int .u8 (8)), (.int .u8 (8)), (.int .u8 (8)), (.int .u8 (8)), (.int .u8 (8)), (.int .u8 (8)), (.int .u8 (8)), (.int .u8 (8)), (.int .u8 (8)), (.int .u8 (8)), (.int .u8 (8)), (.int .u8 (8)), (.int .u8 (8)), (.int .u8 (8)), (.int .u8 (8)), (.int .u8 (8)), (.int .u8 (8)), (.int .u8 (8)), (.int .u8 (8)), (.int .u8 (8)), (.int .u8 (8)), (.int .u8 (8)), (.int .u8 (8)), (.int .u8 (8)), (.int .u8 (8)), (.int .u8 (8)), (.int .u8 (8)), (.int .u8 (8)), (.int .u8 (8)), (.int .u8 (8)), (.int .u8 (8)), (.int .u8 (8)), (.int .u8 (8)), (.int .u8 (8)), (.int .u8 (8)), (.int .u8 (8)), (.int .u8 (8)), (.int .u8 (8)), (.int .u8 (8)), (.int .u8 (8)), (.int .u8 (8)), (.int .u8 (8)), (.int .u8 (8)), (.int .u8 (8)), (.int .u8 (8)), (.int .u8 (8)), (.int .u8 (8)), (.int .u8 (8)), (.int .u8 (8)), (.int .u8 (8)), (.int .u8 (8)), (.int .u8 (8)), (.int .u8 (8)), (.int .u8 (8)), (.int .u8 (8)), (.int .u8 (8)), (.int .u8 (8)), (.int .u8 (8)), (.int .u8 (8)), (.int .u8 (8)), (.int .u8 (8)), (.int .u8 (8)), (.int .u8 (8)), (.int .u8 (8)), (.int .u8 (8)), (.int .u8 (8)), (.int .u8 (8)), (.int .u8 (8)), (.int .u8 (8)), (.int .u8 (8)), (.int .u8 (8)), (.int .u8 (8)), (.int .u8 (8)), (.int .u8 (8)), (.int .u8 (8)), (.int .u8 (8)), (.int .u8 (8)), (.int .u8 (8)), (.int .u8 (8)), (.int .u8 (8)), (.int .u8 (8)), (.int .u8 (8)), (.int .u8 (8)), (.int .u8 (8)), (.int .u8 (8)), (.int .u8 (8)), (.int .u8 (8)), (.int .u8 (8)), (.int .u8 (8)), (.int .u8 (8)), (.int .u8 (8)), (.int .u8 (8)), (.int .u8 (8)), (.int .u8 (8)), (.int .u8 (8)), (.int .u8 (8)), (.int .u8 (8)), (.int .u8 (8)), (.int .u8 (8)), (.int .u8 (8)), (.int .u8 (8)), (.int .u8 (8)), (.int .u8 (8)), (.int .u8 (8)), (.int .u8 (8)), (.int .u8 (8)), (.int .u8 (8)), (.int .u8 (8)), (.int .u8 (8)), (.int .u8 (8)), (.int .u8 (8)), (.int .u8 (8)), (.int .u8 (8)), (.int .u8 (8)), (.int .u8 (8)), (.int .u8 (8)), (.int .u8 (8))])) (.t 21)), O 23 (.conv .i64 (.t 22)), oX 24 .add 19 23, M 2 24] [0, 14, 19, 20, 21, 22, 23, 24]) .ret)))))⟩
def t_m_LeadingZeros64 : TFn := ⟨1, [.tmp 2], (.seq (oQ [O 2 (.mv (I 0))] [2]) (.seq (oQ [M 3 0, O 4 (.call (.f n_m_Len64) [(.t 3)]), O 5 (.bin .sub (I 64) (.t 4)), M 2 5] [0, 3, 4, 5]) .ret))⟩
def b_60530100 : TCode := (.seq (.seq (oQ [M 67 15, O 68 (.bin .geq (.t 67) (.c (.int .u64 (4294967296)))), M 69 68, ⟨some 70, (.mv (.t 15)), some (69, false)⟩, ⟨some 71, (.mv (.t 10)), some (69, false)⟩, ⟨some 72, (.bin .mul (.t 70) (.t 71)), some (69, false)⟩, ⟨some 73, (.mv (.t 16)), some (69, false)⟩, ⟨some 74, (.bin .mul (.c (.int .u64 (4294967296))) (.t 73)), some (69, false)⟩, ⟨some 75, (.mv (.t 13)), some (69, false)⟩, ⟨some 76, (.bin .add (.t 74) (.t 75)), some (69, false)⟩, ⟨some 77, (.bin .gtr (.t 72) (.t 76)), some (69, false)⟩, O 78 (.pick (.t 69) (.c (.bool true)) (.t 77))] [67, 68, 69, 70, 71, 72, 73, 74, 75, 76, 77, 85]) (.cond (.t 78) .skip (.exit 0))) (.block 1 (.seq (oQ [M 79 15, O 80 (.bin .sub (.t 79) (.c (.int .u64 (1)))), M 15 80] [78, 79, 80]) (.seq (oQ [M 81 16, M 82 9, oX 83 .add 81 82, M 16 83] [81, 82, 83]) (.seq (oQ [M 84 16, O 85 (.bin .geq (.t 84) (.c (.int .u64 (4294967296))))] [84]) (.cond (.t 85) (.exit 0) .skip))))))
def b_60530101 : TCode := (.seq (.seq (oQ [M 102 18, O 103 (.bin .geq (.t 102) (.c (.int .u64 (4294967296)))), M 104 103, ⟨some 105, (.mv (.t 18)), some (104, false)⟩, ⟨some 106, (.mv (.t 10)), some (104, false)⟩, ⟨some 107, (.bin .mul (.t 105) (.t 106)), some (104, false)⟩, ⟨some 108, (.mv (.t 16)), some (104, false)⟩, ⟨some 109, (.bin .mul (.c (.int .u64 (4294967296))) (.t 108)), some (104, false)⟩, ⟨some 110, (.mv (.t 14)), some (104, false)⟩, ⟨some 111, (.bin .add (.t 109) (.t 110)), some (104, false)⟩, ⟨some 112, (.bin .gtr (.t 107) (.t 111)), some (104, false)⟩, O 113 (.pick (.t 104) (.c (.bool true)) (.t 112))] [102, 103, 104, 105, 106, 107, 108, 109, 110, 111, 112, 120]) (.cond (.t 113) .skip (.exit 2))) (.block 3 (.seq (oQ [M 114 18, O 115 (.bin .sub (.t 114) (.c (.int .u64 (1)))), M 18 115] [113, 114, 115]) (.seq (oQ [M 116 16, M 117 9, oX 118 .add 116 117, M 16 118] [116, 117, 118]) (.seq (oQ [M 119 16, O 120 (.bin .geq (.t 119) (.c (.int .u64 (4294967296))))] [119]) (.cond (.t 120) (.exit 2) .skip))))))
def t_m_Div64 : TFn := ⟨3, [.tmp 6, .tmp 7], (.seq (oQ [O 6 (.mv (.c (.int .u64 (0)))), O 7 (.mv (.c (.int .u64 (0))))] [6, 7]) (.seq (.seq (oQ [M 19 2, O 20 (.bin .eql (.t 19) (.c (.int .u64 (0))))] [19]) (.cond (.t 20) (oQ [O 21 (.load false 1 (.g 0)), ⟨none, .bad, none⟩] [20, 21]) .skip)) (.seq (.seq (oQ [M 22 2, M 23 0, oX 24 .leq 22 23] [20, 22, 23]) (.cond (.t 24) (oQ [O 25 (.load false 1 (.g 1)), ⟨none, .bad, none⟩] [24, 25]) .skip)) (.seq (.seq (oQ [M 26 0, O 27 (.bin .eql (.t 26) (.c (.int .u64 (0))))] [24, 26]) (.cond (.t 27) (.seq (.ops [M 28 1, M 29 2, oX 30 .quo 28 29, M 31 1, M 32 2, oX 33 .rem 31 32, M 6 30, M 7 33] [] [(0, 1), (0, 3), (1, 3), (2, 3), (0, 4), (1, 4), (2, 4), (3, 4), (0, 5), (1, 5), (2, 5), (3, 6), (4, 6), (5, 6)] [0, 1, 2, 27, 28, 29, 30, 31, 32, 33]) .ret) .skip)) (.seq (oQ [M 34 2, O 35 (.call (.f n_m_LeadingZeros64) [(.t 34)]), O 36 (.conv .u64 (.t 35)), M 8 36] [27, 34, 35, 36]) (.seq (oQ [M 37 2, M 38 8, oX 39 .shl 37 38, M 2 39] [37, 38, 39]) (.seq (oQ [M 40 2, O 41 (.bin .shr (.t 40) (.c (.int .u64 (32)))), M 9 41] [40, 41]) (.seq (oQ [M 42 2, O 43 (.bin .and (.t 42) (.c (.int .u64 (4294967295)))), M 10 43] [42, 43]) (.seq (oQ [M 44 0, M 45 8, oX 46 .shl 44 45, M 47 1, M 48 8, O 49 (.bin .sub (.c (.int .u64 (64))) (.t 48)), oX 50 .shr 47 49, oX 51 .or 46 50, M 11 51] [0, 44, 45, 46, 47, 48, 49, 50, 51]) (.seq (oQ [M 52 1, M 53 8, oX 54 .shl 52 53, M 12 54] [1, 52, 53, 54]) (.seq (oQ [M 55 12, O 56 (.bin .shr (.t 55) (.c (.int .u64 (32)))), M 13 56] [55, 56]) (.seq (oQ [M 57 12, O 58 (.bin .and (.t 57) (.c (.int .u64 (4294967295)))), M 14 58] [12, 57, 58]) (.seq (oQ [M 59 11, M 60 9, oX 61 .quo 59 60, M 15 61] [59, 60, 61]) (.seq (oQ [M 62 11, M 63 15, M 64 9, oX 65 .mul 63 64, oX 66 .sub 62 65, M 16 66] [62, 63, 64, 65, 66]) (.seq (.block 0 (.loop 60530100 b_60530100)) (.seq (oQ [M 86 11, O 87 (.bin .mul (.t 86) (.c (.int .u64 (4294967296)))), M 88 13, oX 89 .add 87 88, M 90 15, M 91 2, oX 92 .mul 90 91, oX 93 .sub 89 92, M 17 93] [11, 13, 16, 78, 85, 86, 87, 88, 89, 90, 91, 92, 93]) (.seq (oQ [M 94 17, M 95 9, oX 96 .quo 94 95, M 18 96] [94, 95, 96]) (.seq (oQ [M 97 17, M 98 18, M 99 9, oX 100 .mul 98 99, oX 101 .sub 97 100, M 16 101] [97, 98, 99, 100, 101]) (.seq (.block 2 (.loop 60530101 b_60530101)) (.seq (oQ [M 121 15, O 122 (.bin .mul (.t 121) (.c (.int .u64 (4294967296)))), M 123 18, oX 124 .add 122 123, M 125 17, O 126 (.bin .mul (.t 125) (.c (.int .u64 (4294967296)))), M 127 14, oX 128 .add 126 127, M 129 18, M 130 2, oX 131 .mul 129 130, oX 132 .sub 128 131, M 133 8, oX 134 .shr 132 133, M 6 124, M 7 134] [2, 8, 9, 10, 14, 15, 16, 17, 18, 113, 120, 121, 122, 123, 124, 125, 126, 127, 128, 129, 130, 131, 132, 133, 134]) .ret))))))))))))))))))))⟩
def t_m_Rem64 : TFn := ⟨3, [.tmp 6], (.seq (oQ [O 6 (.mv (.c (.int .u64 (0))))] [6]) (.seq (oQ [M 10 0, M 11 2, oX 12 .rem 10 11, M 13 1, M 14 2, O 15 (.call (.f n_m_Div64) [(.t 12), (.t 13), (.t 14)]), M 9 15, O 16 (.ext (.t 9) 0), O 17 (.ext (.t 9) 1), M 7 16, M 8 17] [0, 1, 2, 7, 9, 10, 11, 12, 13, 14, 15, 16, 17]) (.seq (oQ [M 18 8, M 6 18] [8, 18]) .ret)))⟩
def t_ratio_Add : TFn := ⟨2, [.cell 4 true 2, .tmp 5], (.seq (oQ [O 2 (.boxL (.t 0)), O 3 (.boxL (.t 1)), O 4 (.allocL (.agg [(.int .i64 (0)), (.int .i64 (0))])), O 5 (.mv (I 0))] [0, 1, 5]) (.seq (.seq (oQ [oT 21 2 2, oT 22 2 3, O 23 (.call (.f n_ratio_check) [(.t 21), (.t 22)]), M 6 23] [21, 22, 23]) (.seq (oQ [M 24 6, O 25 (.bin .neq (.t 24) (I 0))] [24]) (.cond (.t 25) (.seq (oQ [O 26 (.build [(.int .i64 (0)), (.int .i64 (0))] []), M 27 6, ⟨none, (.store 2 (.t 4) (.t 26)), none⟩, M 5 27] [2, 3, 6, 25, 26, 27]) .ret) .skip))) (.seq (.ops [O 28 (.fad 1 (.t 2)), oF 29 1 28, O 30 (.conv .u64 (.t 29)), O 31 (.fad 1 (.t 3)), oF 32 1 31, O 33 (.conv .u64 (.t 32)), O 34 (.call (.f n_ratio_gcd) [(.t 30), (.t 33)]), M 7 34] [⟨1, (.agg [.i .i64, .i .i64]), 0⟩, ⟨4, (.agg [.i .i64, .i .i64]), 0⟩] [] [6, 25, 28, 29, 30, 31, 32, 33, 34]) (.seq (.ops [O 36 (.fad 0 (.t 2)), oF 37 1 36, O 38 (.call (.f n_ratio_size) [(.t 37)]), O 39 (.fad 1 (.t 3)), oF 40 1 39, O 41 (.conv .u64 (.t 40)), M 42 7, oX 43 .quo 41 42, O 44 (.call (.f n_m_Mul64) [(.t 38), (.t 43)]), M 35 44, O 45 (.ext (.t 35) 0), O 46 (.ext (.t 35) 1), M 8 45, M 9 46] [⟨1, (.agg [.i .i64, .i .i64]), 0⟩, ⟨4, (.agg [.i .i64, .i .i64]), 0⟩] [(0, 3), (1, 3), (2, 3), (0, 4), (1, 4), (2, 4), (0, 5), (1, 5), (2, 5), (0, 6), (1, 6), (2, 6), (3, 6), (4, 6), (5, 6), (0, 7), (1, 7), (2, 7), (10, 11), (11, 12)] [35, 36, 37, 38, 39, 40, 41, 42, 43, 44, 45, 46]) (.seq (.ops [O 48 (.fad 0 (.t 3)), oF 49 1 48, O 50 (.call (.f n_ratio_size) [(.t 49)]), O 51 (.fad 1 (.t 2)), oF 52 1 51, O 53 (.conv .u64 (.t 52)), M 54 7, oX 55 .quo 53 54, O 56 (.call (.f n_m_Mul64) [(.t 50), (.t 55)]), M 47 56, O 57 (.ext (.t 47) 0), O 58 (.ext (.t 47) 1), M 10 57, M 11 58] [⟨1, (.agg [.i .i64, .i .i64]), 0⟩, ⟨4, (.agg [.i .i64, .i .i64]), 0⟩] [(0, 3), (1, 3), (2, 3), (0, 4), (1, 4), (2, 4), (0, 5), (1, 5), (2, 5), (0, 6), (1, 6), (2, 6), (3, 6), (4, 6), (5, 6), (0, 7), (1, 7), (2, 7), (10, 11), (11, 12)] [47, 48, 49, 50, 51, 52, 53, 54, 55, 56, 57, 58]) (.seq (.ops [O 59 (.fad 0 (.t 2)), oF 60 1 59, O 61 (.bin .lss (.t 60) (I 0)), M 12 61] [⟨1, (.agg [.i .i64, .i .i64]), 0⟩] [] [59, 60, 61]) (.seq (oQ [O 13 (.mv (.c (.int .u64 (0)))), O 14 (.mv (.c (.int .u64 (0)))), O 15 (.mv (.c (.int .u64 (0))))] [13, 14, 15]) (.seq (.seq (.ops [O 62 (.fad 0 (.t 2)), oF 63 1 62, O 64 (.bin .lss (.t 63) (I 0)), O 65 (.fad 0 (.t 3)), oF 66 1 65, O 67 (.bin .lss (.t 66) (I 0)), O 68 (.eqB false (.t 64) (.t 67))] [⟨1, (.agg [.i .i64, .i .i64]), 0⟩, ⟨4, (.agg [.i .i64, .i .i64]), 0⟩] [] [62, 63, 64, 65, 66, 67]) (.cond (.t 68) (.seq (oQ [M 70 9, M 71 11, O 72 (.call (.f n_m_Add64) [(.t 70), (.t 71), (.c (.int .u64 (0)))]), M 69 72, O 73 (.ext (.t 69) 0), O 74 (.ext (.t 69) 1), M 14 73, M 15 74] [9, 11, 68, 69, 70, 71, 72, 73, 74]) (oQ [M 76 8, M 77 10, M 78 15, O 79 (.call (.f n_m_Add64) [(.t 76), (.t 77), (.t 78)]), M 75 79, O 80 (.ext (.t 75) 0), O 81 (.ext (.t 75) 1), M 13 80] [8, 10, 15, 75, 76, 77, 78, 79, 80, 81])) (.seq (.seq (oQ [M 82 8, M 83 10, oX 84 .lss 82 83, M 85 84, ⟨some 86, (.mv (.t 8)), some (85, false)⟩, ⟨some 87, (.mv (.t 10)), some (85, false)⟩, ⟨some 88, (.bin .eql (.t 86) (.t 87)), some (85, false)⟩, ⟨some 89, (.mv (.t 88)), some (85, false)⟩, ⟨some 90, (.mv (.t 9)), some (89, true)⟩, ⟨some 91, (.mv (.t 11)), some (89, true)⟩, ⟨some 92, (.bin .lss (.t 90) (.t 91)), some (89, true)⟩, ⟨some 93, (.pick (.t 89) (.t 92) (.c (.bool false))), some (85, false)⟩, O 94 (.pick (.t 85) (.c (.bool true)) (.t 93))] [68, 82, 83, 84, 85, 86, 87, 88, 89, 90, 91, 92, 93]) (.cond (.t 94) (.seq (oQ [M 95 10, M 96 11, M 97 8, M 98 9, M 8 95, M 9 96, M 10 97, M 11 98] [94, 95, 96, 97, 98]) (oQ [M 99 12, O 100 (.un .not (.t 99)), M 12 100] [99, 100])) .skip)) (.seq (oQ [M 102 9, M 103 11, O 104 (.call (.f n_m_Sub64) [(.t 102), (.t 103), (.c (.int .u64 (0)))]), M 101 104, O 105 (.ext (.t 101) 0), O 106 (.ext (.t 101) 1), M 14 105, M 15 106] [9, 11, 94, 101, 102, 103, 104, 105, 106]) (oQ [M 108 8, M 109 10, M 110 15, O 111 (.call (.f n_m_Sub64) [(.t 108), (.t 109), (.t 110)]), M 107 111, O 112 (.ext (.t 107) 0), O 113 (.ext (.t 107) 1), M 13 112] [8, 10, 15, 107, 108, 109, 110, 111, 112, 113]))))) (.seq (.seq (oQ [M 114 13, O 115 (.bin .eql (.t 114) (.c (.int .u64 (0)))), M 116 115, ⟨some 117, (.mv (.t 14)), some (116, true)⟩, ⟨some 118, (.bin .eql (.t 117) (.c (.int .u64 (0)))), some (116, true)⟩, O 119 (.pick (.t 116) (.t 118) (.c (.bool false)))] [114, 115, 116, 117, 118]) (.cond (.t 119) (.seq (oQ [O 120 (.build [(.int .i64 (0)), (.int .i64 (0))] [(1, 1, (I 1))]), ⟨none, (.store 2 (.t 4) (.t 120)), none⟩, O 5 (.mv (I 0))] [2, 3, 7, 12, 13, 14, 119, 120]) .ret) .skip)) (.seq (oQ [M 121 13, M 122 14, M 123 7, O 124 (.call (.f n_m_Rem64) [(.t 121), (.t 122), (.t 123)]), M 125 7, O 126 (.call (.f n_ratio_gcd) [(.t 124), (.t 125)]), M 16 126] [119, 121, 122, 123, 124, 125, 126]) (.seq (.seq (oQ [M 127 13, M 128 16, oX 129 .geq 127 128] [127, 128]) (.cond (.t 129) (.seq (oQ [O 130 (.build [(.int .i64 (0)), (.int .i64 (0))] []), ⟨none, (.store 2 (.t 4) (.t 130)), none⟩, O 5 (.mv (I 16))] [2, 3, 7, 12, 13, 14, 16, 129, 130]) .ret) .skip)) (.seq (oQ [M 132 13, M 133 14, M 134 16, O 135 (.call (.f n_m_Div64) [(.t 132), (.t 133), (.t 134)]), M 131 135, O 136 (.ext (.t 131) 0), O 137 (.ext (.t 131) 1), M 17 136, M 18 137] [13, 14, 18, 129, 131, 132, 133, 134, 135, 136, 137]) (.seq (.ops [O 139 (.fad 1 (.t 2)), oF 140 1 139, O 141 (.conv .u64 (.t 140)), M 142 7, oX 143 .quo 141 142, O 144 (.fad 1 (.t 3)), oF 145 1 144, O 146 (.conv .u64 (.t 145)), M 147 16, oX 148 .quo 146 147, O 149 (.call (.f n_m_Mul64) [(.t 143), (.t 148)]), M 138 149, O 150 (.ext (.t 138) 0), O 151 (.ext (.t 138) 1), M 19 150, M 20 151] [⟨1, (.agg [.i .i64, .i .i64]), 0⟩, ⟨6, (.agg [.i .i64, .i .i64]), 0⟩] [(0, 3), (1, 3), (2, 3), (0, 5), (1, 5), (2, 5), (3, 5), (4, 5), (0, 6), (1, 6), (2, 6), (3, 6), (4, 6), (0, 7), (1, 7), (2, 7), (3, 7), (4, 7), (0, 8), (1, 8), (2, 8), (3, 8), (4, 8), (5, 8), (6, 8), (7, 8), (0, 9), (1, 9), (2, 9), (3, 9), (4, 9), (12, 13), (13, 14)] [2, 3, 7, 16, 138, 139, 140, 141, 142, 143, 144, 145, 146, 147, 148, 149, 150, 151]) (.seq (.seq (oQ [M 152 19, O 153 (.bin .gtr (.t 152) (.c (.int .u64 (0))))] [19, 152]) (.cond (.t 153) (.seq (oQ [O 154 (.build [(.int .i64 (0)), (.int .i64 (0))] []), ⟨none, (.store 2 (.t 4) (.t 154)), none⟩, O 5 (.mv (I 16))] [12, 17, 20, 153, 154]) .ret) .skip)) (.seq (oQ [M 155 12, M 156 17, M 157 20, O 158 (.call (.f n_ratio_signed) [(.t 155), (.t 156), (.t 157)]), O 159 (.ext (.t 158) 0), O 160 (.ext (.t 158) 1), ⟨none, (.store 2 (.t 4) (.t 159)), none⟩, M 5 160] [12, 17, 20, 153, 155, 156, 157, 158, 159, 160]) .ret)))))))))))))))⟩
def t_ratio_Sub : TFn := ⟨2, [.cell 4 true 2, .tmp 5], (.seq (oQ [O 2 (.boxL (.t 0)), O 3 (.boxL (.t 1)), O 4 (.allocL (.agg [(.int .i64 (0)), (.int .i64 (0))])), O 5 (.mv (I 0))] [0, 1, 5]) (.seq (.seq (oQ [oT 7 2 2, oT 8 2 3, O 9 (.call (.f n_ratio_check) [(.t 7), (.t 8)]), M 6 9] [7, 8, 9]) (.seq (oQ [M 10 6, O 11 (.bin .neq (.t 10) (I 0))] [10]) (.cond (.t 11) (.seq (oQ [O 12 (.build [(.int .i64 (0)), (.int .i64 (0))] []), M 13 6, ⟨none, (.store 2 (.t 4) (.t 12)), none⟩, M 5 13] [2, 3, 6, 11, 12, 13]) .ret) .skip))) (.seq (.ops [O 14 (.fad 0 (.t 3)), oF 15 1 14, O 16 (.un .neg (.t 15)), O 17 (.fad 0 (.t 3)), ⟨none, (.store 1 (.t 17) (.t 16)), none⟩] [⟨1, (.agg [.i .i64, .i .i64]), 0⟩, ⟨4, (.agg [.i .i64, .i .i64]), 0⟩] [] [6, 11, 14, 15, 16, 17]) (.seq (oQ [oT 18 2 2, oT 19 2 3, O 20 (.call (.f n_ratio_Add) [(.t 18), (.t 19)]), O 21 (.ext (.t 20) 0), O 22 (.ext (.t 20) 1), ⟨none, (.store 2 (.t 4) (.t 21)), none⟩, M 5 22] [2, 3, 18, 19, 20, 21, 22]) .ret))))⟩
def t_ratio_Mul : TFn := ⟨2, [.cell 4 true 2, .tmp 5], (.seq (oQ [O 2 (.boxL (.t 0)), O 3 (.boxL (.t 1)), O 4 (.allocL (.agg [(.int .i64 (0)), (.int .i64 (0))])), O 5 (.mv (I 0))] [0, 1, 5]) (.seq (.seq (oQ [oT 17 2 2, oT 18 2 3, O 19 (.call (.f n_ratio_check) [(.t 17), (.t 18)]), M 6 19] [17, 18, 19]) (.seq (oQ [M 20 6, O 21 (.bin .neq (.t 20) (I 0))] [20]) (.cond (.t 21) (.seq (oQ [O 22 (.build [(.int .i64 (0)), (.int .i64 (0))] []), M 23 6, ⟨none, (.store 2 (.t 4) (.t 22)), none⟩, M 5 23] [2, 3, 6, 21, 22, 23]) .ret) .skip))) (.seq (.ops [O 24 (.fad 0 (.t 2)), oF 25 1 24, O 26 (.call (.f n_ratio_size) [(.t 25)]), O 27 (.fad 1 (.t 2)), oF 28 1 27, O 29 (.conv .u64 (.t 28)), O 30 (.fad 0 (.t 3)), oF 31 1 30, O 32 (.call (.f n_ratio_size) [(.t 31)]), O 33 (.fad 1 (.t 3)), oF 34 1 33, O 35 (.conv .u64 (.t 34)), M 7 26, M 8 29, M 9 32, M 10 35] [⟨1, (.agg [.i .i64, .i .i64]), 0⟩, ⟨4, (.agg [.i .i64, .i .i64]), 0⟩, ⟨7, (.agg [.i .i64, .i .i64]), 0⟩, ⟨10, (.agg [.i .i64, .i .i64]), 0⟩] [(0, 3), (1, 3), (2, 3), (0, 4), (1, 4), (2, 4), (0, 5), (1, 5), (2, 5), (0, 6), (1, 6), (2, 6), (3, 6), (4, 6), (5, 6), (0, 7), (1, 7), (2, 7), (3, 7), (4, 7), (5, 7), (3, 8), (4, 8), (5, 8), (0, 9), (1, 9), (2, 9), (3, 9), (4, 9), (5, 9), (6, 9), (7, 9), (8, 9), (0, 10), (1, 10), (2, 10), (3, 10), (4, 10), (5, 10), (6, 10), (7, 10), (8, 10), (0, 11), (1, 11), (2, 11), (3, 11), (4, 11), (5, 11), (6, 11), (7, 11), (8, 11), (3, 12), (4, 12), (5, 12), (9, 12), (10, 12), (11, 12), (9, 13), (10, 13), (11, 13), (9, 14), (10, 14), (11, 14)] [6, 21, 24, 25, 26, 27, 28, 29, 30, 31, 32, 33, 34, 35]) (.seq (oQ [M 36 7, M 37 10, O 38 (.call (.f n_ratio_gcd) [(.t 36), (.t 37)]), M 39 9, M 40 8, O 41 (.call (.f n_ratio_gcd) [(.t 39), (.t 40)]), M 11 38, M 12 41] [36, 37, 38, 39, 40, 41]) (.seq (.ops [M 43 7, M 44 11, oX 45 .quo 43 44, M 46 9, M 47 12, oX 48 .quo 46 47, O 49 (.call (.f n_m_Mul64) [(.t 45), (.t 48)]), M 42 49, O 50 (.ext (.t 42) 0), O 51 (.ext (.t 42) 1), M 13 50, M 14 51] [] [(0, 1), (0, 3), (1, 3), (2, 3), (0, 4), (1, 4), (2, 4), (3, 4), (0, 5), (1, 5), (2, 5), (8, 9), (9, 10)] [7, 9, 42, 43, 44, 45, 46, 47, 48, 49, 50, 51]) (.seq (.ops [M 53 8, M 54 12, oX 55 .quo 53 54, M 56 10, M 57 11, oX 58 .quo 56 57, O 59 (.call (.f n_m_Mul64) [(.t 55), (.t 58)]), M 52 59, O 60 (.ext (.t 52) 0), O 61 (.ext (.t 52) 1), M 15 60, M 16 61] [] [(0, 1), (0, 3), (1, 3), (2, 3), (0, 4), (1, 4), (2, 4), (3, 4), (0, 5), (1, 5), (2, 5), (8, 9), (9, 10)] [8, 10, 11, 12, 52, 53, 54, 55, 56, 57, 58, 59, 60, 61]) (.seq (.seq (oQ [M 62 13, M 63 15, oX 64 .add 62 63, O 65 (.bin .gtr (.t 64) (.c (.int .u64 (0))))] [13, 15, 62, 63, 64]) (.cond (.t 65) (.seq (oQ [O 66 (.build [(.int .i64 (0)), (.int .i64 (0))] []), ⟨none, (.store 2 (.t 4) (.t 66)), none⟩, O 5 (.mv (I 16))] [2, 3, 14, 16, 65, 66]) .ret) .skip)) (.seq (.ops [M 67 14, O 68 (.bin .gtr (.t 67) (.c (.int .u64 (0)))), M 69 68, ⟨some 70, (.fad 0 (.t 2)), some (69, true)⟩, ⟨some 71, (.load false 1 (.t 70)), some (69, true)⟩, ⟨some 72, (.bin .lss (.t 71) (I 0)), some (69, true)⟩, ⟨some 73, (.fad 0 (.t 3)), some (69, true)⟩, ⟨some 74, (.load false 1 (.t 73)), some (69, true)⟩, ⟨some 75, (.bin .lss (.t 74) (I 0)), some (69, true)⟩, ⟨some 76, (.eqB true (.t 72) (.t 75)), some (69, true)⟩, O 77 (.pick (.t 69) (.t 76) (.c (.bool false))), M 78 14, M 79 16, O 80 (.call (.f n_ratio_signed) [(.t 77), (.t 78), (.t 79)]), O 81 (.ext (.t 80) 0), O 82 (.ext (.t 80) 1), ⟨none, (.store 2 (.t 4) (.t 81)), none⟩, M 5 82] [⟨4, (.agg [.i .i64, .i .i64]), 0⟩, ⟨7, (.agg [.i .i64, .i .i64]), 0⟩] [] [2, 3, 14, 16, 65, 67, 68, 69, 70, 71, 72, 73, 74, 75, 76, 77, 78, 79, 80, 81, 82]) .ret))))))))⟩
def t_ratio_Div : TFn := ⟨2, [.cell 4 true 2, .tmp 5], (.seq (oQ [O 2 (.boxL (.t 0)), O 3 (.boxL (.t 1)), O 4 (.allocL (.agg [(.int .i64 (0)), (.int .i64 (0))])), O 5 (.mv (I 0))] [0, 1, 5]) (.seq (.seq (oQ [oT 7 2 2, oT 8 2 3, O 9 (.call (.f n_ratio_check) [(.t 7), (.t 8)]), M 6 9] [7, 8, 9]) (.seq (oQ [M 10 6, O 11 (.bin .neq (.t 10) (I 0))] [10]) (.cond (.t 11) (.seq (oQ [O 12 (.build [(.int .i64 (0)), (.int .i64 (0))] []), M 13 6, ⟨none, (.store 2 (.t 4) (.t 12)), none⟩, M 5 13] [2, 3, 6, 11, 12, 13]) .ret) .skip))) (.seq (.block 0 (.seq (.ops [O 15 (.fad 0 (.t 3)), oF 16 1 15, O 17 (.bin .eql (.t 16) (I 0)), M 14 17] [⟨1, (.agg [.i .i64, .i .i64]), 0⟩] [] [6, 11, 15, 16, 17]) (.cond (.t 14) (.seq (oQ [O 18 (.build [(.int .i64 (0)), (.int .i64 (0))] []), ⟨none, (.store 2 (.t 4) (.t 18)), none⟩, O 5 (.mv (I 18))] [2, 3, 14, 18]) .ret) (.seq (.ops [O 20 (.fad 0 (.t 3)), oF 21 1 20, O 22 (.bin .lss (.t 21) (I 0)), M 19 22] [⟨1, (.agg [.i .i64, .i .i64]), 0⟩] [] [14, 20, 21, 22]) (.cond (.t 19) (.seq (.ops [oT 23 2 2, O 24 (.fad 1 (.t 3)), oF 25 1 24, O 26 (.un .neg (.t 25)), O 27 (.fad 0 (.t 3)), oF 28 1 27, O 29 (.un .neg (.t 28)), O 30 (.build [(.int .i64 (0)), (.int .i64 (0))] [(0, 1, (.t 26)), (1, 1, (.t 29))]), O 31 (.call (.f n_ratio_Mul) [(.t 23), (.t 30)]), O 32 (.ext (.t 31) 0), O 33 (.ext (.t 31) 1), ⟨none, (.store 2 (.t 4) (.t 32)), none⟩, M 5 33] [⟨2, (.agg [.i .i64, .i .i64]), 0⟩, ⟨5, (.agg [.i .i64, .i .i64]), 0⟩] [] [2, 3, 19, 23, 24, 25, 26, 27, 28, 29, 30, 31, 32, 33]) .ret) .skip))))) (.seq (.ops [oT 34 2 2, O 35 (.fad 1 (.t 3)), oF 36 1 35, O 37 (.fad 0 (.t 3)), oF 38 1 37, O 39 (.build [(.int .i64 (0)), (.int .i64 (0))] [(0, 1, (.t 36)), (1, 1, (.t 38))]), O 40 (.call (.f n_ratio_Mul) [(.t 34), (.t 39)]), O 41 (.ext (.t 40) 0), O 42 (.ext (.t 40) 1), ⟨none, (.store 2 (.t 4) (.t 41)), none⟩, M 5 42] [⟨2, (.agg [.i .i64, .i .i64]), 0⟩, ⟨4, (.agg [.i .i64, .i .i64]), 0⟩] [] [2, 3, 19, 34, 35, 36, 37, 38, 39, 40, 41, 42]) .ret))))⟩
def t_cake_Mark_1 : TFn := ⟨7, [.tmp 11], (.seq (oQ [O 7 (.boxL (.t 0)), O 8 (.boxL (.t 1)), O 9 (.boxL (.t 2)), O 11 (.mv (.c (.bool false)))] [0, 1, 2, 8, 11]) (.seq (.seq (oQ [M 16 3, O 17 (.bin .eql (.t 16) (I 0))] [16]) (.cond (.t 17) (.seq (oQ [O 11 (.mv (.c (.bool false)))] [3, 4, 5, 6, 7, 9, 17]) .ret) .skip)) (.seq (.seq (oQ [oT 18 2 9, oT 19 2 4, O 20 (.call (.f n_cake_less) [(.t 18), (.t 19)])] [17, 18, 19]) (.cond (.t 20) (.seq (oQ [oT 22 2 4, oT 23 2 9, O 24 (.call (.f n_ratio_Sub) [(.t 22), (.t 23)]), M 21 24, O 25 (.ext (.t 21) 0), O 26 (.ext (.t 21) 1), O 12 (.allocL (.agg [(.int .i64 (0)), (.int .i64 (0))])), ⟨none, (.store 2 (.t 12) (.t 25)), none⟩, M 13 26] [3, 6, 7, 9, 20, 21, 22, 23, 24, 25, 26]) (.seq (oQ [oT 27 2 12, ⟨none, (.store 2 (.t 4) (.t 27)), none⟩, ⟨none, (.store 1 (.t 5) (I 6)), none⟩] [4, 12, 27]) (.seq (.seq (oQ [M 28 13, O 29 (.bin .neq (.t 28) (I 0))] [28]) (.cond (.t 29) (oQ [M 30 13, ⟨none, (.store 1 (.t 5) (.t 30)), none⟩] [5, 29, 30]) .skip)) (.seq (oQ [M 31 13, O 32 (.bin .neq (.t 31) (I 0)), M 11 32] [5, 13, 29, 31, 32]) .ret)))) .skip)) (.seq (.ops [oT 34 2 4, M 35 3, O 36 (.call (.f n_cake_whole) [(.t 35)]), O 37 (.call (.f n_ratio_Div) [(.t 34), (.t 36)]), M 33 37, O 38 (.ext (.t 33) 0), O 39 (.ext (.t 33) 1), O 14 (.allocL (.agg [(.int .i64 (0)), (.int .i64 (0))])), ⟨none, (.store 2 (.t 14) (.t 38)), none⟩, M 15 39] [] [(0, 1), (0, 2), (5, 6), (0, 7), (1, 7), (2, 7), (3, 7), (4, 7), (5, 7), (6, 7), (6, 8)] [3, 4, 9, 20, 33, 34, 35, 36, 37, 38, 39]) (.seq (.seq (oQ [M 40 15, O 41 (.bin .eql (.t 40) (I 0))] [40]) (.cond (.t 41) (oQ [oT 43 2 7, oT 44 2 14, O 45 (.call (.f n_ratio_Add) [(.t 43), (.t 44)]), M 42 45, O 46 (.ext (.t 42) 0), O 47 (.ext (.t 42) 1), ⟨none, (.store 2 (.t 6) (.t 46)), none⟩, M 15 47] [6, 7, 14, 41, 42, 43, 44, 45, 46, 47]) .skip)) (.seq (oQ [M 48 15, ⟨none, (.store 1 (.t 5) (.t 48)), none⟩] [5, 6, 7, 14, 15, 41, 48]) (.seq (oQ [O 11 (.mv (.c (.bool true)))] []) .ret)))))))⟩
def b_41613500 : TCode := (.seq (oQ [oX 17 .lss 16 15] []) (.seq (.cond (.t 17) .skip (.exit 0)) (.seq (.block 1 (.seq (.ops [M 18 16, O 19 (.iad 1 (.t 14) (.t 16)), oF 20 1 19, M 7 18, M 8 20] [⟨1, (.one (.i .i64)), 0⟩, ⟨2, (.one (.i .i64)), 0⟩] [] [17, 18, 19, 20]) (.seq (.ops [O 21 (.fad 1 (.t 3)), oF 22 1 21, M 23 7, O 24 (.bin .add (.t 23) (I 1)), O 25 (.iad 1 (.t 22) (.t 24)), oF 26 1 25, O 27 (.call (.f n_cake_whole) [(.t 26)]), O 9 (.allocL (.agg [(.int .i64 (0)), (.int .i64 (0))])), ⟨none, (.store 2 (.t 9) (.t 27)), none⟩] [⟨1, (.agg [.i .i64, .d, .d]), 0⟩, ⟨4, (.one (.i .i64)), 0⟩, ⟨5, (.one (.i .i64)), 0⟩] [] [7, 21, 22, 23, 24, 25, 26, 27]) (.seq (.seq (oQ [oT 28 2 4, oT 29 2 9, O 30 (.call (.f n_cake_less) [(.t 28), (.t 29)]), O 31 (.un .not (.t 30))] [28, 29, 30]) (.cond (.t 31) (.exit 1) .skip)) (.seq (oQ [O 32 (.call (.f n_cake_whole) [(I 0)]), O 10 (.allocL (.agg [(.int .i64 (0)), (.int .i64 (0))])), ⟨none, (.store 2 (.t 10) (.t 32)), none⟩] [31, 32]) (.seq (.seq (oQ [M 33 8, O 34 (.bin .gtr (.t 33) (I 0))] [33]) (.cond (.t 34) (.seq (oQ [oT 36 2 9, oT 37 2 4, O 38 (.call (.f n_ratio_Sub) [(.t 36), (.t 37)]), M 35 38, O 39 (.ext (.t 35) 0), O 40 (.ext (.t 35) 1), O 11 (.allocL (.agg [(.int .i64 (0)), (.int .i64 (0))])), ⟨none, (.store 2 (.t 11) (.t 39)), none⟩, M 12 40] [34, 35, 36, 37, 38, 39, 40]) (.seq (.seq (oQ [M 41 12, O 42 (.bin .neq (.t 41) (I 0))] [41]) (.cond (.t 42) (.seq (oQ [M 43 12, M 6 43] [2, 3, 4, 8, 9, 10, 11, 12, 14, 15, 16, 42, 43]) .ret) .skip)) (.seq (.ops [oT 45 2 11, M 46 8, O 47 (.call (.f n_cake_whole) [(.t 46)]), O 48 (.call (.f n_ratio_Mul) [(.t 45), (.t 47)]), M 44 48, O 49 (.ext (.t 44) 0), O 50 (.ext (.t 44) 1), ⟨none, (.store 2 (.t 10) (.t 49)), none⟩, M 12 50] [] [(0, 1), (0, 2), (5, 6), (6, 7)] [11, 42, 44, 45, 46, 47, 48, 49, 50]) (.seq (oQ [M 51 12, O 52 (.bin .neq (.t 51) (I 0))] [51]) (.cond (.t 52) (.seq (oQ [M 53 12, M 6 53] [2, 3, 4, 8, 9, 10, 12, 14, 15, 16, 52, 53]) .ret) .skip))))) .skip)) (.seq (.seq (oQ [M 54 2, oT 55 2 4, oT 56 2 9, oT 57 2 10, M 58 8, O 59 (.call (.t 54) [(.t 55), (.t 56), (.t 57), (.t 58)])] [8, 10, 12, 34, 52, 54, 55, 56, 57, 58]) (.cond (.t 59) (.seq (oQ [O 6 (.mv (I 0))] [2, 3, 4, 9, 14, 15, 16, 59]) .ret) .skip)) (oQ [oT 60 2 9, ⟨none, (.store 2 (.t 4) (.t 60)), none⟩] [9, 59, 60])))))))) (oQ [O 61 (.bin .add (.t 16) (I 1)), M 16 61] [8, 9, 31, 61]))))
def t_cake_walk : TFn := ⟨3, [.tmp 6], (.seq (oQ [O 3 (.boxL (.t 0)), O 4 (.boxL (.t 1)), O 6 (.mv (I 0))] [0, 1, 6]) (.seq (.seq (.ops [O 13 (.fad 2 (.t 3)), oF 14 1 13, O 15 (.len (.t 14)), O 16 (.mv (I 0))] [⟨1, (.agg [.i .i64, .d, .d]), 0⟩] [] [13]) (.block 0 (.loop 41613500 b_41613500))) (.seq (oQ [O 6 (.mv (I 0))] [2, 3, 4, 14, 15, 16, 17]) .ret)))⟩
def t_cake_Mark : TFn := ⟨3, [.cell 6 true 2, .tmp 7], (.seq (oQ [O 3 (.boxL (.t 0)), O 4 (.boxL (.t 1)), O 5 (.boxH true 2 (.t 2)), O 6 (.allocL (.agg [(.int .i64 (0)), (.int .i64 (0))])), O 7 (.mv (I 0))] [0, 1, 2, 7]) (.seq (.seq (oQ [oT 12 3 3, O 13 (.call (.f n_cake_Check) [(.t 12)]), M 8 13] [12, 13]) (.seq (oQ [M 14 8, O 15 (.bin .neq (.t 14) (I 0))] [14]) (.cond (.t 15) (.seq (oQ [O 16 (.build [(.int .i64 (0)), (.int .i64 (0))] []), M 17 8, ⟨none, (.store 2 (.t 6) (.t 16)), none⟩, M 7 17] [3, 4, 5, 8, 15, 16, 17]) .ret) .skip))) (.seq (.seq (.ops [oT 18 3 3, oT 19 2 4, O 20 (.call (.f n_cake_point) [(.t 18), (.t 19)]), O 21 (.un .not (.t 20)), M 22 21, ⟨some 23, (.load true 2 (.t 5)), some (22, false)⟩, ⟨some 24, (.call (.f n_ratio_Check) [(.t 23)]), some (22, false)⟩, ⟨some 25, (.bin .neq (.t 24) (I 0)), some (22, false)⟩, O 26 (.pick (.t 22) (.c (.bool true)) (.t 25)), M 27 26, ⟨some 28, (.fad 0 (.t 5)), some (27, false)⟩, ⟨some 29, (.load false 1 (.t 28)), some (27, false)⟩, ⟨some 30, (.bin .lss (.t 29) (I 0)), some (27, false)⟩, O 31 (.pick (.t 27) (.c (.bool true)) (.t 30))] [⟨5, (.agg [.i .i64, .i .i64]), 0⟩, ⟨11, (.agg [.i .i64, .i .i64]), 0⟩] [] [8, 15, 18, 19, 20, 21, 22, 23, 24, 25, 26, 27, 28, 29, 30]) (.cond (.t 31) (.seq (oQ [O 32 (.build [(.int .i64 (0)), (.int .i64 (0))] []), ⟨none, (.store 2 (.t 6) (.t 32)), none⟩, O 7 (.mv (I 2))] [3, 4, 5, 31, 32]) .ret) .skip)) (.seq (.seq (.ops [O 33 (.fad 0 (.t 5)), oF 34 1 33, O 35 (.bin .eql (.t 34) (I 0))] [⟨1, (.agg [.i .i64, .i .i64]), 0⟩] [] [31, 33, 34]) (.cond (.t 35) (.seq (oQ [oT 36 2 4, ⟨none, (.store 2 (.t 6) (.t 36)), none⟩, O 7 (.mv (I 0))] [3, 4, 5, 35, 36]) .ret) .skip)) (.seq (oQ [O 9 (.allocH true 2 (.agg [(.int .i64 (0)), (.int .i64 (0))]))] [35]) (.seq (.ops [O 10 (.allocH true 1 (.int .i64 (0))), ⟨none, (.store 1 (.t 10) (I 6)), none⟩] [⟨1, (.one (.i .i64)), 0⟩] [] []) (.seq (oQ [oT 37 3 3, oT 38 2 4, O 39 (.mkFn (.func n_cake_Mark_1) [] [(.t 5), (.t 10), (.t 9)]), O 40 (.call (.f n_cake_walk) [(.t 37), (.t 38), (.t 39)]), M 11 40] [3, 4, 5, 37, 38, 39, 40]) (.seq (.seq (oQ [M 41 11, O 42 (.bin .neq (.t 41) (I 0))] [41]) (.cond (.t 42) (.ops [M 43 11, ⟨none, (.store 1 (.t 10) (.t 43)), none⟩] [⟨1, (.one (.i .i64)), 0⟩] [] [11, 42, 43]) .skip)) (.seq (.seq (.ops [oF 44 1 10, O 45 (.bin .neq (.t 44) (I 0))] [⟨0, (.one (.i .i64)), 0⟩] [] [11, 42, 44]) (.cond (.t 45) (.seq (.ops [O 46 (.build [(.int .i64 (0)), (.int .i64 (0))] []), oF 47 1 10, ⟨none, (.store 2 (.t 6) (.t 46)), none⟩, M 7 47] [⟨1, (.one (.i .i64)), 0⟩] [(0, 1), (1, 2)] [9, 10, 45, 46, 47]) .ret) .skip)) (.seq (.ops [oT 48 2 9, ⟨none, (.store 2 (.t 6) (.t 48)), none⟩, O 7 (.mv (I 0))] [⟨0, (.agg [.i .i64, .i .i64]), 0⟩] [] [9, 10, 45, 48]) .ret))))))))))⟩
def t_ask_office_mark : TFn := ⟨4, [.cell 8 true 2, .tmp 9], (.seq (oQ [O 4 (.boxL (.t 0)), O 6 (.boxL (.t 2)), O 7 (.boxL (.t 3)), O 8 (.allocL (.agg [(.int .i64 (0)), (.int .i64 (0))])), O 9 (.mv (I 0))] [0, 2, 3, 9]) (.seq (.ops [O 10 (.fad 0 (.t 4)), O 11 (.fad 0 (.t 10)), oF 12 1 11, M 13 1, O 14 (.iad 3 (.t 12) (.t 13)), oT 15 3 14, oT 16 2 6, oT 17 2 7, O 18 (.call (.f n_cake_Mark) [(.t 15), (.t 16), (.t 17)]), O 19 (.ext (.t 18) 0), O 20 (.ext (.t 18) 1), ⟨none, (.store 2 (.t 8) (.t 19)), none⟩, M 9 20] [⟨2, (.agg [.d, .d]), 0⟩, ⟨4, (.agg [.i .i64, .d, .d]), 0⟩, ⟨5, (.agg [.i .i64, .d, .d]), 0⟩] [(0, 3), (1, 3), (2, 3), (0, 6), (1, 6), (2, 6), (3, 6), (4, 6), (5, 6), (0, 7), (1, 7), (2, 7), (3, 7), (4, 7), (5, 7), (6, 7), (9, 10)] [1, 4, 6, 7, 10, 11, 12, 13, 14, 15, 16, 17, 18, 19, 20]) .ret))⟩
def t_ask_office_has : TFn := ⟨2, [.tmp 4], (.seq (oQ [O 2 (.boxL (.t 0)), O 4 (.mv (.c (.bool false)))] [0, 4]) (.seq (.ops [M 5 1, O 6 (.bin .geq (.t 5) (I 0)), M 7 6, ⟨some 8, (.mv (.t 1)), some (7, true)⟩, ⟨some 9, (.fad 0 (.t 2)), some (7, true)⟩, ⟨some 10, (.fad 0 (.t 9)), some (7, true)⟩, ⟨some 11, (.load false 1 (.t 10)), some (7, true)⟩, ⟨some 12, (.len (.t 11)), some (7, true)⟩, ⟨some 13, (.bin .lss (.t 8) (.t 12)), some (7, true)⟩, O 14 (.pick (.t 7) (.t 13) (.c (.bool false))), M 4 14] [⟨6, (.agg [.d, .d]), 0⟩] [] [1, 2, 5, 6, 7, 8, 9, 10, 11, 12, 13, 14]) .ret))⟩
def t_ask_office_ask : TFn := ⟨3, [.cell 6 true 2, .cell 7 true 2, .tmp 8], (.seq (oQ [O 3 (.boxL (.t 0)), O 4 (.boxL (.t 1)), O 6 (.allocL (.agg [.nils, .nils])), O 7 (.allocL (.agg [(.int .i64 (0)), (.int .i64 (0))])), O 8 (.mv (I 0))] [0, 1, 8]) (.seq (.seq (.ops [O 13 (.fad 0 (.t 3)), oT 14 2 13, O 15 (.call (.f n_ask_Check) [(.t 14)]), M 9 15] [⟨1, (.agg [.d, .d]), 0⟩] [] [13, 14, 15]) (.seq (oQ [M 16 9, O 17 (.bin .neq (.t 16) (I 0))] [16]) (.cond (.t 17) (.seq (oQ [O 18 (.build [.nils, .nils] []), O 19 (.build [(.int .i64 (0)), (.int .i64 (0))] []), M 20 9, ⟨none, (.store 2 (.t 6) (.t 18)), none⟩, ⟨none, (.store 2 (.t 7) (.t 19)), none⟩, M 8 20] [2, 3, 4, 9, 17, 18, 19, 20]) .ret) .skip))) (.seq (.seq (.ops [oT 21 2 3, O 22 (.fad 0 (.t 4)), oF 23 1 22, O 24 (.call (.f n_ask_office_has) [(.t 21), (.t 23)]), O 25 (.un .not (.t 24))] [⟨2, (.agg [.i .i64, .i .u8, .i .i64, .i .i64, .i .i64, .i .i64, .i .i64, .i .i64]), 0⟩] [] [9, 17, 21, 22, 23, 24]) (.cond (.t 25) (.seq (oQ [O 26 (.build [.nils, .nils] []), O 27 (.build [(.int .i64 (0)), (.int .i64 (0))] []), ⟨none, (.store 2 (.t 6) (.t 26)), none⟩, ⟨none, (.store 2 (.t 7) (.t 27)), none⟩, O 8 (.mv (I 2))] [2, 3, 4, 25, 26, 27]) .ret) .skip)) (.seq (.ops [M 29 2, O 30 (.fad 0 (.t 4)), oF 31 1 30, O 32 (.fad 2 (.t 4)), oT 33 2 32, O 34 (.fad 4 (.t 4)), oT 35 2 34, O 36 (.call (.t 29) [(.t 31), (.t 33), (.t 35)]), M 28 36, O 37 (.ext (.t 28) 0), O 38 (.ext (.t 28) 1), O 10 (.allocL (.agg [(.int .i64 (0)), (.int .i64 (0))])), ⟨none, (.store 2 (.t 10) (.t 37)), none⟩, M 11 38] [⟨2, (.agg [.i .i64, .i .u8, .i .i64, .i .i64, .i .i64, .i .i64, .i .i64, .i .i64]), 0⟩, ⟨4, (.agg [.i .i64, .i .u8, .i .i64, .i .i64, .i .i64, .i .i64, .i .i64, .i .i64]), 0⟩, ⟨6, (.agg [.i .i64, .i .u8, .i .i64, .i .i64, .i .i64, .i .i64, .i .i64, .i .i64]), 0⟩] [] [2, 25, 28, 29, 30, 31, 32, 33, 34, 35, 36, 37, 38]) (.seq (.seq (oQ [M 39 11, O 40 (.bin .neq (.t 39) (I 0))] [39]) (.cond (.t 40) (.seq (oQ [O 41 (.build [.nils, .nils] []), O 42 (.build [(.int .i64 (0)), (.int .i64 (0))] []), M 43 11, ⟨none, (.store 2 (.t 6) (.t 41)), none⟩, ⟨none, (.store 2 (.t 7) (.t 42)), none⟩, M 8 43] [3, 4, 10, 11, 40, 41, 42, 43]) .ret) .skip)) (.seq (.seq (.ops [O 44 (.fad 0 (.t 3)), O 45 (.fad 1 (.t 44)), oF 46 1 45, O 47 (.len (.t 46)), O 48 (.bin .geq (.t 47) (I 2000))] [⟨2, (.agg [.d, .d]), 0⟩] [] [11, 40, 44, 45, 46, 47]) (.cond (.t 48) (.seq (oQ [O 49 (.build [.nils, .nils] []), O 50 (.build [(.int .i64 (0)), (.int .i64 (0))] []), ⟨none, (.store 2 (.t 6) (.t 49)), none⟩, ⟨none, (.store 2 (.t 7) (.t 50)), none⟩, O 8 (.mv (I 4))] [3, 4, 10, 48, 49, 50]) .ret) .skip)) (.seq (.ops [oT 51 2 10, O 52 (.fad 6 (.t 4)), ⟨none, (.store 2 (.t 52) (.t 51)), none⟩] [⟨2, (.agg [.i .i64, .i .u8, .i .i64, .i .i64, .i .i64, .i .i64, .i .i64, .i .i64]), 0⟩] [] [48, 51, 52]) (.seq (.ops [O 53 (.fad 0 (.t 3)), O 54 (.fad 1 (.t 53)), oF 55 1 54, O 56 (.len (.t 55)), O 57 (.bin .add (.t 56) (I 1)), O 58 (.mkSl true 8 64 (.agg [(.int .i64 (0)), (.int .u8 (0)), (.int .i64 (0)), (.int .i64 (0)), (.int .i64 (0)), (.int .i64 (0)), (.int .i64 (0)), (.int .i64 (0))]) (I 0) (.t 57)), M 12 58] [⟨2, (.agg [.d, .d]), 0⟩] [] [53, 54, 55, 56, 57, 58]) (.seq (.ops [O 59 (.fad 0 (.t 3)), O 60 (.fad 0 (.t 59)), oF 61 1 60, O 62 (.call (.f n_ask_copied) [(.t 61)]), M 63 12, O 64 (.fad 0 (.t 3)), O 65 (.fad 1 (.t 64)), oF 66 1 65, O 67 (.app true 8 64 (.t 63) (.t 66)), oT 68 8 4, O 69 (.buildD 8 (.agg [(.int .i64 (0)), (.int .u8 (0)), (.int .i64 (0)), (.int .i64 (0)), (.int .i64 (0)), (.int .i64 (0)), (.int .i64 (0)), (.int .i64 (0))]) 1 [(0, (.t 68))]), O 70 (.app true 8 64 (.t 67) (.t 69)), O 71 (.build [.nils, .nils] [(0, 1, (.t 62)), (1, 1, (.t 70))]), oT 72 2 10, ⟨none, (.store 2 (.t 6) (.t 71)), none⟩, ⟨none, (.store 2 (.t 7) (.t 72)), none⟩, O 8 (.mv (I 0))] [⟨2, (.agg [.d, .d]), 0⟩, ⟨7, (.agg [.d, .d]), 0⟩] [(0, 4), (1, 4), (2, 4), (3, 4), (0, 5), (1, 5), (2, 5), (3, 5), (4, 5), (0, 6), (1, 6), (2, 6), (3, 6), (4, 6), (0, 7), (1, 7), (2, 7), (3, 7), (4, 7), (0, 9), (1, 9), (2, 9), (3, 9), (4, 9), (5, 9), (6, 9), (7, 9), (8, 9), (0, 10), (1, 10), (2, 10), (3, 10), (4, 10), (5, 10), (6, 10), (7, 10), (8, 10), (0, 13), (1, 13), (2, 13), (3, 13), (4, 13), (5, 13), (6, 13), (7, 13), (8, 13), (9, 13), (10, 13), (11, 13), (12, 13), (13, 14)] [3, 4, 10, 12, 59, 60, 61, 62, 63, 64, 65, 66, 67, 68, 69, 70, 71, 72]) .ret)))))))))⟩
def t_ask_Mark : TFn := ⟨4, [.cell 8 true 2, .cell 9 true 2, .tmp 10], (.seq (oQ [O 4 (.boxL (.t 0)), O 6 (.boxL (.t 2)), O 7 (.boxL (.t 3)), O 8 (.allocL (.agg [.nils, .nils])), O 9 (.allocL (.agg [(.int .i64 (0)), (.int .i64 (0))])), O 10 (.mv (I 0))] [0, 2, 3, 10]) (.seq (oQ [oT 12 2 4, O 13 (.build [.nils, .nils] [(0, 2, (.t 12))]), O 11 (.allocL (.agg [.nils, .nils])), ⟨none, (.store 2 (.t 11) (.t 13)), none⟩] [4, 12, 13]) (.seq (oQ [oT 14 2 11, M 15 1, oT 16 2 6, oT 17 2 7, O 18 (.build [(.int .i64 (0)), (.int .u8 (0)), (.int .i64 (0)), (.int .i64 (0)), (.int .i64 (0)), (.int .i64 (0)), (.int .i64 (0)), (.int .i64 (0))] [(0, 1, (.t 15)), (1, 1, (.c (.int .u8 (2)))), (2, 2, (.t 16)), (4, 2, (.t 17))]), oT 19 2 11, O 20 (.mkFn (.func n_ask_office_mark) [(.t 19)] []), O 21 (.call (.f n_ask_office_ask) [(.t 14), (.t 18), (.t 20)]), O 22 (.ext (.t 21) 0), O 23 (.ext (.t 21) 1), O 24 (.ext (.t 21) 2), ⟨none, (.store 2 (.t 8) (.t 22)), none⟩, ⟨none, (.store 2 (.t 9) (.t 23)), none⟩, M 10 24] [1, 6, 7, 11, 14, 15, 16, 17, 18, 19, 20, 21, 22, 23, 24]) .ret)))⟩
def t_knife_less : TFn := ⟨2, [.tmp 4], (.seq (oQ [O 2 (.boxL (.t 0)), O 3 (.boxL (.t 1)), O 4 (.mv (.c (.bool false)))] [0, 1, 4]) (.seq (oQ [oT 8 2 2, oT 9 2 3, O 10 (.call (.f n_ratio_Cmp) [(.t 8), (.t 9)]), M 7 10, O 11 (.ext (.t 7) 0), O 12 (.ext (.t 7) 1), M 5 11, M 6 12] [2, 3, 6, 7, 8, 9, 10, 11, 12]) (.seq (oQ [M 13 5, O 14 (.bin .lss (.t 13) (I 0)), M 4 14] [5, 13, 14]) .ret)))⟩
def b_29600600 : TCode := (.seq (oQ [oX 33 .lss 32 31] []) (.seq (.cond (.t 33) .skip (.exit 0)) (.seq (.block 1 (.seq (oQ [M 34 32, M 8 34] [33, 34]) (oQ [M 35 7, M 36 8, O 37 (.buildD 1 (.int .i64 (0)) 1 [(0, (.t 36))]), O 38 (.app true 1 8 (.t 35) (.t 37)), M 7 38] [8, 35, 36, 37, 38]))) (oQ [O 39 (.bin .add (.t 32) (I 1)), M 32 39] [39]))))
def b_29600601 : TCode := (.seq (oQ [oX 52 .lss 51 50] []) (.seq (.cond (.t 52) .skip (.exit 4)) (.seq (.block 5 (.seq (.ops [M 53 51, O 54 (.iad 1 (.t 49) (.t 51)), oF 55 1 54, M 12 53, M 13 55] [⟨1, (.one (.i .i64)), 0⟩, ⟨2, (.one (.i .i64)), 0⟩] [] [52, 53, 54, 55]) (.seq (.ops [oT 57 2 6, M 58 13, oT 59 2 9, M 60 0, M 61 13, O 62 (.iad 3 (.t 60) (.t 61)), oT 63 3 62, M 64 0, O 65 (.len (.t 64)), O 66 (.call (.f n_knife_part) [(.t 63), (.t 65)]), O 67 (.call (.f n_ask_Mark) [(.t 57), (.t 58), (.t 59), (.t 66)]), M 56 67, O 68 (.ext (.t 56) 0), O 69 (.ext (.t 56) 1), O 70 (.ext (.t 56) 2), O 14 (.allocL (.agg [.nils, .nils])), O 15 (.allocL (.agg [(.int .i64 (0)), (.int .i64 (0))])), ⟨none, (.store 2 (.t 14) (.t 68)), none⟩, ⟨none, (.store 2 (.t 15) (.t 69)), none⟩, M 16 70] [⟨5, (.agg [.i .i64, .d, .d]), 0⟩, ⟨6, (.agg [.i .i64, .d, .d]), 0⟩] [(0, 1), (0, 2), (1, 2), (0, 3), (1, 3), (2, 3), (0, 4), (1, 4), (2, 4), (3, 4), (0, 5), (1, 5), (2, 5), (0, 6), (1, 6), (2, 6), (0, 7), (1, 7), (2, 7), (3, 7), (4, 7), (5, 7), (6, 7), (0, 8), (1, 8), (2, 8), (3, 8), (4, 8), (5, 8), (6, 8), (0, 9), (1, 9), (2, 9), (12, 13), (12, 14), (13, 14), (0, 15), (1, 15), (2, 15), (3, 15), (4, 15), (5, 15), (6, 15), (7, 15), (8, 15), (9, 15), (10, 15), (11, 15), (12, 15), (13, 15), (14, 15), (0, 16), (1, 16), (2, 16), (3, 16), (4, 16), (5, 16), (6, 16), (7, 16), (8, 16), (9, 16), (10, 16), (11, 16), (12, 16), (13, 16), (14, 16), (15, 16), (13, 17), (14, 17), (14, 18)] [13, 56, 57, 58, 59, 60, 61, 62, 63, 64, 65, 66, 67, 68, 69, 70]) (.seq (.seq (oQ [M 71 16, O 72 (.bin .neq (.t 71) (I 0))] [71]) (.cond (.t 72) (.seq (oQ [O 73 (.build [.nils] []), M 74 16, ⟨none, (.store 1 (.t 2) (.t 73)), none⟩, O 3 (.mv (.c .nils)), O 4 (.mv (.c .nils)), M 5 74] [0, 6, 7, 9, 10, 11, 12, 14, 15, 16, 49, 50, 51, 72, 73, 74]) .ret) .skip)) (.seq (oQ [oT 75 2 14, ⟨none, (.store 2 (.t 6) (.t 75)), none⟩] [14, 16, 72, 75]) (.seq (oQ [M 76 12, O 77 (.bin .eql (.t 76) (I 0)), M 78 77, ⟨some 79, (.load true 2 (.t 15)), some (78, false)⟩, ⟨some 80, (.load true 2 (.t 11)), some (78, false)⟩, ⟨some 81, (.call (.f n_knife_less) [(.t 79), (.t 80)]), some (78, false)⟩, O 82 (.pick (.t 78) (.c (.bool true)) (.t 81))] [76, 77, 78, 79, 80, 81]) (.cond (.t 82) (.ops [M 83 12, oT 84 2 15, M 10 83, ⟨none, (.store 2 (.t 11) (.t 84)), none⟩] [] [(0, 1), (1, 2)] [12, 15, 82, 83, 84]) .skip))))))) (oQ [O 85 (.bin .add (.t 51) (I 1)), M 51 85] [12, 15, 82, 85]))))
def b_29600602 : TCode := (.seq (.seq (oQ [M 45 7, O 46 (.len (.t 45)), O 47 (.bin .gtr (.t 46) (I 1))] [45, 46]) (.cond (.t 47) .skip (.exit 2))) (.block 3 (.seq (oQ [O 48 (.build [(.int .i64 (0)), (.int .i64 (0))] []), O 11 (.allocL (.agg [(.int .i64 (0)), (.int .i64 (0))])), O 10 (.mv (I 0)), ⟨none, (.store 2 (.t 11) (.t 48)), none⟩] [47, 48]) (.seq (.seq (oQ [M 49 7, O 50 (.len (.t 49)), O 51 (.mv (I 0))] []) (.block 4 (.loop 29600601 b_29600601))) (.seq (.ops [M 86 7, M 87 10, O 88 (.iad 1 (.t 86) (.t 87)), oF 89 1 88, M 17 89] [⟨2, (.one (.i .i64)), 0⟩, ⟨3, (.one (.i .i64)), 0⟩] [] [49, 50, 51, 52, 86, 87, 88, 89]) (.seq (.ops [O 90 (.fad 0 (.t 2)), oF 91 1 90, M 92 17, oT 93 2 9, oT 94 2 11, O 95 (.build [(.int .i64 (0)), (.int .i64 (0)), (.int .i64 (0)), (.int .i64 (0))] [(0, 2, (.t 93)), (2, 2, (.t 94))]), O 96 (.buildD 4 (.agg [(.int .i64 (0)), (.int .i64 (0)), (.int .i64 (0)), (.int .i64 (0))]) 1 [(0, (.t 95))]), O 97 (.iad 1 (.t 91) (.t 92)), ⟨none, (.store 1 (.t 97) (.t 96)), none⟩] [⟨1, (.agg [.d]), 0⟩, ⟨7, (.one (.d)), 0⟩, ⟨8, (.one (.d)), 0⟩] [] [90, 91, 92, 93, 94, 95, 96, 97]) (.seq (oQ [M 98 3, M 99 17, O 100 (.buildD 1 (.int .i64 (0)) 1 [(0, (.t 99))]), O 101 (.app true 1 8 (.t 98) (.t 100)), M 3 101] [17, 98, 99, 100, 101]) (.seq (.ops [M 102 7, M 103 10, O 104 (.slc 1 (.t 102) none (some (.t 103)) none), M 105 7, M 106 10, O 107 (.bin .add (.t 106) (I 1)), O 108 (.slc 1 (.t 105) (some (.t 107)) none none), O 109 (.app true 1 8 (.t 104) (.t 108)), M 7 109] [] [(0, 1), (0, 3), (1, 3), (2, 3), (0, 4), (1, 4), (2, 4), (3, 4), (0, 5), (1, 5), (2, 5), (3, 5), (0, 6), (1, 6), (2, 6)] [10, 102, 103, 104, 105, 106, 107, 108, 109]) (oQ [oT 110 2 11, ⟨none, (.store 2 (.t 9) (.t 110)), none⟩] [11, 110])))))))))
def t_knife_Spans : TFn := ⟨1, [.cell 2 true 1, .tmp 3, .tmp 4, .tmp 5], (.seq (oQ [O 2 (.allocL (.agg [.nils])), O 3 (.mv (.c .nils)), O 4 (.mv (.c .nils)), O 5 (.mv (I 0))] [4, 5]) (.seq (oQ [M 19 0, O 20 (.call (.f n_ask_Open) [(.t 19)]), M 18 20, O 21 (.ext (.t 18) 0), O 22 (.ext (.t 18) 1), O 6 (.allocL (.agg [.nils, .nils])), ⟨none, (.store 2 (.t 6) (.t 21)), none⟩, M 5 22] [18, 19, 20, 21, 22]) (.seq (.seq (oQ [M 23 5, O 24 (.bin .neq (.t 23) (I 0))] [23]) (.cond (.t 24) (.seq (oQ [O 25 (.build [.nils] []), M 26 5, ⟨none, (.store 1 (.t 2) (.t 25)), none⟩, O 3 (.mv (.c .nils)), O 4 (.mv (.c .nils)), M 5 26] [0, 6, 24, 25, 26]) .ret) .skip)) (.seq (oQ [M 27 0, O 28 (.len (.t 27)), O 29 (.mkSl true 1 8 (.int .i64 (0)) (I 0) (.t 28)), M 7 29] [5, 24, 27, 28, 29]) (.seq (.seq (oQ [M 30 0, O 31 (.len (.t 30)), O 32 (.mv (I 0))] [30]) (.block 0 (.loop 29600600 b_29600600))) (.seq (.ops [M 40 0, O 41 (.len (.t 40)), O 42 (.mkSl true 1 24 (.data []) (.t 41) (.t 41)), O 43 (.fad 0 (.t 2)), ⟨none, (.store 1 (.t 43) (.t 42)), none⟩] [⟨4, (.agg [.d]), 0⟩] [] [31, 32, 33, 40, 41, 42, 43]) (.seq (oQ [O 44 (.call (.f n_knife_whole) [(I 0)]), O 9 (.allocL (.agg [(.int .i64 (0)), (.int .i64 (0))])), ⟨none, (.store 2 (.t 9) (.t 44)), none⟩] [44]) (.seq (.block 2 (.loop 29600602 b_29600602)) (.seq (.ops [O 111 (.fad 0 (.t 2)), oF 112 1 111, M 113 7, O 114 (.iad 1 (.t 113) (I 0)), oF 115 1 114, oT 116 2 9, M 117 0, O 118 (.iad 3 (.t 117) (I 0)), O 119 (.fad 0 (.t 118)), oF 120 1 119, O 121 (.call (.f n_knife_whole) [(.t 120)]), O 122 (.build [(.int .i64 (0)), (.int .i64 (0)), (.int .i64 (0)), (.int .i64 (0))] [(0, 2, (.t 116)), (2, 2, (.t 121))]), O 123 (.buildD 4 (.agg [(.int .i64 (0)), (.int .i64 (0)), (.int .i64 (0)), (.int .i64 (0))]) 1 [(0, (.t 122))]), O 124 (.iad 1 (.t 112) (.t 115)), ⟨none, (.store 1 (.t 124) (.t 123)), none⟩] [⟨1, (.agg [.d]), 0⟩, ⟨3, (.one (.i .i64)), 0⟩, ⟨4, (.one (.i .i64)), 0⟩, ⟨7, (.agg [.i .i64, .d, .d]), 0⟩, ⟨9, (.agg [.i .i64, .d, .d]), 0⟩, ⟨13, (.one (.d)), 0⟩, ⟨14, (.one (.d)), 0⟩] [(0, 2), (1, 2), (0, 3), (1, 3), (0, 4), (1, 4), (0, 5), (1, 5), (2, 5), (3, 5), (4, 5), (0, 6), (1, 6), (2, 6), (3, 6), (4, 6), (5, 6), (0, 7), (1, 7), (2, 7), (3, 7), (4, 7), (5, 7), (0, 8), (1, 8), (2, 8), (3, 8), (4, 8), (5, 8), (0, 9), (1, 9), (2, 9), (3, 9), (4, 9), (5, 9), (0, 10), (1, 10), (2, 10), (3, 10), (4, 10), (5, 10), (0, 11), (1, 11), (2, 11), (3, 11), (4, 11), (0, 12), (1, 12), (2, 12), (3, 12), (4, 12)] [0, 9, 47, 111, 112, 113, 114, 115, 116, 117, 118, 119, 120, 121, 122, 123, 124]) (.seq (.ops [oT 125 1 2, M 126 3, M 127 7, O 128 (.iad 1 (.t 127) (I 0)), oF 129 1 128, O 130 (.buildD 1 (.int .i64 (0)) 1 [(0, (.t 129))]), O 131 (.app true 1 8 (.t 126) (.t 130)), O 132 (.fad 1 (.t 6)), oF 133 1 132, ⟨none, (.store 1 (.t 2) (.t 125)), none⟩, M 3 131, M 4 133, O 5 (.mv (I 0))] [⟨3, (.one (.i .i64)), 0⟩, ⟨4, (.one (.i .i64)), 0⟩, ⟨8, (.agg [.d, .d]), 0⟩] [(0, 1), (0, 2), (1, 2), (0, 3), (1, 3), (0, 4), (1, 4), (0, 5), (1, 5), (0, 6), (0, 7), (1, 7), (2, 7), (3, 7), (4, 7), (5, 7), (6, 7), (0, 8), (1, 8), (2, 8), (3, 8), (4, 8), (5, 8), (6, 8), (7, 9), (8, 9), (7, 10), (8, 10)] [6, 7, 125, 126, 127, 128, 129, 130, 131, 132, 133]) .ret))))))))))⟩
def b_94526800 : TCode := (.seq (.seq (.ops [M 53 4, O 54 (.fad 2 (.t 1)), oF 55 1 54, O 56 (.len (.t 55)), oX 57 .lss 53 56] [⟨2, (.agg [.i .i64, .d, .d]), 0⟩] [] [53, 54, 55, 56]) (.cond (.t 57) .skip (.exit 0))) (.seq (.block 1 (.seq (.seq (.ops [O 60 (.fad 1 (.t 1)), oF 61 1 60, M 62 4, O 63 (.bin .add (.t 62) (I 1)), O 64 (.iad 1 (.t 61) (.t 63)), oF 65 1 64, O 66 (.fad 1 (.t 1)), oF 67 1 66, M 68 4, O 69 (.iad 1 (.t 67) (.t 68)), oF 70 1 69, oX 71 .leq 65 70, M 72 71, ⟨some 73, (.fad 2 (.t 1)), some (72, false)⟩, ⟨some 74, (.load false 1 (.t 73)), some (72, false)⟩, ⟨some 75, (.mv (.t 4)), some (72, false)⟩, ⟨some 76, (.iad 1 (.t 74) (.t 75)), some (72, false)⟩, ⟨some 77, (.load false 1 (.t 76)), some (72, false)⟩, ⟨some 78, (.bin .lss (.t 77) (I 0)), some (72, false)⟩, O 79 (.pick (.t 72) (.c (.bool true)) (.t 78)), M 80 79, ⟨some 81, (.fad 2 (.t 1)), some (80, false)⟩, ⟨some 82, (.load false 1 (.t 81)), some (80, false)⟩, ⟨some 83, (.mv (.t 4)), some (80, false)⟩, ⟨some 84, (.iad 1 (.t 82) (.t 83)), some (80, false)⟩, ⟨some 85, (.load false 1 (.t 84)), some (80, false)⟩, ⟨some 86, (.bin .gtr (.t 85) (I 12)), some (80, false)⟩, O 87 (.pick (.t 80) (.c (.bool true)) (.t 86))] [⟨1, (.agg [.i .i64, .d, .d]), 0⟩, ⟨4, (.one (.i .i64)), 0⟩, ⟨5, (.one (.i .i64)), 0⟩, ⟨7, (.agg [.i .i64, .d, .d]), 0⟩, ⟨9, (.one (.i .i64)), 0⟩, ⟨10, (.one (.i .i64)), 0⟩, ⟨14, (.agg [.i .i64, .d, .d]), 0⟩, ⟨16, (.one (.i .i64)), 0⟩, ⟨17, (.one (.i .i64)), 0⟩, ⟨22, (.agg [.i .i64, .d, .d]), 0⟩, ⟨24, (.one (.i .i64)), 0⟩, ⟨25, (.one (.i .i64)), 0⟩] [(0, 2), (1, 2), (0, 3), (1, 3), (0, 6), (1, 6), (2, 6), (3, 6), (4, 6), (5, 6), (0, 7), (1, 7), (2, 7), (3, 7), (4, 7), (5, 7), (0, 8), (1, 8), (2, 8), (3, 8), (4, 8), (5, 8), (6, 8), (7, 8), (0, 9), (1, 9), (2, 9), (3, 9), (4, 9), (5, 9), (0, 10), (1, 10), (2, 10), (3, 10), (4, 10), (5, 10), (13, 15), (14, 15), (21, 23), (22, 23)] [57, 60, 61, 62, 63, 64, 65, 66, 67, 68, 69, 70, 71, 72, 73, 74, 75, 76, 77, 78, 79, 80, 81, 82, 83, 84, 85, 86]) (.cond (.t 87) (.seq (oQ [O 2 (.mv (I 8))] [1, 3, 4, 87]) .ret) .skip)) (.ops [M 88 3, M 89 88, ⟨some 90, (.fad 2 (.t 1)), some (89, false)⟩, ⟨some 91, (.load false 1 (.t 90)), some (89, false)⟩, ⟨some 92, (.mv (.t 4)), some (89, false)⟩, ⟨some 93, (.iad 1 (.t 91) (.t 92)), some (89, false)⟩, ⟨some 94, (.load false 1 (.t 93)), some (89, false)⟩, ⟨some 95, (.bin .gtr (.t 94) (I 0)), some (89, false)⟩, O 96 (.pick (.t 89) (.c (.bool true)) (.t 95)), M 3 96] [⟨3, (.agg [.i .i64, .d, .d]), 0⟩, ⟨5, (.one (.i .i64)), 0⟩, ⟨6, (.one (.i .i64)), 0⟩] [] [87, 88, 89, 90, 91, 92, 93, 94, 95, 96]))) (oQ [M 58 4, O 59 (.bin .add (.t 58) (I 1)), M 4 59] [58, 59])))
def t_r02_Check : TFn := ⟨1, [.tmp 2], (.seq (oQ [O 1 (.boxL (.t 0)), O 2 (.mv (I 0))] [0, 2]) (.seq (.seq (.ops [O 5 (.fad 0 (.t 1)), oF 6 1 5, O 7 (.bin .gtr (.t 6) (I 1000)), M 8 7, ⟨some 9, (.fad 1 (.t 1)), some (8, false)⟩, ⟨some 10, (.load false 1 (.t 9)), some (8, false)⟩, ⟨some 11, (.len (.t 10)), some (8, false)⟩, ⟨some 12, (.bin .gtr (.t 11) (I 40)), some (8, false)⟩, O 13 (.pick (.t 8) (.c (.bool true)) (.t 12))] [⟨1, (.agg [.i .i64, .d, .d]), 0⟩, ⟨5, (.agg [.i .i64, .d, .d]), 0⟩] [] [5, 6, 7, 8, 9, 10, 11, 12]) (.cond (.t 13) (.seq (oQ [O 2 (.mv (I 4))] [1, 13]) .ret) .skip)) (.seq (.seq (.ops [O 14 (.fad 0 (.t 1)), oF 15 1 14, O 16 (.bin .lss (.t 15) (I 1)), M 17 16, ⟨some 18, (.fad 1 (.t 1)), some (17, false)⟩, ⟨some 19, (.load false 1 (.t 18)), some (17, false)⟩, ⟨some 20, (.len (.t 19)), some (17, false)⟩, ⟨some 21, (.bin .lss (.t 20) (I 2)), some (17, false)⟩, O 22 (.pick (.t 17) (.c (.bool true)) (.t 21)), M 23 22, ⟨some 24, (.fad 2 (.t 1)), some (23, false)⟩, ⟨some 25, (.load false 1 (.t 24)), some (23, false)⟩, ⟨some 26, (.len (.t 25)), some (23, false)⟩, ⟨some 27, (.fad 1 (.t 1)), some (23, false)⟩, ⟨some 28, (.load false 1 (.t 27)), some (23, false)⟩, ⟨some 29, (.len (.t 28)), some (23, false)⟩, ⟨some 30, (.bin .sub (.t 29) (I 1)), some (23, false)⟩, ⟨some 31, (.bin .neq (.t 26) (.t 30)), some (23, false)⟩, O 32 (.pick (.t 23) (.c (.bool true)) (.t 31)), M 33 32, ⟨some 34, (.fad 1 (.t 1)), some (33, false)⟩, ⟨some 35, (.load false 1 (.t 34)), some (33, false)⟩, ⟨some 36, (.iad 1 (.t 35) (I 0)), some (33, false)⟩, ⟨some 37, (.load false 1 (.t 36)), some (33, false)⟩, ⟨some 38, (.bin .neq (.t 37) (I 0)), some (33, false)⟩, O 39 (.pick (.t 33) (.c (.bool true)) (.t 38)), M 40 39, ⟨some 41, (.fad 1 (.t 1)), some (40, false)⟩, ⟨some 42, (.load false 1 (.t 41)), some (40, false)⟩, ⟨some 43, (.fad 1 (.t 1)), some (40, false)⟩, ⟨some 44, (.load false 1 (.t 43)), some (40, false)⟩, ⟨some 45, (.len (.t 44)), some (40, false)⟩, ⟨some 46, (.bin .sub (.t 45) (I 1)), some (40, false)⟩, ⟨some 47, (.iad 1 (.t 42) (.t 46)), some (40, false)⟩, ⟨some 48, (.load false 1 (.t 47)), some (40, false)⟩, ⟨some 49, (.fad 0 (.t 1)), some (40, false)⟩, ⟨some 50, (.load false 1 (.t 49)), some (40, false)⟩, ⟨some 51, (.bin .neq (.t 48) (.t 50)), some (40, false)⟩, O 52 (.pick (.t 40) (.c (.bool true)) (.t 51))] [⟨1, (.agg [.i .i64, .d, .d]), 0⟩, ⟨5, (.agg [.i .i64, .d, .d]), 0⟩, ⟨11, (.agg [.i .i64, .d, .d]), 0⟩, ⟨14, (.agg [.i .i64, .d, .d]), 0⟩, ⟨21, (.agg [.i .i64, .d, .d]), 0⟩, ⟨22, (.one (.i .i64)), 0⟩, ⟨23, (.one (.i .i64)), 0⟩, ⟨28, (.agg [.i .i64, .d, .d]), 0⟩, ⟨30, (.agg [.i .i64, .d, .d]), 0⟩, ⟨33, (.one (.i .i64)), 0⟩, ⟨34, (.one (.i .i64)), 0⟩, ⟨36, (.agg [.i .i64, .d, .d]), 0⟩] [(10, 13), (11, 13), (12, 13), (10, 14), (11, 14), (12, 14), (10, 15), (11, 15), (12, 15), (10, 16), (11, 16), (12, 16), (27, 29), (28, 29), (27, 30), (28, 30), (27, 31), (28, 31), (27, 32), (28, 32), (27, 35), (28, 35), (29, 35), (30, 35), (31, 35), (32, 35), (33, 35), (34, 35), (27, 36), (28, 36), (29, 36), (30, 36), (31, 36), (32, 36), (33, 36), (34, 36)] [13, 14, 15, 16, 17, 18, 19, 20, 21, 22, 23, 24, 25, 26, 27, 28, 29, 30, 31, 32, 33, 34, 35, 36, 37, 38, 39, 40, 41, 42, 43, 44, 45, 46, 47, 48, 49, 50, 51]) (.cond (.t 52) (.seq (oQ [O 2 (.mv (I 8))] [1, 52]) .ret) .skip)) (.seq (oQ [O 3 (.mv (.c (.bool false)))] [52]) (.seq (.seq (oQ [O 4 (.mv (I 0))] []) (.block 0 (.loop 94526800 b_94526800))) (.seq (.seq (oQ [M 97 3, O 98 (.un .not (.t 97))] [1, 3, 4, 57, 97]) (.cond (.t 98) (.seq (oQ [O 2 (.mv (I 8))] [98]) .ret) .skip)) (.seq (oQ [O 2 (.mv (I 0))] [98]) .ret)))))))⟩
def b_6981300 : TCode := (.seq (.seq (.ops [M 19 3, O 20 (.fad 0 (.t 1)), oF 21 1 20, O 22 (.len (.t 21)), oX 23 .lss 19 22] [⟨2, (.agg [.d, .d]), 0⟩] [] [19, 20, 21, 22]) (.cond (.t 23) .skip (.exit 0))) (.seq (.block 1 (.seq (.ops [O 26 (.fad 0 (.t 1)), oF 27 1 26, M 28 3, O 29 (.iad 3 (.t 27) (.t 28)), oT 30 3 29, O 31 (.call (.f n_r02_Check) [(.t 30)]), O 32 (.bin .neq (.t 31) (I 0))] [⟨1, (.agg [.d, .d]), 0⟩, ⟨3, (.agg [.i .i64, .d, .d]), 0⟩, ⟨4, (.agg [.i .i64, .d, .d]), 0⟩] [] [23, 26, 27, 28, 29, 30, 31]) (.cond (.t 32) (.seq (.ops [O 33 (.fad 0 (.t 1)), oF 34 1 33, M 35 3, O 36 (.iad 3 (.t 34) (.t 35)), oT 37 3 36, O 38 (.call (.f n_r02_Check) [(.t 37)]), M 2 38] [⟨1, (.agg [.d, .d]), 0⟩, ⟨3, (.agg [.i .i64, .d, .d]), 0⟩, ⟨4, (.agg [.i .i64, .d, .d]), 0⟩] [] [1, 3, 32, 33, 34, 35, 36, 37, 38]) .ret) .skip))) (oQ [M 24 3, O 25 (.bin .add (.t 24) (I 1)), M 3 25] [24, 25, 32])))
def b_6981301 : TCode := (.seq (.seq (.ops [M 39 4, O 40 (.fad 0 (.t 1)), oF 41 1 40, O 42 (.len (.t 41)), oX 43 .lss 39 42] [⟨2, (.agg [.d, .d]), 0⟩] [] [39, 40, 41, 42]) (.cond (.t 43) .skip (.exit 2))) (.seq (.block 3 (.seq (.ops [O 46 (.fad 0 (.t 1)), oF 47 1 46, M 48 4, O 49 (.iad 3 (.t 47) (.t 48)), O 50 (.fad 0 (.t 49)), oF 51 1 50, O 52 (.fad 0 (.t 1)), oF 53 1 52, O 54 (.iad 3 (.t 53) (I 0)), O 55 (.fad 0 (.t 54)), oF 56 1 55, oX 57 .neq 51 56] [⟨1, (.agg [.d, .d]), 0⟩, ⟨3, (.agg [.i .i64, .d, .d]), 0⟩, ⟨5, (.agg [.i .i64, .d, .d]), 0⟩, ⟨7, (.agg [.d, .d]), 0⟩, ⟨8, (.agg [.i .i64, .d, .d]), 0⟩, ⟨10, (.agg [.i .i64, .d, .d]), 0⟩] [(0, 2), (1, 2), (0, 6), (1, 6), (2, 6), (3, 6), (4, 6), (5, 6), (0, 7), (1, 7), (2, 7), (3, 7), (4, 7), (5, 7), (0, 8), (1, 8), (2, 8), (3, 8), (4, 8), (5, 8), (0, 9), (1, 9), (2, 9), (3, 9), (4, 9), (5, 9), (0, 10), (1, 10), (2, 10), (3, 10), (4, 10), (5, 10)] [43, 46, 47, 48, 49, 50, 51, 52, 53, 54, 55, 56]) (.cond (.t 57) (.seq (oQ [O 2 (.mv (I 8))] [1, 4, 57]) .ret) .skip))) (oQ [M 44 4, O 45 (.bin .add (.t 44) (I 1)), M 4 45] [44, 45, 57])))
def t_r04_Check : TFn := ⟨1, [.tmp 2], (.seq (oQ [O 1 (.boxL (.t 0)), O 2 (.mv (I 0))] [0, 2]) (.seq (.seq (.ops [O 5 (.fad 0 (.t 1)), oF 6 1 5, O 7 (.len (.t 6)), O 8 (.bin .gtr (.t 7) (I 6)), M 9 8, ⟨some 10, (.fad 1 (.t 1)), some (9, false)⟩, ⟨some 11, (.load false 1 (.t 10)), some (9, false)⟩, ⟨some 12, (.len (.t 11)), some (9, false)⟩, ⟨some 13, (.bin .gtr (.t 12) (I 2000)), some (9, false)⟩, O 14 (.pick (.t 9) (.c (.bool true)) (.t 13))] [⟨1, (.agg [.d, .d]), 0⟩, ⟨6, (.agg [.d, .d]), 0⟩] [] [5, 6, 7, 8, 9, 10, 11, 12, 13]) (.cond (.t 14) (.seq (oQ [O 2 (.mv (I 4))] [1, 14]) .ret) .skip)) (.seq (.seq (.ops [O 15 (.fad 0 (.t 1)), oF 16 1 15, O 17 (.len (.t 16)), O 18 (.bin .eql (.t 17) (I 0))] [⟨1, (.agg [.d, .d]), 0⟩] [] [14, 15, 16, 17]) (.cond (.t 18) (.seq (oQ [O 2 (.mv (I 8))] [1, 18]) .ret) .skip)) (.seq (.seq (oQ [O 3 (.mv (I 0))] [18]) (.block 0 (.loop 6981300 b_6981300))) (.seq (.seq (oQ [O 4 (.mv (I 0))] [3, 23]) (.block 2 (.loop 6981301 b_6981301))) (.seq (oQ [O 2 (.mv (I 0))] [1, 4, 43]) .ret))))))⟩
def t_r02_Twin : TFn := ⟨1, [.cell 2 true 3], (.seq (oQ [O 1 (.boxL (.t 0)), O 2 (.allocL (.agg [(.int .i64 (0)), .nils, .nils]))] [0]) (.seq (.ops [O 3 (.fad 0 (.t 1)), oF 4 1 3, O 5 (.buildD 1 (.int .i64 (0)) 0 []), O 6 (.fad 1 (.t 1)), oF 7 1 6, O 8 (.app true 1 8 (.t 5) (.t 7)), O 9 (.buildD 1 (.int .i64 (0)) 0 []), O 10 (.fad 2 (.t 1)), oF 11 1 10, O 12 (.app true 1 8 (.t 9) (.t 11)), O 13 (.build [(.int .i64 (0)), .nils, .nils] [(0, 1, (.t 4)), (1, 1, (.t 8)), (2, 1, (.t 12))]), ⟨none, (.store 3 (.t 2) (.t 13)), none⟩] [⟨1, (.agg [.i .i64, .d, .d]), 0⟩, ⟨4, (.agg [.i .i64, .d, .d]), 0⟩, ⟨8, (.agg [.i .i64, .d, .d]), 0⟩] [(0, 2), (1, 2), (0, 3), (1, 3), (2, 3), (0, 4), (1, 4), (2, 4), (0, 5), (1, 5), (0, 6), (1, 6), (2, 6), (3, 6), (4, 6), (5, 6), (0, 7), (1, 7), (2, 7), (3, 7), (4, 7), (5, 7), (6, 7), (0, 8), (1, 8), (2, 8), (3, 8), (4, 8), (5, 8), (6, 8), (0, 9), (1, 9)] [1, 3, 4, 5, 6, 7, 8, 9, 10, 11, 12, 13]) .ret))⟩
def b_44560800 : TCode := (.seq (.seq (oQ [M 5 4, M 6 0, O 7 (.len (.t 6)), oX 8 .lss 5 7] [5, 6, 7]) (.cond (.t 8) .skip (.exit 0))) (.seq (.block 1 (.ops [M 11 3, M 12 0, M 13 4, O 14 (.iad 3 (.t 12) (.t 13)), oT 15 3 14, O 16 (.call (.f n_r02_Twin) [(.t 15)]), O 17 (.buildD 3 (.agg [(.int .i64 (0)), (.data []), (.data [])]) 1 [(0, (.t 16))]), O 18 (.app true 3 56 (.t 11) (.t 17)), M 3 18] [⟨3, (.agg [.i .i64, .d, .d]), 0⟩, ⟨4, (.agg [.i .i64, .d, .d]), 0⟩] [] [8, 11, 12, 13, 14, 15, 16, 17, 18])) (oQ [M 9 4, O 10 (.bin .add (.t 9) (I 1)), M 4 10] [9, 10])))
def t_r04_Twins : TFn := ⟨1, [.tmp 2], (.seq (oQ [O 2 (.mv (.c .nils))] [2]) (.seq (oQ [O 3 (.mv (.c .nils))] []) (.seq (.seq (oQ [O 4 (.mv (I 0))] []) (.block 0 (.loop 44560800 b_44560800))) (.seq (oQ [M 19 3, M 2 19] [0, 3, 4, 8, 19]) .ret))))⟩
def t_r04_Open : TFn := ⟨1, [.cell 2 true 2, .tmp 3], (.seq (oQ [O 2 (.allocL (.agg [.nils, .nils])), O 3 (.mv (I 0))] [3]) (.seq (oQ [M 5 0, O 6 (.build [.nils, .nils] [(0, 1, (.t 5))]), O 4 (.allocL (.agg [.nils, .nils])), ⟨none, (.store 2 (.t 4) (.t 6)), none⟩] [5, 6]) (.seq (.seq (oQ [oT 7 2 4, O 8 (.call (.f n_r04_Check) [(.t 7)]), O 9 (.bin .neq (.t 8) (I 0))] [7, 8]) (.cond (.t 9) (.seq (oQ [O 10 (.build [.nils, .nils] []), oT 11 2 4, O 12 (.call (.f n_r04_Check) [(.t 11)]), ⟨none, (.store 2 (.t 2) (.t 10)), none⟩, M 3 12] [0, 4, 9, 10, 11, 12]) .ret) .skip)) (.seq (oQ [M 13 0, O 14 (.call (.f n_r04_Twins) [(.t 13)]), O 15 (.build [.nils, .nils] [(0, 1, (.t 14))]), ⟨none, (.store 2 (.t 2) (.t 15)), none⟩, O 3 (.mv (I 0))] [0, 4, 9, 13, 14, 15]) .ret))))⟩
def t_r01_Of : TFn := ⟨1, [.cell 2 true 2], (.seq (oQ [O 2 (.allocL (.agg [(.int .i64 (0)), (.int .i64 (0))]))] []) (.seq (oQ [M 3 0, O 4 (.build [(.int .i64 (0)), (.int .i64 (0))] [(0, 1, (.t 3)), (1, 1, (I 1))]), ⟨none, (.store 2 (.t 2) (.t 4)), none⟩] [0, 3, 4]) .ret))⟩
def b_21661800 : TCode := (.seq (.seq (.ops [M 5 4, O 6 (.fad 2 (.t 1)), oF 7 1 6, O 8 (.len (.t 7)), oX 9 .lss 5 8] [⟨2, (.agg [.i .i64, .d, .d]), 0⟩] [] [5, 6, 7, 8]) (.cond (.t 9) .skip (.exit 0))) (.seq (.block 1 (.ops [M 12 3, O 13 (.fad 2 (.t 1)), oF 14 1 13, M 15 4, O 16 (.iad 1 (.t 14) (.t 15)), oF 17 1 16, O 18 (.fad 1 (.t 1)), oF 19 1 18, M 20 4, O 21 (.bin .add (.t 20) (I 1)), O 22 (.iad 1 (.t 19) (.t 21)), oF 23 1 22, O 24 (.fad 1 (.t 1)), oF 25 1 24, M 26 4, O 27 (.iad 1 (.t 25) (.t 26)), oF 28 1 27, oX 29 .sub 23 28, oX 30 .mul 17 29, oX 31 .add 12 30, M 3 31] [⟨2, (.agg [.i .i64, .d, .d]), 0⟩, ⟨4, (.one (.i .i64)), 0⟩, ⟨5, (.one (.i .i64)), 0⟩, ⟨7, (.agg [.i .i64, .d, .d]), 0⟩, ⟨10, (.one (.i .i64)), 0⟩, ⟨11, (.one (.i .i64)), 0⟩, ⟨13, (.agg [.i .i64, .d, .d]), 0⟩, ⟨15, (.one (.i .i64)), 0⟩, ⟨16, (.one (.i .i64)), 0⟩] [(0, 1), (0, 2), (0, 3), (1, 3), (2, 3), (0, 4), (0, 5), (0, 6), (1, 6), (2, 6), (3, 6), (4, 6), (5, 6), (0, 7), (1, 7), (2, 7), (3, 7), (4, 7), (5, 7), (0, 8), (1, 8), (2, 8), (3, 8), (4, 8), (5, 8), (6, 8), (7, 8), (0, 9), (1, 9), (2, 9), (3, 9), (4, 9), (5, 9), (6, 9), (7, 9), (0, 10), (1, 10), (2, 10), (3, 10), (4, 10), (5, 10), (0, 11), (1, 11), (2, 11), (3, 11), (4, 11), (5, 11), (0, 12), (1, 12), (2, 12), (3, 12), (4, 12), (5, 12), (6, 12), (7, 12), (8, 12), (9, 12), (10, 12), (11, 12), (0, 13), (1, 13), (2, 13), (3, 13), (4, 13), (5, 13), (6, 13), (7, 13), (8, 13), (9, 13), (10, 13), (11, 13), (0, 14), (1, 14), (2, 14), (3, 14), (4, 14), (5, 14), (6, 14), (7, 14), (8, 14), (9, 14), (10, 14), (11, 14), (12, 14), (13, 14), (0, 15), (1, 15), (2, 15), (3, 15), (4, 15), (5, 15), (6, 15), (7, 15), (8, 15), (9, 15), (10, 15), (11, 15), (0, 16), (1, 16), (2, 16), (3, 16), (4, 16), (5, 16), (6, 16), (7, 16), (8, 16), (9, 16), (10, 16), (11, 16), (0, 17), (1, 17), (2, 17), (3, 17), (4, 17), (5, 17), (0, 18)] [9, 12, 13, 14, 15, 16, 17, 18, 19, 20, 21, 22, 23, 24, 25, 26, 27, 28, 29, 30, 31])) (oQ [M 10 4, O 11 (.bin .add (.t 10) (I 1)), M 4 11] [10, 11])))
def t_r02_Whole : TFn := ⟨1, [.tmp 2], (.seq (oQ [O 1 (.boxL (.t 0)), O 2 (.mv (I 0))] [0, 2]) (.seq (oQ [O 3 (.mv (I 0))] []) (.seq (.seq (oQ [O 4 (.mv (I 0))] []) (.block 0 (.loop 21661800 b_21661800))) (.seq (oQ [M 32 3, M 2 32] [1, 3, 4, 9, 32]) .ret))))⟩
def t_r01_abs : TFn := ⟨1, [.tmp 2], (.seq (oQ [O 2 (.mv (.c (.int .u64 (0))))] [2]) (.seq (.seq (oQ [M 3 0, O 4 (.bin .lss (.t 3) (I 0))] [3]) (.cond (.t 4) (.seq (oQ [M 5 0, O 6 (.bin .add (.t 5) (I 1)), O 7 (.un .neg (.t 6)), O 8 (.conv .u64 (.t 7)), O 9 (.bin .add (.t 8) (.c (.int .u64 (1)))), M 2 9] [0, 4, 5, 6, 7, 8, 9]) .ret) .skip)) (.seq (oQ [M 10 0, O 11 (.conv .u64 (.t 10)), M 2 11] [0, 4, 10, 11]) .ret)))⟩
def b_16774900 : TCode := (.seq (.seq (oQ [M 5 1, O 6 (.bin .neq (.t 5) (.c (.int .u64 (0))))] [5]) (.cond (.t 6) .skip (.exit 0))) (.block 1 (.ops [M 7 1, M 8 0, M 9 1, oX 10 .rem 8 9, M 0 7, M 1 10] [] [(0, 1), (0, 2), (1, 2), (0, 3), (2, 4), (3, 4)] [6, 7, 8, 9, 10])))
def t_r01_gcd : TFn := ⟨2, [.tmp 4], (.seq (oQ [O 4 (.mv (.c (.int .u64 (0))))] [4]) (.seq (.block 0 (.loop 16774900 b_16774900)) (.seq (oQ [M 11 0, M 4 11] [0, 1, 6, 11]) .ret)))⟩
def t_r01_made : TFn := ⟨3, [.cell 6 true 2, .tmp 7], (.seq (oQ [O 4 (.boxL (.t 1)), O 5 (.boxL (.t 2)), O 6 (.allocL (.agg [(.int .i64 (0)), (.int .i64 (0))])), O 7 (.mv (I 0))] [1, 2, 7]) (.seq (.seq (.ops [O 9 (.fad 0 (.t 4)), oF 10 1 9, O 11 (.bin .gtr (.t 10) (.c (.int .u64 (0)))), M 12 11, ⟨some 13, (.fad 0 (.t 5)), some (12, false)⟩, ⟨some 14, (.load false 1 (.t 13)), some (12, false)⟩, ⟨some 15, (.bin .gtr (.t 14) (.c (.int .u64 (0)))), some (12, false)⟩, O 16 (.pick (.t 12) (.c (.bool true)) (.t 15)), M 17 16, ⟨some 18, (.fad 1 (.t 4)), some (17, false)⟩, ⟨some 19, (.load false 1 (.t 18)), some (17, false)⟩, ⟨some 20, (.bin .gtr (.t 19) (.c (.int .u64 (1000000000000000000)))), some (17, false)⟩, O 21 (.pick (.t 17) (.c (.bool true)) (.t 20)), M 22 21, ⟨some 23, (.fad 1 (.t 5)), some (22, false)⟩, ⟨some 24, (.load false 1 (.t 23)), some (22, false)⟩, ⟨some 25, (.bin .gtr (.t 24) (.c (.int .u64 (1000000000000000000)))), some (22, false)⟩, O 26 (.pick (.t 22) (.c (.bool true)) (.t 25))] [⟨1, (.agg [.i .u64, .i .u64]), 0⟩, ⟨5, (.agg [.i .u64, .i .u64]), 0⟩, ⟨10, (.agg [.i .u64, .i .u64]), 0⟩, ⟨15, (.agg [.i .u64, .i .u64]), 0⟩] [] [9, 10, 11, 12, 13, 14, 15, 16, 17, 18, 19, 20, 21, 22, 23, 24, 25]) (.cond (.t 26) (.seq (oQ [O 27 (.build [(.int .i64 (0)), (.int .i64 (0))] []), ⟨none, (.store 2 (.t 6) (.t 27)), none⟩, O 7 (.mv (I 16))] [0, 4, 5, 26, 27]) .ret) .skip)) (.seq (.ops [O 28 (.fad 1 (.t 4)), oF 29 1 28, O 30 (.conv .i64 (.t 29)), O 31 (.fad 1 (.t 5)), oF 32 1 31, O 33 (.conv .i64 (.t 32)), O 34 (.build [(.int .i64 (0)), (.int .i64 (0))] [(0, 1, (.t 30)), (1, 1, (.t 33))]), O 8 (.allocL (.agg [(.int .i64 (0)), (.int .i64 (0))])), ⟨none, (.store 2 (.t 8) (.t 34)), none⟩] [⟨1, (.agg [.i .u64, .i .u64]), 0⟩, ⟨4, (.agg [.i .u64, .i .u64]), 0⟩] [] [4, 5, 26, 28, 29, 30, 31, 32, 33, 34]) (.seq (.seq (oQ [M 35 0] [0]) (.cond (.t 35) (.ops [O 36 (.fad 0 (.t 8)), oF 37 1 36, O 38 (.un .neg (.t 37)), O 39 (.fad 0 (.t 8)), ⟨none, (.store 1 (.t 39) (.t 38)), none⟩] [⟨1, (.agg [.i .i64, .i .i64]), 0⟩, ⟨4, (.agg [.i .i64, .i .i64]), 0⟩] [] [35, 36, 37, 38, 39]) .skip)) (.seq (oQ [oT 40 2 8, ⟨none, (.store 2 (.t 6) (.t 40)), none⟩, O 7 (.mv (I 0))] [8, 35, 40]) .ret)))))⟩
def t_r01_Make : TFn := ⟨2, [.cell 4 true 2, .tmp 5], (.seq (oQ [O 4 (.allocL (.agg [(.int .i64 (0)), (.int .i64 (0))])), O 5 (.mv (I 0))] [5]) (.seq (.seq (oQ [M 9 1, O 10 (.bin .eql (.t 9) (I 0))] [9]) (.cond (.t 10) (.seq (oQ [O 11 (.build [(.int .i64 (0)), (.int .i64 (0))] []), ⟨none, (.store 2 (.t 4) (.t 11)), none⟩, O 5 (.mv (I 18))] [0, 1, 10, 11]) .ret) .skip)) (.seq (oQ [M 12 0, O 13 (.call (.f n_r01_abs) [(.t 12)]), M 14 1, O 15 (.call (.f n_r01_abs) [(.t 14)]), M 6 13, M 7 15] [10, 12, 13, 14, 15]) (.seq (oQ [M 16 6, M 17 7, O 18 (.call (.f n_r01_gcd) [(.t 16), (.t 17)]), M 8 18] [16, 17, 18]) (.seq (.ops [M 19 0, O 20 (.bin .lss (.t 19) (I 0)), M 21 1, O 22 (.bin .lss (.t 21) (I 0)), O 23 (.eqB true (.t 20) (.t 22)), M 24 6, M 25 8, oX 26 .quo 24 25, O 27 (.build [(.int .u64 (0)), (.int .u64 (0))] [(1, 1, (.t 26))]), M 28 7, M 29 8, oX 30 .quo 28 29, O 31 (.build [(.int .u64 (0)), (.int .u64 (0))] [(1, 1, (.t 30))]), O 32 (.call (.f n_r01_made) [(.t 23), (.t 27), (.t 31)]), O 33 (.ext (.t 32) 0), O 34 (.ext (.t 32) 1), ⟨none, (.store 2 (.t 4) (.t 33)), none⟩, M 5 34] [] [(0, 2), (1, 2), (0, 3), (1, 3), (0, 5), (1, 5), (2, 5), (3, 5), (4, 5), (0, 6), (1, 6), (2, 6), (3, 6), (4, 6), (5, 6), (0, 7), (1, 7), (2, 7), (3, 7), (4, 7), (0, 8), (1, 8), (2, 8), (3, 8), (4, 8), (0, 9), (1, 9), (2, 9), (3, 9), (4, 9), (5, 9), (6, 9), (7, 9), (8, 9), (0, 10), (1, 10), (2, 10), (3, 10), (4, 10), (5, 10), (6, 10), (7, 10), (8, 10), (9, 10), (0, 11), (1, 11), (2, 11), (3, 11), (4, 11), (5, 11), (6, 11), (7, 11), (8, 11), (0, 12), (1, 12), (2, 12), (3, 12), (4, 12), (5, 12), (6, 12), (7, 12), (8, 12), (14, 15)] [0, 1, 6, 7, 8, 19, 20, 21, 22, 23, 24, 25, 26, 27, 28, 29, 30, 31, 32, 33, 34]) .ret)))))⟩
def t_r08_Share : TFn := ⟨2, [.cell 4 true 2], (.seq (oQ [O 2 (.boxL (.t 0)), O 4 (.allocL (.agg [(.int .i64 (0)), (.int .i64 (0))]))] [0]) (.seq (.ops [O 8 (.fad 0 (.t 2)), oF 9 1 8, M 10 1, O 11 (.iad 3 (.t 9) (.t 10)), oT 12 3 11, O 13 (.call (.f n_r02_Whole) [(.t 12)]), O 14 (.fad 0 (.t 2)), oF 15 1 14, O 16 (.len (.t 15)), O 17 (.call (.f n_r01_Make) [(.t 13), (.t 16)]), M 7 17, O 18 (.ext (.t 7) 0), O 19 (.ext (.t 7) 1), O 5 (.allocL (.agg [(.int .i64 (0)), (.int .i64 (0))])), ⟨none, (.store 2 (.t 5) (.t 18)), none⟩, M 6 19] [⟨1, (.agg [.d, .d]), 0⟩, ⟨3, (.agg [.i .i64, .d, .d]), 0⟩, ⟨4, (.agg [.i .i64, .d, .d]), 0⟩, ⟨7, (.agg [.d, .d]), 0⟩] [(0, 2), (1, 2), (0, 6), (1, 6), (2, 6), (3, 6), (4, 6), (5, 6), (0, 7), (1, 7), (2, 7), (3, 7), (4, 7), (5, 7), (0, 8), (1, 8), (2, 8), (3, 8), (4, 8), (5, 8), (11, 12), (0, 13), (1, 13), (2, 13), (3, 13), (4, 13), (5, 13), (6, 13), (7, 13), (8, 13), (9, 13), (10, 13), (11, 13), (12, 13), (12, 14)] [1, 2, 6, 7, 8, 9, 10, 11, 12, 13, 14, 15, 16, 17, 18, 19]) (.seq (oQ [oT 20 2 5, ⟨none, (.store 2 (.t 4) (.t 20)), none⟩] [5, 20]) .ret)))⟩
def t_r04_Agent : TFn := ⟨2, [.tmp 4], (.seq (oQ [O 2 (.boxL (.t 0)), O 4 (.mv (.c (.bool false)))] [0, 4]) (.seq (.ops [M 5 1, O 6 (.bin .geq (.t 5) (I 0)), M 7 6, ⟨some 8, (.mv (.t 1)), some (7, true)⟩, ⟨some 9, (.fad 0 (.t 2)), some (7, true)⟩, ⟨some 10, (.load false 1 (.t 9)), some (7, true)⟩, ⟨some 11, (.len (.t 10)), some (7, true)⟩, ⟨some 12, (.bin .lss (.t 8) (.t 11)), some (7, true)⟩, O 13 (.pick (.t 7) (.t 12) (.c (.bool false))), M 4 13] [⟨5, (.agg [.d, .d]), 0⟩] [] [1, 2, 5, 6, 7, 8, 9, 10, 11, 12, 13]) .ret))⟩
def t_r01_Check : TFn := ⟨1, [.tmp 2], (.seq (oQ [O 1 (.boxL (.t 0)), O 2 (.mv (I 0))] [0, 2]) (.seq (.seq (.ops [O 3 (.fad 1 (.t 1)), oF 4 1 3, O 5 (.bin .lss (.t 4) (I 1)), M 6 5, ⟨some 7, (.fad 1 (.t 1)), some (6, false)⟩, ⟨some 8, (.load false 1 (.t 7)), some (6, false)⟩, ⟨some 9, (.bin .gtr (.t 8) (I 1000000000000000000)), some (6, false)⟩, O 10 (.pick (.t 6) (.c (.bool true)) (.t 9)), M 11 10, ⟨some 12, (.fad 0 (.t 1)), some (11, false)⟩, ⟨some 13, (.load false 1 (.t 12)), some (11, false)⟩, ⟨some 14, (.bin .lss (.t 13) (I (-1000000000000000000))), some (11, false)⟩, O 15 (.pick (.t 11) (.c (.bool true)) (.t 14)), M 16 15, ⟨some 17, (.fad 0 (.t 1)), some (16, false)⟩, ⟨some 18, (.load false 1 (.t 17)), some (16, false)⟩, ⟨some 19, (.bin .gtr (.t 18) (I 1000000000000000000)), some (16, false)⟩, O 20 (.pick (.t 16) (.c (.bool true)) (.t 19)), M 21 20, ⟨some 22, (.fad 0 (.t 1)), some (21, false)⟩, ⟨some 23, (.load false 1 (.t 22)), some (21, false)⟩, ⟨some 24, (.call (.f n_r01_abs) [(.t 23)]), some (21, false)⟩, ⟨some 25, (.fad 1 (.t 1)), some (21, false)⟩, ⟨some 26, (.load false 1 (.t 25)), some (21, false)⟩, ⟨some 27, (.conv .u64 (.t 26)), some (21, false)⟩, ⟨some 28, (.call (.f n_r01_gcd) [(.t 24), (.t 27)]), some (21, false)⟩, ⟨some 29, (.bin .neq (.t 28) (.c (.int .u64 (1)))), some (21, false)⟩, O 30 (.pick (.t 21) (.c (.bool true)) (.t 29))] [⟨1, (.agg [.i .i64, .i .i64]), 0⟩, ⟨5, (.agg [.i .i64, .i .i64]), 0⟩, ⟨10, (.agg [.i .i64, .i .i64]), 0⟩, ⟨15, (.agg [.i .i64, .i .i64]), 0⟩, ⟨20, (.agg [.i .i64, .i .i64]), 0⟩, ⟨23, (.agg [.i .i64, .i .i64]), 0⟩] [(19, 22), (20, 22), (21, 22), (19, 23), (20, 23), (21, 23), (19, 24), (20, 24), (21, 24)] [1, 3, 4, 5, 6, 7, 8, 9, 10, 11, 12, 13, 14, 15, 16, 17, 18, 19, 20, 21, 22, 23, 24, 25, 26, 27, 28, 29]) (.cond (.t 30) (.seq (oQ [O 2 (.mv (I 8))] [30]) .ret) .skip)) (.seq (oQ [O 2 (.mv (I 0))] [30]) .ret)))⟩
def t_r01_times : TFn := ⟨2, [.cell 4 true 2], (.seq (oQ [O 4 (.allocL (.agg [(.int .u64 (0)), (.int .u64 (0))]))] []) (.seq (oQ [M 12 0, O 13 (.bin .shr (.t 12) (.c (.int .u64 (32)))), M 14 0, O 15 (.bin .and (.t 14) (.c (.int .u64 (4294967295)))), M 5 13, M 6 15] [0, 12, 13, 14, 15]) (.seq (oQ [M 16 1, O 17 (.bin .shr (.t 16) (.c (.int .u64 (32)))), M 18 1, O 19 (.bin .and (.t 18) (.c (.int .u64 (4294967295)))), M 7 17, M 8 19] [1, 16, 17, 18, 19]) (.seq (oQ [M 20 6, M 21 8, oX 22 .mul 20 21, M 23 5, M 24 8, oX 25 .mul 23 24, M 9 22, M 10 25] [8, 20, 21, 22, 23, 24, 25]) (.seq (oQ [M 26 10, O 27 (.bin .and (.t 26) (.c (.int .u64 (4294967295)))), M 28 6, M 29 7, oX 30 .mul 28 29, oX 31 .add 27 30, M 32 9, O 33 (.bin .shr (.t 32) (.c (.int .u64 (32)))), oX 34 .add 31 33, M 11 34] [6, 26, 27, 28, 29, 30, 31, 32, 33, 34]) (.seq (oQ [M 35 5, M 36 7, oX 37 .mul 35 36, M 38 10, O 39 (.bin .shr (.t 38) (.c (.int .u64 (32)))), oX 40 .add 37 39, M 41 11, O 42 (.bin .shr (.t 41) (.c (.int .u64 (32)))), oX 43 .add 40 42, M 44 11, O 45 (.bin .shl (.t 44) (.c (.int .u64 (32)))), M 46 9, O 47 (.bin .and (.t 46) (.c (.int .u64 (4294967295)))), oX 48 .or 45 47, O 49 (.build [(.int .u64 (0)), (.int .u64 (0))] [(0, 1, (.t 43)), (1, 1, (.t 48))]), ⟨none, (.store 2 (.t 4) (.t 49)), none⟩] [5, 7, 9, 10, 11, 35, 36, 37, 38, 39, 40, 41, 42, 43, 44, 45, 46, 47, 48, 49]) .ret))))))⟩
def t_r01_less : TFn := ⟨2, [.tmp 4], (.seq (oQ [O 2 (.boxL (.t 0)), O 3 (.boxL (.t 1)), O 4 (.mv (.c (.bool false)))] [0, 1, 4]) (.seq (.ops [O 5 (.fad 0 (.t 2)), oF 6 1 5, O 7 (.fad 0 (.t 3)), oF 8 1 7, oX 9 .lss 6 8, M 10 9, ⟨some 11, (.fad 0 (.t 2)), some (10, false)⟩, ⟨some 12, (.load false 1 (.t 11)), some (10, false)⟩, ⟨some 13, (.fad 0 (.t 3)), some (10, false)⟩, ⟨some 14, (.load false 1 (.t 13)), some (10, false)⟩, ⟨some 15, (.bin .eql (.t 12) (.t 14)), some (10, false)⟩, ⟨some 16, (.mv (.t 15)), some (10, false)⟩, ⟨some 17, (.fad 1 (.t 2)), some (16, true)⟩, ⟨some 18, (.load false 1 (.t 17)), some (16, true)⟩, ⟨some 19, (.fad 1 (.t 3)), some (16, true)⟩, ⟨some 20, (.load false 1 (.t 19)), some (16, true)⟩, ⟨some 21, (.bin .lss (.t 18) (.t 20)), some (16, true)⟩, ⟨some 22, (.pick (.t 16) (.t 21) (.c (.bool false))), some (10, false)⟩, O 23 (.pick (.t 10) (.c (.bool true)) (.t 22)), M 4 23] [⟨1, (.agg [.i .u64, .i .u64]), 0⟩, ⟨3, (.agg [.i .u64, .i .u64]), 0⟩, ⟨7, (.agg [.i .u64, .i .u64]), 0⟩, ⟨9, (.agg [.i .u64, .i .u64]), 0⟩, ⟨13, (.agg [.i .u64, .i .u64]), 0⟩, ⟨15, (.agg [.i .u64, .i .u64]), 0⟩] [] [2, 3, 5, 6, 7, 8, 9, 10, 11, 12, 13, 14, 15, 16, 17, 18, 19, 20, 21, 22, 23]) .ret))⟩
def t_r01_Less : TFn := ⟨2, [.tmp 4], (.seq (oQ [O 2 (.boxL (.t 0)), O 3 (.boxL (.t 1)), O 4 (.mv (.c (.bool false)))] [0, 1, 4]) (.seq (.seq (.ops [O 7 (.fad 0 (.t 2)), oF 8 1 7, O 9 (.bin .lss (.t 8) (I 0)), O 10 (.fad 0 (.t 3)), oF 11 1 10, O 12 (.bin .lss (.t 11) (I 0)), O 13 (.eqB true (.t 9) (.t 12))] [⟨1, (.agg [.i .i64, .i .i64]), 0⟩, ⟨4, (.agg [.i .i64, .i .i64]), 0⟩] [] [7, 8, 9, 10, 11, 12]) (.cond (.t 13) (.seq (.ops [O 14 (.fad 0 (.t 2)), oF 15 1 14, O 16 (.bin .lss (.t 15) (I 0)), M 4 16] [⟨1, (.agg [.i .i64, .i .i64]), 0⟩] [] [2, 3, 13, 14, 15, 16]) .ret) .skip)) (.seq (.ops [O 17 (.fad 0 (.t 2)), oF 18 1 17, O 19 (.call (.f n_r01_abs) [(.t 18)]), O 20 (.fad 1 (.t 3)), oF 21 1 20, O 22 (.conv .u64 (.t 21)), O 23 (.call (.f n_r01_times) [(.t 19), (.t 22)]), O 24 (.fad 0 (.t 3)), oF 25 1 24, O 26 (.call (.f n_r01_abs) [(.t 25)]), O 27 (.fad 1 (.t 2)), oF 28 1 27, O 29 (.conv .u64 (.t 28)), O 30 (.call (.f n_r01_times) [(.t 26), (.t 29)]), O 5 (.allocL (.agg [(.int .u64 (0)), (.int .u64 (0))])), O 6 (.allocL (.agg [(.int .u64 (0)), (.int .u64 (0))])), ⟨none, (.store 2 (.t 5) (.t 23)), none⟩, ⟨none, (.store 2 (.t 6) (.t 30)), none⟩] [⟨1, (.agg [.i .i64, .i .i64]), 0⟩, ⟨4, (.agg [.i .i64, .i .i64]), 0⟩, ⟨8, (.agg [.i .i64, .i .i64]), 0⟩, ⟨11, (.agg [.i .i64, .i .i64]), 0⟩] [(0, 3), (1, 3), (2, 3), (0, 4), (1, 4), (2, 4), (0, 5), (1, 5), (2, 5), (0, 7), (1, 7), (2, 7), (3, 7), (4, 7), (5, 7), (6, 7), (0, 8), (1, 8), (2, 8), (3, 8), (4, 8), (5, 8), (6, 8), (0, 10), (1, 10), (2, 10), (3, 10), (4, 10), (5, 10), (6, 10), (7, 10), (8, 10), (9, 10), (0, 11), (1, 11), (2, 11), (3, 11), (4, 11), (5, 11), (6, 11), (7, 11), (8, 11), (9, 11), (0, 12), (1, 12), (2, 12), (3, 12), (4, 12), (5, 12), (6, 12), (7, 12), (8, 12), (9, 12), (0, 14), (1, 14), (2, 14), (3, 14), (4, 14), (5, 14), (6, 14), (7, 14), (8, 14), (9, 14), (10, 14), (11, 14), (12, 14), (13, 14), (0, 15), (1, 15), (2, 15), (3, 15), (4, 15), (5, 15), (6, 15), (7, 15), (8, 15), (9, 15), (10, 15), (11, 15), (12, 15), (13, 15), (14, 15)] [3, 13, 17, 18, 19, 20, 21, 22, 23, 24, 25, 26, 27, 28, 29, 30]) (.seq (.seq (.ops [O 31 (.fad 0 (.t 2)), oF 32 1 31, O 33 (.bin .lss (.t 32) (I 0))] [⟨1, (.agg [.i .i64, .i .i64]), 0⟩] [] [2, 31, 32]) (.cond (.t 33) (.seq (oQ [oT 34 2 6, oT 35 2 5, O 36 (.call (.f n_r01_less) [(.t 34), (.t 35)]), M 4 36] [5, 6, 33, 34, 35, 36]) .ret) .skip)) (.seq (oQ [oT 37 2 5, oT 38 2 6, O 39 (.call (.f n_r01_less) [(.t 37), (.t 38)]), M 4 39] [5, 6, 33, 37, 38, 39]) .ret)))))⟩
def t_r02_Point : TFn := ⟨2, [.tmp 4], (.seq (oQ [O 3 (.boxL (.t 1)), O 4 (.mv (.c (.bool false)))] [1, 4]) (.seq (.ops [oT 5 2 3, O 6 (.call (.f n_r01_Check) [(.t 5)]), O 7 (.bin .eql (.t 6) (I 0)), M 8 7, ⟨some 9, (.fad 0 (.t 3)), some (8, true)⟩, ⟨some 10, (.load false 1 (.t 9)), some (8, true)⟩, ⟨some 11, (.bin .geq (.t 10) (I 0)), some (8, true)⟩, O 12 (.pick (.t 8) (.t 11) (.c (.bool false))), M 13 12, ⟨some 14, (.mv (.t 0)), some (13, true)⟩, ⟨some 15, (.call (.f n_r01_Of) [(.t 14)]), some (13, true)⟩, ⟨some 16, (.load true 2 (.t 3)), some (13, true)⟩, ⟨some 17, (.call (.f n_r01_Less) [(.t 15), (.t 16)]), some (13, true)⟩, ⟨some 18, (.un .not (.t 17)), some (13, true)⟩, O 19 (.pick (.t 13) (.t 18) (.c (.bool false))), M 4 19] [⟨5, (.agg [.i .i64, .i .i64]), 0⟩] [(9, 11), (10, 11)] [0, 3, 5, 6, 7, 8, 9, 10, 11, 12, 13, 14, 15, 16, 17, 18, 19]) .ret))⟩
def t_r02_later : TFn := ⟨2, [.cell 4 true 2], (.seq (oQ [O 2 (.boxL (.t 0)), O 3 (.boxL (.t 1)), O 4 (.allocL (.agg [(.int .i64 (0)), (.int .i64 (0))]))] [0, 1]) (.seq (.seq (oQ [oT 5 2 2, oT 6 2 3, O 7 (.call (.f n_r01_Less) [(.t 5), (.t 6)])] [5, 6]) (.cond (.t 7) (.seq (oQ [oT 8 2 3, ⟨none, (.store 2 (.t 4) (.t 8)), none⟩] [2, 3, 7, 8]) .ret) .skip)) (.seq (oQ [oT 9 2 2, ⟨none, (.store 2 (.t 4) (.t 9)), none⟩] [2, 3, 7, 9]) .ret)))⟩
def t_r02_sooner : TFn := ⟨2, [.cell 4 true 2], (.seq (oQ [O 2 (.boxL (.t 0)), O 3 (.boxL (.t 1)), O 4 (.allocL (.agg [(.int .i64 (0)), (.int .i64 (0))]))] [0, 1]) (.seq (.seq (oQ [oT 5 2 2, oT 6 2 3, O 7 (.call (.f n_r01_Less) [(.t 5), (.t 6)])] [5, 6]) (.cond (.t 7) (.seq (oQ [oT 8 2 2, ⟨none, (.store 2 (.t 4) (.t 8)), none⟩] [2, 3, 7, 8]) .ret) .skip)) (.seq (oQ [oT 9 2 3, ⟨none, (.store 2 (.t 4) (.t 9)), none⟩] [2, 3, 7, 9]) .ret)))⟩
def t_r01_Both : TFn := ⟨2, [.tmp 4], (.seq (oQ [O 2 (.boxL (.t 0)), O 3 (.boxL (.t 1)), O 4 (.mv (I 0))] [0, 1, 4]) (.seq (.seq (oQ [oT 5 2 2, O 6 (.call (.f n_r01_Check) [(.t 5)]), O 7 (.bin .neq (.t 6) (I 0))] [5, 6]) (.cond (.t 7) (.seq (oQ [oT 8 2 2, O 9 (.call (.f n_r01_Check) [(.t 8)]), M 4 9] [2, 3, 7, 8, 9]) .ret) .skip)) (.seq (oQ [oT 10 2 3, O 11 (.call (.f n_r01_Check) [(.t 10)]), M 4 11] [2, 3, 7, 10, 11]) .ret)))⟩
def t_r01_Neg : TFn := ⟨1, [.cell 2 true 2], (.seq (oQ [O 1 (.boxL (.t 0)), O 2 (.allocL (.agg [(.int .i64 (0)), (.int .i64 (0))]))] [0]) (.seq (.ops [O 3 (.fad 0 (.t 1)), oF 4 1 3, O 5 (.un .neg (.t 4)), O 6 (.fad 0 (.t 1)), ⟨none, (.store 1 (.t 6) (.t 5)), none⟩] [⟨1, (.agg [.i .i64, .i .i64]), 0⟩, ⟨4, (.agg [.i .i64, .i .i64]), 0⟩] [] [3, 4, 5, 6]) (.seq (oQ [oT 7 2 1, ⟨none, (.store 2 (.t 2) (.t 7)), none⟩] [1, 7]) .ret)))⟩
def t_r01_plus : TFn := ⟨2, [.cell 4 true 2], (.seq (oQ [O 2 (.boxL (.t 0)), O 3 (.boxL (.t 1)), O 4 (.allocL (.agg [(.int .u64 (0)), (.int .u64 (0))]))] [0, 1]) (.seq (.ops [O 7 (.fad 1 (.t 2)), oF 8 1 7, O 9 (.fad 1 (.t 3)), oF 10 1 9, oX 11 .add 8 10, M 5 11] [⟨1, (.agg [.i .u64, .i .u64]), 0⟩, ⟨3, (.agg [.i .u64, .i .u64]), 0⟩] [] [7, 8, 9, 10, 11]) (.seq (.ops [O 12 (.fad 0 (.t 2)), oF 13 1 12, O 14 (.fad 0 (.t 3)), oF 15 1 14, oX 16 .add 13 15, M 6 16] [⟨1, (.agg [.i .u64, .i .u64]), 0⟩, ⟨3, (.agg [.i .u64, .i .u64]), 0⟩] [] [3, 12, 13, 14, 15, 16]) (.seq (.seq (.ops [M 17 5, O 18 (.fad 1 (.t 2)), oF 19 1 18, oX 20 .lss 17 19] [⟨2, (.agg [.i .u64, .i .u64]), 0⟩] [] [2, 17, 18, 19]) (.cond (.t 20) (oQ [M 21 6, O 22 (.bin .add (.t 21) (.c (.int .u64 (1)))), M 6 22] [20, 21, 22]) .skip)) (.seq (oQ [M 23 6, M 24 5, O 25 (.build [(.int .u64 (0)), (.int .u64 (0))] [(0, 1, (.t 23)), (1, 1, (.t 24))]), ⟨none, (.store 2 (.t 4) (.t 25)), none⟩] [5, 6, 20, 23, 24, 25]) .ret)))))⟩
def t_r01_minus : TFn := ⟨2, [.cell 4 true 2], (.seq (oQ [O 2 (.boxL (.t 0)), O 3 (.boxL (.t 1)), O 4 (.allocL (.agg [(.int .u64 (0)), (.int .u64 (0))]))] [0, 1]) (.seq (.ops [O 6 (.fad 0 (.t 2)), oF 7 1 6, O 8 (.fad 0 (.t 3)), oF 9 1 8, oX 10 .sub 7 9, M 5 10] [⟨1, (.agg [.i .u64, .i .u64]), 0⟩, ⟨3, (.agg [.i .u64, .i .u64]), 0⟩] [] [6, 7, 8, 9, 10]) (.seq (.seq (.ops [O 11 (.fad 1 (.t 2)), oF 12 1 11, O 13 (.fad 1 (.t 3)), oF 14 1 13, oX 15 .lss 12 14] [⟨1, (.agg [.i .u64, .i .u64]), 0⟩, ⟨3, (.agg [.i .u64, .i .u64]), 0⟩] [] [11, 12, 13, 14]) (.cond (.t 15) (oQ [M 16 5, O 17 (.bin .sub (.t 16) (.c (.int .u64 (1)))), M 5 17] [15, 16, 17]) .skip)) (.seq (.ops [M 18 5, O 19 (.fad 1 (.t 2)), oF 20 1 19, O 21 (.fad 1 (.t 3)), oF 22 1 21, oX 23 .sub 20 22, O 24 (.build [(.int .u64 (0)), (.int .u64 (0))] [(0, 1, (.t 18)), (1, 1, (.t 23))]), ⟨none, (.store 2 (.t 4) (.t 24)), none⟩] [⟨2, (.agg [.i .u64, .i .u64]), 0⟩, ⟨4, (.agg [.i .u64, .i .u64]), 0⟩] [] [2, 3, 5, 15, 18, 19, 20, 21, 22, 23, 24]) .ret))))⟩
def b_22549700 : TCode := (.seq (.seq (oQ [M 10 8, O 11 (.bin .geq (.t 10) (I 0))] [10]) (.cond (.t 11) .skip (.exit 0))) (.seq (.block 1 (.seq (.ops [O 14 (.fad 1 (.t 2)), oF 15 1 14, M 16 8, O 17 (.bin .and (.t 16) (I 63)), oX 18 .shr 15 17, O 19 (.bin .and (.t 18) (.c (.int .u64 (1)))), M 9 19] [⟨1, (.agg [.i .u64, .i .u64]), 0⟩] [] [11, 14, 15, 16, 17, 18, 19]) (.seq (.seq (oQ [M 20 8, O 21 (.bin .geq (.t 20) (I 64))] [20]) (.cond (.t 21) (.ops [O 22 (.fad 0 (.t 2)), oF 23 1 22, M 24 8, O 25 (.bin .and (.t 24) (I 63)), oX 26 .shr 23 25, O 27 (.bin .and (.t 26) (.c (.int .u64 (1)))), M 9 27] [⟨1, (.agg [.i .u64, .i .u64]), 0⟩] [] [21, 22, 23, 24, 25, 26, 27]) .skip)) (.seq (oQ [M 28 7, O 29 (.bin .shl (.t 28) (.c (.int .u64 (1)))), M 30 9, oX 31 .or 29 30, M 7 31] [9, 21, 28, 29, 30, 31]) (.seq (oQ [oT 32 2 6, oT 33 2 6, O 34 (.call (.f n_r01_plus) [(.t 32), (.t 33)]), ⟨none, (.store 2 (.t 6) (.t 34)), none⟩] [32, 33, 34]) (.seq (oQ [M 35 7, M 36 1, oX 37 .geq 35 36] [35, 36]) (.cond (.t 37) (.seq (oQ [M 38 7, M 39 1, oX 40 .sub 38 39, M 7 40] [37, 38, 39, 40]) (.ops [O 41 (.fad 1 (.t 6)), oF 42 1 41, O 43 (.bin .or (.t 42) (.c (.int .u64 (1)))), O 44 (.fad 1 (.t 6)), ⟨none, (.store 1 (.t 44) (.t 43)), none⟩] [⟨1, (.agg [.i .u64, .i .u64]), 0⟩, ⟨4, (.agg [.i .u64, .i .u64]), 0⟩] [] [41, 42, 43, 44])) .skip))))))) (oQ [M 12 8, O 13 (.bin .sub (.t 12) (I 1)), M 8 13] [12, 13, 37])))
def t_r01_split : TFn := ⟨2, [.cell 4 true 2, .tmp 5], (.seq (oQ [O 2 (.boxL (.t 0)), O 4 (.allocL (.agg [(.int .u64 (0)), (.int .u64 (0))])), O 5 (.mv (.c (.int .u64 (0))))] [0, 5]) (.seq (oQ [O 6 (.allocL (.agg [(.int .u64 (0)), (.int .u64 (0))]))] []) (.seq (oQ [O 7 (.mv (.c (.int .u64 (0))))] []) (.seq (.seq (oQ [O 8 (.mv (I 127))] []) (.block 0 (.loop 22549700 b_22549700))) (.seq (oQ [oT 45 2 6, M 46 7, ⟨none, (.store 2 (.t 4) (.t 45)), none⟩, M 5 46] [1, 2, 6, 7, 8, 11, 45, 46]) .ret)))))⟩
def t_r01_Add : TFn := ⟨2, [.cell 4 true 2, .tmp 5], (.seq (oQ [O 2 (.boxL (.t 0)), O 3 (.boxL (.t 1)), O 4 (.allocL (.agg [(.int .i64 (0)), (.int .i64 (0))])), O 5 (.mv (I 0))] [0, 1, 5]) (.seq (.seq (oQ [oT 16 2 2, oT 17 2 3, O 18 (.call (.f n_r01_Both) [(.t 16), (.t 17)]), O 19 (.bin .neq (.t 18) (I 0))] [16, 17, 18]) (.cond (.t 19) (.seq (oQ [O 20 (.build [(.int .i64 (0)), (.int .i64 (0))] []), oT 21 2 2, oT 22 2 3, O 23 (.call (.f n_r01_Both) [(.t 21), (.t 22)]), ⟨none, (.store 2 (.t 4) (.t 20)), none⟩, M 5 23] [2, 3, 19, 20, 21, 22, 23]) .ret) .skip)) (.seq (.ops [O 24 (.fad 1 (.t 2)), oF 25 1 24, O 26 (.conv .u64 (.t 25)), O 27 (.fad 1 (.t 3)), oF 28 1 27, O 29 (.conv .u64 (.t 28)), O 30 (.call (.f n_r01_gcd) [(.t 26), (.t 29)]), M 6 30] [⟨1, (.agg [.i .i64, .i .i64]), 0⟩, ⟨4, (.agg [.i .i64, .i .i64]), 0⟩] [] [19, 24, 25, 26, 27, 28, 29, 30]) (.seq (.ops [O 31 (.fad 0 (.t 2)), oF 32 1 31, O 33 (.call (.f n_r01_abs) [(.t 32)]), O 34 (.fad 1 (.t 3)), oF 35 1 34, O 36 (.conv .u64 (.t 35)), M 37 6, oX 38 .quo 36 37, O 39 (.call (.f n_r01_times) [(.t 33), (.t 38)]), O 40 (.fad 0 (.t 3)), oF 41 1 40, O 42 (.call (.f n_r01_abs) [(.t 41)]), O 43 (.fad 1 (.t 2)), oF 44 1 43, O 45 (.conv .u64 (.t 44)), M 46 6, oX 47 .quo 45 46, O 48 (.call (.f n_r01_times) [(.t 42), (.t 47)]), O 7 (.allocL (.agg [(.int .u64 (0)), (.int .u64 (0))])), O 8 (.allocL (.agg [(.int .u64 (0)), (.int .u64 (0))])), ⟨none, (.store 2 (.t 7) (.t 39)), none⟩, ⟨none, (.store 2 (.t 8) (.t 48)), none⟩] [⟨1, (.agg [.i .i64, .i .i64]), 0⟩, ⟨4, (.agg [.i .i64, .i .i64]), 0⟩, ⟨10, (.agg [.i .i64, .i .i64]), 0⟩, ⟨13, (.agg [.i .i64, .i .i64]), 0⟩] [(0, 3), (1, 3), (2, 3), (0, 4), (1, 4), (2, 4), (0, 5), (1, 5), (2, 5), (0, 6), (1, 6), (2, 6), (3, 6), (4, 6), (5, 6), (0, 7), (1, 7), (2, 7), (0, 9), (1, 9), (2, 9), (3, 9), (4, 9), (5, 9), (6, 9), (7, 9), (8, 9), (0, 10), (1, 10), (2, 10), (3, 10), (4, 10), (5, 10), (6, 10), (7, 10), (8, 10), (0, 12), (1, 12), (2, 12), (3, 12), (4, 12), (5, 12), (6, 12), (7, 12), (8, 12), (9, 12), (10, 12), (11, 12), (0, 13), (1, 13), (2, 13), (3, 13), (4, 13), (5, 13), (6, 13), (7, 13), (8, 13), (9, 13), (10, 13), (11, 13), (0, 14), (1, 14), (2, 14), (3, 14), (4, 14), (5, 14), (6, 14), (7, 14), (8, 14), (9, 14), (10, 14), (11, 14), (0, 15), (1, 15), (2, 15), (3, 15), (4, 15), (5, 15), (6, 15), (7, 15), (8, 15), (9, 15), (10, 15), (11, 15), (12, 15), (13, 15), (14, 15), (0, 16), (1, 16), (2, 16), (3, 16), (4, 16), (5, 16), (6, 16), (7, 16), (8, 16), (9, 16), (10, 16), (11, 16), (0, 18), (1, 18), (2, 18), (3, 18), (4, 18), (5, 18), (6, 18), (7, 18), (8, 18), (9, 18), (10, 18), (11, 18), (12, 18), (13, 18), (14, 18), (15, 18), (16, 18), (17, 18), (0, 19), (1, 19), (2, 19), (3, 19), (4, 19), (5, 19), (6, 19), (7, 19), (8, 19), (9, 19), (10, 19), (11, 19), (12, 19), (13, 19), (14, 19), (15, 19), (16, 19), (17, 19), (18, 19)] [31, 32, 33, 34, 35, 36, 37, 38, 39, 40, 41, 42, 43, 44, 45, 46, 47, 48]) (.seq (.ops [O 49 (.fad 0 (.t 2)), oF 50 1 49, O 51 (.bin .lss (.t 50) (I 0)), M 9 51] [⟨1, (.agg [.i .i64, .i .i64]), 0⟩] [] [49, 50, 51]) (.seq (oQ [oT 52 2 7, oT 53 2 8, O 54 (.call (.f n_r01_plus) [(.t 52), (.t 53)]), O 10 (.allocL (.agg [(.int .u64 (0)), (.int .u64 (0))])), ⟨none, (.store 2 (.t 10) (.t 54)), none⟩] [52, 53, 54]) (.seq (.seq (.ops [O 55 (.fad 0 (.t 2)), oF 56 1 55, O 57 (.bin .lss (.t 56) (I 0)), O 58 (.fad 0 (.t 3)), oF 59 1 58, O 60 (.bin .lss (.t 59) (I 0)), O 61 (.eqB true (.t 57) (.t 60))] [⟨1, (.agg [.i .i64, .i .i64]), 0⟩, ⟨4, (.agg [.i .i64, .i .i64]), 0⟩] [] [55, 56, 57, 58, 59, 60]) (.cond (.t 61) (.seq (oQ [oT 62 2 7, oT 63 2 8, O 64 (.call (.f n_r01_minus) [(.t 62), (.t 63)]), ⟨none, (.store 2 (.t 10) (.t 64)), none⟩] [61, 62, 63, 64]) (.seq (oQ [oT 65 2 7, oT 66 2 8, O 67 (.call (.f n_r01_less) [(.t 65), (.t 66)])] [65, 66]) (.cond (.t 67) (.seq (oQ [oT 68 2 8, oT 69 2 7, O 70 (.call (.f n_r01_minus) [(.t 68), (.t 69)]), ⟨none, (.store 2 (.t 10) (.t 70)), none⟩] [7, 8, 9, 67, 68, 69, 70]) (.ops [O 71 (.fad 0 (.t 3)), oF 72 1 71, O 73 (.bin .lss (.t 72) (I 0)), M 9 73] [⟨1, (.agg [.i .i64, .i .i64]), 0⟩] [] [71, 72, 73])) .skip))) .skip)) (.seq (.seq (oQ [oT 74 2 10, O 75 (.build [(.int .u64 (0)), (.int .u64 (0))] []), O 76 (.eqA false 2 [(0, (some .u64)), (1, (some .u64))] (.t 74) (.t 75))] [7, 8, 61, 67, 74, 75]) (.cond (.t 76) (.seq (oQ [O 77 (.build [(.int .i64 (0)), (.int .i64 (0))] [(1, 1, (I 1))]), ⟨none, (.store 2 (.t 4) (.t 77)), none⟩, O 5 (.mv (I 0))] [2, 3, 6, 9, 10, 76, 77]) .ret) .skip)) (.seq (oQ [oT 79 2 10, M 80 6, O 81 (.call (.f n_r01_split) [(.t 79), (.t 80)]), M 78 81, O 82 (.ext (.t 78) 0), O 83 (.ext (.t 78) 1), O 11 (.allocL (.agg [(.int .u64 (0)), (.int .u64 (0))])), ⟨none, (.store 2 (.t 11) (.t 82)), none⟩, M 12 83] [11, 76, 78, 79, 80, 81, 82, 83]) (.seq (oQ [M 84 12, M 85 6, O 86 (.call (.f n_r01_gcd) [(.t 84), (.t 85)]), M 13 86] [12, 84, 85, 86]) (.seq (oQ [oT 88 2 10, M 89 13, O 90 (.call (.f n_r01_split) [(.t 88), (.t 89)]), M 87 90, O 91 (.ext (.t 87) 0), O 92 (.ext (.t 87) 1), O 14 (.allocL (.agg [(.int .u64 (0)), (.int .u64 (0))])), ⟨none, (.store 2 (.t 14) (.t 91)), none⟩, M 15 92] [10, 15, 87, 88, 89, 90, 91, 92]) (.seq (.ops [M 93 9, oT 94 2 14, O 95 (.fad 1 (.t 2)), oF 96 1 95, O 97 (.conv .u64 (.t 96)), M 98 6, oX 99 .quo 97 98, O 100 (.fad 1 (.t 3)), oF 101 1 100, O 102 (.conv .u64 (.t 101)), M 103 13, oX 104 .quo 102 103, O 105 (.call (.f n_r01_times) [(.t 99), (.t 104)]), O 106 (.call (.f n_r01_made) [(.t 93), (.t 94), (.t 105)]), O 107 (.ext (.t 106) 0), O 108 (.ext (.t 106) 1), ⟨none, (.store 2 (.t 4) (.t 107)), none⟩, M 5 108] [⟨3, (.agg [.i .i64, .i .i64]), 0⟩, ⟨8, (.agg [.i .i64, .i .i64]), 0⟩] [(0, 1), (0, 2), (1, 2), (0, 3), (1, 3), (0, 4), (1, 4), (0, 5), (1, 5), (2, 5), (3, 5), (4, 5), (0, 6), (1, 6), (0, 7), (1, 7), (2, 7), (3, 7), (4, 7), (5, 7), (6, 7), (0, 8), (1, 8), (2, 8), (3, 8), (4, 8), (5, 8), (6, 8), (0, 9), (1, 9), (2, 9), (3, 9), (4, 9), (5, 9), (6, 9), (0, 10), (1, 10), (2, 10), (3, 10), (4, 10), (5, 10), (6, 10), (7, 10), (8, 10), (9, 10), (0, 11), (1, 11), (2, 11), (3, 11), (4, 11), (5, 11), (6, 11), (0, 12), (1, 12), (14, 15)] [2, 3, 6, 9, 13, 14, 93, 94, 95, 96, 97, 98, 99, 100, 101, 102, 103, 104, 105, 106, 107, 108]) .ret))))))))))))⟩
def t_r01_Sub : TFn := ⟨2, [.cell 4 true 2, .tmp 5], (.seq (oQ [O 2 (.boxL (.t 0)), O 3 (.boxL (.t 1)), O 4 (.allocL (.agg [(.int .i64 (0)), (.int .i64 (0))])), O 5 (.mv (I 0))] [0, 1, 5]) (.seq (.seq (oQ [oT 6 2 2, oT 7 2 3, O 8 (.call (.f n_r01_Both) [(.t 6), (.t 7)]), O 9 (.bin .neq (.t 8) (I 0))] [6, 7, 8]) (.cond (.t 9) (.seq (oQ [O 10 (.build [(.int .i64 (0)), (.int .i64 (0))] []), oT 11 2 2, oT 12 2 3, O 13 (.call (.f n_r01_Both) [(.t 11), (.t 12)]), ⟨none, (.store 2 (.t 4) (.t 10)), none⟩, M 5 13] [2, 3, 9, 10, 11, 12, 13]) .ret) .skip)) (.seq (.ops [oT 14 2 2, oT 15 2 3, O 16 (.call (.f n_r01_Neg) [(.t 15)]), O 17 (.call (.f n_r01_Add) [(.t 14), (.t 16)]), O 18 (.ext (.t 17) 0), O 19 (.ext (.t 17) 1), ⟨none, (.store 2 (.t 4) (.t 18)), none⟩, M 5 19] [] [(0, 1), (0, 2), (4, 5)] [2, 3, 9, 14, 15, 16, 17, 18, 19]) .ret)))⟩
def t_r01_Mul : TFn := ⟨2, [.cell 4 true 2, .tmp 5], (.seq (oQ [O 2 (.boxL (.t 0)), O 3 (.boxL (.t 1)), O 4 (.allocL (.agg [(.int .i64 (0)), (.int .i64 (0))])), O 5 (.mv (I 0))] [0, 1, 5]) (.seq (.seq (oQ [oT 8 2 2, oT 9 2 3, O 10 (.call (.f n_r01_Both) [(.t 8), (.t 9)]), O 11 (.bin .neq (.t 10) (I 0))] [8, 9, 10]) (.cond (.t 11) (.seq (oQ [O 12 (.build [(.int .i64 (0)), (.int .i64 (0))] []), oT 13 2 2, oT 14 2 3, O 15 (.call (.f n_r01_Both) [(.t 13), (.t 14)]), ⟨none, (.store 2 (.t 4) (.t 12)), none⟩, M 5 15] [2, 3, 11, 12, 13, 14, 15]) .ret) .skip)) (.seq (.ops [O 16 (.fad 0 (.t 2)), oF 17 1 16, O 18 (.call (.f n_r01_abs) [(.t 17)]), O 19 (.fad 1 (.t 3)), oF 20 1 19, O 21 (.conv .u64 (.t 20)), O 22 (.call (.f n_r01_gcd) [(.t 18), (.t 21)]), O 23 (.fad 0 (.t 3)), oF 24 1 23, O 25 (.call (.f n_r01_abs) [(.t 24)]), O 26 (.fad 1 (.t 2)), oF 27 1 26, O 28 (.conv .u64 (.t 27)), O 29 (.call (.f n_r01_gcd) [(.t 25), (.t 28)]), M 6 22, M 7 29] [⟨1, (.agg [.i .i64, .i .i64]), 0⟩, ⟨4, (.agg [.i .i64, .i .i64]), 0⟩, ⟨8, (.agg [.i .i64, .i .i64]), 0⟩, ⟨11, (.agg [.i .i64, .i .i64]), 0⟩] [(0, 3), (1, 3), (2, 3), (0, 4), (1, 4), (2, 4), (0, 5), (1, 5), (2, 5), (0, 7), (1, 7), (2, 7), (3, 7), (4, 7), (5, 7), (6, 7), (0, 8), (1, 8), (2, 8), (3, 8), (4, 8), (5, 8), (6, 8), (0, 10), (1, 10), (2, 10), (3, 10), (4, 10), (5, 10), (6, 10), (7, 10), (8, 10), (9, 10), (0, 11), (1, 11), (2, 11), (3, 11), (4, 11), (5, 11), (6, 11), (7, 11), (8, 11), (9, 11), (0, 12), (1, 12), (2, 12), (3, 12), (4, 12), (5, 12), (6, 12), (7, 12), (8, 12), (9, 12)] [11, 16, 17, 18, 19, 20, 21, 22, 23, 24, 25, 26, 27, 28, 29]) (.seq (.ops [O 30 (.fad 0 (.t 2)), oF 31 1 30, O 32 (.bin .lss (.t 31) (I 0)), O 33 (.fad 0 (.t 3)), oF 34 1 33, O 35 (.bin .lss (.t 34) (I 0)), O 36 (.eqB true (.t 32) (.t 35)), M 37 36, ⟨some 38, (.fad 0 (.t 2)), some (37, true)⟩, ⟨some 39, (.load false 1 (.t 38)), some (37, true)⟩, ⟨some 40, (.bin .neq (.t 39) (I 0)), some (37, true)⟩, O 41 (.pick (.t 37) (.t 40) (.c (.bool false))), M 42 41, ⟨some 43, (.fad 0 (.t 3)), some (42, true)⟩, ⟨some 44, (.load false 1 (.t 43)), some (42, true)⟩, ⟨some 45, (.bin .neq (.t 44) (I 0)), some (42, true)⟩, O 46 (.pick (.t 42) (.t 45) (.c (.bool false))), O 47 (.fad 0 (.t 2)), oF 48 1 47, O 49 (.call (.f n_r01_abs) [(.t 48)]), M 50 6, oX 51 .quo 49 50, O 52 (.fad 0 (.t 3)), oF 53 1 52, O 54 (.call (.f n_r01_abs) [(.t 53)]), M 55 7, oX 56 .quo 54 55, O 57 (.call (.f n_r01_times) [(.t 51), (.t 56)]), O 58 (.fad 1 (.t 2)), oF 59 1 58, O 60 (.conv .u64 (.t 59)), M 61 7, oX 62 .quo 60 61, O 63 (.fad 1 (.t 3)), oF 64 1 63, O 65 (.conv .u64 (.t 64)), M 66 6, oX 67 .quo 65 66, O 68 (.call (.f n_r01_times) [(.t 62), (.t 67)]), O 69 (.call (.f n_r01_made) [(.t 46), (.t 57), (.t 68)]), O 70 (.ext (.t 69) 0), O 71 (.ext (.t 69) 1), ⟨none, (.store 2 (.t 4) (.t 70)), none⟩, M 5 71] [⟨1, (.agg [.i .i64, .i .i64]), 0⟩, ⟨4, (.agg [.i .i64, .i .i64]), 0⟩, ⟨9, (.agg [.i .i64, .i .i64]), 0⟩, ⟨14, (.agg [.i .i64, .i .i64]), 0⟩, ⟨18, (.agg [.i .i64, .i .i64]), 0⟩, ⟨23, (.agg [.i .i64, .i .i64]), 0⟩, ⟨29, (.agg [.i .i64, .i .i64]), 0⟩, ⟨34, (.agg [.i .i64, .i .i64]), 0⟩] [(0, 3), (1, 3), (2, 3), (0, 4), (1, 4), (2, 4), (0, 5), (1, 5), (2, 5), (0, 17), (1, 17), (2, 17), (3, 17), (4, 17), (5, 17), (6, 17), (7, 17), (8, 17), (9, 17), (10, 17), (11, 17), (12, 17), (13, 17), (14, 17), (15, 17), (16, 17), (0, 18), (1, 18), (2, 18), (3, 18), (4, 18), (5, 18), (6, 18), (7, 18), (8, 18), (9, 18), (10, 18), (11, 18), (12, 18), (13, 18), (14, 18), (15, 18), (16, 18), (13, 19), (14, 19), (15, 19), (16, 19), (0, 20), (1, 20), (2, 20), (3, 20), (4, 20), (5, 20), (6, 20), (7, 20), (8, 20), (9, 20), (10, 20), (11, 20), (12, 20), (13, 20), (14, 20), (15, 20), (16, 20), (17, 20), (18, 20), (19, 20), (13, 21), (14, 21), (15, 21), (16, 21), (0, 22), (1, 22), (2, 22), (3, 22), (4, 22), (5, 22), (6, 22), (7, 22), (8, 22), (9, 22), (10, 22), (11, 22), (12, 22), (13, 22), (14, 22), (15, 22), (16, 22), (17, 22), (18, 22), (19, 22), (20, 22), (21, 22), (0, 23), (1, 23), (2, 23), (3, 23), (4, 23), (5, 23), (6, 23), (7, 23), (8, 23), (9, 23), (10, 23), (11, 23), (12, 23), (13, 23), (14, 23), (15, 23), (16, 23), (17, 23), (18, 23), (19, 23), (20, 23), (21, 23), (13, 24), (14, 24), (15, 24), (16, 24), (20, 24), (21, 24), (0, 25), (1, 25), (2, 25), (3, 25), (4, 25), (5, 25), (6, 25), (7, 25), (8, 25), (9, 25), (10, 25), (11, 25), (12, 25), (13, 25), (14, 25), (15, 25), (16, 25), (17, 25), (18, 25), (19, 25), (20, 25), (21, 25), (22, 25), (23, 25), (24, 25), (13, 26), (14, 26), (15, 26), (16, 26), (20, 26), (21, 26), (13, 27), (14, 27), (15, 27), (16, 27), (0, 28), (1, 28), (2, 28), (3, 28), (4, 28), (5, 28), (6, 28), (7, 28), (8, 28), (9, 28), (10, 28), (11, 28), (12, 28), (13, 28), (14, 28), (15, 28), (16, 28), (17, 28), (18, 28), (19, 28), (20, 28), (21, 28), (22, 28), (23, 28), (24, 28), (25, 28), (26, 28), (27, 28), (0, 29), (1, 29), (2, 29), (3, 29), (4, 29), (5, 29), (6, 29), (7, 29), (8, 29), (9, 29), (10, 29), (11, 29), (12, 29), (13, 29), (14, 29), (15, 29), (16, 29), (17, 29), (18, 29), (19, 29), (20, 29), (21, 29), (22, 29), (23, 29), (24, 29), (25, 29), (26, 29), (27, 29), (0, 30), (1, 30), (2, 30), (3, 30), (4, 30), (5, 30), (6, 30), (7, 30), (8, 30), (9, 30), (10, 30), (11, 30), (12, 30), (13, 30), (14, 30), (15, 30), (16, 30), (17, 30), (18, 30), (19, 30), (20, 30), (21, 30), (22, 30), (23, 30), (24, 30), (25, 30), (26, 30), (27, 30), (0, 31), (1, 31), (2, 31), (3, 31), (4, 31), (5, 31), (6, 31), (7, 31), (8, 31), (9, 31), (10, 31), (11, 31), (12, 31), (13, 31), (14, 31), (15, 31), (16, 31), (17, 31), (18, 31), (19, 31), (20, 31), (21, 31), (22, 31), (23, 31), (24, 31), (25, 31), (26, 31), (27, 31), (28, 31), (29, 31), (30, 31), (0, 32), (1, 32), (2, 32), (3, 32), (4, 32), (5, 32), (6, 32), (7, 32), (8, 32), (9, 32), (10, 32), (11, 32), (12, 32), (13, 32), (14, 32), (15, 32), (16, 32), (17, 32), (18, 32), (19, 32), (20, 32), (21, 32), (22, 32), (23, 32), (24, 32), (25, 32), (26, 32), (27, 32), (0, 33), (1, 33), (2, 33), (3, 33), (4, 33), (5, 33), (6, 33), (7, 33), (8, 33), (9, 33), (10, 33), (11, 33), (12, 33), (13, 33), (14, 33), (15, 33), (16, 33), (17, 33), (18, 33), (19, 33), (20, 33), (21, 33), (22, 33), (23, 33), (24, 33), (25, 33), (26, 33), (27, 33), (28, 33), (29, 33), (30, 33), (31, 33), (32, 33), (0, 34), (1, 34), (2, 34), (3, 34), (4, 34), (5, 34), (6, 34), (7, 34), (8, 34), (9, 34), (10, 34), (11, 34), (12, 34), (13, 34), (14, 34), (15, 34), (16, 34), (17, 34), (18, 34), (19, 34), (20, 34), (21, 34), (22, 34), (23, 34), (24, 34), (25, 34), (26, 34), (27, 34), (28, 34), (29, 34), (30, 34), (31, 34), (32, 34), (0, 35), (1, 35), (2, 35), (3, 35), (4, 35), (5, 35), (6, 35), (7, 35), (8, 35), (9, 35), (10, 35), (11, 35), (12, 35), (13, 35), (14, 35), (15, 35), (16, 35), (17, 35), (18, 35), (19, 35), (20, 35), (21, 35), (22, 35), (23, 35), (24, 35), (25, 35), (26, 35), (27, 35), (28, 35), (29, 35), (30, 35), (31, 35), (32, 35), (0, 36), (1, 36), (2, 36), (3, 36), (4, 36), (5, 36), (6, 36), (7, 36), (8, 36), (9, 36), (10, 36), (11, 36), (12, 36), (13, 36), (14, 36), (15, 36), (16, 36), (17, 36), (18, 36), (19, 36), (20, 36), (21, 36), (22, 36), (23, 36), (24, 36), (25, 36), (26, 36), (27, 36), (28, 36), (29, 36), (30, 36), (31, 36), (32, 36), (33, 36), (34, 36), (35, 36), (0, 37), (1, 37), (2, 37), (3, 37), (4, 37), (5, 37), (6, 37), (7, 37), (8, 37), (9, 37), (10, 37), (11, 37), (12, 37), (13, 37), (14, 37), (15, 37), (16, 37), (17, 37), (18, 37), (19, 37), (20, 37), (21, 37), (22, 37), (23, 37), (24, 37), (25, 37), (26, 37), (27, 37), (28, 37), (29, 37), (30, 37), (31, 37), (32, 37), (13, 38), (14, 38), (15, 38), (16, 38), (40, 41)] [2, 3, 6, 7, 30, 31, 32, 33, 34, 35, 36, 37, 38, 39, 40, 41, 42, 43, 44, 45, 46, 47, 48, 49, 50, 51, 52, 53, 54, 55, 56, 57, 58, 59, 60, 61, 62, 63, 64, 65, 66, 67, 68, 69, 70, 71]) .ret))))⟩
end Go.Pf.Vc
namespace Go.Pf.Vc
open Go Go.Pf
def t_r02_worth : TFn := ⟨4, [.cell 8 true 2, .tmp 9], (.seq (oQ [O 4 (.boxL (.t 0)), O 6 (.boxL (.t 2)), O 7 (.boxL (.t 3)), O 8 (.allocL (.agg [(.int .i64 (0)), (.int .i64 (0))])), O 9 (.mv (I 0))] [0, 2, 3, 9]) (.seq (.ops [oT 14 2 6, O 15 (.fad 1 (.t 4)), oF 16 1 15, M 17 1, O 18 (.iad 1 (.t 16) (.t 17)), oF 19 1 18, O 20 (.call (.f n_r01_Of) [(.t 19)]), O 21 (.call (.f n_r02_later) [(.t 14), (.t 20)]), oT 22 2 7, O 23 (.fad 1 (.t 4)), oF 24 1 23, M 25 1, O 26 (.bin .add (.t 25) (I 1)), O 27 (.iad 1 (.t 24) (.t 26)), oF 28 1 27, O 29 (.call (.f n_r01_Of) [(.t 28)]), O 30 (.call (.f n_r02_sooner) [(.t 22), (.t 29)]), O 10 (.allocL (.agg [(.int .i64 (0)), (.int .i64 (0))])), O 11 (.allocL (.agg [(.int .i64 (0)), (.int .i64 (0))])), ⟨none, (.store 2 (.t 10) (.t 21)), none⟩, ⟨none, (.store 2 (.t 11) (.t 30)), none⟩] [⟨2, (.agg [.i .i64, .d, .d]), 0⟩, ⟨4, (.one (.i .i64)), 0⟩, ⟨5, (.one (.i .i64)), 0⟩, ⟨10, (.agg [.i .i64, .d, .d]), 0⟩, ⟨13, (.one (.i .i64)), 0⟩, ⟨14, (.one (.i .i64)), 0⟩] [(0, 1), (0, 2), (0, 3), (1, 3), (2, 3), (0, 4), (0, 5), (0, 6), (0, 8), (1, 8), (2, 8), (3, 8), (4, 8), (5, 8), (6, 8), (7, 8), (0, 9), (1, 9), (2, 9), (3, 9), (4, 9), (5, 9), (6, 9), (7, 9), (8, 9), (0, 10), (1, 10), (2, 10), (3, 10), (4, 10), (5, 10), (6, 10), (7, 10), (8, 10), (0, 11), (1, 11), (2, 11), (3, 11), (4, 11), (5, 11), (6, 11), (7, 11), (8, 11), (9, 11), (10, 11), (0, 12), (1, 12), (2, 12), (3, 12), (4, 12), (5, 12), (6, 12), (7, 12), (8, 12), (9, 12), (10, 12), (0, 13), (1, 13), (2, 13), (3, 13), (4, 13), (5, 13), (6, 13), (7, 13), (8, 13), (0, 14), (1, 14), (2, 14), (3, 14), (4, 14), (5, 14), (6, 14), (7, 14), (8, 14), (8, 15), (0, 17), (1, 17), (2, 17), (3, 17), (4, 17), (5, 17), (6, 17), (7, 17), (8, 17), (9, 17), (10, 17), (11, 17), (12, 17), (13, 17), (14, 17), (15, 17), (16, 17), (0, 18), (1, 18), (2, 18), (3, 18), (4, 18), (5, 18), (6, 18), (7, 18), (8, 18), (9, 18), (10, 18), (11, 18), (12, 18), (13, 18), (14, 18), (15, 18), (16, 18), (17, 18)] [6, 7, 14, 15, 16, 17, 18, 19, 20, 21, 22, 23, 24, 25, 26, 27, 28, 29, 30]) (.seq (.seq (.ops [oT 31 2 10, oT 32 2 11, O 33 (.call (.f n_r01_Less) [(.t 31), (.t 32)]), O 34 (.un .not (.t 33)), M 35 34, ⟨some 36, (.fad 2 (.t 4)), some (35, false)⟩, ⟨some 37, (.load false 1 (.t 36)), some (35, false)⟩, ⟨some 38, (.mv (.t 1)), some (35, false)⟩, ⟨some 39, (.iad 1 (.t 37) (.t 38)), some (35, false)⟩, ⟨some 40, (.load false 1 (.t 39)), some (35, false)⟩, ⟨some 41, (.bin .eql (.t 40) (I 0)), some (35, false)⟩, O 42 (.pick (.t 35) (.c (.bool true)) (.t 41))] [⟨6, (.agg [.i .i64, .d, .d]), 0⟩, ⟨8, (.one (.i .i64)), 0⟩, ⟨9, (.one (.i .i64)), 0⟩] [] [31, 32, 33, 34, 35, 36, 37, 38, 39, 40, 41]) (.cond (.t 42) (.seq (oQ [O 43 (.build [(.int .i64 (0)), (.int .i64 (0))] [(1, 1, (I 1))]), ⟨none, (.store 2 (.t 8) (.t 43)), none⟩, O 9 (.mv (I 0))] [1, 4, 10, 11, 42, 43]) .ret) .skip)) (.seq (oQ [oT 45 2 11, oT 46 2 10, O 47 (.call (.f n_r01_Sub) [(.t 45), (.t 46)]), M 44 47, O 48 (.ext (.t 44) 0), O 49 (.ext (.t 44) 1), O 12 (.allocL (.agg [(.int .i64 (0)), (.int .i64 (0))])), ⟨none, (.store 2 (.t 12) (.t 48)), none⟩, M 13 49] [10, 11, 42, 44, 45, 46, 47, 48, 49]) (.seq (.seq (oQ [M 50 13, O 51 (.bin .neq (.t 50) (I 0))] [50]) (.cond (.t 51) (.seq (oQ [O 52 (.build [(.int .i64 (0)), (.int .i64 (0))] []), M 53 13, ⟨none, (.store 2 (.t 8) (.t 52)), none⟩, M 9 53] [1, 4, 12, 13, 51, 52, 53]) .ret) .skip)) (.seq (.ops [oT 54 2 12, O 55 (.fad 2 (.t 4)), oF 56 1 55, M 57 1, O 58 (.iad 1 (.t 56) (.t 57)), oF 59 1 58, O 60 (.call (.f n_r01_Of) [(.t 59)]), O 61 (.call (.f n_r01_Mul) [(.t 54), (.t 60)]), O 62 (.ext (.t 61) 0), O 63 (.ext (.t 61) 1), ⟨none, (.store 2 (.t 8) (.t 62)), none⟩, M 9 63] [⟨2, (.agg [.i .i64, .d, .d]), 0⟩, ⟨4, (.one (.i .i64)), 0⟩, ⟨5, (.one (.i .i64)), 0⟩] [(0, 1), (0, 2), (0, 3), (1, 3), (2, 3), (0, 4), (0, 5), (0, 6), (8, 9)] [1, 4, 12, 13, 51, 54, 55, 56, 57, 58, 59, 60, 61, 62, 63]) .ret))))))⟩
def b_92446900 : TCode := (.seq (.seq (.ops [M 37 9, O 38 (.fad 2 (.t 3)), oF 39 1 38, O 40 (.len (.t 39)), oX 41 .lss 37 40] [⟨2, (.agg [.i .i64, .d, .d]), 0⟩] [] [37, 38, 39, 40]) (.cond (.t 41) .skip (.exit 0))) (.seq (.block 1 (.seq (oQ [oT 45 3 3, M 46 9, oT 47 2 4, oT 48 2 5, O 49 (.call (.f n_r02_worth) [(.t 45), (.t 46), (.t 47), (.t 48)]), M 44 49, O 50 (.ext (.t 44) 0), O 51 (.ext (.t 44) 1), O 10 (.allocL (.agg [(.int .i64 (0)), (.int .i64 (0))])), ⟨none, (.store 2 (.t 10) (.t 50)), none⟩, M 11 51] [41, 44, 45, 46, 47, 48, 49, 50, 51]) (.seq (.seq (oQ [M 52 11, O 53 (.bin .neq (.t 52) (I 0))] [52]) (.cond (.t 53) (.seq (oQ [O 54 (.build [(.int .i64 (0)), (.int .i64 (0))] []), M 55 11, ⟨none, (.store 2 (.t 6) (.t 54)), none⟩, M 7 55] [3, 4, 5, 8, 9, 10, 11, 53, 54, 55]) .ret) .skip)) (.seq (oQ [oT 57 2 8, oT 58 2 10, O 59 (.call (.f n_r01_Add) [(.t 57), (.t 58)]), M 56 59, O 60 (.ext (.t 56) 0), O 61 (.ext (.t 56) 1), ⟨none, (.store 2 (.t 8) (.t 60)), none⟩, M 11 61] [10, 53, 56, 57, 58, 59, 60, 61]) (.seq (oQ [M 62 11, O 63 (.bin .neq (.t 62) (I 0))] [62]) (.cond (.t 63) (.seq (oQ [O 64 (.build [(.int .i64 (0)), (.int .i64 (0))] []), M 65 11, ⟨none, (.store 2 (.t 6) (.t 64)), none⟩, M 7 65] [3, 4, 5, 8, 9, 11, 63, 64, 65]) .ret) .skip)))))) (oQ [M 42 9, O 43 (.bin .add (.t 42) (I 1)), M 9 43] [11, 42, 43, 63])))
def t_r02_Value : TFn := ⟨3, [.cell 6 true 2, .tmp 7], (.seq (oQ [O 3 (.boxL (.t 0)), O 4 (.boxL (.t 1)), O 5 (.boxL (.t 2)), O 6 (.allocL (.agg [(.int .i64 (0)), (.int .i64 (0))])), O 7 (.mv (I 0))] [0, 1, 2, 7]) (.seq (.seq (oQ [oT 12 3 3, O 13 (.call (.f n_r02_Check) [(.t 12)]), O 14 (.bin .neq (.t 13) (I 0))] [12, 13]) (.cond (.t 14) (.seq (oQ [O 15 (.build [(.int .i64 (0)), (.int .i64 (0))] []), oT 16 3 3, O 17 (.call (.f n_r02_Check) [(.t 16)]), ⟨none, (.store 2 (.t 6) (.t 15)), none⟩, M 7 17] [3, 4, 5, 14, 15, 16, 17]) .ret) .skip)) (.seq (.seq (.ops [O 18 (.fad 0 (.t 3)), oF 19 1 18, oT 20 2 4, O 21 (.call (.f n_r02_Point) [(.t 19), (.t 20)]), O 22 (.un .not (.t 21)), M 23 22, ⟨some 24, (.fad 0 (.t 3)), some (23, false)⟩, ⟨some 25, (.load false 1 (.t 24)), some (23, false)⟩, ⟨some 26, (.load true 2 (.t 5)), some (23, false)⟩, ⟨some 27, (.call (.f n_r02_Point) [(.t 25), (.t 26)]), some (23, false)⟩, ⟨some 28, (.un .not (.t 27)), some (23, false)⟩, O 29 (.pick (.t 23) (.c (.bool true)) (.t 28)), M 30 29, ⟨some 31, (.load true 2 (.t 5)), some (30, false)⟩, ⟨some 32, (.load true 2 (.t 4)), some (30, false)⟩, ⟨some 33, (.call (.f n_r01_Less) [(.t 31), (.t 32)]), some (30, false)⟩, O 34 (.pick (.t 30) (.c (.bool true)) (.t 33))] [⟨1, (.agg [.i .i64, .d, .d]), 0⟩, ⟨7, (.agg [.i .i64, .d, .d]), 0⟩] [] [14, 18, 19, 20, 21, 22, 23, 24, 25, 26, 27, 28, 29, 30, 31, 32, 33]) (.cond (.t 34) (.seq (oQ [O 35 (.build [(.int .i64 (0)), (.int .i64 (0))] []), ⟨none, (.store 2 (.t 6) (.t 35)), none⟩, O 7 (.mv (I 2))] [3, 4, 5, 34, 35]) .ret) .skip)) (.seq (oQ [O 36 (.build [(.int .i64 (0)), (.int .i64 (0))] [(1, 1, (I 1))]), O 8 (.allocL (.agg [(.int .i64 (0)), (.int .i64 (0))])), ⟨none, (.store 2 (.t 8) (.t 36)), none⟩] [34, 36]) (.seq (.seq (oQ [O 9 (.mv (I 0))] []) (.block 0 (.loop 92446900 b_92446900))) (.seq (oQ [oT 66 2 8, ⟨none, (.store 2 (.t 6) (.t 66)), none⟩, O 7 (.mv (I 0))] [3, 4, 5, 8, 9, 41, 66]) .ret))))))⟩
def t_r01_Div : TFn := ⟨2, [.cell 4 true 2, .tmp 5], (.seq (oQ [O 2 (.boxL (.t 0)), O 3 (.boxL (.t 1)), O 4 (.allocL (.agg [(.int .i64 (0)), (.int .i64 (0))])), O 5 (.mv (I 0))] [0, 1, 5]) (.seq (.seq (oQ [oT 7 2 2, oT 8 2 3, O 9 (.call (.f n_r01_Both) [(.t 7), (.t 8)]), O 10 (.bin .neq (.t 9) (I 0))] [7, 8, 9]) (.cond (.t 10) (.seq (oQ [O 11 (.build [(.int .i64 (0)), (.int .i64 (0))] []), oT 12 2 2, oT 13 2 3, O 14 (.call (.f n_r01_Both) [(.t 12), (.t 13)]), ⟨none, (.store 2 (.t 4) (.t 11)), none⟩, M 5 14] [2, 3, 10, 11, 12, 13, 14]) .ret) .skip)) (.seq (.seq (.ops [O 15 (.fad 0 (.t 3)), oF 16 1 15, O 17 (.bin .eql (.t 16) (I 0))] [⟨1, (.agg [.i .i64, .i .i64]), 0⟩] [] [10, 15, 16]) (.cond (.t 17) (.seq (oQ [O 18 (.build [(.int .i64 (0)), (.int .i64 (0))] []), ⟨none, (.store 2 (.t 4) (.t 18)), none⟩, O 5 (.mv (I 18))] [2, 3, 17, 18]) .ret) .skip)) (.seq (.ops [O 19 (.fad 1 (.t 3)), oF 20 1 19, O 21 (.fad 0 (.t 3)), oF 22 1 21, O 23 (.build [(.int .i64 (0)), (.int .i64 (0))] [(0, 1, (.t 20)), (1, 1, (.t 22))]), O 6 (.allocL (.agg [(.int .i64 (0)), (.int .i64 (0))])), ⟨none, (.store 2 (.t 6) (.t 23)), none⟩] [⟨1, (.agg [.i .i64, .i .i64]), 0⟩, ⟨3, (.agg [.i .i64, .i .i64]), 0⟩] [] [17, 19, 20, 21, 22, 23]) (.seq (.seq (.ops [O 24 (.fad 0 (.t 3)), oF 25 1 24, O 26 (.bin .lss (.t 25) (I 0))] [⟨1, (.agg [.i .i64, .i .i64]), 0⟩] [] [24, 25]) (.cond (.t 26) (.ops [O 27 (.fad 1 (.t 3)), oF 28 1 27, O 29 (.un .neg (.t 28)), O 30 (.fad 0 (.t 3)), oF 31 1 30, O 32 (.un .neg (.t 31)), O 33 (.build [(.int .i64 (0)), (.int .i64 (0))] [(0, 1, (.t 29)), (1, 1, (.t 32))]), ⟨none, (.store 2 (.t 6) (.t 33)), none⟩] [⟨1, (.agg [.i .i64, .i .i64]), 0⟩, ⟨4, (.agg [.i .i64, .i .i64]), 0⟩] [] [3, 26, 27, 28, 29, 30, 31, 32, 33]) .skip)) (.seq (oQ [oT 34 2 2, oT 35 2 6, O 36 (.call (.f n_r01_Mul) [(.t 34), (.t 35)]), O 37 (.ext (.t 36) 0), O 38 (.ext (.t 36) 1), ⟨none, (.store 2 (.t 4) (.t 37)), none⟩, M 5 38] [2, 3, 6, 26, 34, 35, 36, 37, 38]) .ret))))))⟩
def b_63725400 : TCode := (.seq (.seq (.ops [M 38 9, O 39 (.fad 2 (.t 3)), oF 40 1 39, O 41 (.len (.t 40)), oX 42 .lss 38 41, M 43 42, ⟨some 44, (.fad 0 (.t 5)), some (43, true)⟩, ⟨some 45, (.load false 1 (.t 44)), some (43, true)⟩, ⟨some 46, (.bin .gtr (.t 45) (I 0)), some (43, true)⟩, O 47 (.pick (.t 43) (.t 46) (.c (.bool false)))] [⟨2, (.agg [.i .i64, .d, .d]), 0⟩, ⟨7, (.agg [.i .i64, .i .i64]), 0⟩] [] [38, 39, 40, 41, 42, 43, 44, 45, 46]) (.cond (.t 47) .skip (.exit 0))) (.seq (.block 1 (.seq (.ops [O 50 (.fad 1 (.t 3)), oF 51 1 50, M 52 9, O 53 (.bin .add (.t 52) (I 1)), O 54 (.iad 1 (.t 51) (.t 53)), oF 55 1 54, O 56 (.call (.f n_r01_Of) [(.t 55)]), O 10 (.allocL (.agg [(.int .i64 (0)), (.int .i64 (0))])), ⟨none, (.store 2 (.t 10) (.t 56)), none⟩] [⟨1, (.agg [.i .i64, .d, .d]), 0⟩, ⟨4, (.one (.i .i64)), 0⟩, ⟨5, (.one (.i .i64)), 0⟩] [] [47, 50, 51, 52, 53, 54, 55, 56]) (.seq (.seq (.ops [oT 57 2 8, oT 58 2 10, O 59 (.call (.f n_r01_Less) [(.t 57), (.t 58)]), O 60 (.un .not (.t 59)), M 61 60, ⟨some 62, (.fad 2 (.t 3)), some (61, false)⟩, ⟨some 63, (.load false 1 (.t 62)), some (61, false)⟩, ⟨some 64, (.mv (.t 9)), some (61, false)⟩, ⟨some 65, (.iad 1 (.t 63) (.t 64)), some (61, false)⟩, ⟨some 66, (.load false 1 (.t 65)), some (61, false)⟩, ⟨some 67, (.bin .eql (.t 66) (I 0)), some (61, false)⟩, O 68 (.pick (.t 61) (.c (.bool true)) (.t 67))] [⟨6, (.agg [.i .i64, .d, .d]), 0⟩, ⟨8, (.one (.i .i64)), 0⟩, ⟨9, (.one (.i .i64)), 0⟩] [] [57, 58, 59, 60, 61, 62, 63, 64, 65, 66, 67]) (.cond (.t 68) (.seq (oQ [oT 69 2 8, oT 70 2 10, O 71 (.call (.f n_r02_later) [(.t 69), (.t 70)]), ⟨none, (.store 2 (.t 8) (.t 71)), none⟩] [10, 68, 69, 70, 71]) (.exit 1)) .skip)) (.seq (oQ [oT 73 3 3, M 74 9, oT 75 2 8, oT 76 2 10, O 77 (.call (.f n_r02_worth) [(.t 73), (.t 74), (.t 75), (.t 76)]), M 72 77, O 78 (.ext (.t 72) 0), O 79 (.ext (.t 72) 1), O 11 (.allocL (.agg [(.int .i64 (0)), (.int .i64 (0))])), ⟨none, (.store 2 (.t 11) (.t 78)), none⟩, M 12 79] [68, 72, 73, 74, 75, 76, 77, 78, 79]) (.seq (.seq (oQ [M 80 12, O 81 (.bin .neq (.t 80) (I 0))] [80]) (.cond (.t 81) (.seq (oQ [O 82 (.build [(.int .i64 (0)), (.int .i64 (0))] []), M 83 12, ⟨none, (.store 2 (.t 6) (.t 82)), none⟩, M 7 83] [3, 4, 5, 8, 9, 10, 11, 12, 81, 82, 83]) .ret) .skip)) (.seq (.seq (oQ [oT 84 2 11, oT 85 2 5, O 86 (.call (.f n_r01_Less) [(.t 84), (.t 85)]), O 87 (.un .not (.t 86))] [12, 81, 84, 85, 86]) (.cond (.t 87) (.seq (.ops [oT 89 2 5, O 90 (.fad 2 (.t 3)), oF 91 1 90, M 92 9, O 93 (.iad 1 (.t 91) (.t 92)), oF 94 1 93, O 95 (.call (.f n_r01_Of) [(.t 94)]), O 96 (.call (.f n_r01_Div) [(.t 89), (.t 95)]), M 88 96, O 97 (.ext (.t 88) 0), O 98 (.ext (.t 88) 1), O 13 (.allocL (.agg [(.int .i64 (0)), (.int .i64 (0))])), ⟨none, (.store 2 (.t 13) (.t 97)), none⟩, M 14 98] [⟨2, (.agg [.i .i64, .d, .d]), 0⟩, ⟨4, (.one (.i .i64)), 0⟩, ⟨5, (.one (.i .i64)), 0⟩] [(0, 1), (0, 2), (0, 3), (1, 3), (2, 3), (0, 4), (0, 5), (0, 6), (9, 10), (0, 11), (1, 11), (2, 11), (3, 11), (4, 11), (5, 11), (6, 11), (7, 11), (8, 11), (9, 11), (10, 11), (10, 12)] [3, 4, 5, 9, 10, 11, 87, 88, 89, 90, 91, 92, 93, 94, 95, 96, 97, 98]) (.seq (.seq (oQ [M 99 14, O 100 (.bin .neq (.t 99) (I 0))] [99]) (.cond (.t 100) (.seq (oQ [O 101 (.build [(.int .i64 (0)), (.int .i64 (0))] []), M 102 14, ⟨none, (.store 2 (.t 6) (.t 101)), none⟩, M 7 102] [8, 13, 14, 100, 101, 102]) .ret) .skip)) (.seq (oQ [oT 103 2 8, oT 104 2 13, O 105 (.call (.f n_r01_Add) [(.t 103), (.t 104)]), O 106 (.ext (.t 105) 0), O 107 (.ext (.t 105) 1), ⟨none, (.store 2 (.t 6) (.t 106)), none⟩, M 7 107] [8, 13, 14, 100, 103, 104, 105, 106, 107]) .ret))) .skip)) (.seq (oQ [oT 109 2 5, oT 110 2 11, O 111 (.call (.f n_r01_Sub) [(.t 109), (.t 110)]), M 108 111, O 112 (.ext (.t 108) 0), O 113 (.ext (.t 108) 1), ⟨none, (.store 2 (.t 5) (.t 112)), none⟩, M 12 113] [11, 87, 108, 109, 110, 111, 112, 113]) (.seq (.seq (oQ [M 114 12, O 115 (.bin .neq (.t 114) (I 0))] [114]) (.cond (.t 115) (.seq (oQ [O 116 (.build [(.int .i64 (0)), (.int .i64 (0))] []), M 117 12, ⟨none, (.store 2 (.t 6) (.t 116)), none⟩, M 7 117] [3, 4, 5, 8, 9, 10, 12, 115, 116, 117]) .ret) .skip)) (oQ [oT 118 2 10, ⟨none, (.store 2 (.t 8) (.t 118)), none⟩] [10, 12, 115, 118]))))))))) (oQ [M 48 9, O 49 (.bin .add (.t 48) (I 1)), M 9 49] [48, 49])))
def t_r02_Mark : TFn := ⟨3, [.cell 6 true 2, .tmp 7], (.seq (oQ [O 3 (.boxL (.t 0)), O 4 (.boxL (.t 1)), O 5 (.boxL (.t 2)), O 6 (.allocL (.agg [(.int .i64 (0)), (.int .i64 (0))])), O 7 (.mv (I 0))] [0, 1, 2, 7]) (.seq (.seq (oQ [oT 15 3 3, O 16 (.call (.f n_r02_Check) [(.t 15)]), O 17 (.bin .neq (.t 16) (I 0))] [15, 16]) (.cond (.t 17) (.seq (oQ [O 18 (.build [(.int .i64 (0)), (.int .i64 (0))] []), oT 19 3 3, O 20 (.call (.f n_r02_Check) [(.t 19)]), ⟨none, (.store 2 (.t 6) (.t 18)), none⟩, M 7 20] [3, 4, 5, 17, 18, 19, 20]) .ret) .skip)) (.seq (.seq (.ops [O 21 (.fad 0 (.t 3)), oF 22 1 21, oT 23 2 4, O 24 (.call (.f n_r02_Point) [(.t 22), (.t 23)]), O 25 (.un .not (.t 24)), M 26 25, ⟨some 27, (.load true 2 (.t 5)), some (26, false)⟩, ⟨some 28, (.call (.f n_r01_Check) [(.t 27)]), some (26, false)⟩, ⟨some 29, (.bin .neq (.t 28) (I 0)), some (26, false)⟩, O 30 (.pick (.t 26) (.c (.bool true)) (.t 29)), M 31 30, ⟨some 32, (.fad 0 (.t 5)), some (31, false)⟩, ⟨some 33, (.load false 1 (.t 32)), some (31, false)⟩, ⟨some 34, (.bin .lss (.t 33) (I 0)), some (31, false)⟩, O 35 (.pick (.t 31) (.c (.bool true)) (.t 34))] [⟨1, (.agg [.i .i64, .d, .d]), 0⟩, ⟨12, (.agg [.i .i64, .i .i64]), 0⟩] [] [17, 21, 22, 23, 24, 25, 26, 27, 28, 29, 30, 31, 32, 33, 34]) (.cond (.t 35) (.seq (oQ [O 36 (.build [(.int .i64 (0)), (.int .i64 (0))] []), ⟨none, (.store 2 (.t 6) (.t 36)), none⟩, O 7 (.mv (I 2))] [3, 4, 5, 35, 36]) .ret) .skip)) (.seq (oQ [oT 37 2 4, O 8 (.allocL (.agg [(.int .i64 (0)), (.int .i64 (0))])), ⟨none, (.store 2 (.t 8) (.t 37)), none⟩] [35, 37]) (.seq (.seq (oQ [O 9 (.mv (I 0))] []) (.block 0 (.loop 63725400 b_63725400))) (.seq (.seq (.ops [O 119 (.fad 0 (.t 5)), oF 120 1 119, O 121 (.bin .gtr (.t 120) (I 0))] [⟨1, (.agg [.i .i64, .i .i64]), 0⟩] [] [3, 5, 8, 9, 47, 119, 120]) (.cond (.t 121) (.seq (oQ [O 122 (.build [(.int .i64 (0)), (.int .i64 (0))] []), ⟨none, (.store 2 (.t 6) (.t 122)), none⟩, O 7 (.mv (I 6))] [4, 121, 122]) .ret) .skip)) (.seq (oQ [oT 123 2 4, ⟨none, (.store 2 (.t 6) (.t 123)), none⟩, O 7 (.mv (I 0))] [4, 121, 123]) .ret)))))))⟩
def t_r04_answer : TFn := ⟨2, [.cell 4 true 2, .tmp 5], (.seq (oQ [O 3 (.boxL (.t 1)), O 4 (.allocL (.agg [(.int .i64 (0)), (.int .i64 (0))])), O 5 (.mv (I 0))] [1, 5]) (.seq (.seq (.ops [O 6 (.fad 1 (.t 3)), oF 7 1 6, O 8 (.bin .eql (.t 7) (.c (.int .u8 (1))))] [⟨1, (.agg [.i .i64, .i .u8, .i .i64, .i .i64, .i .i64, .i .i64, .i .i64, .i .i64]), 0⟩] [] [6, 7]) (.cond (.t 8) (.seq (.ops [M 9 0, O 10 (.fad 0 (.t 3)), oF 11 1 10, O 12 (.iad 3 (.t 9) (.t 11)), oT 13 3 12, O 14 (.fad 2 (.t 3)), oT 15 2 14, O 16 (.fad 4 (.t 3)), oT 17 2 16, O 18 (.call (.f n_r02_Value) [(.t 13), (.t 15), (.t 17)]), O 19 (.ext (.t 18) 0), O 20 (.ext (.t 18) 1), ⟨none, (.store 2 (.t 4) (.t 19)), none⟩, M 5 20] [⟨2, (.agg [.i .i64, .i .u8, .i .i64, .i .i64, .i .i64, .i .i64, .i .i64, .i .i64]), 0⟩, ⟨3, (.agg [.i .i64, .d, .d]), 0⟩, ⟨4, (.agg [.i .i64, .d, .d]), 0⟩, ⟨6, (.agg [.i .i64, .i .u8, .i .i64, .i .i64, .i .i64, .i .i64, .i .i64, .i .i64]), 0⟩, ⟨8, (.agg [.i .i64, .i .u8, .i .i64, .i .i64, .i .i64, .i .i64, .i .i64, .i .i64]), 0⟩] [(0, 1), (0, 2), (0, 5), (1, 5), (2, 5), (3, 5), (4, 5), (0, 6), (1, 6), (2, 6), (3, 6), (4, 6), (0, 7), (1, 7), (2, 7), (3, 7), (4, 7), (5, 7), (6, 7), (0, 8), (1, 8), (2, 8), (3, 8), (4, 8), (5, 8), (6, 8), (10, 11)] [0, 3, 8, 9, 10, 11, 12, 13, 14, 15, 16, 17, 18, 19, 20]) .ret) .skip)) (.seq (.ops [M 21 0, O 22 (.fad 0 (.t 3)), oF 23 1 22, O 24 (.iad 3 (.t 21) (.t 23)), oT 25 3 24, O 26 (.fad 2 (.t 3)), oT 27 2 26, O 28 (.fad 4 (.t 3)), oT 29 2 28, O 30 (.call (.f n_r02_Mark) [(.t 25), (.t 27), (.t 29)]), O 31 (.ext (.t 30) 0), O 32 (.ext (.t 30) 1), ⟨none, (.store 2 (.t 4) (.t 31)), none⟩, M 5 32] [⟨2, (.agg [.i .i64, .i .u8, .i .i64, .i .i64, .i .i64, .i .i64, .i .i64, .i .i64]), 0⟩, ⟨3, (.agg [.i .i64, .d, .d]), 0⟩, ⟨4, (.agg [.i .i64, .d, .d]), 0⟩, ⟨6, (.agg [.i .i64, .i .u8, .i .i64, .i .i64, .i .i64, .i .i64, .i .i64, .i .i64]), 0⟩, ⟨8, (.agg [.i .i64, .i .u8, .i .i64, .i .i64, .i .i64, .i .i64, .i .i64, .i .i64]), 0⟩] [(0, 1), (0, 2), (0, 5), (1, 5), (2, 5), (3, 5), (4, 5), (0, 6), (1, 6), (2, 6), (3, 6), (4, 6), (0, 7), (1, 7), (2, 7), (3, 7), (4, 7), (5, 7), (6, 7), (0, 8), (1, 8), (2, 8), (3, 8), (4, 8), (5, 8), (6, 8), (10, 11)] [0, 3, 8, 21, 22, 23, 24, 25, 26, 27, 28, 29, 30, 31, 32]) .ret)))⟩
def t_r04_asked : TFn := ⟨2, [.cell 4 true 2, .cell 5 true 2, .tmp 6], (.seq (oQ [O 2 (.boxL (.t 0)), O 3 (.boxL (.t 1)), O 4 (.allocL (.agg [.nils, .nils])), O 5 (.allocL (.agg [(.int .i64 (0)), (.int .i64 (0))])), O 6 (.mv (I 0))] [0, 1, 6]) (.seq (.seq (oQ [oT 9 2 2, O 10 (.call (.f n_r04_Check) [(.t 9)]), O 11 (.bin .neq (.t 10) (I 0))] [9, 10]) (.cond (.t 11) (.seq (oQ [O 12 (.build [.nils, .nils] []), O 13 (.build [(.int .i64 (0)), (.int .i64 (0))] []), oT 14 2 2, O 15 (.call (.f n_r04_Check) [(.t 14)]), ⟨none, (.store 2 (.t 4) (.t 12)), none⟩, ⟨none, (.store 2 (.t 5) (.t 13)), none⟩, M 6 15] [2, 3, 11, 12, 13, 14, 15]) .ret) .skip)) (.seq (.seq (.ops [oT 16 2 2, O 17 (.fad 0 (.t 3)), oF 18 1 17, O 19 (.call (.f n_r04_Agent) [(.t 16), (.t 18)]), O 20 (.un .not (.t 19))] [⟨2, (.agg [.i .i64, .i .u8, .i .i64, .i .i64, .i .i64, .i .i64, .i .i64, .i .i64]), 0⟩] [] [11, 16, 17, 18, 19]) (.cond (.t 20) (.seq (oQ [O 21 (.build [.nils, .nils] []), O 22 (.build [(.int .i64 (0)), (.int .i64 (0))] []), ⟨none, (.store 2 (.t 4) (.t 21)), none⟩, ⟨none, (.store 2 (.t 5) (.t 22)), none⟩, O 6 (.mv (I 2))] [2, 3, 20, 21, 22]) .ret) .skip)) (.seq (.ops [O 24 (.fad 0 (.t 2)), oF 25 1 24, oT 26 8 3, O 27 (.call (.f n_r04_answer) [(.t 25), (.t 26)]), M 23 27, O 28 (.ext (.t 23) 0), O 29 (.ext (.t 23) 1), O 7 (.allocL (.agg [(.int .i64 (0)), (.int .i64 (0))])), ⟨none, (.store 2 (.t 7) (.t 28)), none⟩, M 8 29] [⟨1, (.agg [.d, .d]), 0⟩] [] [20, 23, 24, 25, 26, 27, 28, 29]) (.seq (.seq (oQ [M 30 8, O 31 (.bin .neq (.t 30) (I 0))] [30]) (.cond (.t 31) (.seq (oQ [O 32 (.build [.nils, .nils] []), O 33 (.build [(.int .i64 (0)), (.int .i64 (0))] []), M 34 8, ⟨none, (.store 2 (.t 4) (.t 32)), none⟩, ⟨none, (.store 2 (.t 5) (.t 33)), none⟩, M 6 34] [2, 3, 7, 8, 31, 32, 33, 34]) .ret) .skip)) (.seq (.seq (.ops [O 35 (.fad 1 (.t 2)), oF 36 1 35, O 37 (.len (.t 36)), O 38 (.bin .eql (.t 37) (I 2000))] [⟨1, (.agg [.d, .d]), 0⟩] [] [8, 31, 35, 36, 37]) (.cond (.t 38) (.seq (oQ [O 39 (.build [.nils, .nils] []), O 40 (.build [(.int .i64 (0)), (.int .i64 (0))] []), ⟨none, (.store 2 (.t 4) (.t 39)), none⟩, ⟨none, (.store 2 (.t 5) (.t 40)), none⟩, O 6 (.mv (I 4))] [2, 3, 7, 38, 39, 40]) .ret) .skip)) (.seq (.ops [oT 41 2 7, O 42 (.fad 6 (.t 3)), ⟨none, (.store 2 (.t 42) (.t 41)), none⟩] [⟨2, (.agg [.i .i64, .i .u8, .i .i64, .i .i64, .i .i64, .i .i64, .i .i64, .i .i64]), 0⟩] [] [38, 41, 42]) (.seq (.ops [O 43 (.fad 0 (.t 2)), oF 44 1 43, O 45 (.call (.f n_r04_Twins) [(.t 44)]), O 46 (.buildD 8 (.agg [(.int .i64 (0)), (.int .u8 (0)), (.int .i64 (0)), (.int .i64 (0)), (.int .i64 (0)), (.int .i64 (0)), (.int .i64 (0)), (.int .i64 (0))]) 0 []), O 47 (.fad 1 (.t 2)), oF 48 1 47, O 49 (.app true 8 64 (.t 46) (.t 48)), oT 50 8 3, O 51 (.buildD 8 (.agg [(.int .i64 (0)), (.int .u8 (0)), (.int .i64 (0)), (.int .i64 (0)), (.int .i64 (0)), (.int .i64 (0)), (.int .i64 (0)), (.int .i64 (0))]) 1 [(0, (.t 50))]), O 52 (.app true 8 64 (.t 49) (.t 51)), O 53 (.build [.nils, .nils] [(0, 1, (.t 45)), (1, 1, (.t 52))]), oT 54 2 7, ⟨none, (.store 2 (.t 4) (.t 53)), none⟩, ⟨none, (.store 2 (.t 5) (.t 54)), none⟩, O 6 (.mv (I 0))] [⟨1, (.agg [.d, .d]), 0⟩, ⟨5, (.agg [.d, .d]), 0⟩] [(0, 3), (1, 3), (2, 3), (0, 4), (1, 4), (2, 4), (3, 4), (0, 5), (1, 5), (2, 5), (3, 5), (0, 7), (1, 7), (2, 7), (3, 7), (4, 7), (5, 7), (6, 7), (0, 8), (1, 8), (2, 8), (3, 8), (4, 8), (5, 8), (6, 8), (0, 11), (1, 11), (2, 11), (3, 11), (4, 11), (5, 11), (6, 11), (7, 11), (8, 11), (9, 11), (10, 11), (11, 12)] [2, 3, 7, 43, 44, 45, 46, 47, 48, 49, 50, 51, 52, 53, 54]) .ret))))))))⟩
def t_r04_Mark : TFn := ⟨4, [.cell 8 true 2, .cell 9 true 2, .tmp 10], (.seq (oQ [O 4 (.boxL (.t 0)), O 6 (.boxL (.t 2)), O 7 (.boxL (.t 3)), O 8 (.allocL (.agg [.nils, .nils])), O 9 (.allocL (.agg [(.int .i64 (0)), (.int .i64 (0))])), O 10 (.mv (I 0))] [0, 2, 3, 10]) (.seq (oQ [oT 11 2 4, M 12 1, oT 13 2 6, oT 14 2 7, O 15 (.build [(.int .i64 (0)), (.int .u8 (0)), (.int .i64 (0)), (.int .i64 (0)), (.int .i64 (0)), (.int .i64 (0)), (.int .i64 (0)), (.int .i64 (0))] [(0, 1, (.t 12)), (1, 1, (.c (.int .u8 (2)))), (2, 2, (.t 13)), (4, 2, (.t 14))]), O 16 (.call (.f n_r04_asked) [(.t 11), (.t 15)]), O 17 (.ext (.t 16) 0), O 18 (.ext (.t 16) 1), O 19 (.ext (.t 16) 2), ⟨none, (.store 2 (.t 8) (.t 17)), none⟩, ⟨none, (.store 2 (.t 9) (.t 18)), none⟩, M 10 19] [1, 4, 6, 7, 11, 12, 13, 14, 15, 16, 17, 18, 19]) .ret))⟩
def b_3642000 : TCode := (.seq (.seq (oQ [M 45 15, M 46 0, O 47 (.len (.t 46)), oX 48 .lss 45 47] [45, 46, 47]) (.cond (.t 48) .skip (.exit 2))) (.seq (.block 3 (.seq (.seq (.ops [M 51 9, M 52 15, O 53 (.iad 1 (.t 51) (.t 52)), oF 54 1 53] [⟨2, (.one (.b)), 0⟩, ⟨3, (.one (.b)), 0⟩] [] [48, 51, 52, 53]) (.cond (.t 54) (.exit 3) .skip)) (.seq (oQ [oT 55 2 11, O 16 (.allocL (.agg [(.int .i64 (0)), (.int .i64 (0))])), ⟨none, (.store 2 (.t 16) (.t 55)), none⟩] [54, 55]) (.seq (.seq (oQ [M 56 12, O 57 (.len (.t 56)), O 58 (.bin .add (.t 57) (I 1)), M 59 0, O 60 (.len (.t 59)), oX 61 .lss 58 60] [56, 57, 58, 59, 60]) (.cond (.t 61) (.seq (.ops [oT 63 2 6, M 64 15, oT 65 2 10, oT 66 2 6, M 67 15, O 68 (.call (.f n_r08_Share) [(.t 66), (.t 67)]), O 69 (.call (.f n_r04_Mark) [(.t 63), (.t 64), (.t 65), (.t 68)]), M 62 69, O 70 (.ext (.t 62) 0), O 71 (.ext (.t 62) 1), O 72 (.ext (.t 62) 2), ⟨none, (.store 2 (.t 6) (.t 70)), none⟩, ⟨none, (.store 2 (.t 16) (.t 71)), none⟩, M 7 72] [] [(0, 1), (0, 2), (1, 2), (0, 3), (1, 3), (2, 3), (0, 4), (1, 4), (2, 4), (3, 4), (0, 5), (1, 5), (2, 5), (8, 9), (8, 10), (9, 10), (9, 11), (10, 11), (10, 12)] [61, 62, 63, 64, 65, 66, 67, 68, 69, 70, 71, 72]) (.seq (oQ [M 73 7, O 74 (.bin .neq (.t 73) (I 0))] [73]) (.cond (.t 74) (.seq (oQ [O 75 (.build [.nils] []), M 76 7, ⟨none, (.store 1 (.t 2) (.t 75)), none⟩, O 3 (.mv (.c .nils)), O 4 (.mv (.c .nils)), M 5 76] [0, 6, 7, 8, 9, 10, 11, 12, 13, 14, 15, 16, 74, 75, 76]) .ret) .skip))) .skip)) (.seq (oQ [M 77 13, O 78 (.bin .lss (.t 77) (I 0)), M 79 78, ⟨some 80, (.load true 2 (.t 16)), some (79, false)⟩, ⟨some 81, (.load true 2 (.t 14)), some (79, false)⟩, ⟨some 82, (.call (.f n_r01_Less) [(.t 80), (.t 81)]), some (79, false)⟩, O 83 (.pick (.t 79) (.c (.bool true)) (.t 82))] [7, 61, 74, 77, 78, 79, 80, 81, 82]) (.cond (.t 83) (.ops [M 84 15, oT 85 2 16, M 13 84, ⟨none, (.store 2 (.t 14) (.t 85)), none⟩] [] [(0, 1), (1, 2)] [16, 83, 84, 85]) .skip)))))) (oQ [M 49 15, O 50 (.bin .add (.t 49) (I 1)), M 15 50] [16, 49, 50, 54, 83])))
def b_3642001 : TCode := (.seq (.seq (oQ [M 39 12, O 40 (.len (.t 39)), M 41 0, O 42 (.len (.t 41)), oX 43 .lss 40 42] [39, 40, 41, 42]) (.cond (.t 43) .skip (.exit 0))) (.block 1 (.seq (.ops [oT 44 2 11, O 14 (.allocL (.agg [(.int .i64 (0)), (.int .i64 (0))])), O 13 (.mv (I (-1))), ⟨none, (.store 2 (.t 14) (.t 44)), none⟩] [] [(0, 1), (0, 2)] [43, 44]) (.seq (.seq (oQ [O 15 (.mv (I 0))] []) (.block 2 (.loop 3642000 b_3642000))) (.seq (.ops [O 86 (.fad 0 (.t 8)), oF 87 1 86, M 88 13, oT 89 2 10, oT 90 2 14, O 91 (.build [(.int .i64 (0)), (.int .i64 (0)), (.int .i64 (0)), (.int .i64 (0))] [(0, 2, (.t 89)), (2, 2, (.t 90))]), O 92 (.buildD 4 (.agg [(.int .i64 (0)), (.int .i64 (0)), (.int .i64 (0)), (.int .i64 (0))]) 1 [(0, (.t 91))]), O 93 (.iad 1 (.t 87) (.t 88)), ⟨none, (.store 1 (.t 93) (.t 92)), none⟩] [⟨1, (.agg [.d]), 0⟩, ⟨7, (.one (.d)), 0⟩, ⟨8, (.one (.d)), 0⟩] [] [15, 48, 86, 87, 88, 89, 90, 91, 92, 93]) (.seq (.ops [M 94 9, M 95 13, O 96 (.iad 1 (.t 94) (.t 95)), ⟨none, (.store 1 (.t 96) (.c (.bool true))), none⟩] [⟨2, (.one (.b)), 0⟩, ⟨3, (.one (.b)), 0⟩] [] [94, 95, 96]) (.seq (oQ [M 97 12, M 98 13, O 99 (.buildD 1 (.int .i64 (0)) 1 [(0, (.t 98))]), O 100 (.app true 1 8 (.t 97) (.t 99)), M 12 100] [13, 97, 98, 99, 100]) (oQ [oT 101 2 14, ⟨none, (.store 2 (.t 10) (.t 101)), none⟩] [14, 101]))))))))
def t_r11_Spans : TFn := ⟨1, [.cell 2 true 1, .tmp 3, .tmp 4, .tmp 5], (.seq (oQ [O 2 (.allocL (.agg [.nils])), O 3 (.mv (.c .nils)), O 4 (.mv (.c .nils)), O 5 (.mv (I 0))] [3, 4, 5]) (.seq (oQ [M 18 0, O 19 (.call (.f n_r04_Open) [(.t 18)]), M 17 19, O 20 (.ext (.t 17) 0), O 21 (.ext (.t 17) 1), O 6 (.allocL (.agg [.nils, .nils])), ⟨none, (.store 2 (.t 6) (.t 20)), none⟩, M 7 21] [17, 18, 19, 20, 21]) (.seq (.seq (oQ [M 22 7, O 23 (.bin .neq (.t 22) (I 0))] [22]) (.cond (.t 23) (.seq (oQ [O 24 (.build [.nils] []), M 25 7, ⟨none, (.store 1 (.t 2) (.t 24)), none⟩, O 3 (.mv (.c .nils)), O 4 (.mv (.c .nils)), M 5 25] [0, 6, 7, 23, 24, 25]) .ret) .skip)) (.seq (oQ [M 26 0, O 27 (.len (.t 26)), O 28 (.mkSl true 1 24 (.data []) (.t 27) (.t 27)), O 29 (.build [.nils] [(0, 1, (.t 28))]), O 8 (.allocL (.agg [.nils])), ⟨none, (.store 1 (.t 8) (.t 29)), none⟩] [7, 23, 26, 27, 28, 29]) (.seq (oQ [M 30 0, O 31 (.len (.t 30)), O 32 (.mkSl true 1 1 (.bool false) (.t 31) (.t 31)), M 9 32] [30, 31, 32]) (.seq (.ops [O 33 (.call (.f n_r01_Of) [(I 0)]), M 34 0, O 35 (.iad 3 (.t 34) (I 0)), O 36 (.fad 0 (.t 35)), oF 37 1 36, O 38 (.call (.f n_r01_Of) [(.t 37)]), O 10 (.allocL (.agg [(.int .i64 (0)), (.int .i64 (0))])), O 11 (.allocL (.agg [(.int .i64 (0)), (.int .i64 (0))])), ⟨none, (.store 2 (.t 10) (.t 33)), none⟩, ⟨none, (.store 2 (.t 11) (.t 38)), none⟩] [⟨2, (.agg [.i .i64, .d, .d]), 0⟩, ⟨4, (.agg [.i .i64, .d, .d]), 0⟩] [(0, 1), (0, 2), (0, 3), (0, 4), (0, 6), (1, 6), (2, 6), (3, 6), (4, 6), (5, 6), (0, 7), (1, 7), (2, 7), (3, 7), (4, 7), (5, 7), (6, 7)] [33, 34, 35, 36, 37, 38]) (.seq (oQ [O 12 (.mv (.c .nils))] []) (.seq (.block 0 (.loop 3642001 b_3642001)) (.seq (.ops [oT 102 1 8, M 103 12, O 104 (.fad 1 (.t 6)), oF 105 1 104, ⟨none, (.store 1 (.t 2) (.t 102)), none⟩, M 3 103, M 4 105, O 5 (.mv (I 0))] [⟨3, (.agg [.d, .d]), 0⟩] [(0, 1), (0, 2), (1, 2), (0, 3), (1, 3), (1, 4), (2, 4), (3, 4), (2, 5), (3, 5)] [0, 6, 8, 9, 10, 11, 12, 43, 102, 103, 104, 105]) .ret)))))))))⟩
def b_27088800 : TCode := (.seq (.seq (oQ [M 11 5, M 12 0, O 13 (.len (.t 12)), oX 14 .lss 11 13] [11, 12, 13]) (.cond (.t 14) .skip (.exit 0))) (.seq (.block 1 (.seq (.ops [M 17 0, M 18 5, O 19 (.iad 4 (.t 17) (.t 18)), oT 20 4 19, M 21 1, M 22 5, O 23 (.iad 4 (.t 21) (.t 22)), oT 24 4 23, O 25 (.eqA true 4 [(0, (some .i64)), (1, (some .i64)), (2, (some .i64)), (3, (some .i64))] (.t 20) (.t 24))] [⟨2, (.agg [.i .i64, .i .i64, .i .i64, .i .i64]), 0⟩, ⟨3, (.agg [.i .i64, .i .i64, .i .i64, .i .i64]), 0⟩, ⟨6, (.agg [.i .i64, .i .i64, .i .i64, .i .i64]), 0⟩, ⟨7, (.agg [.i .i64, .i .i64, .i .i64, .i .i64]), 0⟩] [(0, 1), (0, 4), (1, 4), (2, 4), (3, 4), (0, 5), (1, 5), (2, 5), (3, 5), (4, 5), (0, 6), (1, 6), (2, 6), (3, 6), (0, 7), (1, 7), (2, 7), (3, 7)] [14, 17, 18, 19, 20, 21, 22, 23, 24]) (.cond (.t 25) (.seq (oQ [O 4 (.mv (.c (.bool false)))] [0, 1, 5, 25]) .ret) .skip))) (oQ [M 15 5, O 16 (.bin .add (.t 15) (I 1)), M 5 16] [15, 16, 25])))
def t_r03_Same : TFn := ⟨2, [.tmp 4], (.seq (oQ [O 4 (.mv (.c (.bool false)))] [4]) (.seq (.seq (oQ [M 6 0, O 7 (.len (.t 6)), M 8 1, O 9 (.len (.t 8)), oX 10 .neq 7 9] [6, 7, 8, 9]) (.cond (.t 10) (.seq (oQ [O 4 (.mv (.c (.bool false)))] [0, 1, 10]) .ret) .skip)) (.seq (.seq (oQ [O 5 (.mv (I 0))] [10]) (.block 0 (.loop 27088800 b_27088800))) (.seq (oQ [O 4 (.mv (.c (.bool true)))] [0, 1, 5, 14]) .ret))))⟩
def b_70742100 : TCode := (.seq (.seq (.ops [M 13 5, O 14 (.fad 0 (.t 2)), oF 15 1 14, O 16 (.len (.t 15)), oX 17 .lss 13 16] [⟨2, (.agg [.d]), 0⟩] [] [13, 14, 15, 16]) (.cond (.t 17) .skip (.exit 0))) (.seq (.block 1 (.seq (.ops [O 20 (.fad 0 (.t 2)), oF 21 1 20, M 22 5, O 23 (.iad 1 (.t 21) (.t 22)), oF 24 1 23, O 25 (.fad 0 (.t 3)), oF 26 1 25, M 27 5, O 28 (.iad 1 (.t 26) (.t 27)), oF 29 1 28, O 30 (.call (.f n_r03_Same) [(.t 24), (.t 29)]), O 31 (.un .not (.t 30))] [⟨1, (.agg [.d]), 0⟩, ⟨3, (.one (.d)), 0⟩, ⟨4, (.one (.d)), 0⟩, ⟨6, (.agg [.d]), 0⟩, ⟨8, (.one (.d)), 0⟩, ⟨9, (.one (.d)), 0⟩] [(0, 2), (1, 2), (0, 5), (1, 5), (2, 5), (3, 5), (4, 5), (0, 6), (1, 6), (2, 6), (3, 6), (4, 6), (0, 7), (1, 7), (2, 7), (3, 7), (4, 7), (5, 7), (6, 7), (0, 8), (1, 8), (2, 8), (3, 8), (4, 8), (0, 9), (1, 9), (2, 9), (3, 9), (4, 9)] [17, 20, 21, 22, 23, 24, 25, 26, 27, 28, 29, 30]) (.cond (.t 31) (.seq (oQ [O 4 (.mv (.c (.bool false)))] [2, 3, 5, 31]) .ret) .skip))) (oQ [M 18 5, O 19 (.bin .add (.t 18) (I 1)), M 5 19] [18, 19, 31])))
def t_r06_Same : TFn := ⟨2, [.tmp 4], (.seq (oQ [O 2 (.boxL (.t 0)), O 3 (.boxL (.t 1)), O 4 (.mv (.c (.bool false)))] [0, 1, 4]) (.seq (.seq (.ops [O 6 (.fad 0 (.t 2)), oF 7 1 6, O 8 (.len (.t 7)), O 9 (.fad 0 (.t 3)), oF 10 1 9, O 11 (.len (.t 10)), oX 12 .neq 8 11] [⟨1, (.agg [.d]), 0⟩, ⟨4, (.agg [.d]), 0⟩] [] [6, 7, 8, 9, 10, 11]) (.cond (.t 12) (.seq (oQ [O 4 (.mv (.c (.bool false)))] [2, 3, 12]) .ret) .skip)) (.seq (.seq (oQ [O 5 (.mv (I 0))] [12]) (.block 0 (.loop 70742100 b_70742100))) (.seq (oQ [O 4 (.mv (.c (.bool true)))] [2, 3, 5, 17]) .ret))))⟩
def b_14397100 : TCode := (.seq (.seq (oQ [M 11 5, M 12 0, O 13 (.len (.t 12)), oX 14 .lss 11 13] [11, 12, 13]) (.cond (.t 14) .skip (.exit 0))) (.seq (.block 1 (.seq (.ops [M 17 0, M 18 5, O 19 (.iad 1 (.t 17) (.t 18)), oF 20 1 19, M 21 1, M 22 5, O 23 (.iad 1 (.t 21) (.t 22)), oF 24 1 23, oX 25 .neq 20 24] [⟨2, (.one (.i .i64)), 0⟩, ⟨3, (.one (.i .i64)), 0⟩, ⟨6, (.one (.i .i64)), 0⟩, ⟨7, (.one (.i .i64)), 0⟩] [(0, 1), (0, 4), (1, 4), (2, 4), (3, 4), (0, 5), (1, 5), (2, 5), (3, 5), (4, 5), (0, 6), (1, 6), (2, 6), (3, 6), (0, 7), (1, 7), (2, 7), (3, 7)] [14, 17, 18, 19, 20, 21, 22, 23, 24]) (.cond (.t 25) (.seq (oQ [O 4 (.mv (.c (.bool false)))] [0, 1, 5, 25]) .ret) .skip))) (oQ [M 15 5, O 16 (.bin .add (.t 15) (I 1)), M 5 16] [15, 16, 25])))
def t_r09_Same : TFn := ⟨2, [.tmp 4], (.seq (oQ [O 4 (.mv (.c (.bool false)))] [4]) (.seq (.seq (oQ [M 6 0, O 7 (.len (.t 6)), M 8 1, O 9 (.len (.t 8)), oX 10 .neq 7 9] [6, 7, 8, 9]) (.cond (.t 10) (.seq (oQ [O 4 (.mv (.c (.bool false)))] [0, 1, 10]) .ret) .skip)) (.seq (.seq (oQ [O 5 (.mv (I 0))] [10]) (.block 0 (.loop 14397100 b_14397100))) (.seq (oQ [O 4 (.mv (.c (.bool true)))] [0, 1, 5, 14]) .ret))))⟩
def b_11728400 : TCode := (.seq (.seq (oQ [M 11 5, M 12 0, O 13 (.len (.t 12)), oX 14 .lss 11 13] [11, 12, 13]) (.cond (.t 14) .skip (.exit 0))) (.seq (.block 1 (.seq (.ops [M 17 0, M 18 5, O 19 (.iad 8 (.t 17) (.t 18)), oT 20 8 19, M 21 1, M 22 5, O 23 (.iad 8 (.t 21) (.t 22)), oT 24 8 23, O 25 (.eqA true 8 [(0, (some .i64)), (1, (some .u8)), (2, (some .i64)), (3, (some .i64)), (4, (some .i64)), (5, (some .i64)), (6, (some .i64)), (7, (some .i64))] (.t 20) (.t 24))] [⟨2, (.agg [.i .i64, .i .u8, .i .i64, .i .i64, .i .i64, .i .i64, .i .i64, .i .i64]), 0⟩, ⟨3, (.agg [.i .i64, .i .u8, .i .i64, .i .i64, .i .i64, .i .i64, .i .i64, .i .i64]), 0⟩, ⟨6, (.agg [.i .i64, .i .u8, .i .i64, .i .i64, .i .i64, .i .i64, .i .i64, .i .i64]), 0⟩, ⟨7, (.agg [.i .i64, .i .u8, .i .i64, .i .i64, .i .i64, .i .i64, .i .i64, .i .i64]), 0⟩] [(0, 1), (0, 4), (1, 4), (2, 4), (3, 4), (0, 5), (1, 5), (2, 5), (3, 5), (4, 5), (0, 6), (1, 6), (2, 6), (3, 6), (0, 7), (1, 7), (2, 7), (3, 7)] [14, 17, 18, 19, 20, 21, 22, 23, 24]) (.cond (.t 25) (.seq (oQ [O 4 (.mv (.c (.bool false)))] [0, 1, 5, 25]) .ret) .skip))) (oQ [M 15 5, O 16 (.bin .add (.t 15) (I 1)), M 5 16] [15, 16, 25])))
def t_r04_SameLogs : TFn := ⟨2, [.tmp 4], (.seq (oQ [O 4 (.mv (.c (.bool false)))] [4]) (.seq (.seq (oQ [M 6 0, O 7 (.len (.t 6)), M 8 1, O 9 (.len (.t 8)), oX 10 .neq 7 9] [6, 7, 8, 9]) (.cond (.t 10) (.seq (oQ [O 4 (.mv (.c (.bool false)))] [0, 1, 10]) .ret) .skip)) (.seq (.seq (oQ [O 5 (.mv (I 0))] [10]) (.block 0 (.loop 11728400 b_11728400))) (.seq (oQ [O 4 (.mv (.c (.bool true)))] [0, 1, 5, 14]) .ret))))⟩
def t_l11_KnifeSpans : TFn := ⟨1, [.tmp 2], (.seq (oQ [O 2 (.mv (.c (.bool false)))] [2]) (.seq (.seq (oQ [M 11 0, O 12 (.call (.f n_r04_GreatCakes) [(.t 11)])] [11]) (.cond (.t 12) (.seq (oQ [O 2 (.mv (.c (.bool true)))] [0, 12]) .ret) .skip)) (.seq (oQ [M 14 0, O 15 (.call (.f n_knife_Spans) [(.t 14)]), M 13 15, O 16 (.ext (.t 13) 0), O 17 (.ext (.t 13) 1), O 18 (.ext (.t 13) 2), O 19 (.ext (.t 13) 3), O 3 (.allocL (.agg [.nils])), ⟨none, (.store 1 (.t 3) (.t 16)), none⟩, M 4 17, M 5 18, M 6 19] [12, 13, 14, 15, 16, 17, 18, 19]) (.seq (oQ [M 21 0, O 22 (.call (.f n_r11_Spans) [(.t 21)]), M 20 22, O 23 (.ext (.t 20) 0), O 24 (.ext (.t 20) 1), O 25 (.ext (.t 20) 2), O 26 (.ext (.t 20) 3), O 7 (.allocL (.agg [.nils])), ⟨none, (.store 1 (.t 7) (.t 23)), none⟩, M 8 24, M 9 25, M 10 26] [0, 20, 21, 22, 23, 24, 25, 26]) (.seq (oQ [oT 27 1 3, oT 28 1 7, O 29 (.call (.f n_r06_Same) [(.t 27), (.t 28)]), M 30 29, ⟨some 31, (.mv (.t 4)), some (30, true)⟩, ⟨some 32, (.mv (.t 8)), some (30, true)⟩, ⟨some 33, (.call (.f n_r09_Same) [(.t 31), (.t 32)]), some (30, true)⟩, O 34 (.pick (.t 30) (.t 33) (.c (.bool false))), M 35 34, ⟨some 36, (.mv (.t 5)), some (35, true)⟩, ⟨some 37, (.mv (.t 9)), some (35, true)⟩, ⟨some 38, (.call (.f n_r04_SameLogs) [(.t 36), (.t 37)]), some (35, true)⟩, O 39 (.pick (.t 35) (.t 38) (.c (.bool false))), M 40 39, ⟨some 41, (.mv (.t 6)), some (40, true)⟩, ⟨some 42, (.mv (.t 10)), some (40, true)⟩, ⟨some 43, (.bin .eql (.t 41) (.t 42)), some (40, true)⟩, O 44 (.pick (.t 40) (.t 43) (.c (.bool false))), M 2 44] [3, 4, 5, 6, 7, 8, 9, 10, 27, 28, 29, 30, 31, 32, 33, 34, 35, 36, 37, 38, 39, 40, 41, 42, 43, 44]) .ret)))))⟩
def tab : List (Nat × AFn) := [(n_r02_Great, t_r02_Great.fn), (n_r04_GreatCakes, t_r04_GreatCakes.fn), (n_s_Min_int_int, t_s_Min_int_int.fn), (n_s_Max_int_int, t_s_Max_int_int.fn), (n_cake_Check, t_cake_Check.fn), (n_ask_Check, t_ask_Check.fn), (n_s_Clone_int_int, t_s_Clone_int_int.fn), (n_ask_copied, t_ask_copied.fn), (n_ask_Open, t_ask_Open.fn), (n_knife_whole, t_knife_whole.fn), (n_cake_Total, t_cake_Total.fn), (n_ratio_size, t_ratio_size.fn), (n_ratio_gcd, t_ratio_gcd.fn), (n_ratio_signed, t_ratio_signed.fn), (n_ratio_Make, t_ratio_Make.fn), (n_knife_part, t_knife_part.fn), (n_ratio_Check, t_ratio_Check.fn), (n_cake_whole, t_cake_whole.fn), (n_cmp_Or_api_Errno, t_cmp_Or_api_Errno.fn), (n_ratio_check, t_ratio_check.fn), (n_cmp_isNaN_int64, t_cmp_isNaN_int64.fn), (n_cmp_Compare_int64, t_cmp_Compare_int64.fn), (n_m_Mul64, t_m_Mul64.fn), (n_cmp_isNaN_uint64, t_cmp_isNaN_uint64.fn), (n_cmp_Compare_uint64, t_cmp_Compare_uint64.fn), (n_cmp_Or_int, t_cmp_Or_int.fn), (n_ratio_Cmp, t_ratio_Cmp.fn), (n_cake_less, t_cake_less.fn), (n_cake_point, t_cake_point.fn), (n_m_Len64, t_m_Len64.fn), (n_m_LeadingZeros64, t_m_LeadingZeros64.fn), (n_m_Div64, t_m_Div64.fn), (n_m_Rem64, t_m_Rem64.fn), (n_ratio_Add, t_ratio_Add.fn), (n_ratio_Sub, t_ratio_Sub.fn), (n_ratio_Mul, t_ratio_Mul.fn), (n_ratio_Div, t_ratio_Div.fn), (n_cake_Mark_1, t_cake_Mark_1.fn), (n_cake_walk, t_cake_walk.fn), (n_cake_Mark, t_cake_Mark.fn), (n_ask_office_mark, t_ask_office_mark.fn), (n_ask_office_has, t_ask_office_has.fn), (n_ask_office_ask, t_ask_office_ask.fn), (n_ask_Mark, t_ask_Mark.fn), (n_knife_less, t_knife_less.fn), (n_knife_Spans, t_knife_Spans.fn), (n_r02_Check, t_r02_Check.fn), (n_r04_Check, t_r04_Check.fn), (n_r02_Twin, t_r02_Twin.fn), (n_r04_Twins, t_r04_Twins.fn), (n_r04_Open, t_r04_Open.fn), (n_r01_Of, t_r01_Of.fn), (n_r02_Whole, t_r02_Whole.fn), (n_r01_abs, t_r01_abs.fn), (n_r01_gcd, t_r01_gcd.fn), (n_r01_made, t_r01_made.fn), (n_r01_Make, t_r01_Make.fn), (n_r08_Share, t_r08_Share.fn), (n_r04_Agent, t_r04_Agent.fn), (n_r01_Check, t_r01_Check.fn), (n_r01_times, t_r01_times.fn), (n_r01_less, t_r01_less.fn), (n_r01_Less, t_r01_Less.fn), (n_r02_Point, t_r02_Point.fn), (n_r02_later, t_r02_later.fn), (n_r02_sooner, t_r02_sooner.fn), (n_r01_Both, t_r01_Both.fn), (n_r01_Neg, t_r01_Neg.fn), (n_r01_plus, t_r01_plus.fn), (n_r01_minus, t_r01_minus.fn), (n_r01_split, t_r01_split.fn), (n_r01_Add, t_r01_Add.fn), (n_r01_Sub, t_r01_Sub.fn), (n_r01_Mul, t_r01_Mul.fn), (n_r02_worth, t_r02_worth.fn), (n_r02_Value, t_r02_Value.fn), (n_r01_Div, t_r01_Div.fn), (n_r02_Mark, t_r02_Mark.fn), (n_r04_answer, t_r04_answer.fn), (n_r04_asked, t_r04_asked.fn), (n_r04_Mark, t_r04_Mark.fn), (n_r11_Spans, t_r11_Spans.fn), (n_r03_Same, t_r03_Same.fn), (n_r06_Same, t_r06_Same.fn), (n_r09_Same, t_r09_Same.fn), (n_r04_SameLogs, t_r04_SameLogs.fn), (n_l11_KnifeSpans, t_l11_KnifeSpans.fn)]
def E : Env := baseC n_m_Add64 n_m_Sub64 tab [n_r02_Great, n_r04_GreatCakes, n_s_Min_int_int, n_s_Max_int_int, n_cake_Check, n_ask_Check, n_s_Clone_int_int, n_ask_copied, n_ask_Open, n_knife_whole, n_cake_Total, n_ratio_size, n_ratio_gcd, n_ratio_signed, n_ratio_Make, n_knife_part, n_ratio_Check, n_cake_whole, n_cmp_Or_api_Errno, n_ratio_check, n_cmp_isNaN_int64, n_cmp_Compare_int64, n_m_Mul64, n_cmp_isNaN_uint64, n_cmp_Compare_uint64, n_cmp_Or_int, n_ratio_Cmp, n_cake_less, n_cake_point, n_m_Add64, n_m_Sub64, n_m_Len64, n_m_LeadingZeros64, n_m_Div64, n_m_Rem64, n_ratio_Add, n_ratio_Sub, n_ratio_Mul, n_ratio_Div, n_cake_Mark, n_ask_office_mark, n_ask_office_has, n_ask_Mark, n_knife_less, n_knife_Spans, n_r02_Check, n_r04_Check, n_r02_Twin, n_r04_Twins, n_r04_Open, n_r01_Of, n_r02_Whole, n_r01_abs, n_r01_gcd, n_r01_made, n_r01_Make, n_r08_Share, n_r04_Agent, n_r01_Check, n_r01_times, n_r01_less, n_r01_Less, n_r02_Point, n_r02_later, n_r02_sooner, n_r01_Both, n_r01_Neg, n_r01_plus, n_r01_minus, n_r01_split, n_r01_Add, n_r01_Sub, n_r01_Mul, n_r02_worth, n_r02_Value, n_r01_Div, n_r02_Mark, n_r04_answer, n_r04_asked, n_r04_Mark, n_r11_Spans, n_r03_Same, n_r06_Same, n_r09_Same, n_r04_SameLogs, n_l11_KnifeSpans] [(n_s_Clone_int_int, 1, 8)] []
abbrev T_s_Clone_int_int : Type := List PV → (List PV → Prop) → Prop
def w_s_Clone_int_int (p0 : List PV) (K : List PV → Prop) : Prop := w_clone 1 8 p0 K
def pw_s_Clone_int_int (w : List PV → (List PV → Prop) → Prop) (as : List PV) (K : PV → Prop) : Prop := pw_clone w as K
def wp_s_Clone_int_int (as : List PV) (K : PV → Prop) : Prop := wp_clone 1 8 as K
theorem ok_s_Clone_int_int : ∀ as K, wp_s_Clone_int_int as K → ∃ r, K r ∧ Ans E n_s_Clone_int_int as r := clone_okC (by kernel_rfl) (by kernel_rfl) (by kernel_rfl)
abbrev T_m_Add64 : Type := Int → Int → Int → (Int → Int → Prop) → Prop
abbrev T_m_Sub64 : Type := Int → Int → Int → (Int → Int → Prop) → Prop
theorem ok_m_Add64 : ∀ as K, wp_m_Add64 as K → ∃ r, K r ∧ Ans E n_m_Add64 as r := add64_okC
theorem ok_m_Sub64 : ∀ as K, wp_m_Sub64 as K → ∃ r, K r ∧ Ans E n_m_Sub64 as r := sub64_okC (by kernel_rfl)
end Go.Pf.Vc
namespace Go.Pf.Vc
open Go Go.Pf
set_option maxRecDepth 100000
abbrev T_ratio_size : Type := Int → (Int → Prop) → Prop
def wv_ratio_size (p0 : Int) (K : Int → Prop) : Prop :=
 (cbr (decide (p0 < (0 : Int)))
 (K (IntKind.u64.wrap ((0 : Int) - (IntKind.u64.wrap p0))))
 (K (IntKind.u64.wrap p0)))
def w_ratio_size (p0 : Int) (K : Int → Prop) : Prop := wv_ratio_size p0 K
def pw_ratio_size (w : T_ratio_size) (as : List PV) (K : PV → Prop) : Prop :=
 match as with
 | [(.int .i64 p0)] => w p0 (fun r0 => K (.int .u64 r0))
 | _ => False
def wp_ratio_size (as : List PV) (K : PV → Prop) : Prop := pw_ratio_size w_ratio_size as K
def lp_ratio_size : LP := fun _ _ _ _ =>
 False
def S0_ratio_size : SE := ⟨E, lookS [], lookI [], lp_ratio_size⟩
theorem se0_ratio_size : SEOk (S0_ratio_size) := seOk_of trivial trivial
theorem eq_ratio_size ( p0 K) : WP (S0_ratio_size) 6 t_ratio_size [(.int .i64 p0)] K = wv_ratio_size p0 (fun r0 => K (.int .u64 r0)) := by kernel_rfl
theorem ok_ratio_size : OkF E wp_ratio_size n_ratio_size := by
 intro as K h
 unfold wp_ratio_size pw_ratio_size at h
 split at h
 · exact WP_ok se0_ratio_size (LpOk_no (by kernel_rfl)) (by kernel_rfl) (by kernel_rfl) (fun _ => baseC_none (by kernel_rfl) _) ((eq_ratio_size ..).mpr h)
 · exact h.elim
abbrev T_ratio_gcd : Type := Int → Int → (Int → Prop) → Prop
def L_ratio_gcd_0_0 (x0 : Int → Int → Bool → Prop) : Nat → Int → Int → Prop
 | 0, _, _ => False
 | n + 1, i0, i1 =>
 (cbr (decide (i1 > (0 : Int)))
 (asr (!(decide (i1 = (0 : Int))))
 (L_ratio_gcd_0_0 x0 n i1 (Int.tmod i0 i1)))
 (x0 i0 i1 false))
def wv_ratio_gcd (p0 p1 : Int) (K : Int → Prop) : Prop :=
 (∃ n : Nat, L_ratio_gcd_0_0
 (fun yi0 _ _ => (K yi0))
 n p0 p1)
def w_ratio_gcd (p0 p1 : Int) (K : Int → Prop) : Prop := wv_ratio_gcd p0 p1 K
def pw_ratio_gcd (w : T_ratio_gcd) (as : List PV) (K : PV → Prop) : Prop :=
 match as with
 | [(.int .u64 p0), (.int .u64 p1)] => w p0 p1 (fun r0 => K (.int .u64 r0))
 | _ => False
def wp_ratio_gcd (as : List PV) (K : PV → Prop) : Prop := pw_ratio_gcd w_ratio_gcd as K
def D_ratio_gcd_0 (F : Frm) (H : Hp) (A0 : Int → Int → Prop) : Prop :=
 match F, H with
 | [(0, .v (.int .u64 i0)), (1, .v (.int .u64 i1))], [] => (A0 i0 i1)
 | _, _ => False
def R_ratio_gcd_0 (Q : Ex → Frm → Hp → Prop) (n : Nat) (F : Frm) (H : Hp) : Prop := D_ratio_gcd_0 F H (fun i0 i1 => L_ratio_gcd_0_0 (fun i0 i1 b2 => Q (.exit 0) [(0, .v (.int .u64 i0)), (1, .v (.int .u64 i1)), (6, .v (.bool b2))] []) n i0 i1)
def lp_ratio_gcd : LP := fun id F H Q =>
 bif Nat.beq id 32725300 then D_ratio_gcd_0 F H (fun i0 i1 => ∃ n : Nat, L_ratio_gcd_0_0 (fun i0 i1 b2 => Q (.exit 0) [(0, .v (.int .u64 i0)), (1, .v (.int .u64 i1)), (6, .v (.bool b2))] []) n i0 i1) else
 False
def S0_ratio_gcd : SE := ⟨E, lookS [], lookI [], lp_ratio_gcd⟩
theorem se0_ratio_gcd : SEOk (S0_ratio_gcd) := seOk_of trivial trivial
theorem body_ratio_gcd_0_0 ( Q n i0 i1) : WC E (callW (S0_ratio_gcd) 5) (lp_ratio_gcd) b_32725300 [(0, .v (.int .u64 i0)), (1, .v (.int .u64 i1))] [] (fun x F' H' => match x with | .norm => R_ratio_gcd_0 Q n F' H' | .exit i => Q (.exit i) F' H' | .ret => Q .ret F' H') = L_ratio_gcd_0_0 (fun i0 i1 b2 => Q (.exit 0) [(0, .v (.int .u64 i0)), (1, .v (.int .u64 i1)), (6, .v (.bool b2))] []) (n + 1) i0 i1 := by kernel_rfl
theorem lpb_ratio_gcd_0 : LpOk E (lp_ratio_gcd) b_32725300 := (LpOk_no (by kernel_rfl))
theorem loop_ratio_gcd_0 : ∀ F H Q, lp_ratio_gcd 32725300 F H Q → LoopT E b_32725300 F H Q := by
 intro F H Q h
 have go := LoopT.intro (callW_ok se0_ratio_gcd 5) lpb_ratio_gcd_0 (R_ratio_gcd_0 Q) (by
   intro F H h
   unfold R_ratio_gcd_0 D_ratio_gcd_0 at h
   split at h
   · exact h
   · exact h) (by
   intro n F H h
   unfold R_ratio_gcd_0 D_ratio_gcd_0 at h
   split at h
   · exact (body_ratio_gcd_0_0 ..).mpr h
   · exact h.elim)
 have h : D_ratio_gcd_0 F H _ := h
 unfold D_ratio_gcd_0 at h
 split at h
 · obtain ⟨n, h⟩ := h; exact go n _ _ h
 · exact h.elim
theorem eq_ratio_gcd ( p0 p1 K) : WP (S0_ratio_gcd) 6 t_ratio_gcd [(.int .u64 p0), (.int .u64 p1)] K = wv_ratio_gcd p0 p1 (fun r0 => K (.int .u64 r0)) := by kernel_rfl
theorem ok_ratio_gcd : OkF E wp_ratio_gcd n_ratio_gcd := by
 intro as K h
 unfold wp_ratio_gcd pw_ratio_gcd at h
 split at h
 · exact WP_ok se0_ratio_gcd (LpOk_by (l := [(32725300, b_32725300)]) ⟨loop_ratio_gcd_0, trivial⟩ (by kernel_rfl)) (by kernel_rfl) (by kernel_rfl) (fun _ => baseC_none (by kernel_rfl) _) ((eq_ratio_gcd ..).mpr h)
 · exact h.elim
abbrev T_ratio_signed : Type := Bool → Int → Int → (Int → Int → Int → Prop) → Prop
def wv_ratio_signed (p0 : Bool) (p1 p2 : Int) (K : Int → Int → Int → Prop) : Prop :=
 (cbr (decide ((if p2 > p1 then p2 else p1) > (1000000000000000000 : Int)))
 (K (0 : Int) (0 : Int) (16 : Int))
 (cbr p0
 (K (IntKind.i64.wrap ((0 : Int) - (IntKind.i64.wrap p1))) (IntKind.i64.wrap p2) (0 : Int))
 (K (IntKind.i64.wrap p1) (IntKind.i64.wrap p2) (0 : Int))))
def w_ratio_signed (p0 : Bool) (p1 p2 : Int) (K : Int → Int → Int → Prop) : Prop := wv_ratio_signed p0 p1 p2 K
def pw_ratio_signed (w : T_ratio_signed) (as : List PV) (K : PV → Prop) : Prop :=
 match as with
 | [(.bool p0), (.int .u64 p1), (.int .u64 p2)] => w p0 p1 p2 (fun r0 r1 r2 => K (.tup [(.agg [(.int .i64 r0), (.int .i64 r1)]), (.int .i64 r2)]))
 | _ => False
def wp_ratio_signed (as : List PV) (K : PV → Prop) : Prop := pw_ratio_signed w_ratio_signed as K
def lp_ratio_signed : LP := fun _ _ _ _ =>
 False
def S0_ratio_signed : SE := ⟨E, lookS [], lookI [], lp_ratio_signed⟩
theorem se0_ratio_signed : SEOk (S0_ratio_signed) := seOk_of trivial trivial
theorem eq_ratio_signed ( p0 p1 p2 K) : WP (S0_ratio_signed) 6 t_ratio_signed [(.bool p0), (.int .u64 p1), (.int .u64 p2)] K = wv_ratio_signed p0 p1 p2 (fun r0 r1 r2 => K (.tup [(.agg [(.int .i64 r0), (.int .i64 r1)]), (.int .i64 r2)])) := by kernel_rfl
theorem ok_ratio_signed : OkF E wp_ratio_signed n_ratio_signed := by
 intro as K h
 unfold wp_ratio_signed pw_ratio_signed at h
 split at h
 · exact WP_ok se0_ratio_signed (LpOk_no (by kernel_rfl)) (by kernel_rfl) (by kernel_rfl) (fun _ => baseC_none (by kernel_rfl) _) ((eq_ratio_signed ..).mpr h)
 · exact h.elim
abbrev T_ratio_Make : Type := Int → Int → (Int → Int → Int → Prop) → Prop
def wv_ratio_Make (a0 : T_ratio_size) (a1 : T_ratio_gcd) (a2 : T_ratio_signed) (p0 p1 : Int) (K : Int → Int → Int → Prop) : Prop :=
 (cbr (p1 == (0 : Int))
 (K (0 : Int) (0 : Int) (18 : Int))
 (a0 p0 (fun yi0 => 
 (a0 p1 (fun yi1 => 
 (a1 yi0 yi1 (fun yi2 => 
 (asr (!(decide (yi2 = (0 : Int))))
 (asr (!(decide (yi2 = (0 : Int))))
 (a2 ((decide (p0 < (0 : Int))) != (decide (p1 < (0 : Int)))) (IntKind.u64.wrap (Int.tdiv yi0 yi2)) (IntKind.u64.wrap (Int.tdiv yi1 yi2)) (fun yi3 yi4 yi5 => 
 (K yi3 yi4 yi5))))))))))))
def w_ratio_Make (p0 p1 : Int) (K : Int → Int → Int → Prop) : Prop := wv_ratio_Make w_ratio_size w_ratio_gcd w_ratio_signed p0 p1 K
def pw_ratio_Make (w : T_ratio_Make) (as : List PV) (K : PV → Prop) : Prop :=
 match as with
 | [(.int .i64 p0), (.int .i64 p1)] => w p0 p1 (fun r0 r1 r2 => K (.tup [(.agg [(.int .i64 r0), (.int .i64 r1)]), (.int .i64 r2)]))
 | _ => False
def wp_ratio_Make (as : List PV) (K : PV → Prop) : Prop := pw_ratio_Make w_ratio_Make as K
def lp_ratio_Make (_ : T_ratio_size) (_ : T_ratio_gcd) (_ : T_ratio_signed) : LP := fun _ _ _ _ =>
 False
def S0_ratio_Make (a0 : T_ratio_size) (a1 : T_ratio_gcd) (a2 : T_ratio_signed) : SE := ⟨E, lookS [(n_ratio_size, pw_ratio_size a0), (n_ratio_gcd, pw_ratio_gcd a1), (n_ratio_signed, pw_ratio_signed a2)], lookI [], lp_ratio_Make a0 a1 a2⟩
theorem se0_ratio_Make : SEOk (S0_ratio_Make w_ratio_size w_ratio_gcd w_ratio_signed) := seOk_of ⟨ok_ratio_size, ok_ratio_gcd, ok_ratio_signed, trivial⟩ trivial
theorem eq_ratio_Make (a0 a1 a2 p0 p1 K) : WP (S0_ratio_Make a0 a1 a2) 6 t_ratio_Make [(.int .i64 p0), (.int .i64 p1)] K = wv_ratio_Make a0 a1 a2 p0 p1 (fun r0 r1 r2 => K (.tup [(.agg [(.int .i64 r0), (.int .i64 r1)]), (.int .i64 r2)])) := by kernel_rfl
theorem ok_ratio_Make : OkF E wp_ratio_Make n_ratio_Make := by
 intro as K h
 unfold wp_ratio_Make pw_ratio_Make at h
 split at h
 · exact WP_ok se0_ratio_Make (LpOk_no (by kernel_rfl)) (by kernel_rfl) (by kernel_rfl) (fun _ => baseC_none (by kernel_rfl) _) ((eq_ratio_Make ..).mpr h)
 · exact h.elim
abbrev T_ratio_Check : Type := Int → Int → (Int → Prop) → Prop
def wv_ratio_Check (a0 : T_ratio_size) (a1 : T_ratio_gcd) (p0 p1 : Int) (K : Int → Prop) : Prop :=
 (cbr (decide (p1 < (1 : Int)))
 (K (8 : Int))
 (a0 p0 (fun yi0 => 
 (cbr (decide ((if (IntKind.u64.wrap p1) > yi0 then (IntKind.u64.wrap p1) else yi0) > (1000000000000000000 : Int)))
 (K (8 : Int))
 (a0 p0 (fun yi1 => 
 (a1 yi1 (IntKind.u64.wrap p1) (fun yi2 => 
 (cbr (decide (yi2 > (1 : Int)))
 (K (8 : Int))
 (K (0 : Int)))))))))))
def w_ratio_Check (p0 p1 : Int) (K : Int → Prop) : Prop := wv_ratio_Check w_ratio_size w_ratio_gcd p0 p1 K
def pw_ratio_Check (w : T_ratio_Check) (as : List PV) (K : PV → Prop) : Prop :=
 match as with
 | [(.agg [(.int .i64 p0), (.int .i64 p1)])] => w p0 p1 (fun r0 => K (.int .i64 r0))
 | _ => False
def wp_ratio_Check (as : List PV) (K : PV → Prop) : Prop := pw_ratio_Check w_ratio_Check as K
def lp_ratio_Check (_ : T_ratio_size) (_ : T_ratio_gcd) : LP := fun _ _ _ _ =>
 False
def S0_ratio_Check (a0 : T_ratio_size) (a1 : T_ratio_gcd) : SE := ⟨E, lookS [(n_ratio_size, pw_ratio_size a0), (n_ratio_gcd, pw_ratio_gcd a1)], lookI [], lp_ratio_Check a0 a1⟩
theorem se0_ratio_Check : SEOk (S0_ratio_Check w_ratio_size w_ratio_gcd) := seOk_of ⟨ok_ratio_size, ok_ratio_gcd, trivial⟩ trivial
theorem eq_ratio_Check (a0 a1 p0 p1 K) : WP (S0_ratio_Check a0 a1) 6 t_ratio_Check [(.agg [(.int .i64 p0), (.int .i64 p1)])] K = wv_ratio_Check a0 a1 p0 p1 (fun r0 => K (.int .i64 r0)) := by kernel_rfl
theorem ok_ratio_Check : OkF E wp_ratio_Check n_ratio_Check := by
 intro as K h
 unfold wp_ratio_Check pw_ratio_Check at h
 split at h
 · exact WP_ok se0_ratio_Check (LpOk_no (by kernel_rfl)) (by kernel_rfl) (by kernel_rfl) (fun _ => baseC_none (by kernel_rfl) _) ((eq_ratio_Check ..).mpr h)
 · exact h.elim
abbrev T_cmp_Or_api_Errno : Type := List PV → (Int → Prop) → Prop
def L_cmp_Or_api_Errno_0_0 (x0 : Int → Prop) (x1 : Int → List PV → Int → Int → Bool → Prop) : Nat → Int → List PV → Int → Int → Prop
 | 0, _, _, _, _ => False
 | n + 1, i0, l1, i2, i3 =>
 (cbr (decide (i3 < i2))
 (asr (decide ((0 : Int) ≤ i3))
 (asr (decide (i3 < (((List.length l1) : Nat) : Int)))
 (asr (conf (.one (.i .i64)) (List.getD l1 (i3.toNat) .nils))
 (cbr ((intOfV (List.getD l1 (i3.toNat) .nils)) != i0)
 (x0 (intOfV (List.getD l1 (i3.toNat) .nils)))
 (L_cmp_Or_api_Errno_0_0 x0 x1 n i0 l1 i2 (IntKind.i64.wrap (i3 + (1 : Int))))))))
 (x1 i0 l1 i2 i3 false))
def wv_cmp_Or_api_Errno (p0 : List PV) (K : Int → Prop) : Prop :=
 (∃ n : Nat, L_cmp_Or_api_Errno_0_0
 (fun yi0 => (K yi0))
 (fun yi1 _ _ _ _ => (K yi1))
 n (0 : Int) p0 (((List.length p0) : Nat) : Int) (0 : Int))
def w_cmp_Or_api_Errno (p0 : List PV) (K : Int → Prop) : Prop := wv_cmp_Or_api_Errno p0 K
def pw_cmp_Or_api_Errno (w : T_cmp_Or_api_Errno) (as : List PV) (K : PV → Prop) : Prop :=
 match as with
 | [(.data p0)] => w p0 (fun r0 => K (.int .i64 r0))
 | _ => False
def wp_cmp_Or_api_Errno (as : List PV) (K : PV → Prop) : Prop := pw_cmp_Or_api_Errno w_cmp_Or_api_Errno as K
def D_cmp_Or_api_Errno_0 (F : Frm) (H : Hp) (A0 : Int → List PV → Int → Int → Prop) : Prop :=
 match F, H with
 | [(3, .v (.int .i64 i0)), (6, .v (.data l1)), (7, .v (.int .i64 i2)), (8, .v (.int .i64 i3))], [] => (A0 i0 l1 i2 i3)
 | _, _ => False
def R_cmp_Or_api_Errno_0 (Q : Ex → Frm → Hp → Prop) (n : Nat) (F : Frm) (H : Hp) : Prop := D_cmp_Or_api_Errno_0 F H (fun i0 l1 i2 i3 => L_cmp_Or_api_Errno_0_0 (fun i0 => Q .ret [(2, .v (.int .i64 i0))] []) (fun i0 l1 i2 i3 b4 => Q (.exit 0) [(3, .v (.int .i64 i0)), (6, .v (.data l1)), (7, .v (.int .i64 i2)), (8, .v (.int .i64 i3)), (9, .v (.bool b4))] []) n i0 l1 i2 i3)
def lp_cmp_Or_api_Errno : LP := fun id F H Q =>
 bif Nat.beq id 38508400 then D_cmp_Or_api_Errno_0 F H (fun i0 l1 i2 i3 => ∃ n : Nat, L_cmp_Or_api_Errno_0_0 (fun i0 => Q .ret [(2, .v (.int .i64 i0))] []) (fun i0 l1 i2 i3 b4 => Q (.exit 0) [(3, .v (.int .i64 i0)), (6, .v (.data l1)), (7, .v (.int .i64 i2)), (8, .v (.int .i64 i3)), (9, .v (.bool b4))] []) n i0 l1 i2 i3) else
 False
def S0_cmp_Or_api_Errno : SE := ⟨E, lookS [], lookI [], lp_cmp_Or_api_Errno⟩
theorem se0_cmp_Or_api_Errno : SEOk (S0_cmp_Or_api_Errno) := seOk_of trivial trivial
theorem body_cmp_Or_api_Errno_0_0 ( Q n i0 l1 i2 i3) : WC E (callW (S0_cmp_Or_api_Errno) 5) (lp_cmp_Or_api_Errno) b_38508400 [(3, .v (.int .i64 i0)), (6, .v (.data l1)), (7, .v (.int .i64 i2)), (8, .v (.int .i64 i3))] [] (fun x F' H' => match x with | .norm => R_cmp_Or_api_Errno_0 Q n F' H' | .exit i => Q (.exit i) F' H' | .ret => Q .ret F' H') = L_cmp_Or_api_Errno_0_0 (fun i0 => Q .ret [(2, .v (.int .i64 i0))] []) (fun i0 l1 i2 i3 b4 => Q (.exit 0) [(3, .v (.int .i64 i0)), (6, .v (.data l1)), (7, .v (.int .i64 i2)), (8, .v (.int .i64 i3)), (9, .v (.bool b4))] []) (n + 1) i0 l1 i2 i3 := by kernel_rfl
theorem lpb_cmp_Or_api_Errno_0 : LpOk E (lp_cmp_Or_api_Errno) b_38508400 := (LpOk_no (by kernel_rfl))
theorem loop_cmp_Or_api_Errno_0 : ∀ F H Q, lp_cmp_Or_api_Errno 38508400 F H Q → LoopT E b_38508400 F H Q := by
 intro F H Q h
 have go := LoopT.intro (callW_ok se0_cmp_Or_api_Errno 5) lpb_cmp_Or_api_Errno_0 (R_cmp_Or_api_Errno_0 Q) (by
   intro F H h
   unfold R_cmp_Or_api_Errno_0 D_cmp_Or_api_Errno_0 at h
   split at h
   · exact h
   · exact h) (by
   intro n F H h
   unfold R_cmp_Or_api_Errno_0 D_cmp_Or_api_Errno_0 at h
   split at h
   · exact (body_cmp_Or_api_Errno_0_0 ..).mpr h
   · exact h.elim)
 have h : D_cmp_Or_api_Errno_0 F H _ := h
 unfold D_cmp_Or_api_Errno_0 at h
 split at h
 · obtain ⟨n, h⟩ := h; exact go n _ _ h
 · exact h.elim
theorem eq_cmp_Or_api_Errno ( p0 K) : WP (S0_cmp_Or_api_Errno) 6 t_cmp_Or_api_Errno [(.data p0)] K = wv_cmp_Or_api_Errno p0 (fun r0 => K (.int .i64 r0)) := by kernel_rfl
theorem ok_cmp_Or_api_Errno : OkF E wp_cmp_Or_api_Errno n_cmp_Or_api_Errno := by
 intro as K h
 unfold wp_cmp_Or_api_Errno pw_cmp_Or_api_Errno at h
 split at h
 · exact WP_ok se0_cmp_Or_api_Errno (LpOk_by (l := [(38508400, b_38508400)]) ⟨loop_cmp_Or_api_Errno_0, trivial⟩ (by kernel_rfl)) (by kernel_rfl) (by kernel_rfl) (fun _ => baseC_none (by kernel_rfl) _) ((eq_cmp_Or_api_Errno ..).mpr h)
 · exact h.elim
abbrev T_ratio_check : Type := Int → Int → Int → Int → (Int → Prop) → Prop
def wv_ratio_check (a0 : T_ratio_Check) (a1 : T_cmp_Or_api_Errno) (p0 p1 p2 p3 : Int) (K : Int → Prop) : Prop :=
 (a0 p0 p1 (fun yi0 => 
 (a0 p2 p3 (fun yi1 => 
 (a1 ([(.int .i64 yi0), (.int .i64 yi1)] : List PV) (fun yi2 => 
 (K yi2)))))))
def w_ratio_check (p0 p1 p2 p3 : Int) (K : Int → Prop) : Prop := wv_ratio_check w_ratio_Check w_cmp_Or_api_Errno p0 p1 p2 p3 K
def pw_ratio_check (w : T_ratio_check) (as : List PV) (K : PV → Prop) : Prop :=
 match as with
 | [(.agg [(.int .i64 p0), (.int .i64 p1)]), (.agg [(.int .i64 p2), (.int .i64 p3)])] => w p0 p1 p2 p3 (fun r0 => K (.int .i64 r0))
 | _ => False
def wp_ratio_check (as : List PV) (K : PV → Prop) : Prop := pw_ratio_check w_ratio_check as K
def lp_ratio_check (_ : T_ratio_Check) (_ : T_cmp_Or_api_Errno) : LP := fun _ _ _ _ =>
 False
def S0_ratio_check (a0 : T_ratio_Check) (a1 : T_cmp_Or_api_Errno) : SE := ⟨E, lookS [(n_ratio_Check, pw_ratio_Check a0), (n_cmp_Or_api_Errno, pw_cmp_Or_api_Errno a1)], lookI [], lp_ratio_check a0 a1⟩
theorem se0_ratio_check : SEOk (S0_ratio_check w_ratio_Check w_cmp_Or_api_Errno) := seOk_of ⟨ok_ratio_Check, ok_cmp_Or_api_Errno, trivial⟩ trivial
theorem eq_ratio_check (a0 a1 p0 p1 p2 p3 K) : WP (S0_ratio_check a0 a1) 6 t_ratio_check [(.agg [(.int .i64 p0), (.int .i64 p1)]), (.agg [(.int .i64 p2), (.int .i64 p3)])] K = wv_ratio_check a0 a1 p0 p1 p2 p3 (fun r0 => K (.int .i64 r0)) := by kernel_rfl
theorem ok_ratio_check : OkF E wp_ratio_check n_ratio_check := by
 intro as K h
 unfold wp_ratio_check pw_ratio_check at h
 split at h
 · exact WP_ok se0_ratio_check (LpOk_no (by kernel_rfl)) (by kernel_rfl) (by kernel_rfl) (fun _ => baseC_none (by kernel_rfl) _) ((eq_ratio_check ..).mpr h)
 · exact h.elim
abbrev T_cmp_isNaN_int64 : Type := Int → (Bool → Prop) → Prop
def wv_cmp_isNaN_int64 (p0 : Int) (K : Bool → Prop) : Prop :=
 (K (p0 != p0))
def w_cmp_isNaN_int64 (p0 : Int) (K : Bool → Prop) : Prop := wv_cmp_isNaN_int64 p0 K
def pw_cmp_isNaN_int64 (w : T_cmp_isNaN_int64) (as : List PV) (K : PV → Prop) : Prop :=
 match as with
 | [(.int .i64 p0)] => w p0 (fun r0 => K (.bool r0))
 | _ => False
def wp_cmp_isNaN_int64 (as : List PV) (K : PV → Prop) : Prop := pw_cmp_isNaN_int64 w_cmp_isNaN_int64 as K
def lp_cmp_isNaN_int64 : LP := fun _ _ _ _ =>
 False
def S0_cmp_isNaN_int64 : SE := ⟨E, lookS [], lookI [], lp_cmp_isNaN_int64⟩
theorem se0_cmp_isNaN_int64 : SEOk (S0_cmp_isNaN_int64) := seOk_of trivial trivial
theorem eq_cmp_isNaN_int64 ( p0 K) : WP (S0_cmp_isNaN_int64) 6 t_cmp_isNaN_int64 [(.int .i64 p0)] K = wv_cmp_isNaN_int64 p0 (fun r0 => K (.bool r0)) := by kernel_rfl
theorem ok_cmp_isNaN_int64 : OkF E wp_cmp_isNaN_int64 n_cmp_isNaN_int64 := by
 intro as K h
 unfold wp_cmp_isNaN_int64 pw_cmp_isNaN_int64 at h
 split at h
 · exact WP_ok se0_cmp_isNaN_int64 (LpOk_no (by kernel_rfl)) (by kernel_rfl) (by kernel_rfl) (fun _ => baseC_none (by kernel_rfl) _) ((eq_cmp_isNaN_int64 ..).mpr h)
 · exact h.elim
abbrev T_cmp_Compare_int64 : Type := Int → Int → (Int → Prop) → Prop
def wv_cmp_Compare_int64 (a0 : T_cmp_isNaN_int64) (p0 p1 : Int) (K : Int → Prop) : Prop :=
 (a0 p0 (fun yb0 => 
 (a0 p1 (fun yb1 => 
 (cbr yb0
 (cbr yb1
 (K (0 : Int))
 (K (-1 : Int)))
 (cbr yb1
 (K (1 : Int))
 (cbr (decide (p0 < p1))
 (K (-1 : Int))
 (cbr (decide (p0 > p1))
 (K (1 : Int))
 (K (0 : Int))))))))))
def w_cmp_Compare_int64 (p0 p1 : Int) (K : Int → Prop) : Prop := wv_cmp_Compare_int64 w_cmp_isNaN_int64 p0 p1 K
def pw_cmp_Compare_int64 (w : T_cmp_Compare_int64) (as : List PV) (K : PV → Prop) : Prop :=
 match as with
 | [(.int .i64 p0), (.int .i64 p1)] => w p0 p1 (fun r0 => K (.int .i64 r0))
 | _ => False
def wp_cmp_Compare_int64 (as : List PV) (K : PV → Prop) : Prop := pw_cmp_Compare_int64 w_cmp_Compare_int64 as K
def lp_cmp_Compare_int64 (_ : T_cmp_isNaN_int64) : LP := fun _ _ _ _ =>
 False
def S0_cmp_Compare_int64 (a0 : T_cmp_isNaN_int64) : SE := ⟨E, lookS [(n_cmp_isNaN_int64, pw_cmp_isNaN_int64 a0)], lookI [], lp_cmp_Compare_int64 a0⟩
theorem se0_cmp_Compare_int64 : SEOk (S0_cmp_Compare_int64 w_cmp_isNaN_int64) := seOk_of ⟨ok_cmp_isNaN_int64, trivial⟩ trivial
theorem eq_cmp_Compare_int64 (a0 p0 p1 K) : WP (S0_cmp_Compare_int64 a0) 6 t_cmp_Compare_int64 [(.int .i64 p0), (.int .i64 p1)] K = wv_cmp_Compare_int64 a0 p0 p1 (fun r0 => K (.int .i64 r0)) := by kernel_rfl
theorem ok_cmp_Compare_int64 : OkF E wp_cmp_Compare_int64 n_cmp_Compare_int64 := by
 intro as K h
 unfold wp_cmp_Compare_int64 pw_cmp_Compare_int64 at h
 split at h
 · exact WP_ok se0_cmp_Compare_int64 (LpOk_no (by kernel_rfl)) (by kernel_rfl) (by kernel_rfl) (fun _ => baseC_none (by kernel_rfl) _) ((eq_cmp_Compare_int64 ..).mpr h)
 · exact h.elim
abbrev T_m_Mul64 : Type := Int → Int → (Int → Int → Prop) → Prop
def wv_m_Mul64 (p0 p1 : Int) (K : Int → Int → Prop) : Prop :=
 (K (IntKind.u64.wrap ((IntKind.u64.wrap ((IntKind.u64.wrap ((Int.fdiv p0 4294967296) * (Int.fdiv p1 4294967296))) + (Int.fdiv (IntKind.u64.wrap ((IntKind.u64.wrap ((Int.fdiv p0 4294967296) * (IntKind.u64.wrap (BitVec.ofInt IntKind.u64.bits p1 &&& BitVec.ofInt IntKind.u64.bits (4294967295 : Int)).toNat))) + (Int.fdiv (IntKind.u64.wrap ((IntKind.u64.wrap (BitVec.ofInt IntKind.u64.bits p0 &&& BitVec.ofInt IntKind.u64.bits (4294967295 : Int)).toNat) * (IntKind.u64.wrap (BitVec.ofInt IntKind.u64.bits p1 &&& BitVec.ofInt IntKind.u64.bits (4294967295 : Int)).toNat))) 4294967296))) 4294967296))) + (Int.fdiv (IntKind.u64.wrap ((IntKind.u64.wrap (BitVec.ofInt IntKind.u64.bits (IntKind.u64.wrap ((IntKind.u64.wrap ((Int.fdiv p0 4294967296) * (IntKind.u64.wrap (BitVec.ofInt IntKind.u64.bits p1 &&& BitVec.ofInt IntKind.u64.bits (4294967295 : Int)).toNat))) + (Int.fdiv (IntKind.u64.wrap ((IntKind.u64.wrap (BitVec.ofInt IntKind.u64.bits p0 &&& BitVec.ofInt IntKind.u64.bits (4294967295 : Int)).toNat) * (IntKind.u64.wrap (BitVec.ofInt IntKind.u64.bits p1 &&& BitVec.ofInt IntKind.u64.bits (4294967295 : Int)).toNat))) 4294967296))) &&& BitVec.ofInt IntKind.u64.bits (4294967295 : Int)).toNat) + (IntKind.u64.wrap ((IntKind.u64.wrap (BitVec.ofInt IntKind.u64.bits p0 &&& BitVec.ofInt IntKind.u64.bits (4294967295 : Int)).toNat) * (Int.fdiv p1 4294967296))))) 4294967296))) (IntKind.u64.wrap (p0 * p1)))
def w_m_Mul64 (p0 p1 : Int) (K : Int → Int → Prop) : Prop := wv_m_Mul64 p0 p1 K
def pw_m_Mul64 (w : T_m_Mul64) (as : List PV) (K : PV → Prop) : Prop :=
 match as with
 | [(.int .u64 p0), (.int .u64 p1)] => w p0 p1 (fun r0 r1 => K (.tup [(.int .u64 r0), (.int .u64 r1)]))
 | _ => False
def wp_m_Mul64 (as : List PV) (K : PV → Prop) : Prop := pw_m_Mul64 w_m_Mul64 as K
def lp_m_Mul64 : LP := fun _ _ _ _ =>
 False
def S0_m_Mul64 : SE := ⟨E, lookS [], lookI [], lp_m_Mul64⟩
theorem se0_m_Mul64 : SEOk (S0_m_Mul64) := seOk_of trivial trivial
theorem eq_m_Mul64 ( p0 p1 K) : WP (S0_m_Mul64) 6 t_m_Mul64 [(.int .u64 p0), (.int .u64 p1)] K = wv_m_Mul64 p0 p1 (fun r0 r1 => K (.tup [(.int .u64 r0), (.int .u64 r1)])) := by kernel_rfl
theorem ok_m_Mul64 : OkF E wp_m_Mul64 n_m_Mul64 := by
 intro as K h
 unfold wp_m_Mul64 pw_m_Mul64 at h
 split at h
 · exact WP_ok se0_m_Mul64 (LpOk_no (by kernel_rfl)) (by kernel_rfl) (by kernel_rfl) (fun _ => baseC_none (by kernel_rfl) _) ((eq_m_Mul64 ..).mpr h)
 · exact h.elim
abbrev T_cmp_isNaN_uint64 : Type := Int → (Bool → Prop) → Prop
def wv_cmp_isNaN_uint64 (p0 : Int) (K : Bool → Prop) : Prop :=
 (K (p0 != p0))
def w_cmp_isNaN_uint64 (p0 : Int) (K : Bool → Prop) : Prop := wv_cmp_isNaN_uint64 p0 K
def pw_cmp_isNaN_uint64 (w : T_cmp_isNaN_uint64) (as : List PV) (K : PV → Prop) : Prop :=
 match as with
 | [(.int .u64 p0)] => w p0 (fun r0 => K (.bool r0))
 | _ => False
def wp_cmp_isNaN_uint64 (as : List PV) (K : PV → Prop) : Prop := pw_cmp_isNaN_uint64 w_cmp_isNaN_uint64 as K
def lp_cmp_isNaN_uint64 : LP := fun _ _ _ _ =>
 False
def S0_cmp_isNaN_uint64 : SE := ⟨E, lookS [], lookI [], lp_cmp_isNaN_uint64⟩
theorem se0_cmp_isNaN_uint64 : SEOk (S0_cmp_isNaN_uint64) := seOk_of trivial trivial
theorem eq_cmp_isNaN_uint64 ( p0 K) : WP (S0_cmp_isNaN_uint64) 6 t_cmp_isNaN_uint64 [(.int .u64 p0)] K = wv_cmp_isNaN_uint64 p0 (fun r0 => K (.bool r0)) := by kernel_rfl
theorem ok_cmp_isNaN_uint64 : OkF E wp_cmp_isNaN_uint64 n_cmp_isNaN_uint64 := by
 intro as K h
 unfold wp_cmp_isNaN_uint64 pw_cmp_isNaN_uint64 at h
 split at h
 · exact WP_ok se0_cmp_isNaN_uint64 (LpOk_no (by kernel_rfl)) (by kernel_rfl) (by kernel_rfl) (fun _ => baseC_none (by kernel_rfl) _) ((eq_cmp_isNaN_uint64 ..).mpr h)
 · exact h.elim
abbrev T_cmp_Compare_uint64 : Type := Int → Int → (Int → Prop) → Prop
def wv_cmp_Compare_uint64 (a0 : T_cmp_isNaN_uint64) (p0 p1 : Int) (K : Int → Prop) : Prop :=
 (a0 p0 (fun yb0 => 
 (a0 p1 (fun yb1 => 
 (cbr yb0
 (cbr yb1
 (K (0 : Int))
 (K (-1 : Int)))
 (cbr yb1
 (K (1 : Int))
 (cbr (decide (p0 < p1))
 (K (-1 : Int))
 (cbr (decide (p0 > p1))
 (K (1 : Int))
 (K (0 : Int))))))))))
def w_cmp_Compare_uint64 (p0 p1 : Int) (K : Int → Prop) : Prop := wv_cmp_Compare_uint64 w_cmp_isNaN_uint64 p0 p1 K
def pw_cmp_Compare_uint64 (w : T_cmp_Compare_uint64) (as : List PV) (K : PV → Prop) : Prop :=
 match as with
 | [(.int .u64 p0), (.int .u64 p1)] => w p0 p1 (fun r0 => K (.int .i64 r0))
 | _ => False
def wp_cmp_Compare_uint64 (as : List PV) (K : PV → Prop) : Prop := pw_cmp_Compare_uint64 w_cmp_Compare_uint64 as K
def lp_cmp_Compare_uint64 (_ : T_cmp_isNaN_uint64) : LP := fun _ _ _ _ =>
 False
def S0_cmp_Compare_uint64 (a0 : T_cmp_isNaN_uint64) : SE := ⟨E, lookS [(n_cmp_isNaN_uint64, pw_cmp_isNaN_uint64 a0)], lookI [], lp_cmp_Compare_uint64 a0⟩
theorem se0_cmp_Compare_uint64 : SEOk (S0_cmp_Compare_uint64 w_cmp_isNaN_uint64) := seOk_of ⟨ok_cmp_isNaN_uint64, trivial⟩ trivial
theorem eq_cmp_Compare_uint64 (a0 p0 p1 K) : WP (S0_cmp_Compare_uint64 a0) 6 t_cmp_Compare_uint64 [(.int .u64 p0), (.int .u64 p1)] K = wv_cmp_Compare_uint64 a0 p0 p1 (fun r0 => K (.int .i64 r0)) := by kernel_rfl
theorem ok_cmp_Compare_uint64 : OkF E wp_cmp_Compare_uint64 n_cmp_Compare_uint64 := by
 intro as K h
 unfold wp_cmp_Compare_uint64 pw_cmp_Compare_uint64 at h
 split at h
 · exact WP_ok se0_cmp_Compare_uint64 (LpOk_no (by kernel_rfl)) (by kernel_rfl) (by kernel_rfl) (fun _ => baseC_none (by kernel_rfl) _) ((eq_cmp_Compare_uint64 ..).mpr h)
 · exact h.elim
abbrev T_cmp_Or_int : Type := List PV → (Int → Prop) → Prop
def L_cmp_Or_int_0_0 (x0 : Int → Prop) (x1 : Int → List PV → Int → Int → Bool → Prop) : Nat → Int → List PV → Int → Int → Prop
 | 0, _, _, _, _ => False
 | n + 1, i0, l1, i2, i3 =>
 (cbr (decide (i3 < i2))
 (asr (decide ((0 : Int) ≤ i3))
 (asr (decide (i3 < (((List.length l1) : Nat) : Int)))
 (asr (conf (.one (.i .i64)) (List.getD l1 (i3.toNat) .nils))
 (cbr ((intOfV (List.getD l1 (i3.toNat) .nils)) != i0)
 (x0 (intOfV (List.getD l1 (i3.toNat) .nils)))
 (L_cmp_Or_int_0_0 x0 x1 n i0 l1 i2 (IntKind.i64.wrap (i3 + (1 : Int))))))))
 (x1 i0 l1 i2 i3 false))
def wv_cmp_Or_int (p0 : List PV) (K : Int → Prop) : Prop :=
 (∃ n : Nat, L_cmp_Or_int_0_0
 (fun yi0 => (K yi0))
 (fun yi1 _ _ _ _ => (K yi1))
 n (0 : Int) p0 (((List.length p0) : Nat) : Int) (0 : Int))
def w_cmp_Or_int (p0 : List PV) (K : Int → Prop) : Prop := wv_cmp_Or_int p0 K
def pw_cmp_Or_int (w : T_cmp_Or_int) (as : List PV) (K : PV → Prop) : Prop :=
 match as with
 | [(.data p0)] => w p0 (fun r0 => K (.int .i64 r0))
 | _ => False
def wp_cmp_Or_int (as : List PV) (K : PV → Prop) : Prop := pw_cmp_Or_int w_cmp_Or_int as K
def D_cmp_Or_int_0 (F : Frm) (H : Hp) (A0 : Int → List PV → Int → Int → Prop) : Prop :=
 match F, H with
 | [(3, .v (.int .i64 i0)), (6, .v (.data l1)), (7, .v (.int .i64 i2)), (8, .v (.int .i64 i3))], [] => (A0 i0 l1 i2 i3)
 | _, _ => False
def R_cmp_Or_int_0 (Q : Ex → Frm → Hp → Prop) (n : Nat) (F : Frm) (H : Hp) : Prop := D_cmp_Or_int_0 F H (fun i0 l1 i2 i3 => L_cmp_Or_int_0_0 (fun i0 => Q .ret [(2, .v (.int .i64 i0))] []) (fun i0 l1 i2 i3 b4 => Q (.exit 0) [(3, .v (.int .i64 i0)), (6, .v (.data l1)), (7, .v (.int .i64 i2)), (8, .v (.int .i64 i3)), (9, .v (.bool b4))] []) n i0 l1 i2 i3)
def lp_cmp_Or_int : LP := fun id F H Q =>
 bif Nat.beq id 53260600 then D_cmp_Or_int_0 F H (fun i0 l1 i2 i3 => ∃ n : Nat, L_cmp_Or_int_0_0 (fun i0 => Q .ret [(2, .v (.int .i64 i0))] []) (fun i0 l1 i2 i3 b4 => Q (.exit 0) [(3, .v (.int .i64 i0)), (6, .v (.data l1)), (7, .v (.int .i64 i2)), (8, .v (.int .i64 i3)), (9, .v (.bool b4))] []) n i0 l1 i2 i3) else
 False
def S0_cmp_Or_int : SE := ⟨E, lookS [], lookI [], lp_cmp_Or_int⟩
theorem se0_cmp_Or_int : SEOk (S0_cmp_Or_int) := seOk_of trivial trivial
theorem body_cmp_Or_int_0_0 ( Q n i0 l1 i2 i3) : WC E (callW (S0_cmp_Or_int) 5) (lp_cmp_Or_int) b_53260600 [(3, .v (.int .i64 i0)), (6, .v (.data l1)), (7, .v (.int .i64 i2)), (8, .v (.int .i64 i3))] [] (fun x F' H' => match x with | .norm => R_cmp_Or_int_0 Q n F' H' | .exit i => Q (.exit i) F' H' | .ret => Q .ret F' H') = L_cmp_Or_int_0_0 (fun i0 => Q .ret [(2, .v (.int .i64 i0))] []) (fun i0 l1 i2 i3 b4 => Q (.exit 0) [(3, .v (.int .i64 i0)), (6, .v (.data l1)), (7, .v (.int .i64 i2)), (8, .v (.int .i64 i3)), (9, .v (.bool b4))] []) (n + 1) i0 l1 i2 i3 := by kernel_rfl
theorem lpb_cmp_Or_int_0 : LpOk E (lp_cmp_Or_int) b_53260600 := (LpOk_no (by kernel_rfl))
theorem loop_cmp_Or_int_0 : ∀ F H Q, lp_cmp_Or_int 53260600 F H Q → LoopT E b_53260600 F H Q := by
 intro F H Q h
 have go := LoopT.intro (callW_ok se0_cmp_Or_int 5) lpb_cmp_Or_int_0 (R_cmp_Or_int_0 Q) (by
   intro F H h
   unfold R_cmp_Or_int_0 D_cmp_Or_int_0 at h
   split at h
   · exact h
   · exact h) (by
   intro n F H h
   unfold R_cmp_Or_int_0 D_cmp_Or_int_0 at h
   split at h
   · exact (body_cmp_Or_int_0_0 ..).mpr h
   · exact h.elim)
 have h : D_cmp_Or_int_0 F H _ := h
 unfold D_cmp_Or_int_0 at h
 split at h
 · obtain ⟨n, h⟩ := h; exact go n _ _ h
 · exact h.elim
theorem eq_cmp_Or_int ( p0 K) : WP (S0_cmp_Or_int) 6 t_cmp_Or_int [(.data p0)] K = wv_cmp_Or_int p0 (fun r0 => K (.int .i64 r0)) := by kernel_rfl
theorem ok_cmp_Or_int : OkF E wp_cmp_Or_int n_cmp_Or_int := by
 intro as K h
 unfold wp_cmp_Or_int pw_cmp_Or_int at h
 split at h
 · exact WP_ok se0_cmp_Or_int (LpOk_by (l := [(53260600, b_53260600)]) ⟨loop_cmp_Or_int_0, trivial⟩ (by kernel_rfl)) (by kernel_rfl) (by kernel_rfl) (fun _ => baseC_none (by kernel_rfl) _) ((eq_cmp_Or_int ..).mpr h)
 · exact h.elim
abbrev T_ratio_Cmp : Type := Int → Int → Int → Int → (Int → Int → Prop) → Prop
def wv_ratio_Cmp (a0 : T_ratio_check) (a1 : T_cmp_Compare_int64) (a2 : T_ratio_size) (a3 : T_m_Mul64) (a4 : T_cmp_Compare_uint64) (a5 : T_cmp_Or_int) (p0 p1 p2 p3 : Int) (K : Int → Int → Prop) : Prop :=
 (a0 p0 p1 p2 p3 (fun yi0 => 
 (cbr (yi0 != (0 : Int))
 (K (0 : Int) yi0)
 (cbr ((decide (p0 < (0 : Int))) != (decide (p2 < (0 : Int))))
 (a1 p0 p2 (fun yi1 => 
 (K yi1 (0 : Int))))
 (a2 p0 (fun yi2 => 
 (a3 yi2 (IntKind.u64.wrap p3) (fun yi3 yi4 => 
 (a2 p2 (fun yi5 => 
 (a3 yi5 (IntKind.u64.wrap p1) (fun yi6 yi7 => 
 (a4 yi3 yi6 (fun yi8 => 
 (a4 yi4 yi7 (fun yi9 => 
 (a5 ([(.int .i64 yi8), (.int .i64 yi9)] : List PV) (fun yi10 => 
 (cbr (decide (p0 < (0 : Int)))
 (K (IntKind.i64.wrap ((0 : Int) - yi10)) (0 : Int))
 (K yi10 (0 : Int)))))))))))))))))))))
def w_ratio_Cmp (p0 p1 p2 p3 : Int) (K : Int → Int → Prop) : Prop := wv_ratio_Cmp w_ratio_check w_cmp_Compare_int64 w_ratio_size w_m_Mul64 w_cmp_Compare_uint64 w_cmp_Or_int p0 p1 p2 p3 K
def pw_ratio_Cmp (w : T_ratio_Cmp) (as : List PV) (K : PV → Prop) : Prop :=
 match as with
 | [(.agg [(.int .i64 p0), (.int .i64 p1)]), (.agg [(.int .i64 p2), (.int .i64 p3)])] => w p0 p1 p2 p3 (fun r0 r1 => K (.tup [(.int .i64 r0), (.int .i64 r1)]))
 | _ => False
def wp_ratio_Cmp (as : List PV) (K : PV → Prop) : Prop := pw_ratio_Cmp w_ratio_Cmp as K
def lp_ratio_Cmp (_ : T_ratio_check) (_ : T_cmp_Compare_int64) (_ : T_ratio_size) (_ : T_m_Mul64) (_ : T_cmp_Compare_uint64) (_ : T_cmp_Or_int) : LP := fun _ _ _ _ =>
 False
def S0_ratio_Cmp (a0 : T_ratio_check) (a1 : T_cmp_Compare_int64) (a2 : T_ratio_size) (a3 : T_m_Mul64) (a4 : T_cmp_Compare_uint64) (a5 : T_cmp_Or_int) : SE := ⟨E, lookS [(n_ratio_check, pw_ratio_check a0), (n_cmp_Compare_int64, pw_cmp_Compare_int64 a1), (n_ratio_size, pw_ratio_size a2), (n_m_Mul64, pw_m_Mul64 a3), (n_cmp_Compare_uint64, pw_cmp_Compare_uint64 a4), (n_cmp_Or_int, pw_cmp_Or_int a5)], lookI [], lp_ratio_Cmp a0 a1 a2 a3 a4 a5⟩
theorem se0_ratio_Cmp : SEOk (S0_ratio_Cmp w_ratio_check w_cmp_Compare_int64 w_ratio_size w_m_Mul64 w_cmp_Compare_uint64 w_cmp_Or_int) := seOk_of ⟨ok_ratio_check, ok_cmp_Compare_int64, ok_ratio_size, ok_m_Mul64, ok_cmp_Compare_uint64, ok_cmp_Or_int, trivial⟩ trivial
theorem eq_ratio_Cmp (a0 a1 a2 a3 a4 a5 p0 p1 p2 p3 K) : WP (S0_ratio_Cmp a0 a1 a2 a3 a4 a5) 6 t_ratio_Cmp [(.agg [(.int .i64 p0), (.int .i64 p1)]), (.agg [(.int .i64 p2), (.int .i64 p3)])] K = wv_ratio_Cmp a0 a1 a2 a3 a4 a5 p0 p1 p2 p3 (fun r0 r1 => K (.tup [(.int .i64 r0), (.int .i64 r1)])) := by kernel_rfl
theorem ok_ratio_Cmp : OkF E wp_ratio_Cmp n_ratio_Cmp := by
 intro as K h
 unfold wp_ratio_Cmp pw_ratio_Cmp at h
 split at h
 · exact WP_ok se0_ratio_Cmp (LpOk_no (by kernel_rfl)) (by kernel_rfl) (by kernel_rfl) (fun _ => baseC_none (by kernel_rfl) _) ((eq_ratio_Cmp ..).mpr h)
 · exact h.elim
abbrev T_m_Len64 : Type := Int → (Int → Prop) → Prop
def wv_m_Len64 (p0 : Int) (K : Int → Prop) : Prop :=
 (cbr (decide (p0 ≥ (4294967296 : Int)))
 (cbr (decide ((Int.fdiv p0 4294967296) ≥ (65536 : Int)))
 (cbr (decide ((Int.fdiv (Int.fdiv p0 4294967296) 65536) ≥ (256 : Int)))
 (asr (decide ((0 : Int) ≤ (IntKind.u8.wrap (Int.fdiv (Int.fdiv (Int.fdiv p0 4294967296) 65536) 256))))
 (asr (decide ((IntKind.u8.wrap (Int.fdiv (Int.fdiv (Int.fdiv p0 4294967296) 65536) 256)) < (256 : Int)))
 (K (IntKind.i64.wrap ((56 : Int) + (IntKind.i64.wrap (intOfV (List.getD len8tab ((IntKind.u8.wrap (Int.fdiv (Int.fdiv (Int.fdiv p0 4294967296) 65536) 256)).toNat) .nils))))))))
 (asr (decide ((0 : Int) ≤ (IntKind.u8.wrap (Int.fdiv (Int.fdiv p0 4294967296) 65536))))
 (asr (decide ((IntKind.u8.wrap (Int.fdiv (Int.fdiv p0 4294967296) 65536)) < (256 : Int)))
 (K (IntKind.i64.wrap ((48 : Int) + (IntKind.i64.wrap (intOfV (List.getD len8tab ((IntKind.u8.wrap (Int.fdiv (Int.fdiv p0 4294967296) 65536)).toNat) .nils)))))))))
 (cbr (decide ((Int.fdiv p0 4294967296) ≥ (256 : Int)))
 (asr (decide ((0 : Int) ≤ (IntKind.u8.wrap (Int.fdiv (Int.fdiv p0 4294967296) 256))))
 (asr (decide ((IntKind.u8.wrap (Int.fdiv (Int.fdiv p0 4294967296) 256)) < (256 : Int)))
 (K (IntKind.i64.wrap ((40 : Int) + (IntKind.i64.wrap (intOfV (List.getD len8tab ((IntKind.u8.wrap (Int.fdiv (Int.fdiv p0 4294967296) 256)).toNat) .nils))))))))
 (asr (decide ((0 : Int) ≤ (IntKind.u8.wrap (Int.fdiv p0 4294967296))))
 (asr (decide ((IntKind.u8.wrap (Int.fdiv p0 4294967296)) < (256 : Int)))
 (K (IntKind.i64.wrap ((32 : Int) + (IntKind.i64.wrap (intOfV (List.getD len8tab ((IntKind.u8.wrap (Int.fdiv p0 4294967296)).toNat) .nils))))))))))
 (cbr (decide (p0 ≥ (65536 : Int)))
 (cbr (decide ((Int.fdiv p0 65536) ≥ (256 : Int)))
 (asr (decide ((0 : Int) ≤ (IntKind.u8.wrap (Int.fdiv (Int.fdiv p0 65536) 256))))
 (asr (decide ((IntKind.u8.wrap (Int.fdiv (Int.fdiv p0 65536) 256)) < (256 : Int)))
 (K (IntKind.i64.wrap ((24 : Int) + (IntKind.i64.wrap (intOfV (List.getD len8tab ((IntKind.u8.wrap (Int.fdiv (Int.fdiv p0 65536) 256)).toNat) .nils))))))))
 (asr (decide ((0 : Int) ≤ (IntKind.u8.wrap (Int.fdiv p0 65536))))
 (asr (decide ((IntKind.u8.wrap (Int.fdiv p0 65536)) < (256 : Int)))
 (K (IntKind.i64.wrap ((16 : Int) + (IntKind.i64.wrap (intOfV (List.getD len8tab ((IntKind.u8.wrap (Int.fdiv p0 65536)).toNat) .nils)))))))))
 (cbr (decide (p0 ≥ (256 : Int)))
 (asr (decide ((0 : Int) ≤ (IntKind.u8.wrap (Int.fdiv p0 256))))
 (asr (decide ((IntKind.u8.wrap (Int.fdiv p0 256)) < (256 : Int)))
 (K (IntKind.i64.wrap ((8 : Int) + (IntKind.i64.wrap (intOfV (List.getD len8tab ((IntKind.u8.wrap (Int.fdiv p0 256)).toNat) .nils))))))))
 (asr (decide ((0 : Int) ≤ (IntKind.u8.wrap p0)))
 (asr (decide ((IntKind.u8.wrap p0) < (256 : Int)))
 (K (IntKind.i64.wrap ((0 : Int) + (IntKind.i64.wrap (intOfV (List.getD len8tab ((IntKind.u8.wrap p0).toNat) .nils)))))))))))
def w_m_Len64 (p0 : Int) (K : Int → Prop) : Prop := wv_m_Len64 p0 K
def pw_m_Len64 (w : T_m_Len64) (as : List PV) (K : PV → Prop) : Prop :=
 match as with
 | [(.int .u64 p0)] => w p0 (fun r0 => K (.int .i64 r0))
 | _ => False
def wp_m_Len64 (as : List PV) (K : PV → Prop) : Prop := pw_m_Len64 w_m_Len64 as K
def lp_m_Len64 : LP := fun _ _ _ _ =>
 False
def S0_m_Len64 : SE := ⟨E, lookS [], lookI [], lp_m_Len64⟩
theorem se0_m_Len64 : SEOk (S0_m_Len64) := seOk_of trivial trivial
theorem eq_m_Len64 ( p0 K) : WP (S0_m_Len64) 6 t_m_Len64 [(.int .u64 p0)] K = wv_m_Len64 p0 (fun r0 => K (.int .i64 r0)) := by kernel_rfl
theorem ok_m_Len64 : OkF E wp_m_Len64 n_m_Len64 := by
 intro as K h
 unfold wp_m_Len64 pw_m_Len64 at h
 split at h
 · exact WP_ok se0_m_Len64 (LpOk_no (by kernel_rfl)) (by kernel_rfl) (by kernel_rfl) (fun _ => baseC_none (by kernel_rfl) _) ((eq_m_Len64 ..).mpr h)
 · exact h.elim
abbrev T_m_LeadingZeros64 : Type := Int → (Int → Prop) → Prop
def wv_m_LeadingZeros64 (a0 : T_m_Len64) (p0 : Int) (K : Int → Prop) : Prop :=
 (a0 p0 (fun yi0 => 
 (K (IntKind.i64.wrap ((64 : Int) - yi0)))))
def w_m_LeadingZeros64 (p0 : Int) (K : Int → Prop) : Prop := wv_m_LeadingZeros64 w_m_Len64 p0 K
def pw_m_LeadingZeros64 (w : T_m_LeadingZeros64) (as : List PV) (K : PV → Prop) : Prop :=
 match as with
 | [(.int .u64 p0)] => w p0 (fun r0 => K (.int .i64 r0))
 | _ => False
def wp_m_LeadingZeros64 (as : List PV) (K : PV → Prop) : Prop := pw_m_LeadingZeros64 w_m_LeadingZeros64 as K
def lp_m_LeadingZeros64 (_ : T_m_Len64) : LP := fun _ _ _ _ =>
 False
def S0_m_LeadingZeros64 (a0 : T_m_Len64) : SE := ⟨E, lookS [(n_m_Len64, pw_m_Len64 a0)], lookI [], lp_m_LeadingZeros64 a0⟩
theorem se0_m_LeadingZeros64 : SEOk (S0_m_LeadingZeros64 w_m_Len64) := seOk_of ⟨ok_m_Len64, trivial⟩ trivial
theorem eq_m_LeadingZeros64 (a0 p0 K) : WP (S0_m_LeadingZeros64 a0) 6 t_m_LeadingZeros64 [(.int .u64 p0)] K = wv_m_LeadingZeros64 a0 p0 (fun r0 => K (.int .i64 r0)) := by kernel_rfl
theorem ok_m_LeadingZeros64 : OkF E wp_m_LeadingZeros64 n_m_LeadingZeros64 := by
 intro as K h
 unfold wp_m_LeadingZeros64 pw_m_LeadingZeros64 at h
 split at h
 · exact WP_ok se0_m_LeadingZeros64 (LpOk_no (by kernel_rfl)) (by kernel_rfl) (by kernel_rfl) (fun _ => baseC_none (by kernel_rfl) _) ((eq_m_LeadingZeros64 ..).mpr h)
 · exact h.elim
abbrev T_m_Div64 : Type := Int → Int → Int → (Int → Int → Prop) → Prop
mutual
def L_m_Div64_0_0 (a0 : T_m_LeadingZeros64) (x60530100_0 : Int → Int → Int → Int → Int → Int → Int → Int → Int → Bool → Prop) (x60530100_1 : Int → Int → Int → Int → Int → Int → Int → Int → Int → Bool → Prop) : Nat → Int → Int → Int → Int → Int → Int → Int → Int → Int → Prop
 | 0, _, _, _, _, _, _, _, _, _ => False
 | n60530100 + 1, i0, i1, i2, i3, i4, i5, i6, i7, i8 =>
 (cbr (decide (i7 ≥ (4294967296 : Int)))
 (cbr (decide ((IntKind.u64.wrap (i8 + i2)) ≥ (4294967296 : Int)))
 (x60530100_0 i0 i1 i2 i3 i4 i5 i6 (IntKind.u64.wrap (i7 - (1 : Int))) (IntKind.u64.wrap (i8 + i2)) true)
 (L_m_Div64_0_1 a0 x60530100_0 x60530100_1 n60530100 i0 i1 i2 i3 i4 i5 i6 (IntKind.u64.wrap (i7 - (1 : Int))) (IntKind.u64.wrap (i8 + i2)) false))
 (cbr (decide ((IntKind.u64.wrap (i7 * i3)) > (IntKind.u64.wrap ((IntKind.u64.wrap ((4294967296 : Int) * i8)) + i5))))
 (cbr (decide ((IntKind.u64.wrap (i8 + i2)) ≥ (4294967296 : Int)))
 (x60530100_0 i0 i1 i2 i3 i4 i5 i6 (IntKind.u64.wrap (i7 - (1 : Int))) (IntKind.u64.wrap (i8 + i2)) true)
 (L_m_Div64_0_1 a0 x60530100_0 x60530100_1 n60530100 i0 i1 i2 i3 i4 i5 i6 (IntKind.u64.wrap (i7 - (1 : Int))) (IntKind.u64.wrap (i8 + i2)) false))
 (x60530100_1 i0 i1 i2 i3 i4 i5 i6 i7 i8 false)))
def L_m_Div64_0_1 (a0 : T_m_LeadingZeros64) (x60530100_0 : Int → Int → Int → Int → Int → Int → Int → Int → Int → Bool → Prop) (x60530100_1 : Int → Int → Int → Int → Int → Int → Int → Int → Int → Bool → Prop) : Nat → Int → Int → Int → Int → Int → Int → Int → Int → Int → Bool → Prop
 | 0, _, _, _, _, _, _, _, _, _, _ => False
 | n60530100 + 1, i0, i1, i2, i3, i4, i5, i6, i7, i8, _ =>
 (cbr (decide (i7 ≥ (4294967296 : Int)))
 (cbr (decide ((IntKind.u64.wrap (i8 + i2)) ≥ (4294967296 : Int)))
 (x60530100_0 i0 i1 i2 i3 i4 i5 i6 (IntKind.u64.wrap (i7 - (1 : Int))) (IntKind.u64.wrap (i8 + i2)) true)
 (L_m_Div64_0_1 a0 x60530100_0 x60530100_1 n60530100 i0 i1 i2 i3 i4 i5 i6 (IntKind.u64.wrap (i7 - (1 : Int))) (IntKind.u64.wrap (i8 + i2)) false))
 (cbr (decide ((IntKind.u64.wrap (i7 * i3)) > (IntKind.u64.wrap ((IntKind.u64.wrap ((4294967296 : Int) * i8)) + i5))))
 (cbr (decide ((IntKind.u64.wrap (i8 + i2)) ≥ (4294967296 : Int)))
 (x60530100_0 i0 i1 i2 i3 i4 i5 i6 (IntKind.u64.wrap (i7 - (1 : Int))) (IntKind.u64.wrap (i8 + i2)) true)
 (L_m_Div64_0_1 a0 x60530100_0 x60530100_1 n60530100 i0 i1 i2 i3 i4 i5 i6 (IntKind.u64.wrap (i7 - (1 : Int))) (IntKind.u64.wrap (i8 + i2)) false))
 (x60530100_1 i0 i1 i2 i3 i4 i5 i6 i7 i8 false)))
end
mutual
def L_m_Div64_1_0 (a0 : T_m_LeadingZeros64) (x60530101_0 : Int → Int → Int → Int → Int → Int → Int → Int → Int → Bool → Prop) (x60530101_1 : Int → Int → Int → Int → Int → Int → Int → Int → Int → Bool → Prop) : Nat → Int → Int → Int → Int → Int → Int → Int → Int → Int → Prop
 | 0, _, _, _, _, _, _, _, _, _ => False
 | n60530101 + 1, i0, i1, i2, i3, i4, i5, i6, i7, i8 =>
 (cbr (decide (i8 ≥ (4294967296 : Int)))
 (cbr (decide ((IntKind.u64.wrap (i6 + i2)) ≥ (4294967296 : Int)))
 (x60530101_0 i0 i1 i2 i3 i4 i5 (IntKind.u64.wrap (i6 + i2)) i7 (IntKind.u64.wrap (i8 - (1 : Int))) true)
 (L_m_Div64_1_1 a0 x60530101_0 x60530101_1 n60530101 i0 i1 i2 i3 i4 i5 (IntKind.u64.wrap (i6 + i2)) i7 (IntKind.u64.wrap (i8 - (1 : Int))) false))
 (cbr (decide ((IntKind.u64.wrap (i8 * i3)) > (IntKind.u64.wrap ((IntKind.u64.wrap ((4294967296 : Int) * i6)) + i4))))
 (cbr (decide ((IntKind.u64.wrap (i6 + i2)) ≥ (4294967296 : Int)))
 (x60530101_0 i0 i1 i2 i3 i4 i5 (IntKind.u64.wrap (i6 + i2)) i7 (IntKind.u64.wrap (i8 - (1 : Int))) true)
 (L_m_Div64_1_1 a0 x60530101_0 x60530101_1 n60530101 i0 i1 i2 i3 i4 i5 (IntKind.u64.wrap (i6 + i2)) i7 (IntKind.u64.wrap (i8 - (1 : Int))) false))
 (x60530101_1 i0 i1 i2 i3 i4 i5 i6 i7 i8 false)))
def L_m_Div64_1_1 (a0 : T_m_LeadingZeros64) (x60530101_0 : Int → Int → Int → Int → Int → Int → Int → Int → Int → Bool → Prop) (x60530101_1 : Int → Int → Int → Int → Int → Int → Int → Int → Int → Bool → Prop) : Nat → Int → Int → Int → Int → Int → Int → Int → Int → Int → Bool → Prop
 | 0, _, _, _, _, _, _, _, _, _, _ => False
 | n60530101 + 1, i0, i1, i2, i3, i4, i5, i6, i7, i8, _ =>
 (cbr (decide (i8 ≥ (4294967296 : Int)))
 (cbr (decide ((IntKind.u64.wrap (i6 + i2)) ≥ (4294967296 : Int)))
 (x60530101_0 i0 i1 i2 i3 i4 i5 (IntKind.u64.wrap (i6 + i2)) i7 (IntKind.u64.wrap (i8 - (1 : Int))) true)
 (L_m_Div64_1_1 a0 x60530101_0 x60530101_1 n60530101 i0 i1 i2 i3 i4 i5 (IntKind.u64.wrap (i6 + i2)) i7 (IntKind.u64.wrap (i8 - (1 : Int))) false))
 (cbr (decide ((IntKind.u64.wrap (i8 * i3)) > (IntKind.u64.wrap ((IntKind.u64.wrap ((4294967296 : Int) * i6)) + i4))))
 (cbr (decide ((IntKind.u64.wrap (i6 + i2)) ≥ (4294967296 : Int)))
 (x60530101_0 i0 i1 i2 i3 i4 i5 (IntKind.u64.wrap (i6 + i2)) i7 (IntKind.u64.wrap (i8 - (1 : Int))) true)
 (L_m_Div64_1_1 a0 x60530101_0 x60530101_1 n60530101 i0 i1 i2 i3 i4 i5 (IntKind.u64.wrap (i6 + i2)) i7 (IntKind.u64.wrap (i8 - (1 : Int))) false))
 (x60530101_1 i0 i1 i2 i3 i4 i5 i6 i7 i8 false)))
end
def wv_m_Div64 (a0 : T_m_LeadingZeros64) (p0 p1 p2 : Int) (K : Int → Int → Prop) : Prop :=
 (cbr (p2 == (0 : Int))
 False
 (cbr (decide (p2 ≤ p0))
 False
 (cbr (p0 == (0 : Int))
 (asr (!(decide (p2 = (0 : Int))))
 (asr (!(decide (p2 = (0 : Int))))
 (K (IntKind.u64.wrap (Int.tdiv p1 p2)) (Int.tmod p1 p2))))
 (a0 p2 (fun yi0 => 
 (asr (!(decide ((IntKind.u64.wrap yi0) < (0 : Int))))
 (asr (!(decide ((IntKind.u64.wrap yi0) < (0 : Int))))
 (asr (!(decide ((IntKind.u64.wrap ((64 : Int) - (IntKind.u64.wrap yi0))) < (0 : Int))))
 (asr (!(decide ((IntKind.u64.wrap yi0) < (0 : Int))))
 (asr (!(decide ((Int.fdiv (IntKind.u64.wrap (p2 * 2 ^ (min (IntKind.u64.wrap yi0).toNat IntKind.u64.bits))) 4294967296) = (0 : Int))))
 (∃ n60530100 : Nat, L_m_Div64_0_0 a0
 (fun yi1 yi2 yi3 yi4 yi5 yi6 yi7 yi8 _ _ => (asr (!(decide (yi3 = (0 : Int))))
 (∃ n60530101 : Nat, L_m_Div64_1_0 a0
 (fun yi11 yi12 _ _ yi15 yi16 _ yi18 yi19 _ => (asr (!(decide (yi12 < (0 : Int))))
 (K (IntKind.u64.wrap ((IntKind.u64.wrap (yi16 * (4294967296 : Int))) + yi19)) (Int.fdiv (IntKind.u64.wrap ((IntKind.u64.wrap ((IntKind.u64.wrap (yi18 * (4294967296 : Int))) + yi15)) - (IntKind.u64.wrap (yi19 * yi11)))) (2 ^ (min yi12.toNat IntKind.u64.bits))))))
 (fun yi21 yi22 _ _ yi25 yi26 _ yi28 yi29 _ => (asr (!(decide (yi22 < (0 : Int))))
 (K (IntKind.u64.wrap ((IntKind.u64.wrap (yi26 * (4294967296 : Int))) + yi29)) (Int.fdiv (IntKind.u64.wrap ((IntKind.u64.wrap ((IntKind.u64.wrap (yi28 * (4294967296 : Int))) + yi25)) - (IntKind.u64.wrap (yi29 * yi21)))) (2 ^ (min yi22.toNat IntKind.u64.bits))))))
 n60530101 yi1 yi2 yi3 yi4 yi7 yi8 (IntKind.u64.wrap ((IntKind.u64.wrap ((IntKind.u64.wrap ((IntKind.u64.wrap (yi5 * (4294967296 : Int))) + yi6)) - (IntKind.u64.wrap (yi8 * yi1)))) - (IntKind.u64.wrap ((IntKind.u64.wrap (Int.tdiv (IntKind.u64.wrap ((IntKind.u64.wrap ((IntKind.u64.wrap (yi5 * (4294967296 : Int))) + yi6)) - (IntKind.u64.wrap (yi8 * yi1)))) yi3)) * yi3)))) (IntKind.u64.wrap ((IntKind.u64.wrap ((IntKind.u64.wrap (yi5 * (4294967296 : Int))) + yi6)) - (IntKind.u64.wrap (yi8 * yi1)))) (IntKind.u64.wrap (Int.tdiv (IntKind.u64.wrap ((IntKind.u64.wrap ((IntKind.u64.wrap (yi5 * (4294967296 : Int))) + yi6)) - (IntKind.u64.wrap (yi8 * yi1)))) yi3)))))
 (fun yi31 yi32 yi33 yi34 yi35 yi36 yi37 yi38 _ _ => (asr (!(decide (yi33 = (0 : Int))))
 (∃ n60530101 : Nat, L_m_Div64_1_0 a0
 (fun yi41 yi42 _ _ yi45 yi46 _ yi48 yi49 _ => (asr (!(decide (yi42 < (0 : Int))))
 (K (IntKind.u64.wrap ((IntKind.u64.wrap (yi46 * (4294967296 : Int))) + yi49)) (Int.fdiv (IntKind.u64.wrap ((IntKind.u64.wrap ((IntKind.u64.wrap (yi48 * (4294967296 : Int))) + yi45)) - (IntKind.u64.wrap (yi49 * yi41)))) (2 ^ (min yi42.toNat IntKind.u64.bits))))))
 (fun yi51 yi52 _ _ yi55 yi56 _ yi58 yi59 _ => (asr (!(decide (yi52 < (0 : Int))))
 (K (IntKind.u64.wrap ((IntKind.u64.wrap (yi56 * (4294967296 : Int))) + yi59)) (Int.fdiv (IntKind.u64.wrap ((IntKind.u64.wrap ((IntKind.u64.wrap (yi58 * (4294967296 : Int))) + yi55)) - (IntKind.u64.wrap (yi59 * yi51)))) (2 ^ (min yi52.toNat IntKind.u64.bits))))))
 n60530101 yi31 yi32 yi33 yi34 yi37 yi38 (IntKind.u64.wrap ((IntKind.u64.wrap ((IntKind.u64.wrap ((IntKind.u64.wrap (yi35 * (4294967296 : Int))) + yi36)) - (IntKind.u64.wrap (yi38 * yi31)))) - (IntKind.u64.wrap ((IntKind.u64.wrap (Int.tdiv (IntKind.u64.wrap ((IntKind.u64.wrap ((IntKind.u64.wrap (yi35 * (4294967296 : Int))) + yi36)) - (IntKind.u64.wrap (yi38 * yi31)))) yi33)) * yi33)))) (IntKind.u64.wrap ((IntKind.u64.wrap ((IntKind.u64.wrap (yi35 * (4294967296 : Int))) + yi36)) - (IntKind.u64.wrap (yi38 * yi31)))) (IntKind.u64.wrap (Int.tdiv (IntKind.u64.wrap ((IntKind.u64.wrap ((IntKind.u64.wrap (yi35 * (4294967296 : Int))) + yi36)) - (IntKind.u64.wrap (yi38 * yi31)))) yi33)))))
 n60530100 (IntKind.u64.wrap (p2 * 2 ^ (min (IntKind.u64.wrap yi0).toNat IntKind.u64.bits))) (IntKind.u64.wrap yi0) (Int.fdiv (IntKind.u64.wrap (p2 * 2 ^ (min (IntKind.u64.wrap yi0).toNat IntKind.u64.bits))) 4294967296) (IntKind.u64.wrap (BitVec.ofInt IntKind.u64.bits (IntKind.u64.wrap (p2 * 2 ^ (min (IntKind.u64.wrap yi0).toNat IntKind.u64.bits))) &&& BitVec.ofInt IntKind.u64.bits (4294967295 : Int)).toNat) (IntKind.u64.wrap (BitVec.ofInt IntKind.u64.bits (IntKind.u64.wrap (p0 * 2 ^ (min (IntKind.u64.wrap yi0).toNat IntKind.u64.bits))) ||| BitVec.ofInt IntKind.u64.bits (Int.fdiv p1 (2 ^ (min (IntKind.u64.wrap ((64 : Int) - (IntKind.u64.wrap yi0))).toNat IntKind.u64.bits)))).toNat) (Int.fdiv (IntKind.u64.wrap (p1 * 2 ^ (min (IntKind.u64.wrap yi0).toNat IntKind.u64.bits))) 4294967296) (IntKind.u64.wrap (BitVec.ofInt IntKind.u64.bits (IntKind.u64.wrap (p1 * 2 ^ (min (IntKind.u64.wrap yi0).toNat IntKind.u64.bits))) &&& BitVec.ofInt IntKind.u64.bits (4294967295 : Int)).toNat) (IntKind.u64.wrap (Int.tdiv (IntKind.u64.wrap (BitVec.ofInt IntKind.u64.bits (IntKind.u64.wrap (p0 * 2 ^ (min (IntKind.u64.wrap yi0).toNat IntKind.u64.bits))) ||| BitVec.ofInt IntKind.u64.bits (Int.fdiv p1 (2 ^ (min (IntKind.u64.wrap ((64 : Int) - (IntKind.u64.wrap yi0))).toNat IntKind.u64.bits)))).toNat) (Int.fdiv (IntKind.u64.wrap (p2 * 2 ^ (min (IntKind.u64.wrap yi0).toNat IntKind.u64.bits))) 4294967296))) (IntKind.u64.wrap ((IntKind.u64.wrap (BitVec.ofInt IntKind.u64.bits (IntKind.u64.wrap (p0 * 2 ^ (min (IntKind.u64.wrap yi0).toNat IntKind.u64.bits))) ||| BitVec.ofInt IntKind.u64.bits (Int.fdiv p1 (2 ^ (min (IntKind.u64.wrap ((64 : Int) - (IntKind.u64.wrap yi0))).toNat IntKind.u64.bits)))).toNat) - (IntKind.u64.wrap ((IntKind.u64.wrap (Int.tdiv (IntKind.u64.wrap (BitVec.ofInt IntKind.u64.bits (IntKind.u64.wrap (p0 * 2 ^ (min (IntKind.u64.wrap yi0).toNat IntKind.u64.bits))) ||| BitVec.ofInt IntKind.u64.bits (Int.fdiv p1 (2 ^ (min (IntKind.u64.wrap ((64 : Int) - (IntKind.u64.wrap yi0))).toNat IntKind.u64.bits)))).toNat) (Int.fdiv (IntKind.u64.wrap (p2 * 2 ^ (min (IntKind.u64.wrap yi0).toNat IntKind.u64.bits))) 4294967296))) * (Int.fdiv (IntKind.u64.wrap (p2 * 2 ^ (min (IntKind.u64.wrap yi0).toNat IntKind.u64.bits))) 4294967296))))))))))))))))
def w_m_Div64 (p0 p1 p2 : Int) (K : Int → Int → Prop) : Prop := wv_m_Div64 w_m_LeadingZeros64 p0 p1 p2 K
def pw_m_Div64 (w : T_m_Div64) (as : List PV) (K : PV → Prop) : Prop :=
 match as with
 | [(.int .u64 p0), (.int .u64 p1), (.int .u64 p2)] => w p0 p1 p2 (fun r0 r1 => K (.tup [(.int .u64 r0), (.int .u64 r1)]))
 | _ => False
def wp_m_Div64 (as : List PV) (K : PV → Prop) : Prop := pw_m_Div64 w_m_Div64 as K
def D_m_Div64_0 (F : Frm) (H : Hp) (A0 : Int → Int → Int → Int → Int → Int → Int → Int → Int → Prop) (A1 : Int → Int → Int → Int → Int → Int → Int → Int → Int → Bool → Prop) : Prop :=
 match F, H with
 | [(2, .v (.int .u64 i0)), (8, .v (.int .u64 i1)), (9, .v (.int .u64 i2)), (10, .v (.int .u64 i3)), (11, .v (.int .u64 i4)), (13, .v (.int .u64 i5)), (14, .v (.int .u64 i6)), (15, .v (.int .u64 i7)), (16, .v (.int .u64 i8))], [] => (A0 i0 i1 i2 i3 i4 i5 i6 i7 i8)
 | [(2, .v (.int .u64 i0)), (8, .v (.int .u64 i1)), (9, .v (.int .u64 i2)), (10, .v (.int .u64 i3)), (11, .v (.int .u64 i4)), (13, .v (.int .u64 i5)), (14, .v (.int .u64 i6)), (15, .v (.int .u64 i7)), (16, .v (.int .u64 i8)), (85, .v (.bool b9))], [] => (A1 i0 i1 i2 i3 i4 i5 i6 i7 i8 b9)
 | _, _ => False
def D_m_Div64_1 (F : Frm) (H : Hp) (A0 : Int → Int → Int → Int → Int → Int → Int → Int → Int → Prop) (A1 : Int → Int → Int → Int → Int → Int → Int → Int → Int → Bool → Prop) : Prop :=
 match F, H with
 | [(2, .v (.int .u64 i0)), (8, .v (.int .u64 i1)), (9, .v (.int .u64 i2)), (10, .v (.int .u64 i3)), (14, .v (.int .u64 i4)), (15, .v (.int .u64 i5)), (16, .v (.int .u64 i6)), (17, .v (.int .u64 i7)), (18, .v (.int .u64 i8))], [] => (A0 i0 i1 i2 i3 i4 i5 i6 i7 i8)
 | [(2, .v (.int .u64 i0)), (8, .v (.int .u64 i1)), (9, .v (.int .u64 i2)), (10, .v (.int .u64 i3)), (14, .v (.int .u64 i4)), (15, .v (.int .u64 i5)), (16, .v (.int .u64 i6)), (17, .v (.int .u64 i7)), (18, .v (.int .u64 i8)), (120, .v (.bool b9))], [] => (A1 i0 i1 i2 i3 i4 i5 i6 i7 i8 b9)
 | _, _ => False
def R_m_Div64_0 (a0 : T_m_LeadingZeros64) (Q : Ex → Frm → Hp → Prop) (n : Nat) (F : Frm) (H : Hp) : Prop := D_m_Div64_0 F H (fun i0 i1 i2 i3 i4 i5 i6 i7 i8 => L_m_Div64_0_0 a0 (fun i0 i1 i2 i3 i4 i5 i6 i7 i8 b9 => Q (.exit 0) [(2, .v (.int .u64 i0)), (8, .v (.int .u64 i1)), (9, .v (.int .u64 i2)), (10, .v (.int .u64 i3)), (11, .v (.int .u64 i4)), (13, .v (.int .u64 i5)), (14, .v (.int .u64 i6)), (15, .v (.int .u64 i7)), (16, .v (.int .u64 i8)), (85, .v (.bool b9))] []) (fun i0 i1 i2 i3 i4 i5 i6 i7 i8 b9 => Q (.exit 0) [(2, .v (.int .u64 i0)), (8, .v (.int .u64 i1)), (9, .v (.int .u64 i2)), (10, .v (.int .u64 i3)), (11, .v (.int .u64 i4)), (13, .v (.int .u64 i5)), (14, .v (.int .u64 i6)), (15, .v (.int .u64 i7)), (16, .v (.int .u64 i8)), (78, .v (.bool b9))] []) n i0 i1 i2 i3 i4 i5 i6 i7 i8) (fun i0 i1 i2 i3 i4 i5 i6 i7 i8 b9 => L_m_Div64_0_1 a0 (fun i0 i1 i2 i3 i4 i5 i6 i7 i8 b9 => Q (.exit 0) [(2, .v (.int .u64 i0)), (8, .v (.int .u64 i1)), (9, .v (.int .u64 i2)), (10, .v (.int .u64 i3)), (11, .v (.int .u64 i4)), (13, .v (.int .u64 i5)), (14, .v (.int .u64 i6)), (15, .v (.int .u64 i7)), (16, .v (.int .u64 i8)), (85, .v (.bool b9))] []) (fun i0 i1 i2 i3 i4 i5 i6 i7 i8 b9 => Q (.exit 0) [(2, .v (.int .u64 i0)), (8, .v (.int .u64 i1)), (9, .v (.int .u64 i2)), (10, .v (.int .u64 i3)), (11, .v (.int .u64 i4)), (13, .v (.int .u64 i5)), (14, .v (.int .u64 i6)), (15, .v (.int .u64 i7)), (16, .v (.int .u64 i8)), (78, .v (.bool b9))] []) n i0 i1 i2 i3 i4 i5 i6 i7 i8 b9)
def R_m_Div64_1 (a0 : T_m_LeadingZeros64) (Q : Ex → Frm → Hp → Prop) (n : Nat) (F : Frm) (H : Hp) : Prop := D_m_Div64_1 F H (fun i0 i1 i2 i3 i4 i5 i6 i7 i8 => L_m_Div64_1_0 a0 (fun i0 i1 i2 i3 i4 i5 i6 i7 i8 b9 => Q (.exit 2) [(2, .v (.int .u64 i0)), (8, .v (.int .u64 i1)), (9, .v (.int .u64 i2)), (10, .v (.int .u64 i3)), (14, .v (.int .u64 i4)), (15, .v (.int .u64 i5)), (16, .v (.int .u64 i6)), (17, .v (.int .u64 i7)), (18, .v (.int .u64 i8)), (120, .v (.bool b9))] []) (fun i0 i1 i2 i3 i4 i5 i6 i7 i8 b9 => Q (.exit 2) [(2, .v (.int .u64 i0)), (8, .v (.int .u64 i1)), (9, .v (.int .u64 i2)), (10, .v (.int .u64 i3)), (14, .v (.int .u64 i4)), (15, .v (.int .u64 i5)), (16, .v (.int .u64 i6)), (17, .v (.int .u64 i7)), (18, .v (.int .u64 i8)), (113, .v (.bool b9))] []) n i0 i1 i2 i3 i4 i5 i6 i7 i8) (fun i0 i1 i2 i3 i4 i5 i6 i7 i8 b9 => L_m_Div64_1_1 a0 (fun i0 i1 i2 i3 i4 i5 i6 i7 i8 b9 => Q (.exit 2) [(2, .v (.int .u64 i0)), (8, .v (.int .u64 i1)), (9, .v (.int .u64 i2)), (10, .v (.int .u64 i3)), (14, .v (.int .u64 i4)), (15, .v (.int .u64 i5)), (16, .v (.int .u64 i6)), (17, .v (.int .u64 i7)), (18, .v (.int .u64 i8)), (120, .v (.bool b9))] []) (fun i0 i1 i2 i3 i4 i5 i6 i7 i8 b9 => Q (.exit 2) [(2, .v (.int .u64 i0)), (8, .v (.int .u64 i1)), (9, .v (.int .u64 i2)), (10, .v (.int .u64 i3)), (14, .v (.int .u64 i4)), (15, .v (.int .u64 i5)), (16, .v (.int .u64 i6)), (17, .v (.int .u64 i7)), (18, .v (.int .u64 i8)), (113, .v (.bool b9))] []) n i0 i1 i2 i3 i4 i5 i6 i7 i8 b9)
def lp_m_Div64 (a0 : T_m_LeadingZeros64) : LP := fun id F H Q =>
 bif Nat.beq id 60530100 then D_m_Div64_0 F H (fun i0 i1 i2 i3 i4 i5 i6 i7 i8 => ∃ n : Nat, L_m_Div64_0_0 a0 (fun i0 i1 i2 i3 i4 i5 i6 i7 i8 b9 => Q (.exit 0) [(2, .v (.int .u64 i0)), (8, .v (.int .u64 i1)), (9, .v (.int .u64 i2)), (10, .v (.int .u64 i3)), (11, .v (.int .u64 i4)), (13, .v (.int .u64 i5)), (14, .v (.int .u64 i6)), (15, .v (.int .u64 i7)), (16, .v (.int .u64 i8)), (85, .v (.bool b9))] []) (fun i0 i1 i2 i3 i4 i5 i6 i7 i8 b9 => Q (.exit 0) [(2, .v (.int .u64 i0)), (8, .v (.int .u64 i1)), (9, .v (.int .u64 i2)), (10, .v (.int .u64 i3)), (11, .v (.int .u64 i4)), (13, .v (.int .u64 i5)), (14, .v (.int .u64 i6)), (15, .v (.int .u64 i7)), (16, .v (.int .u64 i8)), (78, .v (.bool b9))] []) n i0 i1 i2 i3 i4 i5 i6 i7 i8) (fun i0 i1 i2 i3 i4 i5 i6 i7 i8 b9 => ∃ n : Nat, L_m_Div64_0_1 a0 (fun i0 i1 i2 i3 i4 i5 i6 i7 i8 b9 => Q (.exit 0) [(2, .v (.int .u64 i0)), (8, .v (.int .u64 i1)), (9, .v (.int .u64 i2)), (10, .v (.int .u64 i3)), (11, .v (.int .u64 i4)), (13, .v (.int .u64 i5)), (14, .v (.int .u64 i6)), (15, .v (.int .u64 i7)), (16, .v (.int .u64 i8)), (85, .v (.bool b9))] []) (fun i0 i1 i2 i3 i4 i5 i6 i7 i8 b9 => Q (.exit 0) [(2, .v (.int .u64 i0)), (8, .v (.int .u64 i1)), (9, .v (.int .u64 i2)), (10, .v (.int .u64 i3)), (11, .v (.int .u64 i4)), (13, .v (.int .u64 i5)), (14, .v (.int .u64 i6)), (15, .v (.int .u64 i7)), (16, .v (.int .u64 i8)), (78, .v (.bool b9))] []) n i0 i1 i2 i3 i4 i5 i6 i7 i8 b9) else
 bif Nat.beq id 60530101 then D_m_Div64_1 F H (fun i0 i1 i2 i3 i4 i5 i6 i7 i8 => ∃ n : Nat, L_m_Div64_1_0 a0 (fun i0 i1 i2 i3 i4 i5 i6 i7 i8 b9 => Q (.exit 2) [(2, .v (.int .u64 i0)), (8, .v (.int .u64 i1)), (9, .v (.int .u64 i2)), (10, .v (.int .u64 i3)), (14, .v (.int .u64 i4)), (15, .v (.int .u64 i5)), (16, .v (.int .u64 i6)), (17, .v (.int .u64 i7)), (18, .v (.int .u64 i8)), (120, .v (.bool b9))] []) (fun i0 i1 i2 i3 i4 i5 i6 i7 i8 b9 => Q (.exit 2) [(2, .v (.int .u64 i0)), (8, .v (.int .u64 i1)), (9, .v (.int .u64 i2)), (10, .v (.int .u64 i3)), (14, .v (.int .u64 i4)), (15, .v (.int .u64 i5)), (16, .v (.int .u64 i6)), (17, .v (.int .u64 i7)), (18, .v (.int .u64 i8)), (113, .v (.bool b9))] []) n i0 i1 i2 i3 i4 i5 i6 i7 i8) (fun i0 i1 i2 i3 i4 i5 i6 i7 i8 b9 => ∃ n : Nat, L_m_Div64_1_1 a0 (fun i0 i1 i2 i3 i4 i5 i6 i7 i8 b9 => Q (.exit 2) [(2, .v (.int .u64 i0)), (8, .v (.int .u64 i1)), (9, .v (.int .u64 i2)), (10, .v (.int .u64 i3)), (14, .v (.int .u64 i4)), (15, .v (.int .u64 i5)), (16, .v (.int .u64 i6)), (17, .v (.int .u64 i7)), (18, .v (.int .u64 i8)), (120, .v (.bool b9))] []) (fun i0 i1 i2 i3 i4 i5 i6 i7 i8 b9 => Q (.exit 2) [(2, .v (.int .u64 i0)), (8, .v (.int .u64 i1)), (9, .v (.int .u64 i2)), (10, .v (.int .u64 i3)), (14, .v (.int .u64 i4)), (15, .v (.int .u64 i5)), (16, .v (.int .u64 i6)), (17, .v (.int .u64 i7)), (18, .v (.int .u64 i8)), (113, .v (.bool b9))] []) n i0 i1 i2 i3 i4 i5 i6 i7 i8 b9) else
 False
def S0_m_Div64 (a0 : T_m_LeadingZeros64) : SE := ⟨E, lookS [(n_m_LeadingZeros64, pw_m_LeadingZeros64 a0)], lookI [], lp_m_Div64 a0⟩
theorem se0_m_Div64 : SEOk (S0_m_Div64 w_m_LeadingZeros64) := seOk_of ⟨ok_m_LeadingZeros64, trivial⟩ trivial
theorem body_m_Div64_0_0 (a0 Q n i0 i1 i2 i3 i4 i5 i6 i7 i8) : WC E (callW (S0_m_Div64 a0) 5) (lp_m_Div64 a0) b_60530100 [(2, .v (.int .u64 i0)), (8, .v (.int .u64 i1)), (9, .v (.int .u64 i2)), (10, .v (.int .u64 i3)), (11, .v (.int .u64 i4)), (13, .v (.int .u64 i5)), (14, .v (.int .u64 i6)), (15, .v (.int .u64 i7)), (16, .v (.int .u64 i8))] [] (fun x F' H' => match x with | .norm => R_m_Div64_0 a0 Q n F' H' | .exit i => Q (.exit i) F' H' | .ret => Q .ret F' H') = L_m_Div64_0_0 a0 (fun i0 i1 i2 i3 i4 i5 i6 i7 i8 b9 => Q (.exit 0) [(2, .v (.int .u64 i0)), (8, .v (.int .u64 i1)), (9, .v (.int .u64 i2)), (10, .v (.int .u64 i3)), (11, .v (.int .u64 i4)), (13, .v (.int .u64 i5)), (14, .v (.int .u64 i6)), (15, .v (.int .u64 i7)), (16, .v (.int .u64 i8)), (85, .v (.bool b9))] []) (fun i0 i1 i2 i3 i4 i5 i6 i7 i8 b9 => Q (.exit 0) [(2, .v (.int .u64 i0)), (8, .v (.int .u64 i1)), (9, .v (.int .u64 i2)), (10, .v (.int .u64 i3)), (11, .v (.int .u64 i4)), (13, .v (.int .u64 i5)), (14, .v (.int .u64 i6)), (15, .v (.int .u64 i7)), (16, .v (.int .u64 i8)), (78, .v (.bool b9))] []) (n + 1) i0 i1 i2 i3 i4 i5 i6 i7 i8 := by kernel_rfl
theorem body_m_Div64_0_1 (a0 Q n i0 i1 i2 i3 i4 i5 i6 i7 i8 b9) : WC E (callW (S0_m_Div64 a0) 5) (lp_m_Div64 a0) b_60530100 [(2, .v (.int .u64 i0)), (8, .v (.int .u64 i1)), (9, .v (.int .u64 i2)), (10, .v (.int .u64 i3)), (11, .v (.int .u64 i4)), (13, .v (.int .u64 i5)), (14, .v (.int .u64 i6)), (15, .v (.int .u64 i7)), (16, .v (.int .u64 i8)), (85, .v (.bool b9))] [] (fun x F' H' => match x with | .norm => R_m_Div64_0 a0 Q n F' H' | .exit i => Q (.exit i) F' H' | .ret => Q .ret F' H') = L_m_Div64_0_1 a0 (fun i0 i1 i2 i3 i4 i5 i6 i7 i8 b9 => Q (.exit 0) [(2, .v (.int .u64 i0)), (8, .v (.int .u64 i1)), (9, .v (.int .u64 i2)), (10, .v (.int .u64 i3)), (11, .v (.int .u64 i4)), (13, .v (.int .u64 i5)), (14, .v (.int .u64 i6)), (15, .v (.int .u64 i7)), (16, .v (.int .u64 i8)), (85, .v (.bool b9))] []) (fun i0 i1 i2 i3 i4 i5 i6 i7 i8 b9 => Q (.exit 0) [(2, .v (.int .u64 i0)), (8, .v (.int .u64 i1)), (9, .v (.int .u64 i2)), (10, .v (.int .u64 i3)), (11, .v (.int .u64 i4)), (13, .v (.int .u64 i5)), (14, .v (.int .u64 i6)), (15, .v (.int .u64 i7)), (16, .v (.int .u64 i8)), (78, .v (.bool b9))] []) (n + 1) i0 i1 i2 i3 i4 i5 i6 i7 i8 b9 := by kernel_rfl
theorem lpb_m_Div64_0 : LpOk E (lp_m_Div64 w_m_LeadingZeros64) b_60530100 := (LpOk_no (by kernel_rfl))
theorem loop_m_Div64_0 : ∀ F H Q, lp_m_Div64 w_m_LeadingZeros64 60530100 F H Q → LoopT E b_60530100 F H Q := by
 intro F H Q h
 have go := LoopT.intro (callW_ok se0_m_Div64 5) lpb_m_Div64_0 (R_m_Div64_0 w_m_LeadingZeros64 Q) (by
   intro F H h
   unfold R_m_Div64_0 D_m_Div64_0 at h
   split at h
   · exact h
   · exact h
   · exact h) (by
   intro n F H h
   unfold R_m_Div64_0 D_m_Div64_0 at h
   split at h
   · exact (body_m_Div64_0_0 ..).mpr h
   · exact (body_m_Div64_0_1 ..).mpr h
   · exact h.elim)
 have h : D_m_Div64_0 F H _ _ := h
 unfold D_m_Div64_0 at h
 split at h
 · obtain ⟨n, h⟩ := h; exact go n _ _ h
 · obtain ⟨n, h⟩ := h; exact go n _ _ h
 · exact h.elim
theorem body_m_Div64_1_0 (a0 Q n i0 i1 i2 i3 i4 i5 i6 i7 i8) : WC E (callW (S0_m_Div64 a0) 5) (lp_m_Div64 a0) b_60530101 [(2, .v (.int .u64 i0)), (8, .v (.int .u64 i1)), (9, .v (.int .u64 i2)), (10, .v (.int .u64 i3)), (14, .v (.int .u64 i4)), (15, .v (.int .u64 i5)), (16, .v (.int .u64 i6)), (17, .v (.int .u64 i7)), (18, .v (.int .u64 i8))] [] (fun x F' H' => match x with | .norm => R_m_Div64_1 a0 Q n F' H' | .exit i => Q (.exit i) F' H' | .ret => Q .ret F' H') = L_m_Div64_1_0 a0 (fun i0 i1 i2 i3 i4 i5 i6 i7 i8 b9 => Q (.exit 2) [(2, .v (.int .u64 i0)), (8, .v (.int .u64 i1)), (9, .v (.int .u64 i2)), (10, .v (.int .u64 i3)), (14, .v (.int .u64 i4)), (15, .v (.int .u64 i5)), (16, .v (.int .u64 i6)), (17, .v (.int .u64 i7)), (18, .v (.int .u64 i8)), (120, .v (.bool b9))] []) (fun i0 i1 i2 i3 i4 i5 i6 i7 i8 b9 => Q (.exit 2) [(2, .v (.int .u64 i0)), (8, .v (.int .u64 i1)), (9, .v (.int .u64 i2)), (10, .v (.int .u64 i3)), (14, .v (.int .u64 i4)), (15, .v (.int .u64 i5)), (16, .v (.int .u64 i6)), (17, .v (.int .u64 i7)), (18, .v (.int .u64 i8)), (113, .v (.bool b9))] []) (n + 1) i0 i1 i2 i3 i4 i5 i6 i7 i8 := by kernel_rfl
theorem body_m_Div64_1_1 (a0 Q n i0 i1 i2 i3 i4 i5 i6 i7 i8 b9) : WC E (callW (S0_m_Div64 a0) 5) (lp_m_Div64 a0) b_60530101 [(2, .v (.int .u64 i0)), (8, .v (.int .u64 i1)), (9, .v (.int .u64 i2)), (10, .v (.int .u64 i3)), (14, .v (.int .u64 i4)), (15, .v (.int .u64 i5)), (16, .v (.int .u64 i6)), (17, .v (.int .u64 i7)), (18, .v (.int .u64 i8)), (120, .v (.bool b9))] [] (fun x F' H' => match x with | .norm => R_m_Div64_1 a0 Q n F' H' | .exit i => Q (.exit i) F' H' | .ret => Q .ret F' H') = L_m_Div64_1_1 a0 (fun i0 i1 i2 i3 i4 i5 i6 i7 i8 b9 => Q (.exit 2) [(2, .v (.int .u64 i0)), (8, .v (.int .u64 i1)), (9, .v (.int .u64 i2)), (10, .v (.int .u64 i3)), (14, .v (.int .u64 i4)), (15, .v (.int .u64 i5)), (16, .v (.int .u64 i6)), (17, .v (.int .u64 i7)), (18, .v (.int .u64 i8)), (120, .v (.bool b9))] []) (fun i0 i1 i2 i3 i4 i5 i6 i7 i8 b9 => Q (.exit 2) [(2, .v (.int .u64 i0)), (8, .v (.int .u64 i1)), (9, .v (.int .u64 i2)), (10, .v (.int .u64 i3)), (14, .v (.int .u64 i4)), (15, .v (.int .u64 i5)), (16, .v (.int .u64 i6)), (17, .v (.int .u64 i7)), (18, .v (.int .u64 i8)), (113, .v (.bool b9))] []) (n + 1) i0 i1 i2 i3 i4 i5 i6 i7 i8 b9 := by kernel_rfl
theorem lpb_m_Div64_1 : LpOk E (lp_m_Div64 w_m_LeadingZeros64) b_60530101 := (LpOk_no (by kernel_rfl))
theorem loop_m_Div64_1 : ∀ F H Q, lp_m_Div64 w_m_LeadingZeros64 60530101 F H Q → LoopT E b_60530101 F H Q := by
 intro F H Q h
 have go := LoopT.intro (callW_ok se0_m_Div64 5) lpb_m_Div64_1 (R_m_Div64_1 w_m_LeadingZeros64 Q) (by
   intro F H h
   unfold R_m_Div64_1 D_m_Div64_1 at h
   split at h
   · exact h
   · exact h
   · exact h) (by
   intro n F H h
   unfold R_m_Div64_1 D_m_Div64_1 at h
   split at h
   · exact (body_m_Div64_1_0 ..).mpr h
   · exact (body_m_Div64_1_1 ..).mpr h
   · exact h.elim)
 have h : D_m_Div64_1 F H _ _ := h
 unfold D_m_Div64_1 at h
 split at h
 · obtain ⟨n, h⟩ := h; exact go n _ _ h
 · obtain ⟨n, h⟩ := h; exact go n _ _ h
 · exact h.elim
theorem eq_m_Div64 (a0 p0 p1 p2 K) : WP (S0_m_Div64 a0) 6 t_m_Div64 [(.int .u64 p0), (.int .u64 p1), (.int .u64 p2)] K = wv_m_Div64 a0 p0 p1 p2 (fun r0 r1 => K (.tup [(.int .u64 r0), (.int .u64 r1)])) := by kernel_rfl
theorem ok_m_Div64 : OkF E wp_m_Div64 n_m_Div64 := by
 intro as K h
 unfold wp_m_Div64 pw_m_Div64 at h
 split at h
 · exact WP_ok se0_m_Div64 (LpOk_by (l := [(60530100, b_60530100), (60530101, b_60530101)]) ⟨loop_m_Div64_0, loop_m_Div64_1, trivial⟩ (by kernel_rfl)) (by kernel_rfl) (by kernel_rfl) (fun _ => baseC_none (by kernel_rfl) _) ((eq_m_Div64 ..).mpr h)
 · exact h.elim
abbrev T_m_Rem64 : Type := Int → Int → Int → (Int → Prop) → Prop
def wv_m_Rem64 (a0 : T_m_Div64) (p0 p1 p2 : Int) (K : Int → Prop) : Prop :=
 (asr (!(decide (p2 = (0 : Int))))
 (a0 (Int.tmod p0 p2) p1 p2 (fun _ yi1 => 
 (K yi1))))
def w_m_Rem64 (p0 p1 p2 : Int) (K : Int → Prop) : Prop := wv_m_Rem64 w_m_Div64 p0 p1 p2 K
def pw_m_Rem64 (w : T_m_Rem64) (as : List PV) (K : PV → Prop) : Prop :=
 match as with
 | [(.int .u64 p0), (.int .u64 p1), (.int .u64 p2)] => w p0 p1 p2 (fun r0 => K (.int .u64 r0))
 | _ => False
def wp_m_Rem64 (as : List PV) (K : PV → Prop) : Prop := pw_m_Rem64 w_m_Rem64 as K
def lp_m_Rem64 (_ : T_m_Div64) : LP := fun _ _ _ _ =>
 False
def S0_m_Rem64 (a0 : T_m_Div64) : SE := ⟨E, lookS [(n_m_Div64, pw_m_Div64 a0)], lookI [], lp_m_Rem64 a0⟩
theorem se0_m_Rem64 : SEOk (S0_m_Rem64 w_m_Div64) := seOk_of ⟨ok_m_Div64, trivial⟩ trivial
theorem eq_m_Rem64 (a0 p0 p1 p2 K) : WP (S0_m_Rem64 a0) 6 t_m_Rem64 [(.int .u64 p0), (.int .u64 p1), (.int .u64 p2)] K = wv_m_Rem64 a0 p0 p1 p2 (fun r0 => K (.int .u64 r0)) := by kernel_rfl
theorem ok_m_Rem64 : OkF E wp_m_Rem64 n_m_Rem64 := by
 intro as K h
 unfold wp_m_Rem64 pw_m_Rem64 at h
 split at h
 · exact WP_ok se0_m_Rem64 (LpOk_no (by kernel_rfl)) (by kernel_rfl) (by kernel_rfl) (fun _ => baseC_none (by kernel_rfl) _) ((eq_m_Rem64 ..).mpr h)
 · exact h.elim
abbrev T_ratio_Add : Type := Int → Int → Int → Int → (Int → Int → Int → Prop) → Prop
def wv_ratio_Add (a0 : T_ratio_check) (a1 : T_ratio_gcd) (a2 : T_ratio_size) (a3 : T_m_Mul64) (a4 : T_m_Add64) (a5 : T_m_Rem64) (a6 : T_m_Div64) (a7 : T_ratio_signed) (a8 : T_m_Sub64) (p0 p1 p2 p3 : Int) (K : Int → Int → Int → Prop) : Prop :=
 (a0 p0 p1 p2 p3 (fun yi0 => 
 (cbr (yi0 != (0 : Int))
 (K (0 : Int) (0 : Int) yi0)
 (a1 (IntKind.u64.wrap p1) (IntKind.u64.wrap p3) (fun yi1 => 
 (a2 p0 (fun yi2 => 
 (asr (!(decide (yi1 = (0 : Int))))
 (a3 yi2 (IntKind.u64.wrap (Int.tdiv (IntKind.u64.wrap p3) yi1)) (fun yi3 yi4 => 
 (a2 p2 (fun yi5 => 
 (asr (!(decide (yi1 = (0 : Int))))
 (a3 yi5 (IntKind.u64.wrap (Int.tdiv (IntKind.u64.wrap p1) yi1)) (fun yi6 yi7 => 
 (cbr ((decide (p0 < (0 : Int))) == (decide (p2 < (0 : Int))))
 (a4 yi4 yi7 (0 : Int) (fun yi8 yi9 => 
 (a4 yi3 yi6 yi9 (fun yi10 _ => 
 (cbr (yi10 == (0 : Int))
 (cbr (yi8 == (0 : Int))
 (K (0 : Int) (1 : Int) (0 : Int))
 (a5 yi10 yi8 yi1 (fun yi12 => 
 (a1 yi12 yi1 (fun yi13 => 
 (cbr (decide (yi10 ≥ yi13))
 (K (0 : Int) (0 : Int) (16 : Int))
 (a6 yi10 yi8 yi13 (fun yi14 _ => 
 (asr (!(decide (yi1 = (0 : Int))))
 (asr (!(decide (yi13 = (0 : Int))))
 (a3 (IntKind.u64.wrap (Int.tdiv (IntKind.u64.wrap p1) yi1)) (IntKind.u64.wrap (Int.tdiv (IntKind.u64.wrap p3) yi13)) (fun yi16 yi17 => 
 (cbr (decide (yi16 > (0 : Int)))
 (K (0 : Int) (0 : Int) (16 : Int))
 (a7 (decide (p0 < (0 : Int))) yi14 yi17 (fun yi18 yi19 yi20 => 
 (K yi18 yi19 yi20))))))))))))))))
 (a5 yi10 yi8 yi1 (fun yi21 => 
 (a1 yi21 yi1 (fun yi22 => 
 (cbr (decide (yi10 ≥ yi22))
 (K (0 : Int) (0 : Int) (16 : Int))
 (a6 yi10 yi8 yi22 (fun yi23 _ => 
 (asr (!(decide (yi1 = (0 : Int))))
 (asr (!(decide (yi22 = (0 : Int))))
 (a3 (IntKind.u64.wrap (Int.tdiv (IntKind.u64.wrap p1) yi1)) (IntKind.u64.wrap (Int.tdiv (IntKind.u64.wrap p3) yi22)) (fun yi25 yi26 => 
 (cbr (decide (yi25 > (0 : Int)))
 (K (0 : Int) (0 : Int) (16 : Int))
 (a7 (decide (p0 < (0 : Int))) yi23 yi26 (fun yi27 yi28 yi29 => 
 (K yi27 yi28 yi29))))))))))))))))))))
 (cbr (decide (yi3 < yi6))
 (a8 yi7 yi4 (0 : Int) (fun yi30 yi31 => 
 (a8 yi6 yi3 yi31 (fun yi32 _ => 
 (cbr (yi32 == (0 : Int))
 (cbr (yi30 == (0 : Int))
 (K (0 : Int) (1 : Int) (0 : Int))
 (a5 yi32 yi30 yi1 (fun yi34 => 
 (a1 yi34 yi1 (fun yi35 => 
 (cbr (decide (yi32 ≥ yi35))
 (K (0 : Int) (0 : Int) (16 : Int))
 (a6 yi32 yi30 yi35 (fun yi36 _ => 
 (asr (!(decide (yi1 = (0 : Int))))
 (asr (!(decide (yi35 = (0 : Int))))
 (a3 (IntKind.u64.wrap (Int.tdiv (IntKind.u64.wrap p1) yi1)) (IntKind.u64.wrap (Int.tdiv (IntKind.u64.wrap p3) yi35)) (fun yi38 yi39 => 
 (cbr (decide (yi38 > (0 : Int)))
 (K (0 : Int) (0 : Int) (16 : Int))
 (a7 (!(decide (p0 < (0 : Int)))) yi36 yi39 (fun yi40 yi41 yi42 => 
 (K yi40 yi41 yi42))))))))))))))))
 (a5 yi32 yi30 yi1 (fun yi43 => 
 (a1 yi43 yi1 (fun yi44 => 
 (cbr (decide (yi32 ≥ yi44))
 (K (0 : Int) (0 : Int) (16 : Int))
 (a6 yi32 yi30 yi44 (fun yi45 _ => 
 (asr (!(decide (yi1 = (0 : Int))))
 (asr (!(decide (yi44 = (0 : Int))))
 (a3 (IntKind.u64.wrap (Int.tdiv (IntKind.u64.wrap p1) yi1)) (IntKind.u64.wrap (Int.tdiv (IntKind.u64.wrap p3) yi44)) (fun yi47 yi48 => 
 (cbr (decide (yi47 > (0 : Int)))
 (K (0 : Int) (0 : Int) (16 : Int))
 (a7 (!(decide (p0 < (0 : Int)))) yi45 yi48 (fun yi49 yi50 yi51 => 
 (K yi49 yi50 yi51))))))))))))))))))))
 (cbr (yi3 == yi6)
 (cbr (decide (yi4 < yi7))
 (a8 yi7 yi4 (0 : Int) (fun yi52 yi53 => 
 (a8 yi6 yi3 yi53 (fun yi54 _ => 
 (cbr (yi54 == (0 : Int))
 (cbr (yi52 == (0 : Int))
 (K (0 : Int) (1 : Int) (0 : Int))
 (a5 yi54 yi52 yi1 (fun yi56 => 
 (a1 yi56 yi1 (fun yi57 => 
 (cbr (decide (yi54 ≥ yi57))
 (K (0 : Int) (0 : Int) (16 : Int))
 (a6 yi54 yi52 yi57 (fun yi58 _ => 
 (asr (!(decide (yi1 = (0 : Int))))
 (asr (!(decide (yi57 = (0 : Int))))
 (a3 (IntKind.u64.wrap (Int.tdiv (IntKind.u64.wrap p1) yi1)) (IntKind.u64.wrap (Int.tdiv (IntKind.u64.wrap p3) yi57)) (fun yi60 yi61 => 
 (cbr (decide (yi60 > (0 : Int)))
 (K (0 : Int) (0 : Int) (16 : Int))
 (a7 (!(decide (p0 < (0 : Int)))) yi58 yi61 (fun yi62 yi63 yi64 => 
 (K yi62 yi63 yi64))))))))))))))))
 (a5 yi54 yi52 yi1 (fun yi65 => 
 (a1 yi65 yi1 (fun yi66 => 
 (cbr (decide (yi54 ≥ yi66))
 (K (0 : Int) (0 : Int) (16 : Int))
 (a6 yi54 yi52 yi66 (fun yi67 _ => 
 (asr (!(decide (yi1 = (0 : Int))))
 (asr (!(decide (yi66 = (0 : Int))))
 (a3 (IntKind.u64.wrap (Int.tdiv (IntKind.u64.wrap p1) yi1)) (IntKind.u64.wrap (Int.tdiv (IntKind.u64.wrap p3) yi66)) (fun yi69 yi70 => 
 (cbr (decide (yi69 > (0 : Int)))
 (K (0 : Int) (0 : Int) (16 : Int))
 (a7 (!(decide (p0 < (0 : Int)))) yi67 yi70 (fun yi71 yi72 yi73 => 
 (K yi71 yi72 yi73))))))))))))))))))))
 (a8 yi4 yi7 (0 : Int) (fun yi74 yi75 => 
 (a8 yi3 yi6 yi75 (fun yi76 _ => 
 (cbr (yi76 == (0 : Int))
 (cbr (yi74 == (0 : Int))
 (K (0 : Int) (1 : Int) (0 : Int))
 (a5 yi76 yi74 yi1 (fun yi78 => 
 (a1 yi78 yi1 (fun yi79 => 
 (cbr (decide (yi76 ≥ yi79))
 (K (0 : Int) (0 : Int) (16 : Int))
 (a6 yi76 yi74 yi79 (fun yi80 _ => 
 (asr (!(decide (yi1 = (0 : Int))))
 (asr (!(decide (yi79 = (0 : Int))))
 (a3 (IntKind.u64.wrap (Int.tdiv (IntKind.u64.wrap p1) yi1)) (IntKind.u64.wrap (Int.tdiv (IntKind.u64.wrap p3) yi79)) (fun yi82 yi83 => 
 (cbr (decide (yi82 > (0 : Int)))
 (K (0 : Int) (0 : Int) (16 : Int))
 (a7 (decide (p0 < (0 : Int))) yi80 yi83 (fun yi84 yi85 yi86 => 
 (K yi84 yi85 yi86))))))))))))))))
 (a5 yi76 yi74 yi1 (fun yi87 => 
 (a1 yi87 yi1 (fun yi88 => 
 (cbr (decide (yi76 ≥ yi88))
 (K (0 : Int) (0 : Int) (16 : Int))
 (a6 yi76 yi74 yi88 (fun yi89 _ => 
 (asr (!(decide (yi1 = (0 : Int))))
 (asr (!(decide (yi88 = (0 : Int))))
 (a3 (IntKind.u64.wrap (Int.tdiv (IntKind.u64.wrap p1) yi1)) (IntKind.u64.wrap (Int.tdiv (IntKind.u64.wrap p3) yi88)) (fun yi91 yi92 => 
 (cbr (decide (yi91 > (0 : Int)))
 (K (0 : Int) (0 : Int) (16 : Int))
 (a7 (decide (p0 < (0 : Int))) yi89 yi92 (fun yi93 yi94 yi95 => 
 (K yi93 yi94 yi95)))))))))))))))))))))
 (a8 yi4 yi7 (0 : Int) (fun yi96 yi97 => 
 (a8 yi3 yi6 yi97 (fun yi98 _ => 
 (cbr (yi98 == (0 : Int))
 (cbr (yi96 == (0 : Int))
 (K (0 : Int) (1 : Int) (0 : Int))
 (a5 yi98 yi96 yi1 (fun yi100 => 
 (a1 yi100 yi1 (fun yi101 => 
 (cbr (decide (yi98 ≥ yi101))
 (K (0 : Int) (0 : Int) (16 : Int))
 (a6 yi98 yi96 yi101 (fun yi102 _ => 
 (asr (!(decide (yi1 = (0 : Int))))
 (asr (!(decide (yi101 = (0 : Int))))
 (a3 (IntKind.u64.wrap (Int.tdiv (IntKind.u64.wrap p1) yi1)) (IntKind.u64.wrap (Int.tdiv (IntKind.u64.wrap p3) yi101)) (fun yi104 yi105 => 
 (cbr (decide (yi104 > (0 : Int)))
 (K (0 : Int) (0 : Int) (16 : Int))
 (a7 (decide (p0 < (0 : Int))) yi102 yi105 (fun yi106 yi107 yi108 => 
 (K yi106 yi107 yi108))))))))))))))))
 (a5 yi98 yi96 yi1 (fun yi109 => 
 (a1 yi109 yi1 (fun yi110 => 
 (cbr (decide (yi98 ≥ yi110))
 (K (0 : Int) (0 : Int) (16 : Int))
 (a6 yi98 yi96 yi110 (fun yi111 _ => 
 (asr (!(decide (yi1 = (0 : Int))))
 (asr (!(decide (yi110 = (0 : Int))))
 (a3 (IntKind.u64.wrap (Int.tdiv (IntKind.u64.wrap p1) yi1)) (IntKind.u64.wrap (Int.tdiv (IntKind.u64.wrap p3) yi110)) (fun yi113 yi114 => 
 (cbr (decide (yi113 > (0 : Int)))
 (K (0 : Int) (0 : Int) (16 : Int))
 (a7 (decide (p0 < (0 : Int))) yi111 yi114 (fun yi115 yi116 yi117 => 
 (K yi115 yi116 yi117))))))))))))))))))))))))))))))))))))))
def w_ratio_Add (p0 p1 p2 p3 : Int) (K : Int → Int → Int → Prop) : Prop := wv_ratio_Add w_ratio_check w_ratio_gcd w_ratio_size w_m_Mul64 w_m_Add64 w_m_Rem64 w_m_Div64 w_ratio_signed w_m_Sub64 p0 p1 p2 p3 K
def pw_ratio_Add (w : T_ratio_Add) (as : List PV) (K : PV → Prop) : Prop :=
 match as with
 | [(.agg [(.int .i64 p0), (.int .i64 p1)]), (.agg [(.int .i64 p2), (.int .i64 p3)])] => w p0 p1 p2 p3 (fun r0 r1 r2 => K (.tup [(.agg [(.int .i64 r0), (.int .i64 r1)]), (.int .i64 r2)]))
 | _ => False
def wp_ratio_Add (as : List PV) (K : PV → Prop) : Prop := pw_ratio_Add w_ratio_Add as K
def lp_ratio_Add (_ : T_ratio_check) (_ : T_ratio_gcd) (_ : T_ratio_size) (_ : T_m_Mul64) (_ : T_m_Add64) (_ : T_m_Rem64) (_ : T_m_Div64) (_ : T_ratio_signed) (_ : T_m_Sub64) : LP := fun _ _ _ _ =>
 False
def S0_ratio_Add (a0 : T_ratio_check) (a1 : T_ratio_gcd) (a2 : T_ratio_size) (a3 : T_m_Mul64) (a4 : T_m_Add64) (a5 : T_m_Rem64) (a6 : T_m_Div64) (a7 : T_ratio_signed) (a8 : T_m_Sub64) : SE := ⟨E, lookS [(n_ratio_check, pw_ratio_check a0), (n_ratio_gcd, pw_ratio_gcd a1), (n_ratio_size, pw_ratio_size a2), (n_m_Mul64, pw_m_Mul64 a3), (n_m_Add64, pw_m_Add64 a4), (n_m_Rem64, pw_m_Rem64 a5), (n_m_Div64, pw_m_Div64 a6), (n_ratio_signed, pw_ratio_signed a7), (n_m_Sub64, pw_m_Sub64 a8)], lookI [], lp_ratio_Add a0 a1 a2 a3 a4 a5 a6 a7 a8⟩
theorem se0_ratio_Add : SEOk (S0_ratio_Add w_ratio_check w_ratio_gcd w_ratio_size w_m_Mul64 w_m_Add64 w_m_Rem64 w_m_Div64 w_ratio_signed w_m_Sub64) := seOk_of ⟨ok_ratio_check, ok_ratio_gcd, ok_ratio_size, ok_m_Mul64, ok_m_Add64, ok_m_Rem64, ok_m_Div64, ok_ratio_signed, ok_m_Sub64, trivial⟩ trivial
theorem eq_ratio_Add (a0 a1 a2 a3 a4 a5 a6 a7 a8 p0 p1 p2 p3 K) : WP (S0_ratio_Add a0 a1 a2 a3 a4 a5 a6 a7 a8) 6 t_ratio_Add [(.agg [(.int .i64 p0), (.int .i64 p1)]), (.agg [(.int .i64 p2), (.int .i64 p3)])] K = wv_ratio_Add a0 a1 a2 a3 a4 a5 a6 a7 a8 p0 p1 p2 p3 (fun r0 r1 r2 => K (.tup [(.agg [(.int .i64 r0), (.int .i64 r1)]), (.int .i64 r2)])) := by kernel_rfl
theorem ok_ratio_Add : OkF E wp_ratio_Add n_ratio_Add := by
 intro as K h
 unfold wp_ratio_Add pw_ratio_Add at h
 split at h
 · exact WP_ok se0_ratio_Add (LpOk_no (by kernel_rfl)) (by kernel_rfl) (by kernel_rfl) (fun _ => baseC_none (by kernel_rfl) _) ((eq_ratio_Add ..).mpr h)
 · exact h.elim
abbrev T_ratio_Sub : Type := Int → Int → Int → Int → (Int → Int → Int → Prop) → Prop
def wv_ratio_Sub (a0 : T_ratio_check) (a1 : T_ratio_Add) (p0 p1 p2 p3 : Int) (K : Int → Int → Int → Prop) : Prop :=
 (a0 p0 p1 p2 p3 (fun yi0 => 
 (cbr (yi0 != (0 : Int))
 (K (0 : Int) (0 : Int) yi0)
 (a1 p0 p1 (IntKind.i64.wrap ((0 : Int) - p2)) p3 (fun yi1 yi2 yi3 => 
 (K yi1 yi2 yi3))))))
def w_ratio_Sub (p0 p1 p2 p3 : Int) (K : Int → Int → Int → Prop) : Prop := wv_ratio_Sub w_ratio_check w_ratio_Add p0 p1 p2 p3 K
def pw_ratio_Sub (w : T_ratio_Sub) (as : List PV) (K : PV → Prop) : Prop :=
 match as with
 | [(.agg [(.int .i64 p0), (.int .i64 p1)]), (.agg [(.int .i64 p2), (.int .i64 p3)])] => w p0 p1 p2 p3 (fun r0 r1 r2 => K (.tup [(.agg [(.int .i64 r0), (.int .i64 r1)]), (.int .i64 r2)]))
 | _ => False
def wp_ratio_Sub (as : List PV) (K : PV → Prop) : Prop := pw_ratio_Sub w_ratio_Sub as K
def lp_ratio_Sub (_ : T_ratio_check) (_ : T_ratio_Add) : LP := fun _ _ _ _ =>
 False
def S0_ratio_Sub (a0 : T_ratio_check) (a1 : T_ratio_Add) : SE := ⟨E, lookS [(n_ratio_check, pw_ratio_check a0), (n_ratio_Add, pw_ratio_Add a1)], lookI [], lp_ratio_Sub a0 a1⟩
theorem se0_ratio_Sub : SEOk (S0_ratio_Sub w_ratio_check w_ratio_Add) := seOk_of ⟨ok_ratio_check, ok_ratio_Add, trivial⟩ trivial
theorem eq_ratio_Sub (a0 a1 p0 p1 p2 p3 K) : WP (S0_ratio_Sub a0 a1) 6 t_ratio_Sub [(.agg [(.int .i64 p0), (.int .i64 p1)]), (.agg [(.int .i64 p2), (.int .i64 p3)])] K = wv_ratio_Sub a0 a1 p0 p1 p2 p3 (fun r0 r1 r2 => K (.tup [(.agg [(.int .i64 r0), (.int .i64 r1)]), (.int .i64 r2)])) := by kernel_rfl
theorem ok_ratio_Sub : OkF E wp_ratio_Sub n_ratio_Sub := by
 intro as K h
 unfold wp_ratio_Sub pw_ratio_Sub at h
 split at h
 · exact WP_ok se0_ratio_Sub (LpOk_no (by kernel_rfl)) (by kernel_rfl) (by kernel_rfl) (fun _ => baseC_none (by kernel_rfl) _) ((eq_ratio_Sub ..).mpr h)
 · exact h.elim
abbrev T_ratio_Mul : Type := Int → Int → Int → Int → (Int → Int → Int → Prop) → Prop
def wv_ratio_Mul (a0 : T_ratio_check) (a1 : T_ratio_size) (a2 : T_ratio_gcd) (a3 : T_m_Mul64) (a4 : T_ratio_signed) (p0 p1 p2 p3 : Int) (K : Int → Int → Int → Prop) : Prop :=
 (a0 p0 p1 p2 p3 (fun yi0 => 
 (cbr (yi0 != (0 : Int))
 (K (0 : Int) (0 : Int) yi0)
 (a1 p0 (fun yi1 => 
 (a1 p2 (fun yi2 => 
 (a2 yi1 (IntKind.u64.wrap p3) (fun yi3 => 
 (a2 yi2 (IntKind.u64.wrap p1) (fun yi4 => 
 (asr (!(decide (yi3 = (0 : Int))))
 (asr (!(decide (yi4 = (0 : Int))))
 (a3 (IntKind.u64.wrap (Int.tdiv yi1 yi3)) (IntKind.u64.wrap (Int.tdiv yi2 yi4)) (fun yi5 yi6 => 
 (asr (!(decide (yi4 = (0 : Int))))
 (asr (!(decide (yi3 = (0 : Int))))
 (a3 (IntKind.u64.wrap (Int.tdiv (IntKind.u64.wrap p1) yi4)) (IntKind.u64.wrap (Int.tdiv (IntKind.u64.wrap p3) yi3)) (fun yi7 yi8 => 
 (cbr (decide ((IntKind.u64.wrap (yi5 + yi7)) > (0 : Int)))
 (K (0 : Int) (0 : Int) (16 : Int))
 (cbr (decide (yi6 > (0 : Int)))
 (a4 ((decide (p0 < (0 : Int))) != (decide (p2 < (0 : Int)))) yi6 yi8 (fun yi9 yi10 yi11 => 
 (K yi9 yi10 yi11)))
 (a4 false yi6 yi8 (fun yi12 yi13 yi14 => 
 (K yi12 yi13 yi14))))))))))))))))))))))))
def w_ratio_Mul (p0 p1 p2 p3 : Int) (K : Int → Int → Int → Prop) : Prop := wv_ratio_Mul w_ratio_check w_ratio_size w_ratio_gcd w_m_Mul64 w_ratio_signed p0 p1 p2 p3 K
def pw_ratio_Mul (w : T_ratio_Mul) (as : List PV) (K : PV → Prop) : Prop :=
 match as with
 | [(.agg [(.int .i64 p0), (.int .i64 p1)]), (.agg [(.int .i64 p2), (.int .i64 p3)])] => w p0 p1 p2 p3 (fun r0 r1 r2 => K (.tup [(.agg [(.int .i64 r0), (.int .i64 r1)]), (.int .i64 r2)]))
 | _ => False
def wp_ratio_Mul (as : List PV) (K : PV → Prop) : Prop := pw_ratio_Mul w_ratio_Mul as K
def lp_ratio_Mul (_ : T_ratio_check) (_ : T_ratio_size) (_ : T_ratio_gcd) (_ : T_m_Mul64) (_ : T_ratio_signed) : LP := fun _ _ _ _ =>
 False
def S0_ratio_Mul (a0 : T_ratio_check) (a1 : T_ratio_size) (a2 : T_ratio_gcd) (a3 : T_m_Mul64) (a4 : T_ratio_signed) : SE := ⟨E, lookS [(n_ratio_check, pw_ratio_check a0), (n_ratio_size, pw_ratio_size a1), (n_ratio_gcd, pw_ratio_gcd a2), (n_m_Mul64, pw_m_Mul64 a3), (n_ratio_signed, pw_ratio_signed a4)], lookI [], lp_ratio_Mul a0 a1 a2 a3 a4⟩
theorem se0_ratio_Mul : SEOk (S0_ratio_Mul w_ratio_check w_ratio_size w_ratio_gcd w_m_Mul64 w_ratio_signed) := seOk_of ⟨ok_ratio_check, ok_ratio_size, ok_ratio_gcd, ok_m_Mul64, ok_ratio_signed, trivial⟩ trivial
theorem eq_ratio_Mul (a0 a1 a2 a3 a4 p0 p1 p2 p3 K) : WP (S0_ratio_Mul a0 a1 a2 a3 a4) 6 t_ratio_Mul [(.agg [(.int .i64 p0), (.int .i64 p1)]), (.agg [(.int .i64 p2), (.int .i64 p3)])] K = wv_ratio_Mul a0 a1 a2 a3 a4 p0 p1 p2 p3 (fun r0 r1 r2 => K (.tup [(.agg [(.int .i64 r0), (.int .i64 r1)]), (.int .i64 r2)])) := by kernel_rfl
theorem ok_ratio_Mul : OkF E wp_ratio_Mul n_ratio_Mul := by
 intro as K h
 unfold wp_ratio_Mul pw_ratio_Mul at h
 split at h
 · exact WP_ok se0_ratio_Mul (LpOk_no (by kernel_rfl)) (by kernel_rfl) (by kernel_rfl) (fun _ => baseC_none (by kernel_rfl) _) ((eq_ratio_Mul ..).mpr h)
 · exact h.elim
abbrev T_ratio_Div : Type := Int → Int → Int → Int → (Int → Int → Int → Prop) → Prop
def wv_ratio_Div (a0 : T_ratio_check) (a1 : T_ratio_Mul) (p0 p1 p2 p3 : Int) (K : Int → Int → Int → Prop) : Prop :=
 (a0 p0 p1 p2 p3 (fun yi0 => 
 (cbr (yi0 != (0 : Int))
 (K (0 : Int) (0 : Int) yi0)
 (cbr (p2 == (0 : Int))
 (K (0 : Int) (0 : Int) (18 : Int))
 (cbr (decide (p2 < (0 : Int)))
 (a1 p0 p1 (IntKind.i64.wrap ((0 : Int) - p3)) (IntKind.i64.wrap ((0 : Int) - p2)) (fun yi1 yi2 yi3 => 
 (K yi1 yi2 yi3)))
 (a1 p0 p1 p3 p2 (fun yi4 yi5 yi6 => 
 (K yi4 yi5 yi6))))))))
def w_ratio_Div (p0 p1 p2 p3 : Int) (K : Int → Int → Int → Prop) : Prop := wv_ratio_Div w_ratio_check w_ratio_Mul p0 p1 p2 p3 K
def pw_ratio_Div (w : T_ratio_Div) (as : List PV) (K : PV → Prop) : Prop :=
 match as with
 | [(.agg [(.int .i64 p0), (.int .i64 p1)]), (.agg [(.int .i64 p2), (.int .i64 p3)])] => w p0 p1 p2 p3 (fun r0 r1 r2 => K (.tup [(.agg [(.int .i64 r0), (.int .i64 r1)]), (.int .i64 r2)]))
 | _ => False
def wp_ratio_Div (as : List PV) (K : PV → Prop) : Prop := pw_ratio_Div w_ratio_Div as K
def lp_ratio_Div (_ : T_ratio_check) (_ : T_ratio_Mul) : LP := fun _ _ _ _ =>
 False
def S0_ratio_Div (a0 : T_ratio_check) (a1 : T_ratio_Mul) : SE := ⟨E, lookS [(n_ratio_check, pw_ratio_check a0), (n_ratio_Mul, pw_ratio_Mul a1)], lookI [], lp_ratio_Div a0 a1⟩
theorem se0_ratio_Div : SEOk (S0_ratio_Div w_ratio_check w_ratio_Mul) := seOk_of ⟨ok_ratio_check, ok_ratio_Mul, trivial⟩ trivial
theorem eq_ratio_Div (a0 a1 p0 p1 p2 p3 K) : WP (S0_ratio_Div a0 a1) 6 t_ratio_Div [(.agg [(.int .i64 p0), (.int .i64 p1)]), (.agg [(.int .i64 p2), (.int .i64 p3)])] K = wv_ratio_Div a0 a1 p0 p1 p2 p3 (fun r0 r1 r2 => K (.tup [(.agg [(.int .i64 r0), (.int .i64 r1)]), (.int .i64 r2)])) := by kernel_rfl
theorem ok_ratio_Div : OkF E wp_ratio_Div n_ratio_Div := by
 intro as K h
 unfold wp_ratio_Div pw_ratio_Div at h
 split at h
 · exact WP_ok se0_ratio_Div (LpOk_no (by kernel_rfl)) (by kernel_rfl) (by kernel_rfl) (fun _ => baseC_none (by kernel_rfl) _) ((eq_ratio_Div ..).mpr h)
 · exact h.elim
end Go.Pf.Vc
namespace Go.Pf.Vc
open Go Go.Pf
set_option linter.unusedVariables false
theorem det_ratio_Make (p0 : Int) (p1 : Int) (r0 : Int) (r1 : Int) (r2 : Int) (h : ∀ K : Int → Int → Int → Prop, K r0 r1 r2 → w_ratio_Make p0 p1 K) (K : Int → Int → Int → Prop) : w_ratio_Make p0 p1 K = K r0 r1 r2 :=
 propext ⟨fun k => detC ok_ratio_Make (as := [(.int .i64 p0), (.int .i64 p1)]) (x := (.tup [(.agg [(.int .i64 r0), (.int .i64 r1)]), (.int .i64 r2)])) (fun K' k' => h (fun r0 r1 r2 => K' (.tup [(.agg [(.int .i64 r0), (.int .i64 r1)]), (.int .i64 r2)])) k') (K := fun x => match x with | (.tup [(.agg [(.int .i64 r0), (.int .i64 r1)]), (.int .i64 r2)]) => K r0 r1 r2 | _ => False) k, h K⟩
theorem det_ratio_Check (p0 : Int) (p1 : Int) (r0 : Int) (h : ∀ K : Int → Prop, K r0 → w_ratio_Check p0 p1 K) (K : Int → Prop) : w_ratio_Check p0 p1 K = K r0 :=
 propext ⟨fun k => detC ok_ratio_Check (as := [(.agg [(.int .i64 p0), (.int .i64 p1)])]) (x := (.int .i64 r0)) (fun K' k' => h (fun r0 => K' (.int .i64 r0)) k') (K := fun x => match x with | (.int .i64 r0) => K r0 | _ => False) k, h K⟩
theorem det_ratio_Cmp (p0 : Int) (p1 : Int) (p2 : Int) (p3 : Int) (r0 : Int) (r1 : Int) (h : ∀ K : Int → Int → Prop, K r0 r1 → w_ratio_Cmp p0 p1 p2 p3 K) (K : Int → Int → Prop) : w_ratio_Cmp p0 p1 p2 p3 K = K r0 r1 :=
 propext ⟨fun k => detC ok_ratio_Cmp (as := [(.agg [(.int .i64 p0), (.int .i64 p1)]), (.agg [(.int .i64 p2), (.int .i64 p3)])]) (x := (.tup [(.int .i64 r0), (.int .i64 r1)])) (fun K' k' => h (fun r0 r1 => K' (.tup [(.int .i64 r0), (.int .i64 r1)])) k') (K := fun x => match x with | (.tup [(.int .i64 r0), (.int .i64 r1)]) => K r0 r1 | _ => False) k, h K⟩
theorem det_ratio_Add (p0 : Int) (p1 : Int) (p2 : Int) (p3 : Int) (r0 : Int) (r1 : Int) (r2 : Int) (h : ∀ K : Int → Int → Int → Prop, K r0 r1 r2 → w_ratio_Add p0 p1 p2 p3 K) (K : Int → Int → Int → Prop) : w_ratio_Add p0 p1 p2 p3 K = K r0 r1 r2 :=
 propext ⟨fun k => detC ok_ratio_Add (as := [(.agg [(.int .i64 p0), (.int .i64 p1)]), (.agg [(.int .i64 p2), (.int .i64 p3)])]) (x := (.tup [(.agg [(.int .i64 r0), (.int .i64 r1)]), (.int .i64 r2)])) (fun K' k' => h (fun r0 r1 r2 => K' (.tup [(.agg [(.int .i64 r0), (.int .i64 r1)]), (.int .i64 r2)])) k') (K := fun x => match x with | (.tup [(.agg [(.int .i64 r0), (.int .i64 r1)]), (.int .i64 r2)]) => K r0 r1 r2 | _ => False) k, h K⟩
theorem det_ratio_Sub (p0 : Int) (p1 : Int) (p2 : Int) (p3 : Int) (r0 : Int) (r1 : Int) (r2 : Int) (h : ∀ K : Int → Int → Int → Prop, K r0 r1 r2 → w_ratio_Sub p0 p1 p2 p3 K) (K : Int → Int → Int → Prop) : w_ratio_Sub p0 p1 p2 p3 K = K r0 r1 r2 :=
 propext ⟨fun k => detC ok_ratio_Sub (as := [(.agg [(.int .i64 p0), (.int .i64 p1)]), (.agg [(.int .i64 p2), (.int .i64 p3)])]) (x := (.tup [(.agg [(.int .i64 r0), (.int .i64 r1)]), (.int .i64 r2)])) (fun K' k' => h (fun r0 r1 r2 => K' (.tup [(.agg [(.int .i64 r0), (.int .i64 r1)]), (.int .i64 r2)])) k') (K := fun x => match x with | (.tup [(.agg [(.int .i64 r0), (.int .i64 r1)]), (.int .i64 r2)]) => K r0 r1 r2 | _ => False) k, h K⟩
theorem det_ratio_Mul (p0 : Int) (p1 : Int) (p2 : Int) (p3 : Int) (r0 : Int) (r1 : Int) (r2 : Int) (h : ∀ K : Int → Int → Int → Prop, K r0 r1 r2 → w_ratio_Mul p0 p1 p2 p3 K) (K : Int → Int → Int → Prop) : w_ratio_Mul p0 p1 p2 p3 K = K r0 r1 r2 :=
 propext ⟨fun k => detC ok_ratio_Mul (as := [(.agg [(.int .i64 p0), (.int .i64 p1)]), (.agg [(.int .i64 p2), (.int .i64 p3)])]) (x := (.tup [(.agg [(.int .i64 r0), (.int .i64 r1)]), (.int .i64 r2)])) (fun K' k' => h (fun r0 r1 r2 => K' (.tup [(.agg [(.int .i64 r0), (.int .i64 r1)]), (.int .i64 r2)])) k') (K := fun x => match x with | (.tup [(.agg [(.int .i64 r0), (.int .i64 r1)]), (.int .i64 r2)]) => K r0 r1 r2 | _ => False) k, h K⟩
theorem det_ratio_Div (p0 : Int) (p1 : Int) (p2 : Int) (p3 : Int) (r0 : Int) (r1 : Int) (r2 : Int) (h : ∀ K : Int → Int → Int → Prop, K r0 r1 r2 → w_ratio_Div p0 p1 p2 p3 K) (K : Int → Int → Int → Prop) : w_ratio_Div p0 p1 p2 p3 K = K r0 r1 r2 :=
 propext ⟨fun k => detC ok_ratio_Div (as := [(.agg [(.int .i64 p0), (.int .i64 p1)]), (.agg [(.int .i64 p2), (.int .i64 p3)])]) (x := (.tup [(.agg [(.int .i64 r0), (.int .i64 r1)]), (.int .i64 r2)])) (fun K' k' => h (fun r0 r1 r2 => K' (.tup [(.agg [(.int .i64 r0), (.int .i64 r1)]), (.int .i64 r2)])) k') (K := fun x => match x with | (.tup [(.agg [(.int .i64 r0), (.int .i64 r1)]), (.int .i64 r2)]) => K r0 r1 r2 | _ => False) k, h K⟩
end Go.Pf.Vc
namespace Go.Pf.Vc
open Go Go.Pf
set_option maxRecDepth 100000
abbrev T_s_Min_int_int : Type := List PV → (Int → Prop) → Prop
def L_s_Min_int_int_0_0 (x0 : List PV → Int → Int → Bool → Prop) : Nat → List PV → Int → Int → Prop
 | 0, _, _, _ => False
 | n + 1, l0, i1, i2 =>
 (cbr (decide (i2 < (((List.length l0) : Nat) : Int)))
 (asr (decide ((0 : Int) ≤ i2))
 (asr (decide (i2 < (((List.length l0) : Nat) : Int)))
 (asr (conf (.one (.i .i64)) (List.getD l0 (i2.toNat) .nils))
 (L_s_Min_int_int_0_0 x0 n l0 (if (intOfV (List.getD l0 (i2.toNat) .nils)) < i1 then (intOfV (List.getD l0 (i2.toNat) .nils)) else i1) (IntKind.i64.wrap (i2 + (1 : Int)))))))
 (x0 l0 i1 i2 false))
def wv_s_Min_int_int (p0 : List PV) (K : Int → Prop) : Prop :=
 (cbr (decide ((((List.length p0) : Nat) : Int) < (1 : Int)))
 False
 (asr (decide ((0 : Int) < (((List.length p0) : Nat) : Int)))
 (asr (conf (.one (.i .i64)) (List.getD p0 0 .nils))
 (∃ n : Nat, L_s_Min_int_int_0_0
 (fun _ yi1 _ _ => (K yi1))
 n p0 (intOfV (List.getD p0 0 .nils)) (1 : Int)))))
def w_s_Min_int_int (p0 : List PV) (K : Int → Prop) : Prop := wv_s_Min_int_int p0 K
def pw_s_Min_int_int (w : T_s_Min_int_int) (as : List PV) (K : PV → Prop) : Prop :=
 match as with
 | [(.data p0)] => w p0 (fun r0 => K (.int .i64 r0))
 | _ => False
def wp_s_Min_int_int (as : List PV) (K : PV → Prop) : Prop := pw_s_Min_int_int w_s_Min_int_int as K
def D_s_Min_int_int_0 (F : Frm) (H : Hp) (A0 : List PV → Int → Int → Prop) : Prop :=
 match F, H with
 | [(0, .v (.data l0)), (3, .v (.int .i64 i1)), (4, .v (.int .i64 i2))], [] => (A0 l0 i1 i2)
 | _, _ => False
def R_s_Min_int_int_0 (Q : Ex → Frm → Hp → Prop) (n : Nat) (F : Frm) (H : Hp) : Prop := D_s_Min_int_int_0 F H (fun l0 i1 i2 => L_s_Min_int_int_0_0 (fun l0 i1 i2 b3 => Q (.exit 0) [(0, .v (.data l0)), (3, .v (.int .i64 i1)), (4, .v (.int .i64 i2)), (15, .v (.bool b3))] []) n l0 i1 i2)
def lp_s_Min_int_int : LP := fun id F H Q =>
 bif Nat.beq id 10434000 then D_s_Min_int_int_0 F H (fun l0 i1 i2 => ∃ n : Nat, L_s_Min_int_int_0_0 (fun l0 i1 i2 b3 => Q (.exit 0) [(0, .v (.data l0)), (3, .v (.int .i64 i1)), (4, .v (.int .i64 i2)), (15, .v (.bool b3))] []) n l0 i1 i2) else
 False
def S0_s_Min_int_int : SE := ⟨E, lookS [], lookI [], lp_s_Min_int_int⟩
theorem se0_s_Min_int_int : SEOk (S0_s_Min_int_int) := seOk_of trivial trivial
theorem body_s_Min_int_int_0_0 ( Q n l0 i1 i2) : WC E (callW (S0_s_Min_int_int) 5) (lp_s_Min_int_int) b_10434000 [(0, .v (.data l0)), (3, .v (.int .i64 i1)), (4, .v (.int .i64 i2))] [] (fun x F' H' => match x with | .norm => R_s_Min_int_int_0 Q n F' H' | .exit i => Q (.exit i) F' H' | .ret => Q .ret F' H') = L_s_Min_int_int_0_0 (fun l0 i1 i2 b3 => Q (.exit 0) [(0, .v (.data l0)), (3, .v (.int .i64 i1)), (4, .v (.int .i64 i2)), (15, .v (.bool b3))] []) (n + 1) l0 i1 i2 := by kernel_rfl
theorem lpb_s_Min_int_int_0 : LpOk E (lp_s_Min_int_int) b_10434000 := (LpOk_no (by kernel_rfl))
theorem loop_s_Min_int_int_0 : ∀ F H Q, lp_s_Min_int_int 10434000 F H Q → LoopT E b_10434000 F H Q := by
 intro F H Q h
 have go := LoopT.intro (callW_ok se0_s_Min_int_int 5) lpb_s_Min_int_int_0 (R_s_Min_int_int_0 Q) (by
   intro F H h
   unfold R_s_Min_int_int_0 D_s_Min_int_int_0 at h
   split at h
   · exact h
   · exact h) (by
   intro n F H h
   unfold R_s_Min_int_int_0 D_s_Min_int_int_0 at h
   split at h
   · exact (body_s_Min_int_int_0_0 ..).mpr h
   · exact h.elim)
 have h : D_s_Min_int_int_0 F H _ := h
 unfold D_s_Min_int_int_0 at h
 split at h
 · obtain ⟨n, h⟩ := h; exact go n _ _ h
 · exact h.elim
theorem eq_s_Min_int_int ( p0 K) : WP (S0_s_Min_int_int) 6 t_s_Min_int_int [(.data p0)] K = wv_s_Min_int_int p0 (fun r0 => K (.int .i64 r0)) := by kernel_rfl
theorem ok_s_Min_int_int : OkF E wp_s_Min_int_int n_s_Min_int_int := by
 intro as K h
 unfold wp_s_Min_int_int pw_s_Min_int_int at h
 split at h
 · exact WP_ok se0_s_Min_int_int (LpOk_by (l := [(10434000, b_10434000)]) ⟨loop_s_Min_int_int_0, trivial⟩ (by kernel_rfl)) (by kernel_rfl) (by kernel_rfl) (fun _ => baseC_none (by kernel_rfl) _) ((eq_s_Min_int_int ..).mpr h)
 · exact h.elim
abbrev T_s_Max_int_int : Type := List PV → (Int → Prop) → Prop
def L_s_Max_int_int_0_0 (x0 : List PV → Int → Int → Bool → Prop) : Nat → List PV → Int → Int → Prop
 | 0, _, _, _ => False
 | n + 1, l0, i1, i2 =>
 (cbr (decide (i2 < (((List.length l0) : Nat) : Int)))
 (asr (decide ((0 : Int) ≤ i2))
 (asr (decide (i2 < (((List.length l0) : Nat) : Int)))
 (asr (conf (.one (.i .i64)) (List.getD l0 (i2.toNat) .nils))
 (L_s_Max_int_int_0_0 x0 n l0 (if (intOfV (List.getD l0 (i2.toNat) .nils)) > i1 then (intOfV (List.getD l0 (i2.toNat) .nils)) else i1) (IntKind.i64.wrap (i2 + (1 : Int)))))))
 (x0 l0 i1 i2 false))
def wv_s_Max_int_int (p0 : List PV) (K : Int → Prop) : Prop :=
 (cbr (decide ((((List.length p0) : Nat) : Int) < (1 : Int)))
 False
 (asr (decide ((0 : Int) < (((List.length p0) : Nat) : Int)))
 (asr (conf (.one (.i .i64)) (List.getD p0 0 .nils))
 (∃ n : Nat, L_s_Max_int_int_0_0
 (fun _ yi1 _ _ => (K yi1))
 n p0 (intOfV (List.getD p0 0 .nils)) (1 : Int)))))
def w_s_Max_int_int (p0 : List PV) (K : Int → Prop) : Prop := wv_s_Max_int_int p0 K
def pw_s_Max_int_int (w : T_s_Max_int_int) (as : List PV) (K : PV → Prop) : Prop :=
 match as with
 | [(.data p0)] => w p0 (fun r0 => K (.int .i64 r0))
 | _ => False
def wp_s_Max_int_int (as : List PV) (K : PV → Prop) : Prop := pw_s_Max_int_int w_s_Max_int_int as K
def D_s_Max_int_int_0 (F : Frm) (H : Hp) (A0 : List PV → Int → Int → Prop) : Prop :=
 match F, H with
 | [(0, .v (.data l0)), (3, .v (.int .i64 i1)), (4, .v (.int .i64 i2))], [] => (A0 l0 i1 i2)
 | _, _ => False
def R_s_Max_int_int_0 (Q : Ex → Frm → Hp → Prop) (n : Nat) (F : Frm) (H : Hp) : Prop := D_s_Max_int_int_0 F H (fun l0 i1 i2 => L_s_Max_int_int_0_0 (fun l0 i1 i2 b3 => Q (.exit 0) [(0, .v (.data l0)), (3, .v (.int .i64 i1)), (4, .v (.int .i64 i2)), (15, .v (.bool b3))] []) n l0 i1 i2)
def lp_s_Max_int_int : LP := fun id F H Q =>
 bif Nat.beq id 64079100 then D_s_Max_int_int_0 F H (fun l0 i1 i2 => ∃ n : Nat, L_s_Max_int_int_0_0 (fun l0 i1 i2 b3 => Q (.exit 0) [(0, .v (.data l0)), (3, .v (.int .i64 i1)), (4, .v (.int .i64 i2)), (15, .v (.bool b3))] []) n l0 i1 i2) else
 False
def S0_s_Max_int_int : SE := ⟨E, lookS [], lookI [], lp_s_Max_int_int⟩
theorem se0_s_Max_int_int : SEOk (S0_s_Max_int_int) := seOk_of trivial trivial
theorem body_s_Max_int_int_0_0 ( Q n l0 i1 i2) : WC E (callW (S0_s_Max_int_int) 5) (lp_s_Max_int_int) b_64079100 [(0, .v (.data l0)), (3, .v (.int .i64 i1)), (4, .v (.int .i64 i2))] [] (fun x F' H' => match x with | .norm => R_s_Max_int_int_0 Q n F' H' | .exit i => Q (.exit i) F' H' | .ret => Q .ret F' H') = L_s_Max_int_int_0_0 (fun l0 i1 i2 b3 => Q (.exit 0) [(0, .v (.data l0)), (3, .v (.int .i64 i1)), (4, .v (.int .i64 i2)), (15, .v (.bool b3))] []) (n + 1) l0 i1 i2 := by kernel_rfl
theorem lpb_s_Max_int_int_0 : LpOk E (lp_s_Max_int_int) b_64079100 := (LpOk_no (by kernel_rfl))
theorem loop_s_Max_int_int_0 : ∀ F H Q, lp_s_Max_int_int 64079100 F H Q → LoopT E b_64079100 F H Q := by
 intro F H Q h
 have go := LoopT.intro (callW_ok se0_s_Max_int_int 5) lpb_s_Max_int_int_0 (R_s_Max_int_int_0 Q) (by
   intro F H h
   unfold R_s_Max_int_int_0 D_s_Max_int_int_0 at h
   split at h
   · exact h
   · exact h) (by
   intro n F H h
   unfold R_s_Max_int_int_0 D_s_Max_int_int_0 at h
   split at h
   · exact (body_s_Max_int_int_0_0 ..).mpr h
   · exact h.elim)
 have h : D_s_Max_int_int_0 F H _ := h
 unfold D_s_Max_int_int_0 at h
 split at h
 · obtain ⟨n, h⟩ := h; exact go n _ _ h
 · exact h.elim
theorem eq_s_Max_int_int ( p0 K) : WP (S0_s_Max_int_int) 6 t_s_Max_int_int [(.data p0)] K = wv_s_Max_int_int p0 (fun r0 => K (.int .i64 r0)) := by kernel_rfl
theorem ok_s_Max_int_int : OkF E wp_s_Max_int_int n_s_Max_int_int := by
 intro as K h
 unfold wp_s_Max_int_int pw_s_Max_int_int at h
 split at h
 · exact WP_ok se0_s_Max_int_int (LpOk_by (l := [(64079100, b_64079100)]) ⟨loop_s_Max_int_int_0, trivial⟩ (by kernel_rfl)) (by kernel_rfl) (by kernel_rfl) (fun _ => baseC_none (by kernel_rfl) _) ((eq_s_Max_int_int ..).mpr h)
 · exact h.elim
abbrev T_cake_Check : Type := Int → List PV → List PV → (Int → Prop) → Prop
def L_cake_Check_0_0 (a0 : T_s_Min_int_int) (a1 : T_s_Max_int_int) (x0 : Int → Prop) (x1 : Int → List PV → List PV → Int → Int → Bool → Prop) : Nat → Int → List PV → List PV → Int → Int → Prop
 | 0, _, _, _, _, _ => False
 | n + 1, i0, l1, l2, i3, i4 =>
 (cbr (decide (i4 < i3))
 (asr (decide ((0 : Int) ≤ i4))
 (asr (decide (i4 < (((List.length l1) : Nat) : Int)))
 (asr (conf (.one (.i .i64)) (List.getD l1 (i4.toNat) .nils))
 (asr (decide ((0 : Int) ≤ (IntKind.i64.wrap (i4 + (1 : Int)))))
 (asr (decide ((IntKind.i64.wrap (i4 + (1 : Int))) < (((List.length l1) : Nat) : Int)))
 (asr (conf (.one (.i .i64)) (List.getD l1 ((IntKind.i64.wrap (i4 + (1 : Int))).toNat) .nils))
 (cbr (decide ((intOfV (List.getD l1 (i4.toNat) .nils)) ≥ (intOfV (List.getD l1 ((IntKind.i64.wrap (i4 + (1 : Int))).toNat) .nils))))
 (x0 (8 : Int))
 (L_cake_Check_0_0 a0 a1 x0 x1 n i0 l1 l2 i3 (IntKind.i64.wrap (i4 + (1 : Int)))))))))))
 (x1 i0 l1 l2 i3 i4 false))
def wv_cake_Check (a0 : T_s_Min_int_int) (a1 : T_s_Max_int_int) (p0 : Int) (p1 p2 : List PV) (K : Int → Prop) : Prop :=
 (cbr (decide (p0 > (1000 : Int)))
 (K (4 : Int))
 (cbr (decide ((((List.length p1) : Nat) : Int) > (40 : Int)))
 (K (4 : Int))
 (cbr (decide (p0 < (1 : Int)))
 (K (8 : Int))
 (cbr (decide ((((List.length p1) : Nat) : Int) < (2 : Int)))
 (K (8 : Int))
 (cbr ((((List.length p2) : Nat) : Int) != (IntKind.i64.wrap ((((List.length p1) : Nat) : Int) - (1 : Int))))
 (K (8 : Int))
 (asr (decide ((0 : Int) < (((List.length p1) : Nat) : Int)))
 (asr (conf (.one (.i .i64)) (List.getD p1 0 .nils))
 (cbr ((intOfV (List.getD p1 0 .nils)) != (0 : Int))
 (K (8 : Int))
 (asr (decide ((0 : Int) ≤ (IntKind.i64.wrap ((((List.length p1) : Nat) : Int) - (1 : Int)))))
 (asr (decide ((IntKind.i64.wrap ((((List.length p1) : Nat) : Int) - (1 : Int))) < (((List.length p1) : Nat) : Int)))
 (asr (conf (.one (.i .i64)) (List.getD p1 ((IntKind.i64.wrap ((((List.length p1) : Nat) : Int) - (1 : Int))).toNat) .nils))
 (cbr ((intOfV (List.getD p1 ((IntKind.i64.wrap ((((List.length p1) : Nat) : Int) - (1 : Int))).toNat) .nils)) != p0)
 (K (8 : Int))
 (∃ n : Nat, L_cake_Check_0_0 a0 a1
 (fun yi0 => (K yi0))
 (fun _ _ yl3 _ _ _ => (a0 yl3 (fun yi7 => 
 (cbr (decide (yi7 < (0 : Int)))
 (K (8 : Int))
 (a1 yl3 (fun yi8 => 
 (cbr (decide (yi8 > (12 : Int)))
 (K (8 : Int))
 (a1 yl3 (fun yi9 => 
 (cbr (yi9 == (0 : Int))
 (K (8 : Int))
 (K (0 : Int))))))))))))
 n p0 p1 p2 (IntKind.i64.wrap ((((List.length p1) : Nat) : Int) - (1 : Int))) (0 : Int))))))))))))))
def w_cake_Check (p0 : Int) (p1 p2 : List PV) (K : Int → Prop) : Prop := wv_cake_Check w_s_Min_int_int w_s_Max_int_int p0 p1 p2 K
def pw_cake_Check (w : T_cake_Check) (as : List PV) (K : PV → Prop) : Prop :=
 match as with
 | [(.agg [(.int .i64 p0), (.data p1), (.data p2)])] => w p0 p1 p2 (fun r0 => K (.int .i64 r0))
 | _ => False
def wp_cake_Check (as : List PV) (K : PV → Prop) : Prop := pw_cake_Check w_cake_Check as K
def D_cake_Check_0 (F : Frm) (H : Hp) (A0 : Int → List PV → List PV → Int → Int → Prop) : Prop :=
 match F, H with
 | [(1, .box (.agg [(.int .i64 i0), (.data l1), (.data l2)])), (49, .v (.int .i64 i3)), (50, .v (.int .i64 i4))], [] => (A0 i0 l1 l2 i3 i4)
 | _, _ => False
def R_cake_Check_0 (a0 : T_s_Min_int_int) (a1 : T_s_Max_int_int) (Q : Ex → Frm → Hp → Prop) (n : Nat) (F : Frm) (H : Hp) : Prop := D_cake_Check_0 F H (fun i0 l1 l2 i3 i4 => L_cake_Check_0_0 a0 a1 (fun i0 => Q .ret [(2, .v (.int .i64 i0))] []) (fun i0 l1 l2 i3 i4 b5 => Q (.exit 0) [(1, .box (.agg [(.int .i64 i0), (.data l1), (.data l2)])), (49, .v (.int .i64 i3)), (50, .v (.int .i64 i4)), (51, .v (.bool b5))] []) n i0 l1 l2 i3 i4)
def lp_cake_Check (a0 : T_s_Min_int_int) (a1 : T_s_Max_int_int) : LP := fun id F H Q =>
 bif Nat.beq id 87419700 then D_cake_Check_0 F H (fun i0 l1 l2 i3 i4 => ∃ n : Nat, L_cake_Check_0_0 a0 a1 (fun i0 => Q .ret [(2, .v (.int .i64 i0))] []) (fun i0 l1 l2 i3 i4 b5 => Q (.exit 0) [(1, .box (.agg [(.int .i64 i0), (.data l1), (.data l2)])), (49, .v (.int .i64 i3)), (50, .v (.int .i64 i4)), (51, .v (.bool b5))] []) n i0 l1 l2 i3 i4) else
 False
def S0_cake_Check (a0 : T_s_Min_int_int) (a1 : T_s_Max_int_int) : SE := ⟨E, lookS [(n_s_Min_int_int, pw_s_Min_int_int a0), (n_s_Max_int_int, pw_s_Max_int_int a1)], lookI [], lp_cake_Check a0 a1⟩
theorem se0_cake_Check : SEOk (S0_cake_Check w_s_Min_int_int w_s_Max_int_int) := seOk_of ⟨ok_s_Min_int_int, ok_s_Max_int_int, trivial⟩ trivial
theorem body_cake_Check_0_0 (a0 a1 Q n i0 l1 l2 i3 i4) : WC E (callW (S0_cake_Check a0 a1) 5) (lp_cake_Check a0 a1) b_87419700 [(1, .box (.agg [(.int .i64 i0), (.data l1), (.data l2)])), (49, .v (.int .i64 i3)), (50, .v (.int .i64 i4))] [] (fun x F' H' => match x with | .norm => R_cake_Check_0 a0 a1 Q n F' H' | .exit i => Q (.exit i) F' H' | .ret => Q .ret F' H') = L_cake_Check_0_0 a0 a1 (fun i0 => Q .ret [(2, .v (.int .i64 i0))] []) (fun i0 l1 l2 i3 i4 b5 => Q (.exit 0) [(1, .box (.agg [(.int .i64 i0), (.data l1), (.data l2)])), (49, .v (.int .i64 i3)), (50, .v (.int .i64 i4)), (51, .v (.bool b5))] []) (n + 1) i0 l1 l2 i3 i4 := by kernel_rfl
theorem lpb_cake_Check_0 : LpOk E (lp_cake_Check w_s_Min_int_int w_s_Max_int_int) b_87419700 := (LpOk_no (by kernel_rfl))
theorem loop_cake_Check_0 : ∀ F H Q, lp_cake_Check w_s_Min_int_int w_s_Max_int_int 87419700 F H Q → LoopT E b_87419700 F H Q := by
 intro F H Q h
 have go := LoopT.intro (callW_ok se0_cake_Check 5) lpb_cake_Check_0 (R_cake_Check_0 w_s_Min_int_int w_s_Max_int_int Q) (by
   intro F H h
   unfold R_cake_Check_0 D_cake_Check_0 at h
   split at h
   · exact h
   · exact h) (by
   intro n F H h
   unfold R_cake_Check_0 D_cake_Check_0 at h
   split at h
   · exact (body_cake_Check_0_0 ..).mpr h
   · exact h.elim)
 have h : D_cake_Check_0 F H _ := h
 unfold D_cake_Check_0 at h
 split at h
 · obtain ⟨n, h⟩ := h; exact go n _ _ h
 · exact h.elim
theorem eq_cake_Check (a0 a1 p0 p1 p2 K) : WP (S0_cake_Check a0 a1) 6 t_cake_Check [(.agg [(.int .i64 p0), (.data p1), (.data p2)])] K = wv_cake_Check a0 a1 p0 p1 p2 (fun r0 => K (.int .i64 r0)) := by kernel_rfl
theorem ok_cake_Check : OkF E wp_cake_Check n_cake_Check := by
 intro as K h
 unfold wp_cake_Check pw_cake_Check at h
 split at h
 · exact WP_ok se0_cake_Check (LpOk_by (l := [(87419700, b_87419700)]) ⟨loop_cake_Check_0, trivial⟩ (by kernel_rfl)) (by kernel_rfl) (by kernel_rfl) (fun _ => baseC_none (by kernel_rfl) _) ((eq_cake_Check ..).mpr h)
 · exact h.elim
abbrev T_cake_Total : Type := Int → List PV → List PV → (Int → Int → Prop) → Prop
def L_cake_Total_0_0 (a0 : T_cake_Check) (x0 : Int → List PV → List PV → Int → List PV → Int → Int → Bool → Prop) : Nat → Int → List PV → List PV → Int → List PV → Int → Int → Prop
 | 0, _, _, _, _, _, _, _ => False
 | n + 1, i0, l1, l2, i3, l4, i5, i6 =>
 (cbr (decide (i6 < i5))
 (asr (decide ((0 : Int) ≤ i6))
 (asr (decide (i6 < (((List.length l4) : Nat) : Int)))
 (asr (conf (.one (.i .i64)) (List.getD l4 (i6.toNat) .nils))
 (asr (decide ((0 : Int) ≤ (IntKind.i64.wrap (i6 + (1 : Int)))))
 (asr (decide ((IntKind.i64.wrap (i6 + (1 : Int))) < (((List.length l1) : Nat) : Int)))
 (asr (conf (.one (.i .i64)) (List.getD l1 ((IntKind.i64.wrap (i6 + (1 : Int))).toNat) .nils))
 (asr (decide ((0 : Int) ≤ i6))
 (asr (decide (i6 < (((List.length l1) : Nat) : Int)))
 (asr (conf (.one (.i .i64)) (List.getD l1 (i6.toNat) .nils))
 (L_cake_Total_0_0 a0 x0 n i0 l1 l2 (IntKind.i64.wrap (i3 + (IntKind.i64.wrap ((intOfV (List.getD l4 (i6.toNat) .nils)) * (IntKind.i64.wrap ((intOfV (List.getD l1 ((IntKind.i64.wrap (i6 + (1 : Int))).toNat) .nils)) - (intOfV (List.getD l1 (i6.toNat) .nils)))))))) l4 i5 (IntKind.i64.wrap (i6 + (1 : Int)))))))))))))
 (x0 i0 l1 l2 i3 l4 i5 i6 false))
def wv_cake_Total (a0 : T_cake_Check) (p0 : Int) (p1 p2 : List PV) (K : Int → Int → Prop) : Prop :=
 (a0 p0 p1 p2 (fun yi0 => 
 (cbr (yi0 != (0 : Int))
 (K (0 : Int) yi0)
 (∃ n : Nat, L_cake_Total_0_0 a0
 (fun _ _ _ yi4 _ _ _ _ => (K yi4 (0 : Int)))
 n p0 p1 p2 (0 : Int) p2 (((List.length p2) : Nat) : Int) (0 : Int)))))
def w_cake_Total (p0 : Int) (p1 p2 : List PV) (K : Int → Int → Prop) : Prop := wv_cake_Total w_cake_Check p0 p1 p2 K
def pw_cake_Total (w : T_cake_Total) (as : List PV) (K : PV → Prop) : Prop :=
 match as with
 | [(.agg [(.int .i64 p0), (.data p1), (.data p2)])] => w p0 p1 p2 (fun r0 r1 => K (.tup [(.int .i64 r0), (.int .i64 r1)]))
 | _ => False
def wp_cake_Total (as : List PV) (K : PV → Prop) : Prop := pw_cake_Total w_cake_Total as K
def D_cake_Total_0 (F : Frm) (H : Hp) (A0 : Int → List PV → List PV → Int → List PV → Int → Int → Prop) : Prop :=
 match F, H with
 | [(1, .box (.agg [(.int .i64 i0), (.data l1), (.data l2)])), (5, .v (.int .i64 i3)), (14, .v (.data l4)), (15, .v (.int .i64 i5)), (16, .v (.int .i64 i6))], [] => (A0 i0 l1 l2 i3 l4 i5 i6)
 | _, _ => False
def R_cake_Total_0 (a0 : T_cake_Check) (Q : Ex → Frm → Hp → Prop) (n : Nat) (F : Frm) (H : Hp) : Prop := D_cake_Total_0 F H (fun i0 l1 l2 i3 l4 i5 i6 => L_cake_Total_0_0 a0 (fun i0 l1 l2 i3 l4 i5 i6 b7 => Q (.exit 0) [(1, .box (.agg [(.int .i64 i0), (.data l1), (.data l2)])), (5, .v (.int .i64 i3)), (14, .v (.data l4)), (15, .v (.int .i64 i5)), (16, .v (.int .i64 i6)), (17, .v (.bool b7))] []) n i0 l1 l2 i3 l4 i5 i6)
def lp_cake_Total (a0 : T_cake_Check) : LP := fun id F H Q =>
 bif Nat.beq id 45203600 then D_cake_Total_0 F H (fun i0 l1 l2 i3 l4 i5 i6 => ∃ n : Nat, L_cake_Total_0_0 a0 (fun i0 l1 l2 i3 l4 i5 i6 b7 => Q (.exit 0) [(1, .box (.agg [(.int .i64 i0), (.data l1), (.data l2)])), (5, .v (.int .i64 i3)), (14, .v (.data l4)), (15, .v (.int .i64 i5)), (16, .v (.int .i64 i6)), (17, .v (.bool b7))] []) n i0 l1 l2 i3 l4 i5 i6) else
 False
def S0_cake_Total (a0 : T_cake_Check) : SE := ⟨E, lookS [(n_cake_Check, pw_cake_Check a0)], lookI [], lp_cake_Total a0⟩
theorem se0_cake_Total : SEOk (S0_cake_Total w_cake_Check) := seOk_of ⟨ok_cake_Check, trivial⟩ trivial
theorem body_cake_Total_0_0 (a0 Q n i0 l1 l2 i3 l4 i5 i6) : WC E (callW (S0_cake_Total a0) 5) (lp_cake_Total a0) b_45203600 [(1, .box (.agg [(.int .i64 i0), (.data l1), (.data l2)])), (5, .v (.int .i64 i3)), (14, .v (.data l4)), (15, .v (.int .i64 i5)), (16, .v (.int .i64 i6))] [] (fun x F' H' => match x with | .norm => R_cake_Total_0 a0 Q n F' H' | .exit i => Q (.exit i) F' H' | .ret => Q .ret F' H') = L_cake_Total_0_0 a0 (fun i0 l1 l2 i3 l4 i5 i6 b7 => Q (.exit 0) [(1, .box (.agg [(.int .i64 i0), (.data l1), (.data l2)])), (5, .v (.int .i64 i3)), (14, .v (.data l4)), (15, .v (.int .i64 i5)), (16, .v (.int .i64 i6)), (17, .v (.bool b7))] []) (n + 1) i0 l1 l2 i3 l4 i5 i6 := by kernel_rfl
theorem lpb_cake_Total_0 : LpOk E (lp_cake_Total w_cake_Check) b_45203600 := (LpOk_no (by kernel_rfl))
theorem loop_cake_Total_0 : ∀ F H Q, lp_cake_Total w_cake_Check 45203600 F H Q → LoopT E b_45203600 F H Q := by
 intro F H Q h
 have go := LoopT.intro (callW_ok se0_cake_Total 5) lpb_cake_Total_0 (R_cake_Total_0 w_cake_Check Q) (by
   intro F H h
   unfold R_cake_Total_0 D_cake_Total_0 at h
   split at h
   · exact h
   · exact h) (by
   intro n F H h
   unfold R_cake_Total_0 D_cake_Total_0 at h
   split at h
   · exact (body_cake_Total_0_0 ..).mpr h
   · exact h.elim)
 have h : D_cake_Total_0 F H _ := h
 unfold D_cake_Total_0 at h
 split at h
 · obtain ⟨n, h⟩ := h; exact go n _ _ h
 · exact h.elim
theorem eq_cake_Total (a0 p0 p1 p2 K) : WP (S0_cake_Total a0) 6 t_cake_Total [(.agg [(.int .i64 p0), (.data p1), (.data p2)])] K = wv_cake_Total a0 p0 p1 p2 (fun r0 r1 => K (.tup [(.int .i64 r0), (.int .i64 r1)])) := by kernel_rfl
theorem ok_cake_Total : OkF E wp_cake_Total n_cake_Total := by
 intro as K h
 unfold wp_cake_Total pw_cake_Total at h
 split at h
 · exact WP_ok se0_cake_Total (LpOk_by (l := [(45203600, b_45203600)]) ⟨loop_cake_Total_0, trivial⟩ (by kernel_rfl)) (by kernel_rfl) (by kernel_rfl) (fun _ => baseC_none (by kernel_rfl) _) ((eq_cake_Total ..).mpr h)
 · exact h.elim
abbrev T_cake_whole : Type := Int → (Int → Int → Prop) → Prop
def wv_cake_whole (p0 : Int) (K : Int → Int → Prop) : Prop :=
 (K p0 (1 : Int))
def w_cake_whole (p0 : Int) (K : Int → Int → Prop) : Prop := wv_cake_whole p0 K
def pw_cake_whole (w : T_cake_whole) (as : List PV) (K : PV → Prop) : Prop :=
 match as with
 | [(.int .i64 p0)] => w p0 (fun r0 r1 => K (.agg [(.int .i64 r0), (.int .i64 r1)]))
 | _ => False
def wp_cake_whole (as : List PV) (K : PV → Prop) : Prop := pw_cake_whole w_cake_whole as K
def lp_cake_whole : LP := fun _ _ _ _ =>
 False
def S0_cake_whole : SE := ⟨E, lookS [], lookI [], lp_cake_whole⟩
theorem se0_cake_whole : SEOk (S0_cake_whole) := seOk_of trivial trivial
theorem eq_cake_whole ( p0 K) : WP (S0_cake_whole) 6 t_cake_whole [(.int .i64 p0)] K = wv_cake_whole p0 (fun r0 r1 => K (.agg [(.int .i64 r0), (.int .i64 r1)])) := by kernel_rfl
theorem ok_cake_whole : OkF E wp_cake_whole n_cake_whole := by
 intro as K h
 unfold wp_cake_whole pw_cake_whole at h
 split at h
 · exact WP_ok se0_cake_whole (LpOk_no (by kernel_rfl)) (by kernel_rfl) (by kernel_rfl) (fun _ => baseC_none (by kernel_rfl) _) ((eq_cake_whole ..).mpr h)
 · exact h.elim
abbrev T_cake_less : Type := Int → Int → Int → Int → (Bool → Prop) → Prop
def wv_cake_less (a0 : T_ratio_Cmp) (p0 p1 p2 p3 : Int) (K : Bool → Prop) : Prop :=
 (a0 p0 p1 p2 p3 (fun yi0 _ => 
 (K (decide (yi0 < (0 : Int))))))
def w_cake_less (p0 p1 p2 p3 : Int) (K : Bool → Prop) : Prop := wv_cake_less w_ratio_Cmp p0 p1 p2 p3 K
def pw_cake_less (w : T_cake_less) (as : List PV) (K : PV → Prop) : Prop :=
 match as with
 | [(.agg [(.int .i64 p0), (.int .i64 p1)]), (.agg [(.int .i64 p2), (.int .i64 p3)])] => w p0 p1 p2 p3 (fun r0 => K (.bool r0))
 | _ => False
def wp_cake_less (as : List PV) (K : PV → Prop) : Prop := pw_cake_less w_cake_less as K
def lp_cake_less (_ : T_ratio_Cmp) : LP := fun _ _ _ _ =>
 False
def S0_cake_less (a0 : T_ratio_Cmp) : SE := ⟨E, lookS [(n_ratio_Cmp, pw_ratio_Cmp a0)], lookI [], lp_cake_less a0⟩
theorem se0_cake_less : SEOk (S0_cake_less w_ratio_Cmp) := seOk_of ⟨ok_ratio_Cmp, trivial⟩ trivial
theorem eq_cake_less (a0 p0 p1 p2 p3 K) : WP (S0_cake_less a0) 6 t_cake_less [(.agg [(.int .i64 p0), (.int .i64 p1)]), (.agg [(.int .i64 p2), (.int .i64 p3)])] K = wv_cake_less a0 p0 p1 p2 p3 (fun r0 => K (.bool r0)) := by kernel_rfl
theorem ok_cake_less : OkF E wp_cake_less n_cake_less := by
 intro as K h
 unfold wp_cake_less pw_cake_less at h
 split at h
 · exact WP_ok se0_cake_less (LpOk_no (by kernel_rfl)) (by kernel_rfl) (by kernel_rfl) (fun _ => baseC_none (by kernel_rfl) _) ((eq_cake_less ..).mpr h)
 · exact h.elim
abbrev T_cake_point : Type := Int → List PV → List PV → Int → Int → (Bool → Prop) → Prop
def wv_cake_point (a0 : T_ratio_Check) (a1 : T_cake_whole) (a2 : T_cake_less) (p0 : Int) (_ _ : List PV) (p3 p4 : Int) (K : Bool → Prop) : Prop :=
 (a0 p3 p4 (fun yi0 => 
 (cbr (yi0 == (0 : Int))
 (cbr (decide (p3 ≥ (0 : Int)))
 (a1 p0 (fun yi1 yi2 => 
 (a2 yi1 yi2 p3 p4 (fun yb3 => 
 (K (!yb3))))))
 (K false))
 (K false))))
def w_cake_point (p0 : Int) (p1 p2 : List PV) (p3 p4 : Int) (K : Bool → Prop) : Prop := wv_cake_point w_ratio_Check w_cake_whole w_cake_less p0 p1 p2 p3 p4 K
def pw_cake_point (w : T_cake_point) (as : List PV) (K : PV → Prop) : Prop :=
 match as with
 | [(.agg [(.int .i64 p0), (.data p1), (.data p2)]), (.agg [(.int .i64 p3), (.int .i64 p4)])] => w p0 p1 p2 p3 p4 (fun r0 => K (.bool r0))
 | _ => False
def wp_cake_point (as : List PV) (K : PV → Prop) : Prop := pw_cake_point w_cake_point as K
def lp_cake_point (_ : T_ratio_Check) (_ : T_cake_whole) (_ : T_cake_less) : LP := fun _ _ _ _ =>
 False
def S0_cake_point (a0 : T_ratio_Check) (a1 : T_cake_whole) (a2 : T_cake_less) : SE := ⟨E, lookS [(n_ratio_Check, pw_ratio_Check a0), (n_cake_whole, pw_cake_whole a1), (n_cake_less, pw_cake_less a2)], lookI [], lp_cake_point a0 a1 a2⟩
theorem se0_cake_point : SEOk (S0_cake_point w_ratio_Check w_cake_whole w_cake_less) := seOk_of ⟨ok_ratio_Check, ok_cake_whole, ok_cake_less, trivial⟩ trivial
theorem eq_cake_point (a0 a1 a2 p0 p1 p2 p3 p4 K) : WP (S0_cake_point a0 a1 a2) 6 t_cake_point [(.agg [(.int .i64 p0), (.data p1), (.data p2)]), (.agg [(.int .i64 p3), (.int .i64 p4)])] K = wv_cake_point a0 a1 a2 p0 p1 p2 p3 p4 (fun r0 => K (.bool r0)) := by kernel_rfl
theorem ok_cake_point : OkF E wp_cake_point n_cake_point := by
 intro as K h
 unfold wp_cake_point pw_cake_point at h
 split at h
 · exact WP_ok se0_cake_point (LpOk_no (by kernel_rfl)) (by kernel_rfl) (by kernel_rfl) (fun _ => baseC_none (by kernel_rfl) _) ((eq_cake_point ..).mpr h)
 · exact h.elim
abbrev T_cake_Mark : Type := Int → List PV → List PV → Int → Int → Int → Int → (Int → Int → Int → Prop) → Prop
def L_cake_Mark_0_0 (a0 : T_cake_Check) (a1 : T_cake_point) (a2 : T_ratio_Check) (a3 : T_cake_whole) (a4 : T_cake_less) (a5 : T_ratio_Sub) (a6 : T_ratio_Mul) (a7 : T_ratio_Div) (a8 : T_ratio_Add) (x0 : Int → Int → Int → Int → Int → Int → Prop) (x1 : Int → Int → Int → Int → Int → Int → List PV → List PV → Int → Int → List PV → Int → Int → Bool → Prop) : Nat → Int → Int → Int → Int → Int → Int → List PV → List PV → Int → Int → List PV → Int → Int → Prop
 | 0, _, _, _, _, _, _, _, _, _, _, _, _, _ => False
 | n + 1, i0, i1, i2, i3, i4, i5, l6, l7, i8, i9, l10, i11, i12 =>
 (cbr (decide (i12 < i11))
 (asr (decide ((0 : Int) ≤ i12))
 (asr (decide (i12 < (((List.length l10) : Nat) : Int)))
 (asr (conf (.one (.i .i64)) (List.getD l10 (i12.toNat) .nils))
 (asr (decide ((0 : Int) ≤ (IntKind.i64.wrap (i12 + (1 : Int)))))
 (asr (decide ((IntKind.i64.wrap (i12 + (1 : Int))) < (((List.length l6) : Nat) : Int)))
 (asr (conf (.one (.i .i64)) (List.getD l6 ((IntKind.i64.wrap (i12 + (1 : Int))).toNat) .nils))
 (a3 (intOfV (List.getD l6 ((IntKind.i64.wrap (i12 + (1 : Int))).toNat) .nils)) (fun yi3 yi4 => 
 (a4 i8 i9 yi3 yi4 (fun yb5 => 
 (cbr (!yb5)
 (L_cake_Mark_0_0 a0 a1 a2 a3 a4 a5 a6 a7 a8 x0 x1 n i0 i1 i2 i3 i4 i5 l6 l7 i8 i9 l10 i11 (IntKind.i64.wrap (i12 + (1 : Int))))
 (a3 (0 : Int) (fun yi6 yi7 => 
 (cbr (decide ((intOfV (List.getD l10 (i12.toNat) .nils)) > (0 : Int)))
 (a5 yi3 yi4 i8 i9 (fun yi8 yi9 yi10 => 
 (cbr (yi10 != (0 : Int))
 (x0 i0 i1 i2 i3 i4 yi10)
 (a3 (intOfV (List.getD l10 (i12.toNat) .nils)) (fun yi11 yi12 => 
 (a6 yi8 yi9 yi11 yi12 (fun yi13 yi14 yi15 => 
 (cbr (yi15 != (0 : Int))
 (x0 i0 i1 i2 i3 i4 yi15)
 (cbr ((intOfV (List.getD l10 (i12.toNat) .nils)) == (0 : Int))
 (L_cake_Mark_0_0 a0 a1 a2 a3 a4 a5 a6 a7 a8 x0 x1 n i0 i1 i2 i3 i4 i5 l6 l7 yi3 yi4 l10 i11 (IntKind.i64.wrap (i12 + (1 : Int))))
 (a4 yi13 yi14 i0 i1 (fun yb16 => 
 (cbr yb16
 (a5 i0 i1 yi13 yi14 (fun yi17 yi18 yi19 => 
 (cbr (yi19 != (0 : Int))
 (cbr (yi19 != (0 : Int))
 (x0 yi17 yi18 i2 i3 yi19 (0 : Int))
 (L_cake_Mark_0_0 a0 a1 a2 a3 a4 a5 a6 a7 a8 x0 x1 n yi17 yi18 i2 i3 yi19 i5 l6 l7 yi3 yi4 l10 i11 (IntKind.i64.wrap (i12 + (1 : Int)))))
 (cbr (yi19 != (0 : Int))
 (x0 yi17 yi18 i2 i3 (6 : Int) (0 : Int))
 (L_cake_Mark_0_0 a0 a1 a2 a3 a4 a5 a6 a7 a8 x0 x1 n yi17 yi18 i2 i3 (6 : Int) i5 l6 l7 yi3 yi4 l10 i11 (IntKind.i64.wrap (i12 + (1 : Int))))))))
 (a3 (intOfV (List.getD l10 (i12.toNat) .nils)) (fun yi20 yi21 => 
 (a7 i0 i1 yi20 yi21 (fun yi22 yi23 yi24 => 
 (cbr (yi24 == (0 : Int))
 (a8 i8 i9 yi22 yi23 (fun yi25 yi26 yi27 => 
 (x0 i0 i1 yi25 yi26 yi27 (0 : Int))))
 (x0 i0 i1 i2 i3 yi24 (0 : Int)))))))))))))))))))
 (cbr ((intOfV (List.getD l10 (i12.toNat) .nils)) == (0 : Int))
 (L_cake_Mark_0_0 a0 a1 a2 a3 a4 a5 a6 a7 a8 x0 x1 n i0 i1 i2 i3 i4 i5 l6 l7 yi3 yi4 l10 i11 (IntKind.i64.wrap (i12 + (1 : Int))))
 (a4 yi6 yi7 i0 i1 (fun yb28 => 
 (cbr yb28
 (a5 i0 i1 yi6 yi7 (fun yi29 yi30 yi31 => 
 (cbr (yi31 != (0 : Int))
 (cbr (yi31 != (0 : Int))
 (x0 yi29 yi30 i2 i3 yi31 (0 : Int))
 (L_cake_Mark_0_0 a0 a1 a2 a3 a4 a5 a6 a7 a8 x0 x1 n yi29 yi30 i2 i3 yi31 i5 l6 l7 yi3 yi4 l10 i11 (IntKind.i64.wrap (i12 + (1 : Int)))))
 (cbr (yi31 != (0 : Int))
 (x0 yi29 yi30 i2 i3 (6 : Int) (0 : Int))
 (L_cake_Mark_0_0 a0 a1 a2 a3 a4 a5 a6 a7 a8 x0 x1 n yi29 yi30 i2 i3 (6 : Int) i5 l6 l7 yi3 yi4 l10 i11 (IntKind.i64.wrap (i12 + (1 : Int))))))))
 (a3 (intOfV (List.getD l10 (i12.toNat) .nils)) (fun yi32 yi33 => 
 (a7 i0 i1 yi32 yi33 (fun yi34 yi35 yi36 => 
 (cbr (yi36 == (0 : Int))
 (a8 i8 i9 yi34 yi35 (fun yi37 yi38 yi39 => 
 (x0 i0 i1 yi37 yi38 yi39 (0 : Int))))
 (x0 i0 i1 i2 i3 yi36 (0 : Int)))))))))))))))))))))))))
 (x1 i0 i1 i2 i3 i4 i5 l6 l7 i8 i9 l10 i11 i12 false))
def wv_cake_Mark (a0 : T_cake_Check) (a1 : T_cake_point) (a2 : T_ratio_Check) (a3 : T_cake_whole) (a4 : T_cake_less) (a5 : T_ratio_Sub) (a6 : T_ratio_Mul) (a7 : T_ratio_Div) (a8 : T_ratio_Add) (p0 : Int) (p1 p2 : List PV) (p3 p4 p5 p6 : Int) (K : Int → Int → Int → Prop) : Prop :=
 (a0 p0 p1 p2 (fun yi0 => 
 (cbr (yi0 != (0 : Int))
 (K (0 : Int) (0 : Int) yi0)
 (a1 p0 p1 p2 p3 p4 (fun yb1 => 
 (cbr (!yb1)
 (K (0 : Int) (0 : Int) (2 : Int))
 (a2 p5 p6 (fun yi2 => 
 (cbr (yi2 != (0 : Int))
 (K (0 : Int) (0 : Int) (2 : Int))
 (cbr (decide (p5 < (0 : Int)))
 (K (0 : Int) (0 : Int) (2 : Int))
 (cbr (p5 == (0 : Int))
 (K p3 p4 (0 : Int))
 (∃ n : Nat, L_cake_Mark_0_0 a0 a1 a2 a3 a4 a5 a6 a7 a8
 (fun _ _ yi42 yi43 yi44 yi45 => (cbr (yi45 != (0 : Int))
 (cbr (yi45 != (0 : Int))
 (K (0 : Int) (0 : Int) yi45)
 (K yi42 yi43 (0 : Int)))
 (cbr (yi44 != (0 : Int))
 (K (0 : Int) (0 : Int) yi44)
 (K yi42 yi43 (0 : Int)))))
 (fun _ _ yi48 yi49 yi50 _ _ _ _ _ _ _ _ _ => (cbr (yi50 != (0 : Int))
 (K (0 : Int) (0 : Int) yi50)
 (K yi48 yi49 (0 : Int))))
 n p5 p6 (0 : Int) (0 : Int) (6 : Int) p0 p1 p2 p3 p4 p2 (((List.length p2) : Nat) : Int) (0 : Int)))))))))))))
def w_cake_Mark (p0 : Int) (p1 p2 : List PV) (p3 p4 p5 p6 : Int) (K : Int → Int → Int → Prop) : Prop := wv_cake_Mark w_cake_Check w_cake_point w_ratio_Check w_cake_whole w_cake_less w_ratio_Sub w_ratio_Mul w_ratio_Div w_ratio_Add p0 p1 p2 p3 p4 p5 p6 K
def pw_cake_Mark (w : T_cake_Mark) (as : List PV) (K : PV → Prop) : Prop :=
 match as with
 | [(.agg [(.int .i64 p0), (.data p1), (.data p2)]), (.agg [(.int .i64 p3), (.int .i64 p4)]), (.agg [(.int .i64 p5), (.int .i64 p6)])] => w p0 p1 p2 p3 p4 p5 p6 (fun r0 r1 r2 => K (.tup [(.agg [(.int .i64 r0), (.int .i64 r1)]), (.int .i64 r2)]))
 | _ => False
def wp_cake_Mark (as : List PV) (K : PV → Prop) : Prop := pw_cake_Mark w_cake_Mark as K
def D_cake_Mark_0 (F : Frm) (H : Hp) (A0 : Int → Int → Int → Int → Int → Int → List PV → List PV → Int → Int → List PV → Int → Int → Prop) : Prop :=
 match F, H with
 | [(2, .v (.fn (.func q0) [] [(.ptr 0 1 0 0), (.ptr 2 1 0 0), (.ptr 1 1 0 0)])), (3, .box (.agg [(.int .i64 i5), (.data l6), (.data l7)])), (4, .box (.agg [(.int .i64 i8), (.int .i64 i9)])), (14, .v (.data l10)), (15, .v (.int .i64 i11)), (16, .v (.int .i64 i12))], [⟨false, true, 2, [(.agg [(.int .i64 i0), (.int .i64 i1)])]⟩, ⟨false, true, 2, [(.agg [(.int .i64 i2), (.int .i64 i3)])]⟩, ⟨false, true, 1, [(.int .i64 i4)]⟩] => asr (Nat.beq q0 n_cake_Mark_1) (A0 i0 i1 i2 i3 i4 i5 l6 l7 i8 i9 l10 i11 i12)
 | _, _ => False
def R_cake_Mark_0 (a0 : T_cake_Check) (a1 : T_cake_point) (a2 : T_ratio_Check) (a3 : T_cake_whole) (a4 : T_cake_less) (a5 : T_ratio_Sub) (a6 : T_ratio_Mul) (a7 : T_ratio_Div) (a8 : T_ratio_Add) (Q : Ex → Frm → Hp → Prop) (n : Nat) (F : Frm) (H : Hp) : Prop := D_cake_Mark_0 F H (fun i0 i1 i2 i3 i4 i5 l6 l7 i8 i9 l10 i11 i12 => L_cake_Mark_0_0 a0 a1 a2 a3 a4 a5 a6 a7 a8 (fun i0 i1 i2 i3 i4 i5 => Q .ret [(6, .v (.int .i64 i5))] [⟨false, true, 2, ([(.agg [(.int .i64 i0), (.int .i64 i1)])] : List PV)⟩, ⟨false, true, 2, ([(.agg [(.int .i64 i2), (.int .i64 i3)])] : List PV)⟩, ⟨false, true, 1, ([(.int .i64 i4)] : List PV)⟩]) (fun i0 i1 i2 i3 i4 i5 l6 l7 i8 i9 l10 i11 i12 b13 => Q (.exit 0) [(2, .v (.fn (.func n_cake_Mark_1) [] [(.ptr 0 1 0 0), (.ptr 2 1 0 0), (.ptr 1 1 0 0)])), (3, .box (.agg [(.int .i64 i5), (.data l6), (.data l7)])), (4, .box (.agg [(.int .i64 i8), (.int .i64 i9)])), (14, .v (.data l10)), (15, .v (.int .i64 i11)), (16, .v (.int .i64 i12)), (17, .v (.bool b13))] [⟨false, true, 2, ([(.agg [(.int .i64 i0), (.int .i64 i1)])] : List PV)⟩, ⟨false, true, 2, ([(.agg [(.int .i64 i2), (.int .i64 i3)])] : List PV)⟩, ⟨false, true, 1, ([(.int .i64 i4)] : List PV)⟩]) n i0 i1 i2 i3 i4 i5 l6 l7 i8 i9 l10 i11 i12)
def lp_cake_Mark (a0 : T_cake_Check) (a1 : T_cake_point) (a2 : T_ratio_Check) (a3 : T_cake_whole) (a4 : T_cake_less) (a5 : T_ratio_Sub) (a6 : T_ratio_Mul) (a7 : T_ratio_Div) (a8 : T_ratio_Add) : LP := fun id F H Q =>
 bif Nat.beq id 41613500 then D_cake_Mark_0 F H (fun i0 i1 i2 i3 i4 i5 l6 l7 i8 i9 l10 i11 i12 => ∃ n : Nat, L_cake_Mark_0_0 a0 a1 a2 a3 a4 a5 a6 a7 a8 (fun i0 i1 i2 i3 i4 i5 => Q .ret [(6, .v (.int .i64 i5))] [⟨false, true, 2, ([(.agg [(.int .i64 i0), (.int .i64 i1)])] : List PV)⟩, ⟨false, true, 2, ([(.agg [(.int .i64 i2), (.int .i64 i3)])] : List PV)⟩, ⟨false, true, 1, ([(.int .i64 i4)] : List PV)⟩]) (fun i0 i1 i2 i3 i4 i5 l6 l7 i8 i9 l10 i11 i12 b13 => Q (.exit 0) [(2, .v (.fn (.func n_cake_Mark_1) [] [(.ptr 0 1 0 0), (.ptr 2 1 0 0), (.ptr 1 1 0 0)])), (3, .box (.agg [(.int .i64 i5), (.data l6), (.data l7)])), (4, .box (.agg [(.int .i64 i8), (.int .i64 i9)])), (14, .v (.data l10)), (15, .v (.int .i64 i11)), (16, .v (.int .i64 i12)), (17, .v (.bool b13))] [⟨false, true, 2, ([(.agg [(.int .i64 i0), (.int .i64 i1)])] : List PV)⟩, ⟨false, true, 2, ([(.agg [(.int .i64 i2), (.int .i64 i3)])] : List PV)⟩, ⟨false, true, 1, ([(.int .i64 i4)] : List PV)⟩]) n i0 i1 i2 i3 i4 i5 l6 l7 i8 i9 l10 i11 i12) else
 False
def S0_cake_Mark (a0 : T_cake_Check) (a1 : T_cake_point) (a2 : T_ratio_Check) (a3 : T_cake_whole) (a4 : T_cake_less) (a5 : T_ratio_Sub) (a6 : T_ratio_Mul) (a7 : T_ratio_Div) (a8 : T_ratio_Add) : SE := ⟨E, lookS [(n_cake_Check, pw_cake_Check a0), (n_cake_point, pw_cake_point a1), (n_ratio_Check, pw_ratio_Check a2), (n_cake_whole, pw_cake_whole a3), (n_cake_less, pw_cake_less a4), (n_ratio_Sub, pw_ratio_Sub a5), (n_ratio_Mul, pw_ratio_Mul a6), (n_ratio_Div, pw_ratio_Div a7), (n_ratio_Add, pw_ratio_Add a8)], lookI [(n_cake_Mark_1, t_cake_Mark_1)], lp_cake_Mark a0 a1 a2 a3 a4 a5 a6 a7 a8⟩
def S1_cake_Mark (a0 : T_cake_Check) (a1 : T_cake_point) (a2 : T_ratio_Check) (a3 : T_cake_whole) (a4 : T_cake_less) (a5 : T_ratio_Sub) (a6 : T_ratio_Mul) (a7 : T_ratio_Div) (a8 : T_ratio_Add) : SE := ⟨E, lookS [(n_cake_Check, pw_cake_Check a0), (n_cake_point, pw_cake_point a1), (n_ratio_Check, pw_ratio_Check a2), (n_cake_whole, pw_cake_whole a3), (n_cake_less, pw_cake_less a4), (n_ratio_Sub, pw_ratio_Sub a5), (n_ratio_Mul, pw_ratio_Mul a6), (n_ratio_Div, pw_ratio_Div a7), (n_ratio_Add, pw_ratio_Add a8)], lookI [(n_cake_walk, t_cake_walk), (n_cake_Mark_1, t_cake_Mark_1)], lp_cake_Mark a0 a1 a2 a3 a4 a5 a6 a7 a8⟩
theorem se0_cake_Mark : SEOk (S0_cake_Mark w_cake_Check w_cake_point w_ratio_Check w_cake_whole w_cake_less w_ratio_Sub w_ratio_Mul w_ratio_Div w_ratio_Add) := seOk_of ⟨ok_cake_Check, ok_cake_point, ok_ratio_Check, ok_cake_whole, ok_cake_less, ok_ratio_Sub, ok_ratio_Mul, ok_ratio_Div, ok_ratio_Add, trivial⟩ ⟨⟨by kernel_rfl, by kernel_rfl, rfl, fun as => baseC_none (by kernel_rfl) as, (LpOk_no (by kernel_rfl))⟩, trivial⟩
theorem body_cake_Mark_0_0 (a0 a1 a2 a3 a4 a5 a6 a7 a8 Q n i0 i1 i2 i3 i4 i5 l6 l7 i8 i9 l10 i11 i12) : WC E (callW (S0_cake_Mark a0 a1 a2 a3 a4 a5 a6 a7 a8) 5) (lp_cake_Mark a0 a1 a2 a3 a4 a5 a6 a7 a8) b_41613500 [(2, .v (.fn (.func n_cake_Mark_1) [] [(.ptr 0 1 0 0), (.ptr 2 1 0 0), (.ptr 1 1 0 0)])), (3, .box (.agg [(.int .i64 i5), (.data l6), (.data l7)])), (4, .box (.agg [(.int .i64 i8), (.int .i64 i9)])), (14, .v (.data l10)), (15, .v (.int .i64 i11)), (16, .v (.int .i64 i12))] [⟨false, true, 2, ([(.agg [(.int .i64 i0), (.int .i64 i1)])] : List PV)⟩, ⟨false, true, 2, ([(.agg [(.int .i64 i2), (.int .i64 i3)])] : List PV)⟩, ⟨false, true, 1, ([(.int .i64 i4)] : List PV)⟩] (fun x F' H' => match x with | .norm => R_cake_Mark_0 a0 a1 a2 a3 a4 a5 a6 a7 a8 Q n F' H' | .exit i => Q (.exit i) F' H' | .ret => Q .ret F' H') = L_cake_Mark_0_0 a0 a1 a2 a3 a4 a5 a6 a7 a8 (fun i0 i1 i2 i3 i4 i5 => Q .ret [(6, .v (.int .i64 i5))] [⟨false, true, 2, ([(.agg [(.int .i64 i0), (.int .i64 i1)])] : List PV)⟩, ⟨false, true, 2, ([(.agg [(.int .i64 i2), (.int .i64 i3)])] : List PV)⟩, ⟨false, true, 1, ([(.int .i64 i4)] : List PV)⟩]) (fun i0 i1 i2 i3 i4 i5 l6 l7 i8 i9 l10 i11 i12 b13 => Q (.exit 0) [(2, .v (.fn (.func n_cake_Mark_1) [] [(.ptr 0 1 0 0), (.ptr 2 1 0 0), (.ptr 1 1 0 0)])), (3, .box (.agg [(.int .i64 i5), (.data l6), (.data l7)])), (4, .box (.agg [(.int .i64 i8), (.int .i64 i9)])), (14, .v (.data l10)), (15, .v (.int .i64 i11)), (16, .v (.int .i64 i12)), (17, .v (.bool b13))] [⟨false, true, 2, ([(.agg [(.int .i64 i0), (.int .i64 i1)])] : List PV)⟩, ⟨false, true, 2, ([(.agg [(.int .i64 i2), (.int .i64 i3)])] : List PV)⟩, ⟨false, true, 1, ([(.int .i64 i4)] : List PV)⟩]) (n + 1) i0 i1 i2 i3 i4 i5 l6 l7 i8 i9 l10 i11 i12 := by kernel_rfl
theorem lpb_cake_Mark_0 : LpOk E (lp_cake_Mark w_cake_Check w_cake_point w_ratio_Check w_cake_whole w_cake_less w_ratio_Sub w_ratio_Mul w_ratio_Div w_ratio_Add) b_41613500 := (LpOk_no (by kernel_rfl))
theorem loop_cake_Mark_0 : ∀ F H Q, lp_cake_Mark w_cake_Check w_cake_point w_ratio_Check w_cake_whole w_cake_less w_ratio_Sub w_ratio_Mul w_ratio_Div w_ratio_Add 41613500 F H Q → LoopT E b_41613500 F H Q := by
 intro F H Q h
 have go := LoopT.intro (callW_ok se0_cake_Mark 5) lpb_cake_Mark_0 (R_cake_Mark_0 w_cake_Check w_cake_point w_ratio_Check w_cake_whole w_cake_less w_ratio_Sub w_ratio_Mul w_ratio_Div w_ratio_Add Q) (by
   intro F H h
   unfold R_cake_Mark_0 D_cake_Mark_0 at h
   split at h
   · obtain ⟨hg, k⟩ := asr_iff.1 h
     clear h
     have h := k
     clear k
     try simp only [Bool.and_eq_true, decide_eq_true_eq] at hg
     have g0 := hg; have g0 := Nat.eq_of_beq_eq_true g0; subst g0; exact h
   · exact h) (by
   intro n F H h
   unfold R_cake_Mark_0 D_cake_Mark_0 at h
   split at h
   · obtain ⟨hg, k⟩ := asr_iff.1 h
     clear h
     have h := k
     clear k
     try simp only [Bool.and_eq_true, decide_eq_true_eq] at hg
     have g0 := hg; have g0 := Nat.eq_of_beq_eq_true g0; subst g0; exact (body_cake_Mark_0_0 ..).mpr h
   · exact h.elim)
 have h : D_cake_Mark_0 F H _ := h
 unfold D_cake_Mark_0 at h
 split at h
 · obtain ⟨hg, n, h⟩ := asr_iff.1 h; exact go n _ _ (asr_iff.2 ⟨hg, h⟩)
 · exact h.elim
theorem se1_cake_Mark : SEOk (S1_cake_Mark w_cake_Check w_cake_point w_ratio_Check w_cake_whole w_cake_less w_ratio_Sub w_ratio_Mul w_ratio_Div w_ratio_Add) := seOk_of ⟨ok_cake_Check, ok_cake_point, ok_ratio_Check, ok_cake_whole, ok_cake_less, ok_ratio_Sub, ok_ratio_Mul, ok_ratio_Div, ok_ratio_Add, trivial⟩ ⟨⟨by kernel_rfl, by kernel_rfl, rfl, fun as => baseC_none (by kernel_rfl) as, (LpOk_by (l := [(41613500, b_41613500)]) ⟨loop_cake_Mark_0, trivial⟩ (by kernel_rfl))⟩, ⟨by kernel_rfl, by kernel_rfl, rfl, fun as => baseC_none (by kernel_rfl) as, (LpOk_no (by kernel_rfl))⟩, trivial⟩
theorem eq_cake_Mark (a0 a1 a2 a3 a4 a5 a6 a7 a8 p0 p1 p2 p3 p4 p5 p6 K) : WP (S1_cake_Mark a0 a1 a2 a3 a4 a5 a6 a7 a8) 6 t_cake_Mark [(.agg [(.int .i64 p0), (.data p1), (.data p2)]), (.agg [(.int .i64 p3), (.int .i64 p4)]), (.agg [(.int .i64 p5), (.int .i64 p6)])] K = wv_cake_Mark a0 a1 a2 a3 a4 a5 a6 a7 a8 p0 p1 p2 p3 p4 p5 p6 (fun r0 r1 r2 => K (.tup [(.agg [(.int .i64 r0), (.int .i64 r1)]), (.int .i64 r2)])) := by kernel_rfl
theorem ok_cake_Mark : OkF E wp_cake_Mark n_cake_Mark := by
 intro as K h
 unfold wp_cake_Mark pw_cake_Mark at h
 split at h
 · exact WP_ok se1_cake_Mark (LpOk_no (by kernel_rfl)) (by kernel_rfl) (by kernel_rfl) (fun _ => baseC_none (by kernel_rfl) _) ((eq_cake_Mark ..).mpr h)
 · exact h.elim
end Go.Pf.Vc
namespace Go.Pf.Vc
open Go Go.Pf
set_option linter.unusedVariables false
theorem det_cake_Check (p0 : Int) (p1 : List PV) (p2 : List PV) (r0 : Int) (h : ∀ K : Int → Prop, K r0 → w_cake_Check p0 p1 p2 K) (K : Int → Prop) : w_cake_Check p0 p1 p2 K = K r0 :=
 propext ⟨fun k => detC ok_cake_Check (as := [(.agg [(.int .i64 p0), (.data p1), (.data p2)])]) (x := (.int .i64 r0)) (fun K' k' => h (fun r0 => K' (.int .i64 r0)) k') (K := fun x => match x with | (.int .i64 r0) => K r0 | _ => False) k, h K⟩
theorem det_cake_Total (p0 : Int) (p1 : List PV) (p2 : List PV) (r0 : Int) (r1 : Int) (h : ∀ K : Int → Int → Prop, K r0 r1 → w_cake_Total p0 p1 p2 K) (K : Int → Int → Prop) : w_cake_Total p0 p1 p2 K = K r0 r1 :=
 propext ⟨fun k => detC ok_cake_Total (as := [(.agg [(.int .i64 p0), (.data p1), (.data p2)])]) (x := (.tup [(.int .i64 r0), (.int .i64 r1)])) (fun K' k' => h (fun r0 r1 => K' (.tup [(.int .i64 r0), (.int .i64 r1)])) k') (K := fun x => match x with | (.tup [(.int .i64 r0), (.int .i64 r1)]) => K r0 r1 | _ => False) k, h K⟩
theorem det_cake_Mark (p0 : Int) (p1 : List PV) (p2 : List PV) (p3 : Int) (p4 : Int) (p5 : Int) (p6 : Int) (r0 : Int) (r1 : Int) (r2 : Int) (h : ∀ K : Int → Int → Int → Prop, K r0 r1 r2 → w_cake_Mark p0 p1 p2 p3 p4 p5 p6 K) (K : Int → Int → Int → Prop) : w_cake_Mark p0 p1 p2 p3 p4 p5 p6 K = K r0 r1 r2 :=
 propext ⟨fun k => detC ok_cake_Mark (as := [(.agg [(.int .i64 p0), (.data p1), (.data p2)]), (.agg [(.int .i64 p3), (.int .i64 p4)]), (.agg [(.int .i64 p5), (.int .i64 p6)])]) (x := (.tup [(.agg [(.int .i64 r0), (.int .i64 r1)]), (.int .i64 r2)])) (fun K' k' => h (fun r0 r1 r2 => K' (.tup [(.agg [(.int .i64 r0), (.int .i64 r1)]), (.int .i64 r2)])) k') (K := fun x => match x with | (.tup [(.agg [(.int .i64 r0), (.int .i64 r1)]), (.int .i64 r2)]) => K r0 r1 r2 | _ => False) k, h K⟩
end Go.Pf.Vc
namespace Go.Pf.Vc
open Go Go.Pf
set_option maxRecDepth 100000
abbrev T_ask_Check : Type := List PV → List PV → (Int → Prop) → Prop
def L_ask_Check_0_0 (a0 : T_cake_Check) (x12157600_0 : Int → Prop) (x12157600_1 : List PV → List PV → List PV → Int → Int → Bool → Prop) : Nat → List PV → List PV → List PV → Int → Int → Prop
 | 0, _, _, _, _, _ => False
 | n12157600 + 1, l0, l1, l2, i3, i4 =>
 (cbr (decide (i4 < i3))
 (asr (decide ((0 : Int) ≤ i4))
 (asr (decide (i4 < (((List.length l2) : Nat) : Int)))
 (asr (conf (.agg [.i .i64, .d, .d]) (List.getD l2 (i4.toNat) .nils))
 (a0 (intOfV (cellAt (List.getD l2 (i4.toNat) .nils) 0)) (datOfV (cellAt (List.getD l2 (i4.toNat) .nils) 1)) (datOfV (cellAt (List.getD l2 (i4.toNat) .nils) 2)) (fun yi0 => 
 (cbr (yi0 != (0 : Int))
 (x12157600_0 yi0)
 (L_ask_Check_0_0 a0 x12157600_0 x12157600_1 n12157600 l0 l1 l2 i3 (IntKind.i64.wrap (i4 + (1 : Int))))))))))
 (x12157600_1 l0 l1 l2 i3 i4 false))
def L_ask_Check_1_0 (a0 : T_cake_Check) (x12157601_0 : Int → Prop) (x12157601_1 : List PV → List PV → List PV → Int → Int → Bool → Prop) : Nat → List PV → List PV → List PV → Int → Int → Prop
 | 0, _, _, _, _, _ => False
 | n12157601 + 1, l0, l1, l2, i3, i4 =>
 (cbr (decide (i4 < i3))
 (asr (decide ((0 : Int) ≤ i4))
 (asr (decide (i4 < (((List.length l2) : Nat) : Int)))
 (asr (conf (.agg [.i .i64, .d, .d]) (List.getD l2 (i4.toNat) .nils))
 (asr (decide ((0 : Int) < (((List.length l0) : Nat) : Int)))
 (asr (conf (.agg [.i .i64, .d, .d]) (List.getD l0 0 .nils))
 (cbr ((intOfV (cellAt (List.getD l2 (i4.toNat) .nils) 0)) != (intOfV (cellAt (List.getD l0 0 .nils) 0)))
 (x12157601_0 (8 : Int))
 (L_ask_Check_1_0 a0 x12157601_0 x12157601_1 n12157601 l0 l1 l2 i3 (IntKind.i64.wrap (i4 + (1 : Int))))))))))
 (x12157601_1 l0 l1 l2 i3 i4 false))
def wv_ask_Check (a0 : T_cake_Check) (p0 p1 : List PV) (K : Int → Prop) : Prop :=
 (cbr (decide ((((List.length p0) : Nat) : Int) > (6 : Int)))
 (K (4 : Int))
 (cbr (decide ((((List.length p1) : Nat) : Int) > (2000 : Int)))
 (K (4 : Int))
 (cbr ((((List.length p0) : Nat) : Int) == (0 : Int))
 (K (8 : Int))
 (∃ n12157600 : Nat, L_ask_Check_0_0 a0
 (fun yi1 => (K yi1))
 (fun yl2 yl3 _ _ _ _ => (∃ n12157601 : Nat, L_ask_Check_1_0 a0
 (fun yi8 => (K yi8))
 (fun _ _ _ _ _ _ => (K (0 : Int)))
 n12157601 yl2 yl3 yl2 (((List.length yl2) : Nat) : Int) (0 : Int)))
 n12157600 p0 p1 p0 (((List.length p0) : Nat) : Int) (0 : Int)))))
def w_ask_Check (p0 p1 : List PV) (K : Int → Prop) : Prop := wv_ask_Check w_cake_Check p0 p1 K
def pw_ask_Check (w : T_ask_Check) (as : List PV) (K : PV → Prop) : Prop :=
 match as with
 | [(.agg [(.data p0), (.data p1)])] => w p0 p1 (fun r0 => K (.int .i64 r0))
 | _ => False
def wp_ask_Check (as : List PV) (K : PV → Prop) : Prop := pw_ask_Check w_ask_Check as K
def D_ask_Check_0 (F : Frm) (H : Hp) (A0 : List PV → List PV → List PV → Int → Int → Prop) : Prop :=
 match F, H with
 | [(1, .box (.agg [(.data l0), (.data l1)])), (23, .v (.data l2)), (24, .v (.int .i64 i3)), (25, .v (.int .i64 i4))], [] => (A0 l0 l1 l2 i3 i4)
 | _, _ => False
def D_ask_Check_1 (F : Frm) (H : Hp) (A0 : List PV → List PV → List PV → Int → Int → Prop) : Prop :=
 match F, H with
 | [(1, .box (.agg [(.data l0), (.data l1)])), (36, .v (.data l2)), (37, .v (.int .i64 i3)), (38, .v (.int .i64 i4))], [] => (A0 l0 l1 l2 i3 i4)
 | _, _ => False
def R_ask_Check_0 (a0 : T_cake_Check) (Q : Ex → Frm → Hp → Prop) (n : Nat) (F : Frm) (H : Hp) : Prop := D_ask_Check_0 F H (fun l0 l1 l2 i3 i4 => L_ask_Check_0_0 a0 (fun i0 => Q .ret [(2, .v (.int .i64 i0))] []) (fun l0 l1 l2 i3 i4 b5 => Q (.exit 0) [(1, .box (.agg [(.data l0), (.data l1)])), (23, .v (.data l2)), (24, .v (.int .i64 i3)), (25, .v (.int .i64 i4)), (26, .v (.bool b5))] []) n l0 l1 l2 i3 i4)
def R_ask_Check_1 (a0 : T_cake_Check) (Q : Ex → Frm → Hp → Prop) (n : Nat) (F : Frm) (H : Hp) : Prop := D_ask_Check_1 F H (fun l0 l1 l2 i3 i4 => L_ask_Check_1_0 a0 (fun i0 => Q .ret [(2, .v (.int .i64 i0))] []) (fun l0 l1 l2 i3 i4 b5 => Q (.exit 2) [(1, .box (.agg [(.data l0), (.data l1)])), (36, .v (.data l2)), (37, .v (.int .i64 i3)), (38, .v (.int .i64 i4)), (39, .v (.bool b5))] []) n l0 l1 l2 i3 i4)
def lp_ask_Check (a0 : T_cake_Check) : LP := fun id F H Q =>
 bif Nat.beq id 12157600 then D_ask_Check_0 F H (fun l0 l1 l2 i3 i4 => ∃ n : Nat, L_ask_Check_0_0 a0 (fun i0 => Q .ret [(2, .v (.int .i64 i0))] []) (fun l0 l1 l2 i3 i4 b5 => Q (.exit 0) [(1, .box (.agg [(.data l0), (.data l1)])), (23, .v (.data l2)), (24, .v (.int .i64 i3)), (25, .v (.int .i64 i4)), (26, .v (.bool b5))] []) n l0 l1 l2 i3 i4) else
 bif Nat.beq id 12157601 then D_ask_Check_1 F H (fun l0 l1 l2 i3 i4 => ∃ n : Nat, L_ask_Check_1_0 a0 (fun i0 => Q .ret [(2, .v (.int .i64 i0))] []) (fun l0 l1 l2 i3 i4 b5 => Q (.exit 2) [(1, .box (.agg [(.data l0), (.data l1)])), (36, .v (.data l2)), (37, .v (.int .i64 i3)), (38, .v (.int .i64 i4)), (39, .v (.bool b5))] []) n l0 l1 l2 i3 i4) else
 False
def S0_ask_Check (a0 : T_cake_Check) : SE := ⟨E, lookS [(n_cake_Check, pw_cake_Check a0)], lookI [], lp_ask_Check a0⟩
theorem se0_ask_Check : SEOk (S0_ask_Check w_cake_Check) := seOk_of ⟨ok_cake_Check, trivial⟩ trivial
theorem body_ask_Check_0_0 (a0 Q n l0 l1 l2 i3 i4) : WC E (callW (S0_ask_Check a0) 5) (lp_ask_Check a0) b_12157600 [(1, .box (.agg [(.data l0), (.data l1)])), (23, .v (.data l2)), (24, .v (.int .i64 i3)), (25, .v (.int .i64 i4))] [] (fun x F' H' => match x with | .norm => R_ask_Check_0 a0 Q n F' H' | .exit i => Q (.exit i) F' H' | .ret => Q .ret F' H') = L_ask_Check_0_0 a0 (fun i0 => Q .ret [(2, .v (.int .i64 i0))] []) (fun l0 l1 l2 i3 i4 b5 => Q (.exit 0) [(1, .box (.agg [(.data l0), (.data l1)])), (23, .v (.data l2)), (24, .v (.int .i64 i3)), (25, .v (.int .i64 i4)), (26, .v (.bool b5))] []) (n + 1) l0 l1 l2 i3 i4 := by kernel_rfl
theorem lpb_ask_Check_0 : LpOk E (lp_ask_Check w_cake_Check) b_12157600 := (LpOk_no (by kernel_rfl))
theorem loop_ask_Check_0 : ∀ F H Q, lp_ask_Check w_cake_Check 12157600 F H Q → LoopT E b_12157600 F H Q := by
 intro F H Q h
 have go := LoopT.intro (callW_ok se0_ask_Check 5) lpb_ask_Check_0 (R_ask_Check_0 w_cake_Check Q) (by
   intro F H h
   unfold R_ask_Check_0 D_ask_Check_0 at h
   split at h
   · exact h
   · exact h) (by
   intro n F H h
   unfold R_ask_Check_0 D_ask_Check_0 at h
   split at h
   · exact (body_ask_Check_0_0 ..).mpr h
   · exact h.elim)
 have h : D_ask_Check_0 F H _ := h
 unfold D_ask_Check_0 at h
 split at h
 · obtain ⟨n, h⟩ := h; exact go n _ _ h
 · exact h.elim
theorem body_ask_Check_1_0 (a0 Q n l0 l1 l2 i3 i4) : WC E (callW (S0_ask_Check a0) 5) (lp_ask_Check a0) b_12157601 [(1, .box (.agg [(.data l0), (.data l1)])), (36, .v (.data l2)), (37, .v (.int .i64 i3)), (38, .v (.int .i64 i4))] [] (fun x F' H' => match x with | .norm => R_ask_Check_1 a0 Q n F' H' | .exit i => Q (.exit i) F' H' | .ret => Q .ret F' H') = L_ask_Check_1_0 a0 (fun i0 => Q .ret [(2, .v (.int .i64 i0))] []) (fun l0 l1 l2 i3 i4 b5 => Q (.exit 2) [(1, .box (.agg [(.data l0), (.data l1)])), (36, .v (.data l2)), (37, .v (.int .i64 i3)), (38, .v (.int .i64 i4)), (39, .v (.bool b5))] []) (n + 1) l0 l1 l2 i3 i4 := by kernel_rfl
theorem lpb_ask_Check_1 : LpOk E (lp_ask_Check w_cake_Check) b_12157601 := (LpOk_no (by kernel_rfl))
theorem loop_ask_Check_1 : ∀ F H Q, lp_ask_Check w_cake_Check 12157601 F H Q → LoopT E b_12157601 F H Q := by
 intro F H Q h
 have go := LoopT.intro (callW_ok se0_ask_Check 5) lpb_ask_Check_1 (R_ask_Check_1 w_cake_Check Q) (by
   intro F H h
   unfold R_ask_Check_1 D_ask_Check_1 at h
   split at h
   · exact h
   · exact h) (by
   intro n F H h
   unfold R_ask_Check_1 D_ask_Check_1 at h
   split at h
   · exact (body_ask_Check_1_0 ..).mpr h
   · exact h.elim)
 have h : D_ask_Check_1 F H _ := h
 unfold D_ask_Check_1 at h
 split at h
 · obtain ⟨n, h⟩ := h; exact go n _ _ h
 · exact h.elim
theorem eq_ask_Check (a0 p0 p1 K) : WP (S0_ask_Check a0) 6 t_ask_Check [(.agg [(.data p0), (.data p1)])] K = wv_ask_Check a0 p0 p1 (fun r0 => K (.int .i64 r0)) := by kernel_rfl
theorem ok_ask_Check : OkF E wp_ask_Check n_ask_Check := by
 intro as K h
 unfold wp_ask_Check pw_ask_Check at h
 split at h
 · exact WP_ok se0_ask_Check (LpOk_by (l := [(12157600, b_12157600), (12157601, b_12157601)]) ⟨loop_ask_Check_0, loop_ask_Check_1, trivial⟩ (by kernel_rfl)) (by kernel_rfl) (by kernel_rfl) (fun _ => baseC_none (by kernel_rfl) _) ((eq_ask_Check ..).mpr h)
 · exact h.elim
abbrev T_ask_copied : Type := List PV → (List PV → Prop) → Prop
end Go.Pf.Vc
