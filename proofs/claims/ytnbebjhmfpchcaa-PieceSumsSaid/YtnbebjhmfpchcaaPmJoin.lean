/- The statement PieceSums: what the conditions and their plain laws say of the program's functions, joined with the program. -/
import Derived.Test.YtnbebjhmfpchcaaRows

import Derived.Test.YtnbebjhmfpchcaaPmW5
import Derived.WalkKit
import Derived.ProofKit
import Derived.OpenShut
import Derived.ReadAgain
import Derived.ChangeBears




import Derived.Shelf.SlSortCmp.WholeK
import Derived.Test.YtnbebjhmfpchcaaShelf
namespace Go.Proofs.Ytnbebjhmfpchcaa.Pm
open Go Go.Pf Go.Pf.Vc Go.ChangeShapes Go.WideShapes Go.ChangeAt Go.RowKit Go.Shelf Go.Sort Go.Lib Go.Proofs
set_option maxRecDepth 100000
def fg_r03_Great : List (Nat × List Nat) := [(1, [0, 3, 4, 5, 6, 7, 8, 9, 10, 11, 12, 13, 14, 15]), (0, [2])]
theorem c_r03_Great : compFn Try.prog [] (fun i => (fg_r03_Great.lookup i).getD []) Try.f9 = some t_r03_Great.fn := by kernel_rfl
def fg_r01_abs : List (Nat × List Nat) := [(3, [0, 4, 10, 11]), (2, [0, 4, 5, 6, 7, 8, 9]), (1, [3]), (0, [2])]
theorem c_r01_abs : compFn Try.prog [] (fun i => (fg_r01_abs.lookup i).getD []) Try.f48 = some t_r01_abs.fn := by kernel_rfl
def fg_r01_gcd : List (Nat × List Nat) := [(3, [0, 1, 6, 11]), (2, [6, 7, 8, 9, 10]), (1, [5]), (0, [4])]
theorem c_r01_gcd : compFn Try.prog [] (fun i => (fg_r01_gcd.lookup i).getD []) Try.f47 = some t_r01_gcd.fn := by kernel_rfl
def fg_r01_Check : List (Nat × List Nat) := [(3, [30]), (2, [30]), (1, [1, 3, 4, 5, 6, 7, 8, 9, 10, 11, 12, 13, 14, 15, 16, 17, 18, 19, 20, 21, 22, 23, 24, 25, 26, 27, 28, 29]), (0, [0, 2])]
theorem c_r01_Check : compFn Try.prog [1] (fun i => (fg_r01_Check.lookup i).getD []) Try.f20 = some t_r01_Check.fn := by kernel_rfl
def fg_r01_Both : List (Nat × List Nat) := [(3, [2, 3, 7, 10, 11]), (2, [2, 3, 7, 8, 9]), (1, [5, 6]), (0, [0, 1, 4])]
theorem c_r01_Both : compFn Try.prog [2, 3] (fun i => (fg_r01_Both.lookup i).getD []) Try.f24 = some t_r01_Both.fn := by kernel_rfl
def fg_r01_times : List (Nat × List Nat) := [(5, [5, 7, 9, 10, 11, 35, 36, 37, 38, 39, 40, 41, 42, 43, 44, 45, 46, 47, 48, 49]), (4, [6, 26, 27, 28, 29, 30, 31, 32, 33, 34]), (3, [8, 20, 21, 22, 23, 24, 25]), (2, [1, 16, 17, 18, 19]), (1, [0, 12, 13, 14, 15])]
theorem c_r01_times : compFn Try.prog [4] (fun i => (fg_r01_times.lookup i).getD []) Try.f49 = some t_r01_times.fn := by kernel_rfl
def fg_r01_less : List (Nat × List Nat) := [(1, [2, 3, 5, 6, 7, 8, 9, 10, 11, 12, 13, 14, 15, 16, 17, 18, 19, 20, 21, 22, 23]), (0, [0, 1, 4])]
theorem c_r01_less : compFn Try.prog [2, 3] (fun i => (fg_r01_less.lookup i).getD []) Try.f50 = some t_r01_less.fn := by kernel_rfl
def fg_r01_Less : List (Nat × List Nat) := [(6, [5, 6, 33, 37, 38, 39]), (5, [5, 6, 33, 34, 35, 36]), (4, [2, 31, 32]), (3, [3, 13, 17, 18, 19, 20, 21, 22, 23, 24, 25, 26, 27, 28, 29, 30]), (2, [2, 3, 13, 14, 15, 16]), (1, [7, 8, 9, 10, 11, 12]), (0, [0, 1, 4])]
theorem c_r01_Less : compFn Try.prog [2, 3, 5, 6] (fun i => (fg_r01_Less.lookup i).getD []) Try.f21 = some t_r01_Less.fn := by kernel_rfl
def fg_r03_Valid : List (Nat × List Nat) := [(1, [1, 3, 4, 5, 6, 7, 8, 9, 10, 11, 12, 13, 14, 15]), (0, [0, 2])]
theorem c_r03_Valid : compFn Try.prog [1] (fun i => (fg_r03_Valid.lookup i).getD []) Try.f54 = some t_r03_Valid.fn := by kernel_rfl
def fg_r03_Check : List (Nat × List Nat) := [(8, [0, 3, 10]), (5, [11, 12, 37]), (7, [0, 3, 37]), (6, [10, 13, 14, 15, 16, 17, 18, 19, 20, 21, 22, 23, 24, 25, 26, 27, 28, 29, 30, 31, 32, 33, 34, 35, 36]), (4, [7, 8, 9]), (3, [6]), (2, [0, 6]), (1, [4, 5]), (0, [2])]
theorem c_r03_Check : compFn Try.prog [] (fun i => (fg_r03_Check.lookup i).getD []) Try.f23 = some t_r03_Check.fn := by kernel_rfl
def fg_l03_valid : List (Nat × List Nat) := [(1, [0, 3, 4, 5, 6, 7, 8, 9, 10]), (0, [2])]
theorem c_l03_valid : compFn Try.prog [] (fun i => (fg_l03_valid.lookup i).getD []) Try.f17 = some t_l03_valid.fn := by kernel_rfl
def fg_r02_Great : List (Nat × List Nat) := [(1, [1, 3, 4, 5, 6, 7, 8, 9, 10, 11, 12]), (0, [0, 2])]
theorem c_r02_Great : compFn Try.prog [1] (fun i => (fg_r02_Great.lookup i).getD []) Try.f31 = some t_r02_Great.fn := by kernel_rfl
def fg_l03_of : List (Nat × List Nat) := [(1, [0, 1, 5, 6, 7, 8, 9])]
theorem c_l03_of : compFn Try.prog [4] (fun i => (fg_l03_of.lookup i).getD []) Try.f26 = some t_l03_of.fn := by kernel_rfl
def fg_ratio_size : List (Nat × List Nat) := [(3, [0, 4, 8, 9]), (2, [0, 4, 5, 6, 7]), (1, [3]), (0, [2])]
theorem c_ratio_size : compFn Try.prog [] (fun i => (fg_ratio_size.lookup i).getD []) Try.f70 = some t_ratio_size.fn := by kernel_rfl
def fg_ratio_gcd : List (Nat × List Nat) := [(3, [0, 1, 6, 11]), (2, [6, 7, 8, 9, 10]), (1, [5]), (0, [4])]
theorem c_ratio_gcd : compFn Try.prog [] (fun i => (fg_ratio_gcd.lookup i).getD []) Try.f71 = some t_ratio_gcd.fn := by kernel_rfl
def fg_ratio_Check : List (Nat × List Nat) := [(3, [25]), (2, [25]), (1, [1, 3, 4, 5, 6, 7, 8, 9, 10, 11, 12, 13, 14, 15, 16, 17, 18, 19, 20, 21, 22, 23, 24]), (0, [0, 2])]
theorem c_ratio_Check : compFn Try.prog [1] (fun i => (fg_ratio_Check.lookup i).getD []) Try.f51 = some t_ratio_Check.fn := by kernel_rfl
def fg_cmp_Or_api_Errno : List (Nat × List Nat) := [(8, [3, 6, 7, 8, 9, 17]), (7, [5, 14, 16]), (6, [3, 5, 6, 7, 8, 14, 15]), (5, [12, 13]), (4, [9, 10, 11]), (2, [0]), (0, [2])]
theorem c_cmp_Or_api_Errno : compFn Try.prog [] (fun i => (fg_cmp_Or_api_Errno.lookup i).getD []) Try.f94 = some t_cmp_Or_api_Errno.fn := by kernel_rfl
def fg_ratio_check : List (Nat × List Nat) := [(1, [2, 3, 5, 6, 7, 8, 9, 10]), (0, [0, 1, 4])]
theorem c_ratio_check : compFn Try.prog [9, 2, 3] (fun i => (fg_ratio_check.lookup i).getD []) Try.f79 = some t_ratio_check.fn := by kernel_rfl
def fg_cmp_isNaN_int64 : List (Nat × List Nat) := [(1, [0, 3, 4, 5]), (0, [2])]
theorem c_cmp_isNaN_int64 : compFn Try.prog [] (fun i => (fg_cmp_isNaN_int64.lookup i).getD []) Try.f107 = some t_cmp_isNaN_int64.fn := by kernel_rfl
def fg_cmp_Compare_int64 : List (Nat × List Nat) := [(13, [19]), (12, [19]), (11, [0, 1, 16, 17, 18]), (10, [0, 1, 16]), (9, [13, 14, 15]), (8, [0, 1, 13]), (7, [6, 11]), (6, [12]), (5, [12]), (4, [0, 1, 6, 11]), (3, [5]), (2, [9, 10]), (1, [7, 8]), (0, [4])]
theorem c_cmp_Compare_int64 : compFn Try.prog [] (fun i => (fg_cmp_Compare_int64.lookup i).getD []) Try.f91 = some t_cmp_Compare_int64.fn := by kernel_rfl
def fg_m_Mul64 : List (Nat × List Nat) := [(11, [0, 1, 48, 49, 50]), (10, [7, 9, 12, 13, 40, 41, 42, 43, 44, 45, 46, 47]), (9, [6, 35, 36, 37, 38, 39]), (8, [11, 33, 34]), (7, [31, 32]), (6, [8, 10, 25, 26, 27, 28, 29, 30]), (5, [22, 23, 24]), (4, [20, 21]), (3, [18, 19]), (2, [16, 17]), (1, [14, 15]), (0, [4, 5])]
theorem c_m_Mul64 : compFn Try.prog [] (fun i => (fg_m_Mul64.lookup i).getD []) Try.f80 = some t_m_Mul64.fn := by kernel_rfl
def fg_cmp_isNaN_uint64 : List (Nat × List Nat) := [(1, [0, 3, 4, 5]), (0, [2])]
theorem c_cmp_isNaN_uint64 : compFn Try.prog [] (fun i => (fg_cmp_isNaN_uint64.lookup i).getD []) Try.f108 = some t_cmp_isNaN_uint64.fn := by kernel_rfl
def fg_cmp_Compare_uint64 : List (Nat × List Nat) := [(13, [19]), (12, [19]), (11, [0, 1, 16, 17, 18]), (10, [0, 1, 16]), (9, [13, 14, 15]), (8, [0, 1, 13]), (7, [6, 11]), (6, [12]), (5, [12]), (4, [0, 1, 6, 11]), (3, [5]), (2, [9, 10]), (1, [7, 8]), (0, [4])]
theorem c_cmp_Compare_uint64 : compFn Try.prog [] (fun i => (fg_cmp_Compare_uint64.lookup i).getD []) Try.f93 = some t_cmp_Compare_uint64.fn := by kernel_rfl
def fg_cmp_Or_int : List (Nat × List Nat) := [(8, [3, 6, 7, 8, 9, 17]), (7, [5, 14, 16]), (6, [3, 5, 6, 7, 8, 14, 15]), (5, [12, 13]), (4, [9, 10, 11]), (2, [0]), (0, [2])]
theorem c_cmp_Or_int : compFn Try.prog [] (fun i => (fg_cmp_Or_int.lookup i).getD []) Try.f92 = some t_cmp_Or_int.fn := by kernel_rfl
def fg_ratio_Cmp : List (Nat × List Nat) := [(11, [11, 60, 63]), (10, [60, 61, 62]), (9, [2, 58, 59]), (8, [7, 8, 9, 10, 50, 51, 52, 53, 54, 55, 56, 57]), (7, [3, 40, 41, 42, 43, 44, 45, 46, 47, 48, 49]), (6, [24, 30, 31, 32, 33, 34, 35, 36, 37, 38, 39]), (5, [2, 3, 24, 25, 26, 27, 28, 29]), (4, [6, 16, 18, 19, 20, 21, 22, 23]), (3, [2, 3, 6, 16, 17]), (2, [15]), (1, [12, 13, 14]), (0, [0, 1, 4, 5])]
theorem c_ratio_Cmp : compFn Try.prog [56, 2, 3] (fun i => (fg_ratio_Cmp.lookup i).getD []) Try.f69 = some t_ratio_Cmp.fn := by kernel_rfl
def fg_piece_valid : List (Nat × List Nat) := [(2, [3, 4, 13, 14, 15, 16, 17, 18]), (1, [1, 5, 6, 7, 8, 9, 10, 11, 12]), (0, [0, 2])]
theorem c_piece_valid : compFn Try.prog [1] (fun i => (fg_piece_valid.lookup i).getD []) Try.f44 = some t_piece_valid.fn := by kernel_rfl
def fg_piece_all : List (Nat × List Nat) := [(9, [8, 9, 10, 11]), (8, [16, 17]), (7, [8, 9, 10, 16]), (6, [4, 14, 15]), (5, [11, 12, 13]), (3, [0, 7]), (2, [0, 7]), (1, [5, 6]), (0, [2])]
theorem c_piece_all : compFn Try.prog [4] (fun i => (fg_piece_all.lookup i).getD []) Try.f46 = some t_piece_all.fn := by kernel_rfl
def fg_s_Clone_api_Span_api_Span : List (Nat × List Nat) := [(3, [0, 4, 5, 6, 7]), (2, [0, 4]), (1, [3]), (0, [2])]
theorem c_s_Clone_api_Span_api_Span : compFn Try.prog [] (fun i => (fg_s_Clone_api_Span_api_Span.lookup i).getD []) Try.f63 = some t_s_Clone_api_Span_api_Span.fn := by kernel_rfl
def fg_m_Len32 : List (Nat × List Nat) := [(7, [0, 8, 13, 14, 15, 16, 17, 18]), (6, [11, 12]), (5, [8, 9, 10]), (4, [4, 7]), (2, [2, 4, 5, 6]), (1, [3])]
theorem c_m_Len32 : compFn Try.prog [] (fun i => (fg_m_Len32.lookup i).getD []) Try.f104 = some t_m_Len32.fn := by kernel_rfl
def fg_m_Len64 : List (Nat × List Nat) := [(10, [0, 14, 19, 20, 21, 22, 23, 24]), (9, [17, 18]), (8, [14, 15, 16]), (7, [8, 13]), (6, [11, 12]), (5, [8, 9, 10]), (4, [4, 7]), (2, [2, 4, 5, 6]), (1, [3])]
theorem c_m_Len64 : compFn Try.prog [] (fun i => (fg_m_Len64.lookup i).getD []) Try.f105 = some t_m_Len64.fn := by kernel_rfl
def fg_m_Len : List (Nat × List Nat) := [(2, [0, 6, 7]), (1, [0, 3, 4, 5]), (0, [2])]
theorem c_m_Len : compFn Try.prog [] (fun i => (fg_m_Len.lookup i).getD []) Try.f88 = some t_m_Len.fn := by kernel_rfl
def fg_slices_insertionSortCmpFunc_api_Span : List (Nat × List Nat) := [(2, [9, 15, 16, 34]), (5, [35, 36]), (6, [34, 37, 38, 39, 40, 41, 42, 43, 44, 45, 46, 47, 48, 49, 50, 51, 52]), (4, [18, 19, 20, 21, 22, 23, 24, 25, 26, 27, 28, 29, 30, 31, 32, 33]), (3, [14, 17]), (1, [12, 13]), (0, [10, 11])]
theorem c_slices_insertionSortCmpFunc_api_Span : compFn Try.prog [] (fun i => (fg_slices_insertionSortCmpFunc_api_Span.lookup i).getD []) Try.f96 = some t_slices_insertionSortCmpFunc_api_Span.fn := by kernel_rfl
def fg_slices_pdqsortCmpFunc_api_Span : List (Nat × List Nat) := [(30, [16, 147]), (29, [2, 140, 141, 142, 143, 144, 145, 146]), (28, [18, 19, 20, 125, 137, 138, 139]), (27, [16, 135, 136]), (26, [1, 129, 130, 131, 132, 133, 134]), (25, [18, 19, 20, 125, 126, 127, 128]), (24, [123, 124]), (23, [12, 121, 122]), (22, [115, 116, 117, 118, 119, 120]), (21, [17, 114]), (20, [10, 11, 13, 97, 105, 106, 107, 108, 109, 110, 111, 112, 113]), (19, [15, 104]), (18, [1, 12, 13, 97, 98, 99, 100, 101, 102, 103]), (17, [75, 80, 81, 82, 83, 84, 85, 86, 87, 88, 89, 90, 91, 92, 93, 94, 95, 96]), (16, [75, 76, 77, 78, 79]), (15, [14, 56, 68, 69, 70, 71, 72, 73, 74]), (13, [62, 63, 64, 65, 66, 67]), (12, [14, 56, 57, 58, 59, 60, 61]), (11, [55]), (10, [39, 47, 48, 49, 50, 51, 52, 53, 54]), (9, [45, 46]), (8, [39, 40, 41, 42, 43, 44]), (7, [32, 38]), (6, [0, 1, 2, 3, 4, 10, 11, 12, 32, 33, 34, 35, 36, 37]), (5, [25, 31]), (4, [0, 1, 2, 3, 4, 10, 11, 12, 25, 26, 27, 28, 29, 30]), (3, [24]), (2, [21, 22, 23])]
theorem c_slices_pdqsortCmpFunc_api_Span : compFn Try.prog [] (fun i => (fg_slices_pdqsortCmpFunc_api_Span.lookup i).getD []) Try.f87 = some t_slices_pdqsortCmpFunc_api_Span.fn := by kernel_rfl
def fg_s_SortFunc_api_Span_api_Span : List (Nat × List Nat) := [(1, [0, 1, 4, 7, 8, 9, 10, 11, 12, 13]), (0, [5, 6])]
theorem c_s_SortFunc_api_Span_api_Span : compFn Try.prog [] (fun i => (fg_s_SortFunc_api_Span_api_Span.lookup i).getD []) Try.f64 = some t_s_SortFunc_api_Span_api_Span.fn := by kernel_rfl
def fg_piece_order : List (Nat × List Nat) := [(2, [5, 13]), (1, [2, 3, 6, 7, 8, 9, 10, 11, 12]), (0, [0, 1, 4])]
theorem c_piece_order : compFn Try.prog [2, 3] (fun i => (fg_piece_order.lookup i).getD []) Try.f45 = some t_piece_order.fn := by kernel_rfl
def fg_piece_merged_1 : List (Nat × List Nat) := [(1, [2, 3, 5, 6, 7, 8, 9]), (0, [0, 1, 4])]
theorem c_piece_merged_1 : compFn Try.prog [2, 3] (fun i => (fg_piece_merged_1.lookup i).getD []) Try.f65 = some t_piece_merged_1.fn := by kernel_rfl
def fg_piece_merged : List (Nat × List Nat) := [(13, [3, 11, 12, 13, 14, 55]), (12, [5, 6, 42, 54]), (11, [5, 6, 32, 50, 51, 52, 53]), (10, [5, 6, 42, 43, 44, 45, 46, 47, 48, 49]), (9, [32, 33, 34, 35, 36, 37, 38, 39, 40, 41]), (8, [19, 20, 21, 22, 23, 24, 25, 26, 27, 28, 29, 30, 31]), (7, [17, 18]), (6, [14, 15, 16]), (4, [0]), (2, [9, 10]), (1, [7, 8]), (0, [2])]
theorem c_piece_merged : compFn Try.prog [52, 5] (fun i => (fg_piece_merged.lookup i).getD []) Try.f39 = some t_piece_merged.fn := by kernel_rfl
def fg_piece_Make : List (Nat × List Nat) := [(4, [0, 4, 8, 10, 11]), (3, [0, 4, 8, 9]), (2, [7]), (1, [5, 6]), (0, [2, 3])]
theorem c_piece_Make : compFn Try.prog [] (fun i => (fg_piece_Make.lookup i).getD []) Try.f19 = some t_piece_Make.fn := by kernel_rfl
def fg_piece_Check : List (Nat × List Nat) := [(9, [0, 4, 13]), (6, [14, 15, 28]), (8, [0, 4, 28]), (7, [13, 16, 17, 18, 19, 20, 21, 22, 23, 24, 25, 26, 27]), (5, [10, 11, 12]), (4, [3, 8]), (3, [0, 3, 8, 9]), (2, [7]), (1, [5, 6]), (0, [2])]
theorem c_piece_Check : compFn Try.prog [] (fun i => (fg_piece_Check.lookup i).getD []) Try.f30 = some t_piece_Check.fn := by kernel_rfl
def fg_piece_Has_1 : List (Nat × List Nat) := [(1, [1, 2, 4, 5, 6, 7, 8, 9, 10, 11, 12, 13, 14, 15]), (0, [0, 3])]
theorem c_piece_Has_1 : compFn Try.prog [2] (fun i => (fg_piece_Has_1.lookup i).getD []) Try.f53 = some t_piece_Has_1.fn := by kernel_rfl
def fg_s_IndexFunc_api_Span_api_Span : List (Nat × List Nat) := [(7, [0, 1, 7, 8, 9]), (6, [5, 16, 18]), (5, [0, 1, 5, 7, 8, 16, 17]), (4, [11, 12, 13, 14, 15]), (3, [9, 10]), (1, [6]), (0, [4])]
theorem c_s_IndexFunc_api_Span_api_Span : compFn Try.prog [] (fun i => (fg_s_IndexFunc_api_Span_api_Span.lookup i).getD []) Try.f72 = some t_s_IndexFunc_api_Span_api_Span.fn := by kernel_rfl
def fg_s_ContainsFunc_api_Span_api_Span : List (Nat × List Nat) := [(1, [0, 1, 5, 6, 7, 8]), (0, [4])]
theorem c_s_ContainsFunc_api_Span_api_Span : compFn Try.prog [] (fun i => (fg_s_ContainsFunc_api_Span_api_Span.lookup i).getD []) Try.f52 = some t_s_ContainsFunc_api_Span_api_Span.fn := by kernel_rfl
def fg_piece_Has : List (Nat × List Nat) := [(6, [0, 3, 14, 15, 16, 17]), (5, [0, 3, 14]), (4, [6, 10, 12, 13]), (3, [0, 3, 6, 10, 11]), (2, [9]), (1, [7, 8]), (0, [1, 4, 5])]
theorem c_piece_Has : compFn Try.prog [] (fun i => (fg_piece_Has.lookup i).getD []) Try.f22 = some t_piece_Has.fn := by kernel_rfl
def fg_piece_both : List (Nat × List Nat) := [(4, [1, 5, 9, 11, 12]), (3, [1, 5, 9, 10]), (2, [8]), (1, [0, 6, 7]), (0, [4])]
theorem c_piece_both : compFn Try.prog [] (fun i => (fg_piece_both.lookup i).getD []) Try.f37 = some t_piece_both.fn := by kernel_rfl
def fg_piece_few : List (Nat × List Nat) := [(3, [0, 6, 7]), (2, [0, 6]), (1, [4, 5]), (0, [2, 3])]
theorem c_piece_few : compFn Try.prog [] (fun i => (fg_piece_few.lookup i).getD []) Try.f38 = some t_piece_few.fn := by kernel_rfl
def fg_piece_Minus : List (Nat × List Nat) := [(20, [1, 7, 19, 20, 21, 22, 74, 75, 76, 77]), (19, [9, 10, 65, 73]), (18, [9, 10, 65, 66, 67, 68, 69, 70, 71, 72]), (17, [27, 28, 29, 30, 61, 62, 63, 64]), (16, [12, 45, 60]), (15, [12, 50, 58, 59]), (14, [50, 51, 52, 53, 54, 55, 56, 57]), (13, [45, 46, 47, 48, 49]), (12, [33, 34, 35, 36, 37, 38, 39, 40, 41, 42, 43, 44]), (11, [30, 31, 32]), (8, [25, 26]), (7, [22, 23, 24]), (5, [0]), (4, [6, 17]), (3, [0, 1, 6, 17, 18]), (2, [16]), (1, [13, 14, 15]), (0, [4, 5])]
theorem c_piece_Minus : compFn Try.prog [56, 71, 9, 10, 12] (fun i => (fg_piece_Minus.lookup i).getD []) Try.f14 = some t_piece_Minus.fn := by kernel_rfl
def fg_m_LeadingZeros64 : List (Nat × List Nat) := [(1, [0, 3, 4, 5]), (0, [2])]
theorem c_m_LeadingZeros64 : compFn Try.prog [] (fun i => (fg_m_LeadingZeros64.lookup i).getD []) Try.f95 = some t_m_LeadingZeros64.fn := by kernel_rfl
def fg_m_Div64 : List (Nat × List Nat) := [(28, [2, 8, 9, 10, 14, 15, 16, 17, 18, 113, 120, 121, 122, 123, 124, 125, 126, 127, 128, 129, 130, 131, 132, 133, 134]), (27, [119]), (26, [116, 117, 118]), (25, [113, 114, 115]), (24, [102, 103, 104, 105, 106, 107, 108, 109, 110, 111, 112, 120]), (23, [97, 98, 99, 100, 101]), (22, [94, 95, 96]), (21, [11, 13, 16, 78, 85, 86, 87, 88, 89, 90, 91, 92, 93]), (20, [84]), (19, [81, 82, 83]), (18, [78, 79, 80]), (17, [67, 68, 69, 70, 71, 72, 73, 74, 75, 76, 77, 85]), (16, [62, 63, 64, 65, 66]), (15, [59, 60, 61]), (14, [12, 57, 58]), (13, [55, 56]), (12, [1, 52, 53, 54]), (11, [0, 44, 45, 46, 47, 48, 49, 50, 51]), (10, [42, 43]), (9, [40, 41]), (8, [37, 38, 39]), (7, [27, 34, 35, 36]), (6, [0, 1, 2, 27, 28, 29, 30, 31, 32, 33]), (5, [24, 26]), (4, [24, 25]), (3, [20, 22, 23]), (2, [20, 21]), (1, [19]), (0, [6, 7])]
theorem c_m_Div64 : compFn Try.prog [] (fun i => (fg_m_Div64.lookup i).getD []) Try.f84 = some t_m_Div64.fn := by kernel_rfl
def fg_m_Rem64 : List (Nat × List Nat) := [(2, [8, 18]), (1, [0, 1, 2, 7, 9, 10, 11, 12, 13, 14, 15, 16, 17]), (0, [6])]
theorem c_m_Rem64 : compFn Try.prog [] (fun i => (fg_m_Rem64.lookup i).getD []) Try.f83 = some t_m_Rem64.fn := by kernel_rfl
def fg_ratio_signed : List (Nat × List Nat) := [(5, [1, 2, 13, 20, 21, 22, 23, 24]), (4, [1, 2, 13, 14, 15, 16, 17, 18, 19]), (3, [0, 11]), (2, [0, 1, 2, 11, 12]), (1, [8, 9, 10]), (0, [7])]
theorem c_ratio_signed : compFn Try.prog [6] (fun i => (fg_ratio_signed.lookup i).getD []) Try.f85 = some t_ratio_signed.fn := by kernel_rfl
def fg_ratio_Add : List (Nat × List Nat) := [(26, [12, 17, 20, 153, 155, 156, 157, 158, 159, 160]), (25, [12, 17, 20, 153, 154]), (24, [19, 152]), (23, [2, 3, 7, 16, 138, 139, 140, 141, 142, 143, 144, 145, 146, 147, 148, 149, 150, 151]), (22, [13, 14, 18, 129, 131, 132, 133, 134, 135, 136, 137]), (21, [2, 3, 7, 12, 13, 14, 16, 129, 130]), (20, [127, 128]), (19, [119, 121, 122, 123, 124, 125, 126]), (18, [2, 3, 7, 12, 13, 14, 119, 120]), (17, [114, 115, 116, 117, 118]), (16, [8, 10, 15, 107, 108, 109, 110, 111, 112, 113]), (15, [9, 11, 94, 101, 102, 103, 104, 105, 106]), (14, [99, 100]), (13, [94, 95, 96, 97, 98]), (12, [68, 82, 83, 84, 85, 86, 87, 88, 89, 90, 91, 92, 93]), (11, [8, 10, 15, 75, 76, 77, 78, 79, 80, 81]), (10, [9, 11, 68, 69, 70, 71, 72, 73, 74]), (9, [62, 63, 64, 65, 66, 67]), (8, [13, 14, 15]), (7, [59, 60, 61]), (6, [47, 48, 49, 50, 51, 52, 53, 54, 55, 56, 57, 58]), (5, [35, 36, 37, 38, 39, 40, 41, 42, 43, 44, 45, 46]), (4, [6, 25, 28, 29, 30, 31, 32, 33, 34]), (3, [2, 3, 6, 25, 26, 27]), (2, [24]), (1, [21, 22, 23]), (0, [0, 1, 5])]
theorem c_ratio_Add : compFn Try.prog [2, 3, 4] (fun i => (fg_ratio_Add.lookup i).getD []) Try.f61 = some t_ratio_Add.fn := by kernel_rfl
def fg_piece_sum : List (Nat × List Nat) := [(12, [1, 6, 12, 13, 14, 15, 39]), (11, [10, 35, 38]), (10, [1, 6, 10, 12, 13, 14, 35, 36, 37]), (9, [34]), (8, [9, 25, 28, 29, 30, 31, 32, 33]), (7, [1, 6, 9, 10, 12, 13, 14, 25, 26, 27]), (6, [24]), (5, [8, 18, 19, 20, 21, 22, 23]), (4, [15, 16, 17]), (2, [0]), (1, [11]), (0, [5])]
theorem c_piece_sum : compFn Try.prog [4, 6, 8, 9] (fun i => (fg_piece_sum.lookup i).getD []) Try.f56 = some t_piece_sum.fn := by kernel_rfl
def fg_ratio_Sub : List (Nat × List Nat) := [(5, [2, 3, 18, 19, 20, 21, 22]), (4, [6, 11, 14, 15, 16, 17]), (3, [2, 3, 6, 11, 12, 13]), (2, [10]), (1, [7, 8, 9]), (0, [0, 1, 5])]
theorem c_ratio_Sub : compFn Try.prog [2, 3, 4] (fun i => (fg_ratio_Sub.lookup i).getD []) Try.f60 = some t_ratio_Sub.fn := by kernel_rfl
def fg_piece_Length_1 : List (Nat × List Nat) := [(1, [1, 4, 5, 6, 7, 8, 9, 10]), (0, [0, 3])]
theorem c_piece_Length_1 : compFn Try.prog [1, 2] (fun i => (fg_piece_Length_1.lookup i).getD []) Try.f59 = some t_piece_Length_1.fn := by kernel_rfl
def fg_piece_Length : List (Nat × List Nat) := [(4, [0, 4, 8, 11, 12, 13, 14]), (3, [0, 4, 8, 9, 10]), (2, [7]), (1, [5, 6]), (0, [3])]
theorem c_piece_Length : compFn Try.prog [2] (fun i => (fg_piece_Length.lookup i).getD []) Try.f29 = some t_piece_Length.fn := by kernel_rfl
def fg_piece_sooner : List (Nat × List Nat) := [(3, [2, 3, 8, 10]), (2, [2, 3, 8, 9]), (1, [5, 6, 7]), (0, [0, 1])]
theorem c_piece_sooner : compFn Try.prog [2, 3, 4] (fun i => (fg_piece_sooner.lookup i).getD []) Try.f43 = some t_piece_sooner.fn := by kernel_rfl
def fg_piece_later : List (Nat × List Nat) := [(3, [2, 3, 8, 10]), (2, [2, 3, 8, 9]), (1, [5, 6, 7]), (0, [0, 1])]
theorem c_piece_later : compFn Try.prog [2, 3, 4] (fun i => (fg_piece_later.lookup i).getD []) Try.f42 = some t_piece_later.fn := by kernel_rfl
def fg_piece_Cut : List (Nat × List Nat) := [(16, [3, 20, 21, 22, 23, 53, 54]), (15, [11, 47, 52]), (14, [11, 47, 48, 49, 50, 51]), (13, [46]), (12, [9, 10, 34, 39, 40, 41, 42, 43, 44, 45]), (11, [10, 34, 35, 36, 37, 38]), (10, [33]), (9, [26, 27, 28, 29, 30, 31, 32]), (8, [23, 24, 25]), (6, [0, 19]), (5, [0, 3, 19]), (4, [7, 15, 17, 18]), (3, [0, 3, 7, 15, 16]), (2, [14]), (1, [12, 13]), (0, [1, 6])]
theorem c_piece_Cut : compFn Try.prog [37, 50, 3, 9, 10, 11] (fun i => (fg_piece_Cut.lookup i).getD []) Try.f25 = some t_piece_Cut.fn := by kernel_rfl
def fg_r03_Same : List (Nat × List Nat) := [(8, [0, 1, 5, 14]), (5, [15, 16, 25]), (7, [0, 1, 5, 25]), (6, [14, 17, 18, 19, 20, 21, 22, 23, 24]), (4, [11, 12, 13]), (3, [10]), (2, [0, 1, 10]), (1, [6, 7, 8, 9]), (0, [4])]
theorem c_r03_Same : compFn Try.prog [] (fun i => (fg_r03_Same.lookup i).getD []) Try.f16 = some t_r03_Same.fn := by kernel_rfl
def fg_l03_is : List (Nat × List Nat) := [(1, [0, 1, 2, 7, 8, 9, 10, 11, 12, 13]), (0, [6])]
theorem c_l03_is : compFn Try.prog [] (fun i => (fg_l03_is.lookup i).getD []) Try.f28 = some t_l03_is.fn := by kernel_rfl
def fg_l03_alive : List (Nat × List Nat) := [(7, [1, 2, 3, 4, 5, 6, 7, 8, 9, 10, 11, 12, 13, 56, 57, 58, 59, 60, 61, 62, 63, 64, 65, 66, 67, 68, 69, 70, 71, 72, 73, 74, 75, 76, 77, 78, 79, 80, 81, 82, 83, 84, 85, 86, 87, 88, 89, 90, 91, 92, 93, 94, 95, 96, 97, 98, 99, 100, 101, 102, 103, 104, 105, 106, 107]), (6, [48, 49, 50, 51, 52, 53, 54, 55]), (5, [43, 44, 45, 46, 47]), (4, [36, 37, 38, 39, 40, 41, 42]), (3, [29, 30, 31, 32, 33, 34, 35]), (2, [22, 23, 24, 25, 26, 27, 28]), (1, [14, 15, 16, 17, 18, 19, 20, 21]), (0, [0])]
theorem c_l03_alive : compFn Try.prog [18, 39, 59, 81, 98, 105, 9] (fun i => (fg_l03_alive.lookup i).getD []) Try.f18 = some t_l03_alive.fn := by kernel_rfl
def fg_s_Grow_api_Span_api_Span : List (Nat × List Nat) := [(6, [0, 1, 16, 26]), (5, [1, 16, 17, 18, 19, 20, 21, 22, 23, 24, 25]), (4, [15]), (3, [6, 8, 9, 10, 11, 12, 13, 14]), (2, [6, 7]), (1, [5]), (0, [4])]
theorem c_s_Grow_api_Span_api_Span : compFn Try.prog [] (fun i => (fg_s_Grow_api_Span_api_Span.lookup i).getD []) Try.f66 = some t_s_Grow_api_Span_api_Span.fn := by kernel_rfl
def fg_s_Concat_api_Span_api_Span : List (Nat × List Nat) := [(15, [6, 25, 26, 27, 28, 35]), (14, [34]), (13, [8, 31, 32, 33]), (12, [28, 29, 30]), (10, [0]), (9, [3, 9, 10, 11, 12, 23, 24]), (8, [20, 22]), (7, [20, 21]), (6, [19]), (5, [5, 15, 16, 17, 18]), (4, [12, 13, 14]), (0, [2])]
theorem c_s_Concat_api_Span_api_Span : compFn Try.prog [] (fun i => (fg_s_Concat_api_Span_api_Span.lookup i).getD []) Try.f40 = some t_s_Concat_api_Span_api_Span.fn := by kernel_rfl
def fg_piece_Union : List (Nat × List Nat) := [(4, [0, 1, 6, 11, 13, 14, 15, 16, 17, 18, 19, 20]), (3, [0, 1, 6, 11, 12]), (2, [10]), (1, [7, 8, 9]), (0, [4, 5])]
theorem c_piece_Union : compFn Try.prog [15] (fun i => (fg_piece_Union.lookup i).getD []) Try.f10 = some t_piece_Union.fn := by kernel_rfl
def fg_piece_Meet : List (Nat × List Nat) := [(13, [0, 1, 7, 8, 9, 26, 72, 73, 74, 75]), (12, [67, 70, 71]), (11, [67, 68, 69]), (10, [10, 51, 56, 57, 58, 59, 60, 61, 62, 63, 64, 65, 66]), (9, [10, 51, 52, 53, 54, 55]), (8, [50]), (7, [26, 27, 28, 29, 30, 31, 32, 33, 34, 35, 36, 37, 38, 39, 40, 41, 42, 43, 44, 45, 46, 47, 48, 49]), (6, [17, 18, 19, 20, 21, 22, 23, 24, 25]), (4, [6, 15]), (3, [0, 1, 6, 15, 16]), (2, [14]), (1, [11, 12, 13]), (0, [4, 5])]
theorem c_piece_Meet : compFn Try.prog [54, 10] (fun i => (fg_piece_Meet.lookup i).getD []) Try.f12 = some t_piece_Meet.fn := by kernel_rfl
def fg_l03_lengths : List (Nat × List Nat) := [(5, [10, 11, 12, 13, 14, 15, 16, 17, 38, 39, 40, 41, 42, 43, 44, 45, 46, 47, 48, 49, 50, 51, 52, 53, 54, 55, 56]), (4, [3, 33, 34, 35, 36, 37]), (3, [2, 28, 29, 30, 31, 32]), (2, [1, 23, 24, 25, 26, 27]), (1, [0, 18, 19, 20, 21, 22]), (0, [9])]
theorem c_l03_lengths : compFn Try.prog [8, 10, 12, 14, 16] (fun i => (fg_l03_lengths.lookup i).getD []) Try.f33 = some t_l03_lengths.fn := by kernel_rfl
def fg_l03_adds : List (Nat × List Nat) := [(5, [5, 6, 7, 8, 27, 28, 29, 30, 31, 32, 33, 34, 35, 36, 37]), (4, [2, 19, 20, 21, 22, 23, 24, 25, 26]), (3, [10, 11, 12, 13, 14, 15, 16, 17, 18]), (2, [2, 10]), (1, [1, 9]), (0, [0, 4])]
theorem c_l03_adds : compFn Try.prog [2, 5, 7] (fun i => (fg_l03_adds.lookup i).getD []) Try.f32 = some t_l03_adds.fn := by kernel_rfl
def fg_r02_Check : List (Nat × List Nat) := [(14, [98]), (13, [98]), (12, [1, 3, 4, 57, 97]), (8, [58, 59]), (11, [87, 88, 89, 90, 91, 92, 93, 94, 95, 96]), (10, [1, 3, 4, 87]), (9, [57, 60, 61, 62, 63, 64, 65, 66, 67, 68, 69, 70, 71, 72, 73, 74, 75, 76, 77, 78, 79, 80, 81, 82, 83, 84, 85, 86]), (7, [53, 54, 55, 56]), (5, [52]), (4, [1, 52]), (3, [13, 14, 15, 16, 17, 18, 19, 20, 21, 22, 23, 24, 25, 26, 27, 28, 29, 30, 31, 32, 33, 34, 35, 36, 37, 38, 39, 40, 41, 42, 43, 44, 45, 46, 47, 48, 49, 50, 51]), (2, [1, 13]), (1, [5, 6, 7, 8, 9, 10, 11, 12]), (0, [0, 2])]
theorem c_r02_Check : compFn Try.prog [1] (fun i => (fg_r02_Check.lookup i).getD []) Try.f34 = some t_r02_Check.fn := by kernel_rfl
def fg_r01_Of : List (Nat × List Nat) := [(1, [0, 3, 4])]
theorem c_r01_Of : compFn Try.prog [2] (fun i => (fg_r01_Of.lookup i).getD []) Try.f86 = some t_r01_Of.fn := by kernel_rfl
def fg_r02_Point : List (Nat × List Nat) := [(1, [0, 3, 5, 6, 7, 8, 9, 10, 11, 12, 13, 14, 15, 16, 17, 18, 19]), (0, [1, 4])]
theorem c_r02_Point : compFn Try.prog [3] (fun i => (fg_r02_Point.lookup i).getD []) Try.f62 = some t_r02_Point.fn := by kernel_rfl
def fg_r03_Within : List (Nat × List Nat) := [(6, [0, 1, 5, 9]), (3, [10, 11, 29]), (5, [0, 1, 5, 29]), (4, [9, 12, 13, 14, 15, 16, 17, 18, 19, 20, 21, 22, 23, 24, 25, 26, 27, 28]), (2, [6, 7, 8]), (0, [4])]
theorem c_r03_Within : compFn Try.prog [] (fun i => (fg_r03_Within.lookup i).getD []) Try.f35 = some t_r03_Within.fn := by kernel_rfl
def fg_s_Min_int_int : List (Nat × List Nat) := [(8, [0, 3, 4, 15, 24]), (6, [16, 17]), (7, [15, 18, 19, 20, 21, 22, 23]), (5, [12, 13, 14]), (3, [7, 9, 10, 11]), (2, [7, 8]), (1, [5, 6]), (0, [2])]
theorem c_s_Min_int_int : compFn Try.prog [] (fun i => (fg_s_Min_int_int.lookup i).getD []) Try.f73 = some t_s_Min_int_int.fn := by kernel_rfl
def fg_s_Max_int_int : List (Nat × List Nat) := [(8, [0, 3, 4, 15, 24]), (6, [16, 17]), (7, [15, 18, 19, 20, 21, 22, 23]), (5, [12, 13, 14]), (3, [7, 9, 10, 11]), (2, [7, 8]), (1, [5, 6]), (0, [2])]
theorem c_s_Max_int_int : compFn Try.prog [] (fun i => (fg_s_Max_int_int.lookup i).getD []) Try.f74 = some t_s_Max_int_int.fn := by kernel_rfl
def fg_cake_Check : List (Nat × List Nat) := [(14, [81]), (13, [81]), (12, [1, 49, 50, 51, 66, 67, 68, 69, 70, 71, 72, 73, 74, 75, 76, 77, 78, 79, 80]), (11, [64, 65]), (10, [1, 49, 50, 64]), (9, [4, 53, 54, 55, 56, 57, 58, 59, 60, 61, 62, 63]), (8, [51, 52]), (6, [3, 47, 48]), (5, [1, 3, 47]), (4, [14, 15, 16, 17, 18, 19, 20, 21, 22, 23, 24, 25, 26, 27, 28, 29, 30, 31, 32, 33, 34, 35, 36, 37, 38, 39, 40, 41, 42, 43, 44, 45, 46]), (3, [1, 3, 14]), (2, [8, 9, 10, 11, 12, 13]), (1, [5, 6, 7]), (0, [0, 2])]
theorem c_cake_Check : compFn Try.prog [1] (fun i => (fg_cake_Check.lookup i).getD []) Try.f55 = some t_cake_Check.fn := by kernel_rfl
def fg_cake_whole : List (Nat × List Nat) := [(1, [0, 3, 4])]
theorem c_cake_whole : compFn Try.prog [2] (fun i => (fg_cake_whole.lookup i).getD []) Try.f77 = some t_cake_whole.fn := by kernel_rfl
def fg_cake_less : List (Nat × List Nat) := [(2, [5, 13, 14]), (1, [2, 3, 6, 7, 8, 9, 10, 11, 12]), (0, [0, 1, 4])]
theorem c_cake_less : compFn Try.prog [2, 3] (fun i => (fg_cake_less.lookup i).getD []) Try.f76 = some t_cake_less.fn := by kernel_rfl
def fg_cake_point : List (Nat × List Nat) := [(1, [2, 3, 5, 6, 7, 8, 9, 10, 11, 12, 13, 14, 15, 16, 17, 18, 19, 20]), (0, [0, 1, 4])]
theorem c_cake_point : compFn Try.prog [2, 3] (fun i => (fg_cake_point.lookup i).getD []) Try.f75 = some t_cake_point.fn := by kernel_rfl
def fg_ratio_Mul : List (Nat × List Nat) := [(10, [2, 3, 14, 16, 65, 67, 68, 69, 70, 71, 72, 73, 74, 75, 76, 77, 78, 79, 80, 81, 82]), (9, [2, 3, 14, 16, 65, 66]), (8, [13, 15, 62, 63, 64]), (7, [8, 10, 11, 12, 52, 53, 54, 55, 56, 57, 58, 59, 60, 61]), (6, [7, 9, 42, 43, 44, 45, 46, 47, 48, 49, 50, 51]), (5, [36, 37, 38, 39, 40, 41]), (4, [6, 21, 24, 25, 26, 27, 28, 29, 30, 31, 32, 33, 34, 35]), (3, [2, 3, 6, 21, 22, 23]), (2, [20]), (1, [17, 18, 19]), (0, [0, 1, 5])]
theorem c_ratio_Mul : compFn Try.prog [2, 3, 4] (fun i => (fg_ratio_Mul.lookup i).getD []) Try.f78 = some t_ratio_Mul.fn := by kernel_rfl
def fg_cake_Value : List (Nat × List Nat) := [(28, [3, 5, 9, 10, 42, 43, 44, 45, 105]), (27, [13, 70, 104]), (26, [13, 15, 100, 103]), (25, [3, 5, 9, 10, 13, 15, 42, 43, 44, 100, 101, 102]), (24, [99]), (23, [16, 90, 93, 94, 95, 96, 97, 98]), (22, [3, 5, 9, 10, 13, 15, 16, 42, 43, 44, 90, 91, 92]), (21, [89]), (20, [12, 14, 79, 82, 83, 84, 85, 86, 87, 88]), (19, [3, 5, 9, 10, 12, 13, 14, 15, 42, 43, 44, 79, 80, 81]), (18, [78]), (17, [67, 72, 73, 74, 75, 76, 77]), (16, [13, 70, 71]), (15, [12, 67, 68, 69]), (14, [58, 60, 61, 62, 63, 64, 65, 66]), (13, [58, 59]), (12, [56, 57]), (11, [11, 49, 50, 51, 52, 53, 54, 55]), (10, [45, 46, 47, 48]), (8, [41]), (7, [4, 40]), (6, [37, 39]), (5, [3, 4, 5, 37, 38]), (4, [8, 20, 23, 24, 25, 26, 27, 28, 29, 30, 31, 32, 33, 34, 35, 36]), (3, [3, 4, 5, 8, 20, 21, 22]), (2, [19]), (1, [17, 18]), (0, [0, 1, 2, 7])]
theorem c_cake_Value : compFn Try.prog [3, 4, 5, 6, 9, 10, 13, 14, 16] (fun i => (fg_cake_Value.lookup i).getD []) Try.f58 = some t_cake_Value.fn := by kernel_rfl
def fg_piece_Worth_1 : List (Nat × List Nat) := [(1, [1, 2, 5, 6, 7, 8, 9, 10, 11, 12]), (0, [0, 4])]
theorem c_piece_Worth_1 : compFn Try.prog [2, 3] (fun i => (fg_piece_Worth_1.lookup i).getD []) Try.f57 = some t_piece_Worth_1.fn := by kernel_rfl
def fg_piece_Worth : List (Nat × List Nat) := [(10, [1, 2, 45, 47, 48, 49, 50, 51]), (9, [1, 2, 45, 46]), (8, [8, 23, 24, 25, 26, 27, 28, 29, 30, 31, 32, 33, 34, 35, 36, 37, 38, 39, 40, 41, 42, 43, 44]), (7, [7, 18, 21, 22]), (6, [1, 2, 7, 18, 19, 20]), (5, [17]), (4, [6, 12, 15, 16]), (3, [1, 2, 6, 12, 13, 14]), (2, [11]), (1, [9, 10]), (0, [0, 5])]
theorem c_piece_Worth : compFn Try.prog [4] (fun i => (fg_piece_Worth.lookup i).getD []) Try.f27 = some t_piece_Worth.fn := by kernel_rfl
def fg_l03_worths : List (Nat × List Nat) := [(5, [12, 13, 14, 15, 16, 17, 18, 19, 44, 45, 46, 47, 48, 49, 50, 51, 52, 53, 54, 55, 56, 57, 58, 59, 60, 61, 62]), (4, [4, 5, 38, 39, 40, 41, 42, 43]), (3, [3, 32, 33, 34, 35, 36, 37]), (2, [2, 26, 27, 28, 29, 30, 31]), (1, [1, 20, 21, 22, 23, 24, 25]), (0, [0, 11])]
theorem c_l03_worths : compFn Try.prog [5, 10, 12, 14, 16, 18] (fun i => (fg_l03_worths.lookup i).getD []) Try.f36 = some t_l03_worths.fn := by kernel_rfl
def fg_l03_PieceSums : List (Nat × List Nat) := [(11, [0, 1, 5, 7, 9, 67, 69, 70, 71, 72, 73, 74, 75, 76, 77, 78, 79, 80]), (10, [0, 1, 5, 7, 9, 67, 68]), (9, [50, 51, 52, 53, 54, 55, 56, 57, 58, 59, 60, 61, 62, 63, 64, 65, 66]), (8, [0, 1, 5, 7, 9, 50]), (7, [41, 42, 43, 44, 45, 46, 47, 48, 49]), (6, [0, 1, 5, 7, 9, 41]), (5, [8, 10, 36, 37, 38, 39, 40]), (4, [30, 31, 32, 33, 34, 35]), (3, [22, 24, 25, 26, 27, 28, 29]), (2, [0, 1, 5, 22, 23]), (1, [11, 12, 13, 14, 15, 16, 17, 18, 19, 20, 21]), (0, [2, 6])]
theorem c_l03_PieceSums : compFn Try.prog [5] (fun i => (fg_l03_PieceSums.lookup i).getD []) Try.f8 = some t_l03_PieceSums.fn := by kernel_rfl
theorem tabOk : AllOk Try.prog tab := by
  unfold tab
  simp only [AllOk]
  exact ⟨⟨Try.f9, _, _, Try.func9, c_r03_Great⟩, ⟨Try.f48, _, _, Try.func48, c_r01_abs⟩, ⟨Try.f47, _, _, Try.func47, c_r01_gcd⟩, ⟨Try.f20, _, _, Try.func20, c_r01_Check⟩, ⟨Try.f24, _, _, Try.func24, c_r01_Both⟩, ⟨Try.f49, _, _, Try.func49, c_r01_times⟩, ⟨Try.f50, _, _, Try.func50, c_r01_less⟩, ⟨Try.f21, _, _, Try.func21, c_r01_Less⟩, ⟨Try.f54, _, _, Try.func54, c_r03_Valid⟩, ⟨Try.f23, _, _, Try.func23, c_r03_Check⟩, ⟨Try.f17, _, _, Try.func17, c_l03_valid⟩, ⟨Try.f31, _, _, Try.func31, c_r02_Great⟩, ⟨Try.f26, _, _, Try.func26, c_l03_of⟩, ⟨Try.f70, _, _, Try.func70, c_ratio_size⟩, ⟨Try.f71, _, _, Try.func71, c_ratio_gcd⟩, ⟨Try.f51, _, _, Try.func51, c_ratio_Check⟩, ⟨Try.f94, _, _, Try.func94, c_cmp_Or_api_Errno⟩, ⟨Try.f79, _, _, Try.func79, c_ratio_check⟩, ⟨Try.f107, _, _, Try.func107, c_cmp_isNaN_int64⟩, ⟨Try.f91, _, _, Try.func91, c_cmp_Compare_int64⟩, ⟨Try.f80, _, _, Try.func80, c_m_Mul64⟩, ⟨Try.f108, _, _, Try.func108, c_cmp_isNaN_uint64⟩, ⟨Try.f93, _, _, Try.func93, c_cmp_Compare_uint64⟩, ⟨Try.f92, _, _, Try.func92, c_cmp_Or_int⟩, ⟨Try.f69, _, _, Try.func69, c_ratio_Cmp⟩, ⟨Try.f44, _, _, Try.func44, c_piece_valid⟩, ⟨Try.f46, _, _, Try.func46, c_piece_all⟩, ⟨Try.f63, _, _, Try.func63, c_s_Clone_api_Span_api_Span⟩, ⟨Try.f104, _, _, Try.func104, c_m_Len32⟩, ⟨Try.f105, _, _, Try.func105, c_m_Len64⟩, ⟨Try.f88, _, _, Try.func88, c_m_Len⟩, ⟨Try.f96, _, _, Try.func96, c_slices_insertionSortCmpFunc_api_Span⟩, ⟨Try.f87, _, _, Try.func87, c_slices_pdqsortCmpFunc_api_Span⟩, ⟨Try.f64, _, _, Try.func64, c_s_SortFunc_api_Span_api_Span⟩, ⟨Try.f45, _, _, Try.func45, c_piece_order⟩, ⟨Try.f65, _, _, Try.func65, c_piece_merged_1⟩, ⟨Try.f39, _, _, Try.func39, c_piece_merged⟩, ⟨Try.f19, _, _, Try.func19, c_piece_Make⟩, ⟨Try.f30, _, _, Try.func30, c_piece_Check⟩, ⟨Try.f53, _, _, Try.func53, c_piece_Has_1⟩, ⟨Try.f72, _, _, Try.func72, c_s_IndexFunc_api_Span_api_Span⟩, ⟨Try.f52, _, _, Try.func52, c_s_ContainsFunc_api_Span_api_Span⟩, ⟨Try.f22, _, _, Try.func22, c_piece_Has⟩, ⟨Try.f37, _, _, Try.func37, c_piece_both⟩, ⟨Try.f38, _, _, Try.func38, c_piece_few⟩, ⟨Try.f14, _, _, Try.func14, c_piece_Minus⟩, ⟨Try.f95, _, _, Try.func95, c_m_LeadingZeros64⟩, ⟨Try.f84, _, _, Try.func84, c_m_Div64⟩, ⟨Try.f83, _, _, Try.func83, c_m_Rem64⟩, ⟨Try.f85, _, _, Try.func85, c_ratio_signed⟩, ⟨Try.f61, _, _, Try.func61, c_ratio_Add⟩, ⟨Try.f56, _, _, Try.func56, c_piece_sum⟩, ⟨Try.f60, _, _, Try.func60, c_ratio_Sub⟩, ⟨Try.f59, _, _, Try.func59, c_piece_Length_1⟩, ⟨Try.f29, _, _, Try.func29, c_piece_Length⟩, ⟨Try.f43, _, _, Try.func43, c_piece_sooner⟩, ⟨Try.f42, _, _, Try.func42, c_piece_later⟩, ⟨Try.f25, _, _, Try.func25, c_piece_Cut⟩, ⟨Try.f16, _, _, Try.func16, c_r03_Same⟩, ⟨Try.f28, _, _, Try.func28, c_l03_is⟩, ⟨Try.f18, _, _, Try.func18, c_l03_alive⟩, ⟨Try.f66, _, _, Try.func66, c_s_Grow_api_Span_api_Span⟩, ⟨Try.f40, _, _, Try.func40, c_s_Concat_api_Span_api_Span⟩, ⟨Try.f10, _, _, Try.func10, c_piece_Union⟩, ⟨Try.f12, _, _, Try.func12, c_piece_Meet⟩, ⟨Try.f33, _, _, Try.func33, c_l03_lengths⟩, ⟨Try.f32, _, _, Try.func32, c_l03_adds⟩, ⟨Try.f34, _, _, Try.func34, c_r02_Check⟩, ⟨Try.f86, _, _, Try.func86, c_r01_Of⟩, ⟨Try.f62, _, _, Try.func62, c_r02_Point⟩, ⟨Try.f35, _, _, Try.func35, c_r03_Within⟩, ⟨Try.f73, _, _, Try.func73, c_s_Min_int_int⟩, ⟨Try.f74, _, _, Try.func74, c_s_Max_int_int⟩, ⟨Try.f55, _, _, Try.func55, c_cake_Check⟩, ⟨Try.f77, _, _, Try.func77, c_cake_whole⟩, ⟨Try.f76, _, _, Try.func76, c_cake_less⟩, ⟨Try.f75, _, _, Try.func75, c_cake_point⟩, ⟨Try.f78, _, _, Try.func78, c_ratio_Mul⟩, ⟨Try.f58, _, _, Try.func58, c_cake_Value⟩, ⟨Try.f57, _, _, Try.func57, c_piece_Worth_1⟩, ⟨Try.f27, _, _, Try.func27, c_piece_Worth⟩, ⟨Try.f36, _, _, Try.func36, c_l03_worths⟩, ⟨Try.f8, _, _, Try.func8, c_l03_PieceSums⟩, trivial⟩
theorem hm : Try.prog.follows .mixedOrders = true := by kernel_rfl
theorem isAdd : IsExtern Try.prog n_m_Add64 add64Entry := ⟨_, Try.func81, by kernel_rfl, by kernel_rfl, by kernel_rfl, by kernel_rfl⟩
theorem isSub : IsExtern Try.prog n_m_Sub64 sub64E := ⟨_, Try.func82, by kernel_rfl, by kernel_rfl, by kernel_rfl, by kernel_rfl⟩
theorem k0C : EnvOk Try.prog E0C := by
  refine baseC_ok hm isAdd isSub tabOk ?_
  intro n e b h
  cases h
theorem kN : EnvOk Try.prog (E []) := baseS_ok k0C fun e h => by cases h
theorem at_piece_merged_1 : SortsAt Try.prog srt_piece_merged_1.s srt_piece_merged_1.cf srt_piece_merged_1.srt where
  size := srt_piece_merged_1.srt_size (sp_swo _ _)
  pos := by decide
  enters := enters_of Try.func65 (by kernel_rfl) rfl
  entersN := enters_of Try.func64 (by kernel_rfl) rfl
  law := fun blk off cap d w hc hH hb hs => AnyQ.slices_SortFunc_eq Try.sortSp 4 Try.isAgg35 Try.sizeOf35 srt_piece_merged_1.s.enc (fun x => Srt.enc_len x) (fun x => Srt.enc_one x) srt_piece_merged_1.cf (sp_swo _ _) 65 #[] blk off cap d w (enters_of Try.func65 (by kernel_rfl) rfl) hc hH hb hs
theorem kS : EnvOk Try.prog (E ef0) := by
  refine baseS_ok k0C ?_
  intro e h
  simp only [ef0, List.mem_cons, List.not_mem_nil, or_false] at h
  rcases h with rfl | rfl
  · exact srt_sound srt_piece_merged_1.s at_piece_merged_1 (fun x y => sum_ans kN hm (baseS_none (by kernel_rfl) _) (by kernel_rfl) (merged1_ans [] effG_nil x.2 y.2)) (inline_ok k0C hm 60) (fun H => by kernel_rfl) (fun H => by kernel_rfl)
  · exact cln_sound (z := (.agg [(.int .i64 (0)), (.int .i64 (0)), (.int .i64 (0)), (.int .i64 (0))])) (by kernel_rfl) (fun _ _ => rfl) (inline_ok k0C hm 12)
end Go.Proofs.Ytnbebjhmfpchcaa.Pm
