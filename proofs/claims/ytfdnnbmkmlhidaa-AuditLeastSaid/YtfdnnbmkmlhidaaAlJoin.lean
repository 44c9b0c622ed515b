/- The statement AuditLeast: what the conditions and their plain laws say of the program's functions, joined with the program. -/
import Derived.Test.YtfdnnbmkmlhidaaRows

import Derived.Test.YtfdnnbmkmlhidaaAlW5
import Derived.WalkKit
import Derived.ProofKit
import Derived.OpenShut
import Derived.ReadAgain
import Derived.ChangeBears




import Derived.Shelf.SlSortCmp.WholeK
import Derived.Test.YtfdnnbmkmlhidaaShelf
namespace Go.Proofs.Ytfdnnbmkmlhidaa.Al
open Go Go.Pf Go.Pf.Vc Go.ChangeShapes Go.WideShapes Go.ChangeAt Go.RowKit Go.Shelf Go.Sort Go.Lib Go.Proofs
set_option maxRecDepth 100000
def fg_r05_Great : List (Nat × List Nat) := [(1, [0, 3, 4, 5, 6, 7, 8, 9, 10, 11, 12, 13, 14, 15]), (0, [2])]
theorem c_r05_Great : compFn Try.prog [] (fun i => (fg_r05_Great.lookup i).getD []) Try.f17 = some t_r05_Great.fn := by kernel_rfl
def fg_r01_abs : List (Nat × List Nat) := [(3, [0, 4, 10, 11]), (2, [0, 4, 5, 6, 7, 8, 9]), (1, [3]), (0, [2])]
theorem c_r01_abs : compFn Try.prog [] (fun i => (fg_r01_abs.lookup i).getD []) Try.f42 = some t_r01_abs.fn := by kernel_rfl
def fg_r01_gcd : List (Nat × List Nat) := [(3, [0, 1, 6, 11]), (2, [6, 7, 8, 9, 10]), (1, [5]), (0, [4])]
theorem c_r01_gcd : compFn Try.prog [] (fun i => (fg_r01_gcd.lookup i).getD []) Try.f43 = some t_r01_gcd.fn := by kernel_rfl
def fg_r01_Check : List (Nat × List Nat) := [(3, [30]), (2, [30]), (1, [1, 3, 4, 5, 6, 7, 8, 9, 10, 11, 12, 13, 14, 15, 16, 17, 18, 19, 20, 21, 22, 23, 24, 25, 26, 27, 28, 29]), (0, [0, 2])]
theorem c_r01_Check : compFn Try.prog [1] (fun i => (fg_r01_Check.lookup i).getD []) Try.f15 = some t_r01_Check.fn := by kernel_rfl
def fg_r01_Both : List (Nat × List Nat) := [(3, [2, 3, 7, 10, 11]), (2, [2, 3, 7, 8, 9]), (1, [5, 6]), (0, [0, 1, 4])]
theorem c_r01_Both : compFn Try.prog [2, 3] (fun i => (fg_r01_Both.lookup i).getD []) Try.f55 = some t_r01_Both.fn := by kernel_rfl
def fg_r01_Of : List (Nat × List Nat) := [(1, [0, 3, 4])]
theorem c_r01_Of : compFn Try.prog [2] (fun i => (fg_r01_Of.lookup i).getD []) Try.f56 = some t_r01_Of.fn := by kernel_rfl
def fg_r01_times : List (Nat × List Nat) := [(5, [5, 7, 9, 10, 11, 35, 36, 37, 38, 39, 40, 41, 42, 43, 44, 45, 46, 47, 48, 49]), (4, [6, 26, 27, 28, 29, 30, 31, 32, 33, 34]), (3, [8, 20, 21, 22, 23, 24, 25]), (2, [1, 16, 17, 18, 19]), (1, [0, 12, 13, 14, 15])]
theorem c_r01_times : compFn Try.prog [4] (fun i => (fg_r01_times.lookup i).getD []) Try.f45 = some t_r01_times.fn := by kernel_rfl
def fg_r01_less : List (Nat × List Nat) := [(1, [2, 3, 5, 6, 7, 8, 9, 10, 11, 12, 13, 14, 15, 16, 17, 18, 19, 20, 21, 22, 23]), (0, [0, 1, 4])]
theorem c_r01_less : compFn Try.prog [2, 3] (fun i => (fg_r01_less.lookup i).getD []) Try.f46 = some t_r01_less.fn := by kernel_rfl
def fg_r01_Less : List (Nat × List Nat) := [(6, [5, 6, 33, 37, 38, 39]), (5, [5, 6, 33, 34, 35, 36]), (4, [2, 31, 32]), (3, [3, 13, 17, 18, 19, 20, 21, 22, 23, 24, 25, 26, 27, 28, 29, 30]), (2, [2, 3, 13, 14, 15, 16]), (1, [7, 8, 9, 10, 11, 12]), (0, [0, 1, 4])]
theorem c_r01_Less : compFn Try.prog [2, 3, 5, 6] (fun i => (fg_r01_Less.lookup i).getD []) Try.f16 = some t_r01_Less.fn := by kernel_rfl
def fg_r02_Point : List (Nat × List Nat) := [(1, [0, 3, 5, 6, 7, 8, 9, 10, 11, 12, 13, 14, 15, 16, 17, 18, 19]), (0, [1, 4])]
theorem c_r02_Point : compFn Try.prog [3] (fun i => (fg_r02_Point.lookup i).getD []) Try.f71 = some t_r02_Point.fn := by kernel_rfl
def fg_r05_right : List (Nat × List Nat) := [(8, [0, 3, 46]), (7, [0, 3, 46, 48, 49, 50, 51, 52, 53, 54, 55, 56, 57, 58, 59, 60, 61, 62, 63, 64, 65]), (6, [25, 26, 47]), (5, [0, 3, 25, 26, 28, 29, 30, 31, 32, 33, 34, 35, 36, 37, 38, 39, 40, 41, 42, 43, 44, 45]), (4, [27]), (3, [23, 24]), (2, [0, 3, 23]), (1, [5, 6, 7, 8, 9, 10, 11, 12, 13, 14, 15, 16, 17, 18, 19, 20, 21, 22]), (0, [1, 4])]
theorem c_r05_right : compFn Try.prog [3] (fun i => (fg_r05_right.lookup i).getD []) Try.f49 = some t_r05_right.fn := by kernel_rfl
def fg_r05_Check : List (Nat × List Nat) := [(10, [0, 1, 5, 18]), (7, [19, 20, 27]), (9, [0, 1, 5, 27]), (8, [18, 21, 22, 23, 24, 25, 26]), (6, [15, 16, 17]), (5, [14]), (4, [0, 1, 14]), (3, [11, 12, 13]), (2, [0, 1, 11]), (1, [6, 7, 8, 9, 10]), (0, [4])]
theorem c_r05_Check : compFn Try.prog [] (fun i => (fg_r05_Check.lookup i).getD []) Try.f23 = some t_r05_Check.fn := by kernel_rfl
def fg_l05_valid : List (Nat × List Nat) := [(1, [0, 1, 5, 6, 7, 8, 9, 10, 11, 12, 13]), (0, [4])]
theorem c_l05_valid : compFn Try.prog [] (fun i => (fg_l05_valid.lookup i).getD []) Try.f8 = some t_l05_valid.fn := by kernel_rfl
def fg_l05_of : List (Nat × List Nat) := [(1, [0, 3, 4])]
theorem c_l05_of : compFn Try.prog [2] (fun i => (fg_l05_of.lookup i).getD []) Try.f32 = some t_l05_of.fn := by kernel_rfl
def fg_l05_value : List (Nat × List Nat) := [(1, [0, 1, 2, 7, 8, 9, 10, 11, 12, 13])]
theorem c_l05_value : compFn Try.prog [6] (fun i => (fg_l05_value.lookup i).getD []) Try.f30 = some t_l05_value.fn := by kernel_rfl
def fg_l05_mark : List (Nat × List Nat) := [(1, [0, 1, 2, 7, 8, 9, 10, 11, 12, 13])]
theorem c_l05_mark : compFn Try.prog [6] (fun i => (fg_l05_mark.lookup i).getD []) Try.f31 = some t_l05_mark.fn := by kernel_rfl
def fg_ratio_size : List (Nat × List Nat) := [(3, [0, 4, 8, 9]), (2, [0, 4, 5, 6, 7]), (1, [3]), (0, [2])]
theorem c_ratio_size : compFn Try.prog [] (fun i => (fg_ratio_size.lookup i).getD []) Try.f66 = some t_ratio_size.fn := by kernel_rfl
def fg_ratio_gcd : List (Nat × List Nat) := [(3, [0, 1, 6, 11]), (2, [6, 7, 8, 9, 10]), (1, [5]), (0, [4])]
theorem c_ratio_gcd : compFn Try.prog [] (fun i => (fg_ratio_gcd.lookup i).getD []) Try.f67 = some t_ratio_gcd.fn := by kernel_rfl
def fg_ratio_Check : List (Nat × List Nat) := [(3, [25]), (2, [25]), (1, [1, 3, 4, 5, 6, 7, 8, 9, 10, 11, 12, 13, 14, 15, 16, 17, 18, 19, 20, 21, 22, 23, 24]), (0, [0, 2])]
theorem c_ratio_Check : compFn Try.prog [1] (fun i => (fg_ratio_Check.lookup i).getD []) Try.f72 = some t_ratio_Check.fn := by kernel_rfl
def fg_cmp_Or_api_Errno : List (Nat × List Nat) := [(8, [3, 6, 7, 8, 9, 17]), (7, [5, 14, 16]), (6, [3, 5, 6, 7, 8, 14, 15]), (5, [12, 13]), (4, [9, 10, 11]), (2, [0]), (0, [2])]
theorem c_cmp_Or_api_Errno : compFn Try.prog [] (fun i => (fg_cmp_Or_api_Errno.lookup i).getD []) Try.f84 = some t_cmp_Or_api_Errno.fn := by kernel_rfl
def fg_ratio_check : List (Nat × List Nat) := [(1, [2, 3, 5, 6, 7, 8, 9, 10]), (0, [0, 1, 4])]
theorem c_ratio_check : compFn Try.prog [9, 2, 3] (fun i => (fg_ratio_check.lookup i).getD []) Try.f73 = some t_ratio_check.fn := by kernel_rfl
def fg_cmp_isNaN_int64 : List (Nat × List Nat) := [(1, [0, 3, 4, 5]), (0, [2])]
theorem c_cmp_isNaN_int64 : compFn Try.prog [] (fun i => (fg_cmp_isNaN_int64.lookup i).getD []) Try.f107 = some t_cmp_isNaN_int64.fn := by kernel_rfl
def fg_cmp_Compare_int64 : List (Nat × List Nat) := [(13, [19]), (12, [19]), (11, [0, 1, 16, 17, 18]), (10, [0, 1, 16]), (9, [13, 14, 15]), (8, [0, 1, 13]), (7, [6, 11]), (6, [12]), (5, [12]), (4, [0, 1, 6, 11]), (3, [5]), (2, [9, 10]), (1, [7, 8]), (0, [4])]
theorem c_cmp_Compare_int64 : compFn Try.prog [] (fun i => (fg_cmp_Compare_int64.lookup i).getD []) Try.f99 = some t_cmp_Compare_int64.fn := by kernel_rfl
def fg_m_Mul64 : List (Nat × List Nat) := [(11, [0, 1, 48, 49, 50]), (10, [7, 9, 12, 13, 40, 41, 42, 43, 44, 45, 46, 47]), (9, [6, 35, 36, 37, 38, 39]), (8, [11, 33, 34]), (7, [31, 32]), (6, [8, 10, 25, 26, 27, 28, 29, 30]), (5, [22, 23, 24]), (4, [20, 21]), (3, [18, 19]), (2, [16, 17]), (1, [14, 15]), (0, [4, 5])]
theorem c_m_Mul64 : compFn Try.prog [] (fun i => (fg_m_Mul64.lookup i).getD []) Try.f74 = some t_m_Mul64.fn := by kernel_rfl
def fg_cmp_isNaN_uint64 : List (Nat × List Nat) := [(1, [0, 3, 4, 5]), (0, [2])]
theorem c_cmp_isNaN_uint64 : compFn Try.prog [] (fun i => (fg_cmp_isNaN_uint64.lookup i).getD []) Try.f108 = some t_cmp_isNaN_uint64.fn := by kernel_rfl
def fg_cmp_Compare_uint64 : List (Nat × List Nat) := [(13, [19]), (12, [19]), (11, [0, 1, 16, 17, 18]), (10, [0, 1, 16]), (9, [13, 14, 15]), (8, [0, 1, 13]), (7, [6, 11]), (6, [12]), (5, [12]), (4, [0, 1, 6, 11]), (3, [5]), (2, [9, 10]), (1, [7, 8]), (0, [4])]
theorem c_cmp_Compare_uint64 : compFn Try.prog [] (fun i => (fg_cmp_Compare_uint64.lookup i).getD []) Try.f101 = some t_cmp_Compare_uint64.fn := by kernel_rfl
def fg_cmp_Or_int : List (Nat × List Nat) := [(8, [3, 6, 7, 8, 9, 17]), (7, [5, 14, 16]), (6, [3, 5, 6, 7, 8, 14, 15]), (5, [12, 13]), (4, [9, 10, 11]), (2, [0]), (0, [2])]
theorem c_cmp_Or_int : compFn Try.prog [] (fun i => (fg_cmp_Or_int.lookup i).getD []) Try.f100 = some t_cmp_Or_int.fn := by kernel_rfl
def fg_ratio_Cmp : List (Nat × List Nat) := [(11, [11, 60, 63]), (10, [60, 61, 62]), (9, [2, 58, 59]), (8, [7, 8, 9, 10, 50, 51, 52, 53, 54, 55, 56, 57]), (7, [3, 40, 41, 42, 43, 44, 45, 46, 47, 48, 49]), (6, [24, 30, 31, 32, 33, 34, 35, 36, 37, 38, 39]), (5, [2, 3, 24, 25, 26, 27, 28, 29]), (4, [6, 16, 18, 19, 20, 21, 22, 23]), (3, [2, 3, 6, 16, 17]), (2, [15]), (1, [12, 13, 14]), (0, [0, 1, 4, 5])]
theorem c_ratio_Cmp : compFn Try.prog [56, 2, 3] (fun i => (fg_ratio_Cmp.lookup i).getD []) Try.f82 = some t_ratio_Cmp.fn := by kernel_rfl
def fg_audit_order : List (Nat × List Nat) := [(2, [5, 13]), (1, [2, 3, 6, 7, 8, 9, 10, 11, 12]), (0, [0, 1, 4])]
theorem c_audit_order : compFn Try.prog [2, 3] (fun i => (fg_audit_order.lookup i).getD []) Try.f60 = some t_audit_order.fn := by kernel_rfl
def fg_audit_whole : List (Nat × List Nat) := [(1, [0, 3, 4])]
theorem c_audit_whole : compFn Try.prog [2] (fun i => (fg_audit_whole.lookup i).getD []) Try.f58 = some t_audit_whole.fn := by kernel_rfl
def fg_audit_claimed : List (Nat × List Nat) := [(13, [0, 3, 8, 39, 41, 52, 53, 54, 55, 56, 57, 58, 59, 60, 61, 62, 63, 64, 65, 66]), (9, [0, 3, 8, 40, 43]), (12, [3, 43, 45, 46, 47, 48, 49, 50, 51]), (11, [39, 41, 44]), (10, [42]), (8, [38]), (7, [15, 16, 17, 18, 31, 32, 33, 34, 35, 36, 37]), (6, [28, 30]), (5, [0, 3, 15, 16, 17, 28, 29]), (4, [7, 21, 22, 23, 24, 25, 26, 27]), (3, [18, 19, 20]), (1, [9, 10, 11, 12, 13, 14]), (0, [1, 5])]
theorem c_audit_claimed : compFn Try.prog [3, 4, 7, 8] (fun i => (fg_audit_claimed.lookup i).getD []) Try.f57 = some t_audit_claimed.fn := by kernel_rfl
def fg_audit_claims : List (Nat × List Nat) := [(14, [0, 6, 20, 21, 22, 23, 39]), (13, [38]), (12, [9, 33, 34, 35, 36, 37]), (11, [0, 6, 9, 20, 21, 22, 33]), (10, [10, 32]), (9, [8, 26, 27, 28, 29, 30, 31]), (8, [23, 24, 25]), (6, [1]), (5, [19]), (4, [0, 1, 19]), (3, [16, 17, 18]), (2, [0, 1, 16]), (1, [11, 12, 13, 14, 15]), (0, [4, 5])]
theorem c_audit_claims : compFn Try.prog [36, 8, 9] (fun i => (fg_audit_claims.lookup i).getD []) Try.f33 = some t_audit_claims.fn := by kernel_rfl
def fg_audit_scale : List (Nat × List Nat) := [(19, [4, 41, 42, 43, 44, 58]), (18, [56, 57]), (17, [4, 41, 42, 43, 56]), (16, [11, 47, 48, 49, 50, 51, 52, 53, 54, 55]), (15, [44, 45, 46]), (13, [0, 12, 13, 14, 15]), (12, [40]), (11, [9, 36, 37, 38, 39]), (10, [0, 4, 9, 12, 13, 14, 36]), (9, [33, 34, 35]), (8, [6, 7, 8, 23, 28, 29, 30, 31, 32]), (7, [23, 24, 25, 26, 27]), (6, [22]), (5, [18, 19, 20, 21]), (4, [15, 16, 17]), (0, [2, 3])]
theorem c_audit_scale : compFn Try.prog [6, 11] (fun i => (fg_audit_scale.lookup i).getD []) Try.f39 = some t_audit_scale.fn := by kernel_rfl
def fg_m_Len32 : List (Nat × List Nat) := [(7, [0, 8, 13, 14, 15, 16, 17, 18]), (6, [11, 12]), (5, [8, 9, 10]), (4, [4, 7]), (2, [2, 4, 5, 6]), (1, [3])]
theorem c_m_Len32 : compFn Try.prog [] (fun i => (fg_m_Len32.lookup i).getD []) Try.f97 = some t_m_Len32.fn := by kernel_rfl
def fg_m_Len64 : List (Nat × List Nat) := [(10, [0, 14, 19, 20, 21, 22, 23, 24]), (9, [17, 18]), (8, [14, 15, 16]), (7, [8, 13]), (6, [11, 12]), (5, [8, 9, 10]), (4, [4, 7]), (2, [2, 4, 5, 6]), (1, [3])]
theorem c_m_Len64 : compFn Try.prog [] (fun i => (fg_m_Len64.lookup i).getD []) Try.f98 = some t_m_Len64.fn := by kernel_rfl
def fg_m_Len : List (Nat × List Nat) := [(2, [0, 6, 7]), (1, [0, 3, 4, 5]), (0, [2])]
theorem c_m_Len : compFn Try.prog [] (fun i => (fg_m_Len.lookup i).getD []) Try.f81 = some t_m_Len.fn := by kernel_rfl
def fg_slices_insertionSortCmpFunc_api_Ratio : List (Nat × List Nat) := [(2, [9, 15, 16, 34]), (5, [35, 36]), (6, [34, 37, 38, 39, 40, 41, 42, 43, 44, 45, 46, 47, 48, 49, 50, 51, 52]), (4, [18, 19, 20, 21, 22, 23, 24, 25, 26, 27, 28, 29, 30, 31, 32, 33]), (3, [14, 17]), (1, [12, 13]), (0, [10, 11])]
theorem c_slices_insertionSortCmpFunc_api_Ratio : compFn Try.prog [] (fun i => (fg_slices_insertionSortCmpFunc_api_Ratio.lookup i).getD []) Try.f89 = some t_slices_insertionSortCmpFunc_api_Ratio.fn := by kernel_rfl
def fg_slices_pdqsortCmpFunc_api_Ratio : List (Nat × List Nat) := [(30, [16, 147]), (29, [2, 140, 141, 142, 143, 144, 145, 146]), (28, [18, 19, 20, 125, 137, 138, 139]), (27, [16, 135, 136]), (26, [1, 129, 130, 131, 132, 133, 134]), (25, [18, 19, 20, 125, 126, 127, 128]), (24, [123, 124]), (23, [12, 121, 122]), (22, [115, 116, 117, 118, 119, 120]), (21, [17, 114]), (20, [10, 11, 13, 97, 105, 106, 107, 108, 109, 110, 111, 112, 113]), (19, [15, 104]), (18, [1, 12, 13, 97, 98, 99, 100, 101, 102, 103]), (17, [75, 80, 81, 82, 83, 84, 85, 86, 87, 88, 89, 90, 91, 92, 93, 94, 95, 96]), (16, [75, 76, 77, 78, 79]), (15, [14, 56, 68, 69, 70, 71, 72, 73, 74]), (13, [62, 63, 64, 65, 66, 67]), (12, [14, 56, 57, 58, 59, 60, 61]), (11, [55]), (10, [39, 47, 48, 49, 50, 51, 52, 53, 54]), (9, [45, 46]), (8, [39, 40, 41, 42, 43, 44]), (7, [32, 38]), (6, [0, 1, 2, 3, 4, 10, 11, 12, 32, 33, 34, 35, 36, 37]), (5, [25, 31]), (4, [0, 1, 2, 3, 4, 10, 11, 12, 25, 26, 27, 28, 29, 30]), (3, [24]), (2, [21, 22, 23])]
theorem c_slices_pdqsortCmpFunc_api_Ratio : compFn Try.prog [] (fun i => (fg_slices_pdqsortCmpFunc_api_Ratio.lookup i).getD []) Try.f80 = some t_slices_pdqsortCmpFunc_api_Ratio.fn := by kernel_rfl
def fg_s_SortFunc_api_Ratio_api_Ratio : List (Nat × List Nat) := [(1, [0, 1, 4, 7, 8, 9, 10, 11, 12, 13]), (0, [5, 6])]
theorem c_s_SortFunc_api_Ratio_api_Ratio : compFn Try.prog [] (fun i => (fg_s_SortFunc_api_Ratio_api_Ratio.lookup i).getD []) Try.f59 = some t_s_SortFunc_api_Ratio_api_Ratio.fn := by kernel_rfl
def fg_s_Compact_api_Ratio_api_Ratio : List (Nat × List Nat) := [(16, [0, 3, 13, 60]), (5, [14, 15, 25]), (15, [0, 3, 57, 58, 59]), (14, [4, 5, 32, 54, 55, 56]), (10, [33, 34, 44]), (13, [52, 53]), (12, [44, 45, 46, 47, 48, 49, 50, 51]), (11, [32, 35, 36, 37, 38, 39, 40, 41, 42, 43]), (9, [29, 30, 31]), (7, [25, 26, 27, 28]), (6, [13, 16, 17, 18, 19, 20, 21, 22, 23, 24]), (4, [10, 11, 12]), (3, [8]), (2, [0, 8, 9]), (1, [6, 7]), (0, [2])]
theorem c_s_Compact_api_Ratio_api_Ratio : compFn Try.prog [] (fun i => (fg_s_Compact_api_Ratio_api_Ratio.lookup i).getD []) Try.f61 = some t_s_Compact_api_Ratio_api_Ratio.fn := by kernel_rfl
def fg_audit_pointsOf : List (Nat × List Nat) := [(8, [5, 28, 29]), (7, [12, 13, 14, 15, 26, 27]), (6, [25]), (5, [7, 18, 19, 20, 21, 22, 23, 24]), (4, [15, 16, 17]), (2, [1]), (1, [0, 8, 9, 10, 11]), (0, [4])]
theorem c_audit_pointsOf : compFn Try.prog [23, 7, 2000011, 2000023] (fun i => (fg_audit_pointsOf.lookup i).getD []) Try.f34 = some t_audit_pointsOf.fn := by kernel_rfl
def fg_s_BinarySearchFunc_api_Ratio_api_Ratio_api_Ratio : List (Nat × List Nat) := [(8, [0, 2, 4, 8, 9, 10, 17, 35, 36, 37, 38, 39, 40, 41, 42, 43, 44, 45, 46, 47, 48]), (7, [11, 31, 34]), (6, [11, 31, 32, 33]), (5, [24, 25, 26, 27, 28, 29, 30]), (4, [17, 18, 19, 20, 21, 22, 23]), (3, [15, 16]), (2, [14]), (1, [12, 13]), (0, [1, 6, 7])]
theorem c_s_BinarySearchFunc_api_Ratio_api_Ratio_api_Ratio : compFn Try.prog [4] (fun i => (fg_s_BinarySearchFunc_api_Ratio_api_Ratio_api_Ratio.lookup i).getD []) Try.f63 = some t_s_BinarySearchFunc_api_Ratio_api_Ratio_api_Ratio.fn := by kernel_rfl
def fg_audit_heights_1 : List (Nat × List Nat) := [(2, [4, 12]), (1, [1, 2, 5, 6, 7, 8, 9, 10, 11]), (0, [0, 3])]
theorem c_audit_heights_1 : compFn Try.prog [2] (fun i => (fg_audit_heights_1.lookup i).getD []) Try.f62 = some t_audit_heights_1.fn := by kernel_rfl
def fg_s_Clone_int64_int64 : List (Nat × List Nat) := [(3, [0, 4, 5, 6, 7]), (2, [0, 4]), (1, [3]), (0, [2])]
theorem c_s_Clone_int64_int64 : compFn Try.prog [] (fun i => (fg_s_Clone_int64_int64.lookup i).getD []) Try.f64 = some t_s_Clone_int64_int64.fn := by kernel_rfl
def fg_s_Equal_int64_int64 : List (Nat × List Nat) := [(9, [0, 1, 12, 13, 14]), (8, [24, 25]), (7, [0, 1, 12, 13, 24]), (6, [5, 16, 17, 18, 19, 20, 21, 22, 23]), (5, [14, 15]), (3, [10, 11]), (2, [0, 1, 10]), (1, [6, 7, 8, 9]), (0, [4])]
theorem c_s_Equal_int64_int64 : compFn Try.prog [] (fun i => (fg_s_Equal_int64_int64.lookup i).getD []) Try.f65 = some t_s_Equal_int64_int64.fn := by kernel_rfl
def fg_audit_heights : List (Nat × List Nat) := [(36, [1, 2, 7, 8, 9, 12, 59, 60, 61]), (35, [148, 154]), (34, [12, 152, 153]), (33, [12, 152]), (32, [1, 2, 7, 8, 9, 59, 60, 148, 149, 150, 151]), (31, [13, 145, 146, 147]), (30, [1, 2, 7, 8, 9, 12, 13, 59, 60, 145]), (29, [88, 89, 90, 91, 142, 143, 144]), (28, [141]), (27, [17, 18, 19, 127, 128, 129, 130, 131, 132, 133, 134, 135, 136, 137, 138, 139, 140]), (26, [113, 114, 115, 116, 117, 118, 119, 120, 121, 122, 123, 124, 125, 126]), (25, [16, 102, 103, 104, 105, 106, 107, 108, 109, 110, 111, 112]), (24, [94, 95, 96, 97, 98, 99, 100, 101]), (23, [91, 92, 93]), (21, [14, 67]), (19, [68, 69]), (20, [67, 70, 71, 72, 73, 74, 75, 76, 77, 78, 79, 80, 81, 82, 83, 84, 85, 86, 87]), (18, [64, 65, 66]), (16, [61, 62, 63]), (14, [3, 57, 58]), (13, [27, 28, 29, 30, 54, 55, 56]), (12, [11, 35, 47, 53]), (11, [1, 2, 3, 7, 8, 9, 27, 28, 29, 47]), (10, [11, 36, 48, 49, 50, 51, 52]), (9, [11, 36, 41, 42, 43, 44, 45, 46]), (8, [35, 37, 38, 39, 40]), (7, [33, 34]), (6, [30, 31, 32]), (3, [24, 25, 26]), (2, [21, 22, 23]), (1, [20]), (0, [0, 6])]
theorem c_audit_heights : compFn Try.prog [11, 16] (fun i => (fg_audit_heights.lookup i).getD []) Try.f40 = some t_audit_heights.fn := by kernel_rfl
def fg_ratio_signed : List (Nat × List Nat) := [(5, [1, 2, 13, 20, 21, 22, 23, 24]), (4, [1, 2, 13, 14, 15, 16, 17, 18, 19]), (3, [0, 11]), (2, [0, 1, 2, 11, 12]), (1, [8, 9, 10]), (0, [7])]
theorem c_ratio_signed : compFn Try.prog [6] (fun i => (fg_ratio_signed.lookup i).getD []) Try.f68 = some t_ratio_signed.fn := by kernel_rfl
def fg_ratio_Make : List (Nat × List Nat) := [(5, [0, 1, 6, 7, 8, 19, 20, 21, 22, 23, 24, 25, 26, 27, 28, 29, 30, 31, 32]), (4, [16, 17, 18]), (3, [10, 12, 13, 14, 15]), (2, [0, 1, 10, 11]), (1, [9]), (0, [5])]
theorem c_ratio_Make : compFn Try.prog [4] (fun i => (fg_ratio_Make.lookup i).getD []) Try.f41 = some t_ratio_Make.fn := by kernel_rfl
def fg_audit_Guess : List (Nat × List Nat) := [(17, [8, 9, 10, 46, 47, 48, 49, 69]), (16, [68]), (15, [13, 62, 63, 64, 65, 66, 67]), (14, [12, 14, 52, 53, 54, 55, 56, 57, 58, 59, 60, 61]), (13, [49, 50, 51]), (11, [44]), (10, [8, 9, 10, 44, 45]), (9, [43]), (8, [6, 38, 39, 40, 41, 42]), (7, [0, 7, 31, 34, 35, 36, 37]), (6, [0, 6, 7, 8, 31, 32, 33]), (5, [30]), (4, [22, 25, 26, 27, 28, 29]), (3, [0, 6, 7, 22, 23, 24]), (2, [21]), (1, [1, 15, 16, 17, 18, 19, 20]), (0, [5])]
theorem c_audit_Guess : compFn Try.prog [65, 4, 9, 13] (fun i => (fg_audit_Guess.lookup i).getD []) Try.f13 = some t_audit_Guess.fn := by kernel_rfl
def fg_audit_First : List (Nat × List Nat) := [(13, [0, 6, 8, 9, 10, 35, 53]), (12, [11, 50, 52]), (11, [11, 50, 51]), (10, [40, 41, 42, 43, 44, 45, 46, 47, 48, 49]), (9, [35, 36, 37, 38, 39]), (8, [32, 33, 34]), (7, [7, 27, 29, 30, 31]), (6, [0, 6, 7, 8, 27, 28]), (5, [26]), (4, [19, 21, 22, 23, 24, 25]), (3, [0, 6, 7, 19, 20]), (2, [18]), (1, [1, 12, 13, 14, 15, 16, 17]), (0, [4, 5])]
theorem c_audit_First : compFn Try.prog [] (fun i => (fg_audit_First.lookup i).getD []) Try.f20 = some t_audit_First.fn := by kernel_rfl
def fg_r05_SameList : List (Nat × List Nat) := [(8, [0, 1, 5, 14]), (5, [15, 16, 25]), (7, [0, 1, 5, 25]), (6, [14, 17, 18, 19, 20, 21, 22, 23, 24]), (4, [11, 12, 13]), (3, [10]), (2, [0, 1, 10]), (1, [6, 7, 8, 9]), (0, [4])]
theorem c_r05_SameList : compFn Try.prog [] (fun i => (fg_r05_SameList.lookup i).getD []) Try.f24 = some t_r05_SameList.fn := by kernel_rfl
def fg_r05_Same : List (Nat × List Nat) := [(1, [2, 3, 5, 6, 7, 8, 9, 10, 11, 12, 13, 14, 15, 16]), (0, [0, 1, 4])]
theorem c_r05_Same : compFn Try.prog [2, 3] (fun i => (fg_r05_Same.lookup i).getD []) Try.f25 = some t_r05_Same.fn := by kernel_rfl
def fg_l05_alive : List (Nat × List Nat) := [(5, [1, 2, 4, 5, 6, 7, 8, 36, 37, 38, 39, 40, 41, 42, 43, 44, 45, 46, 47, 48, 49, 50, 51, 52, 53, 54, 55, 56, 57, 58, 59, 60, 61, 62, 63, 64, 65, 66, 67, 68, 69, 70, 71, 72, 73, 74, 75, 76, 77]), (4, [30, 31, 32, 33, 34, 35]), (3, [23, 24, 25, 26, 27, 28, 29]), (2, [3, 16, 17, 18, 19, 20, 21, 22]), (1, [9, 10, 11, 12, 13, 14, 15]), (0, [0])]
theorem c_l05_alive : compFn Try.prog [12, 19, 26, 32, 43, 47, 71, 74, 1, 3, 7] (fun i => (fg_l05_alive.lookup i).getD []) Try.f9 = some t_l05_alive.fn := by kernel_rfl
def fg_audit_Points : List (Nat × List Nat) := [(4, [0, 6, 7, 15, 17, 18, 19]), (3, [0, 6, 7, 15, 16]), (2, [14]), (1, [1, 8, 9, 10, 11, 12, 13]), (0, [4, 5])]
theorem c_audit_Points : compFn Try.prog [] (fun i => (fg_audit_Points.lookup i).getD []) Try.f10 = some t_audit_Points.fn := by kernel_rfl
def fg_r05_Told : List (Nat × List Nat) := [(3, [1, 5, 8, 9]), (2, [1, 5, 6, 7]), (1, [3, 4]), (0, [0])]
theorem c_r05_Told : compFn Try.prog [1, 2] (fun i => (fg_r05_Told.lookup i).getD []) Try.f35 = some t_r05_Told.fn := by kernel_rfl
def fg_r05_gcd : List (Nat × List Nat) := [(3, [0, 1, 6, 11]), (2, [6, 7, 8, 9, 10]), (1, [5]), (0, [4])]
theorem c_r05_gcd : compFn Try.prog [] (fun i => (fg_r05_gcd.lookup i).getD []) Try.f36 = some t_r05_gcd.fn := by kernel_rfl
def fg_r05_Scale : List (Nat × List Nat) := [(16, [0, 4, 8, 39, 55]), (12, [40, 41, 54]), (15, [0, 4, 8, 54]), (14, [9, 47, 48, 49, 50, 51, 52, 53]), (13, [39, 42, 43, 44, 45, 46]), (11, [36, 37, 38]), (10, [5, 13]), (4, [14, 15]), (9, [6, 7, 30, 31, 32, 33, 34, 35]), (8, [0, 4, 5, 6, 7, 30]), (7, [25, 26, 27, 28, 29]), (6, [22, 23, 24]), (5, [13, 16, 17, 18, 19, 20, 21]), (3, [10, 11, 12]), (0, [2, 3])]
theorem c_r05_Scale : compFn Try.prog [9] (fun i => (fg_r05_Scale.lookup i).getD []) Try.f11 = some t_r05_Scale.fn := by kernel_rfl
def fg_r05_At : List (Nat × List Nat) := [(6, [0, 3, 5, 9]), (3, [10, 11, 17]), (5, [0, 3, 5, 17, 18]), (4, [9, 12, 13, 14, 15, 16]), (2, [6, 7, 8]), (0, [1, 4])]
theorem c_r05_At : compFn Try.prog [3] (fun i => (fg_r05_At.lookup i).getD []) Try.f37 = some t_r05_At.fn := by kernel_rfl
def fg_r05_To : List (Nat × List Nat) := [(3, [1, 5, 8, 9]), (2, [1, 5, 6, 7]), (1, [3, 4]), (0, [0])]
theorem c_r05_To : compFn Try.prog [1, 2] (fun i => (fg_r05_To.lookup i).getD []) Try.f38 = some t_r05_To.fn := by kernel_rfl
def fg_l05_obeyed : List (Nat × List Nat) := [(17, [0, 1, 2, 3, 10, 57]), (10, [58, 59, 136]), (16, [0, 1, 2, 3, 10, 136]), (15, [11, 12, 13, 14, 102, 103, 104, 105, 106, 107, 108, 109, 110, 111, 112, 113, 114, 115, 116, 117, 118, 119, 120, 121, 122, 123, 124, 125, 126, 127, 128, 129, 130, 131, 132, 133, 134, 135]), (14, [0, 1, 2, 3, 10, 11, 12, 13, 14, 102]), (13, [74, 75, 76, 77, 78, 79, 80, 81, 82, 83, 84, 85, 86, 87, 88, 89, 90, 91, 92, 93, 94, 95, 96, 97, 98, 99, 100, 101]), (12, [64, 65, 66, 67, 68, 69, 70, 71, 72, 73]), (11, [57, 60, 61, 62, 63]), (9, [54, 55, 56]), (8, [9, 34]), (5, [35, 36, 53]), (7, [0, 1, 2, 3, 9, 53]), (6, [34, 37, 38, 39, 40, 41, 42, 43, 44, 45, 46, 47, 48, 49, 50, 51, 52]), (4, [31, 32, 33]), (3, [30]), (2, [0, 1, 2, 3, 30]), (1, [15, 16, 17, 18, 19, 20, 21, 22, 23, 24, 25, 26, 27, 28, 29]), (0, [8])]
theorem c_l05_obeyed : compFn Try.prog [11, 14] (fun i => (fg_l05_obeyed.lookup i).getD []) Try.f12 = some t_l05_obeyed.fn := by kernel_rfl
def fg_r01_made : List (Nat × List Nat) := [(6, [8, 35, 40]), (5, [35, 36, 37, 38, 39]), (4, [0]), (3, [4, 5, 26, 28, 29, 30, 31, 32, 33, 34]), (2, [0, 4, 5, 26, 27]), (1, [9, 10, 11, 12, 13, 14, 15, 16, 17, 18, 19, 20, 21, 22, 23, 24, 25]), (0, [1, 2, 7])]
theorem c_r01_made : compFn Try.prog [4, 5, 6, 8] (fun i => (fg_r01_made.lookup i).getD []) Try.f44 = some t_r01_made.fn := by kernel_rfl
def fg_r01_Make : List (Nat × List Nat) := [(5, [0, 1, 6, 7, 8, 19, 20, 21, 22, 23, 24, 25, 26, 27, 28, 29, 30, 31, 32, 33, 34]), (4, [16, 17, 18]), (3, [10, 12, 13, 14, 15]), (2, [0, 1, 10, 11]), (1, [9]), (0, [5])]
theorem c_r01_Make : compFn Try.prog [4] (fun i => (fg_r01_Make.lookup i).getD []) Try.f14 = some t_r01_Make.fn := by kernel_rfl
def fg_l05_AuditLeast : List (Nat × List Nat) := [(18, [2, 7, 9, 11, 13, 69, 109]), (14, [70, 71, 108]), (17, [2, 7, 9, 11, 13, 108]), (16, [14, 15, 85, 86, 87, 88, 89, 90, 91, 92, 93, 94, 95, 96, 97, 98, 99, 100, 101, 102, 103, 104, 105, 106, 107]), (15, [69, 72, 73, 74, 75, 76, 77, 78, 79, 80, 81, 82, 83, 84]), (13, [66, 67, 68]), (12, [65]), (11, [2, 7, 9, 11, 65]), (10, [12, 56, 57, 58, 59, 60, 61, 62, 63, 64]), (9, [0, 1, 48, 50, 51, 52, 53, 54, 55]), (8, [0, 1, 2, 7, 9, 48, 49]), (7, [10, 38, 39, 40, 41, 42, 43, 44, 45, 46, 47]), (6, [0, 1, 2, 7, 9, 10, 38]), (5, [8, 37]), (4, [32, 33, 34, 35, 36]), (3, [24, 26, 27, 28, 29, 30, 31]), (2, [0, 1, 2, 24, 25]), (1, [16, 17, 18, 19, 20, 21, 22, 23]), (0, [6])]
theorem c_l05_AuditLeast : compFn Try.prog [11, 14] (fun i => (fg_l05_AuditLeast.lookup i).getD []) Try.f3 = some t_l05_AuditLeast.fn := by kernel_rfl
theorem tabOk : AllOk Try.prog tab := by
  unfold tab
  simp only [AllOk]
  exact ⟨⟨Try.f17, _, _, Try.func17, c_r05_Great⟩, ⟨Try.f42, _, _, Try.func42, c_r01_abs⟩, ⟨Try.f43, _, _, Try.func43, c_r01_gcd⟩, ⟨Try.f15, _, _, Try.func15, c_r01_Check⟩, ⟨Try.f55, _, _, Try.func55, c_r01_Both⟩, ⟨Try.f56, _, _, Try.func56, c_r01_Of⟩, ⟨Try.f45, _, _, Try.func45, c_r01_times⟩, ⟨Try.f46, _, _, Try.func46, c_r01_less⟩, ⟨Try.f16, _, _, Try.func16, c_r01_Less⟩, ⟨Try.f71, _, _, Try.func71, c_r02_Point⟩, ⟨Try.f49, _, _, Try.func49, c_r05_right⟩, ⟨Try.f23, _, _, Try.func23, c_r05_Check⟩, ⟨Try.f8, _, _, Try.func8, c_l05_valid⟩, ⟨Try.f32, _, _, Try.func32, c_l05_of⟩, ⟨Try.f30, _, _, Try.func30, c_l05_value⟩, ⟨Try.f31, _, _, Try.func31, c_l05_mark⟩, ⟨Try.f66, _, _, Try.func66, c_ratio_size⟩, ⟨Try.f67, _, _, Try.func67, c_ratio_gcd⟩, ⟨Try.f72, _, _, Try.func72, c_ratio_Check⟩, ⟨Try.f84, _, _, Try.func84, c_cmp_Or_api_Errno⟩, ⟨Try.f73, _, _, Try.func73, c_ratio_check⟩, ⟨Try.f107, _, _, Try.func107, c_cmp_isNaN_int64⟩, ⟨Try.f99, _, _, Try.func99, c_cmp_Compare_int64⟩, ⟨Try.f74, _, _, Try.func74, c_m_Mul64⟩, ⟨Try.f108, _, _, Try.func108, c_cmp_isNaN_uint64⟩, ⟨Try.f101, _, _, Try.func101, c_cmp_Compare_uint64⟩, ⟨Try.f100, _, _, Try.func100, c_cmp_Or_int⟩, ⟨Try.f82, _, _, Try.func82, c_ratio_Cmp⟩, ⟨Try.f60, _, _, Try.func60, c_audit_order⟩, ⟨Try.f58, _, _, Try.func58, c_audit_whole⟩, ⟨Try.f57, _, _, Try.func57, c_audit_claimed⟩, ⟨Try.f33, _, _, Try.func33, c_audit_claims⟩, ⟨Try.f39, _, _, Try.func39, c_audit_scale⟩, ⟨Try.f97, _, _, Try.func97, c_m_Len32⟩, ⟨Try.f98, _, _, Try.func98, c_m_Len64⟩, ⟨Try.f81, _, _, Try.func81, c_m_Len⟩, ⟨Try.f89, _, _, Try.func89, c_slices_insertionSortCmpFunc_api_Ratio⟩, ⟨Try.f80, _, _, Try.func80, c_slices_pdqsortCmpFunc_api_Ratio⟩, ⟨Try.f59, _, _, Try.func59, c_s_SortFunc_api_Ratio_api_Ratio⟩, ⟨Try.f61, _, _, Try.func61, c_s_Compact_api_Ratio_api_Ratio⟩, ⟨Try.f34, _, _, Try.func34, c_audit_pointsOf⟩, ⟨Try.f63, _, _, Try.func63, c_s_BinarySearchFunc_api_Ratio_api_Ratio_api_Ratio⟩, ⟨Try.f62, _, _, Try.func62, c_audit_heights_1⟩, ⟨Try.f64, _, _, Try.func64, c_s_Clone_int64_int64⟩, ⟨Try.f65, _, _, Try.func65, c_s_Equal_int64_int64⟩, ⟨Try.f40, _, _, Try.func40, c_audit_heights⟩, ⟨Try.f68, _, _, Try.func68, c_ratio_signed⟩, ⟨Try.f41, _, _, Try.func41, c_ratio_Make⟩, ⟨Try.f13, _, _, Try.func13, c_audit_Guess⟩, ⟨Try.f20, _, _, Try.func20, c_audit_First⟩, ⟨Try.f24, _, _, Try.func24, c_r05_SameList⟩, ⟨Try.f25, _, _, Try.func25, c_r05_Same⟩, ⟨Try.f9, _, _, Try.func9, c_l05_alive⟩, ⟨Try.f10, _, _, Try.func10, c_audit_Points⟩, ⟨Try.f35, _, _, Try.func35, c_r05_Told⟩, ⟨Try.f36, _, _, Try.func36, c_r05_gcd⟩, ⟨Try.f11, _, _, Try.func11, c_r05_Scale⟩, ⟨Try.f37, _, _, Try.func37, c_r05_At⟩, ⟨Try.f38, _, _, Try.func38, c_r05_To⟩, ⟨Try.f12, _, _, Try.func12, c_l05_obeyed⟩, ⟨Try.f44, _, _, Try.func44, c_r01_made⟩, ⟨Try.f14, _, _, Try.func14, c_r01_Make⟩, ⟨Try.f3, _, _, Try.func3, c_l05_AuditLeast⟩, trivial⟩
theorem hm : Try.prog.follows .mixedOrders = true := by kernel_rfl
theorem isAdd : IsExtern Try.prog n_m_Add64 add64Entry := ⟨_, Try.func75, by kernel_rfl, by kernel_rfl, by kernel_rfl, by kernel_rfl⟩
theorem isSub : IsExtern Try.prog n_m_Sub64 sub64E := ⟨_, Try.func76, by kernel_rfl, by kernel_rfl, by kernel_rfl, by kernel_rfl⟩
theorem k0C : EnvOk Try.prog E0C := by
  refine baseC_ok hm isAdd isSub tabOk ?_
  intro n e b h
  cases h
theorem kN : EnvOk Try.prog (E []) := baseS_ok k0C fun e h => by cases h
theorem at_audit_order : SortsAt Try.prog srt_audit_order.s srt_audit_order.cf srt_audit_order.srt where
  size := srt_audit_order.srt_size (rt_swo _ _)
  pos := by decide
  enters := enters_of Try.func60 (by kernel_rfl) rfl
  entersN := enters_of Try.func59 (by kernel_rfl) rfl
  law := fun blk off cap d w hc hH hb hs => AnyQ.slices_SortFunc_eq Try.sortRt 2 Try.isAgg38 Try.sizeOf38 srt_audit_order.s.enc (fun x => Srt.enc_len x) (fun x => Srt.enc_one x) srt_audit_order.cf (rt_swo _ _) 60 #[] blk off cap d w (enters_of Try.func60 (by kernel_rfl) rfl) hc hH hb hs
theorem kS : EnvOk Try.prog (E ef0) := by
  refine baseS_ok k0C ?_
  intro e h
  simp only [ef0, List.mem_cons, List.not_mem_nil, or_false] at h
  rcases h with rfl | rfl
  · exact srt_sound srt_audit_order.s at_audit_order (fun x y => sum_ans kN hm (baseS_none (by kernel_rfl) _) (by kernel_rfl) (aorder_ans [] effG_nil x.2 y.2)) (inline_ok k0C hm 60) (fun H => by kernel_rfl) (fun H => by kernel_rfl)
  · exact clnD_sound (z := (.int .i64 (0))) (by kernel_rfl) (fun _ _ => rfl) (inline_ok k0C hm 12)
end Go.Proofs.Ytfdnnbmkmlhidaa.Al
