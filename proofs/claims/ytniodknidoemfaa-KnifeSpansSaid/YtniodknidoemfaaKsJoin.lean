/- The statement KnifeSpans: what the conditions and their plain laws say of the program's functions, joined with the program. -/
import Derived.Test.YtniodknidoemfaaRows

import Derived.Test.YtniodknidoemfaaKsW5
import Derived.WalkKit
import Derived.ProofKit
import Derived.OpenShut
import Derived.ReadAgain
import Derived.ChangeBears




namespace Go.Proofs.Ytniodknidoemfaa.Ks
open Go Go.Pf Go.Pf.Vc Go.ChangeShapes Go.WideShapes Go.ChangeAt Go.RowKit
set_option maxRecDepth 100000
def fg_r02_Great : List (Nat × List Nat) := [(1, [1, 3, 4, 5, 6, 7, 8, 9, 10, 11, 12]), (0, [0, 2])]
theorem c_r02_Great : compFn Try.prog [1] (fun i => (fg_r02_Great.lookup i).getD []) Try.f28 = some t_r02_Great.fn := by kernel_rfl
def fg_r04_GreatCakes : List (Nat × List Nat) := [(6, [0, 3, 7, 15, 16, 17]), (3, [8, 9, 14]), (5, [0, 3, 14]), (4, [7, 10, 11, 12, 13]), (2, [4, 5, 6]), (0, [2])]
theorem c_r04_GreatCakes : compFn Try.prog [] (fun i => (fg_r04_GreatCakes.lookup i).getD []) Try.f7 = some t_r04_GreatCakes.fn := by kernel_rfl
def fg_s_Min_int_int : List (Nat × List Nat) := [(8, [0, 3, 4, 15, 24]), (6, [16, 17]), (7, [15, 18, 19, 20, 21, 22, 23]), (5, [12, 13, 14]), (3, [7, 9, 10, 11]), (2, [7, 8]), (1, [5, 6]), (0, [2])]
theorem c_s_Min_int_int : compFn Try.prog [] (fun i => (fg_s_Min_int_int.lookup i).getD []) Try.f91 = some t_s_Min_int_int.fn := by kernel_rfl
def fg_s_Max_int_int : List (Nat × List Nat) := [(8, [0, 3, 4, 15, 24]), (6, [16, 17]), (7, [15, 18, 19, 20, 21, 22, 23]), (5, [12, 13, 14]), (3, [7, 9, 10, 11]), (2, [7, 8]), (1, [5, 6]), (0, [2])]
theorem c_s_Max_int_int : compFn Try.prog [] (fun i => (fg_s_Max_int_int.lookup i).getD []) Try.f92 = some t_s_Max_int_int.fn := by kernel_rfl
def fg_cake_Check : List (Nat × List Nat) := [(14, [81]), (13, [81]), (12, [1, 49, 50, 51, 66, 67, 68, 69, 70, 71, 72, 73, 74, 75, 76, 77, 78, 79, 80]), (11, [64, 65]), (10, [1, 49, 50, 64]), (9, [4, 53, 54, 55, 56, 57, 58, 59, 60, 61, 62, 63]), (8, [51, 52]), (6, [3, 47, 48]), (5, [1, 3, 47]), (4, [14, 15, 16, 17, 18, 19, 20, 21, 22, 23, 24, 25, 26, 27, 28, 29, 30, 31, 32, 33, 34, 35, 36, 37, 38, 39, 40, 41, 42, 43, 44, 45, 46]), (3, [1, 3, 14]), (2, [8, 9, 10, 11, 12, 13]), (1, [5, 6, 7]), (0, [0, 2])]
theorem c_cake_Check : compFn Try.prog [1] (fun i => (fg_cake_Check.lookup i).getD []) Try.f51 = some t_cake_Check.fn := by kernel_rfl
def fg_ask_Check : List (Nat × List Nat) := [(18, [1, 36, 37, 38, 39]), (17, [49, 50]), (16, [1, 36, 37, 38, 49]), (15, [7, 42, 43, 44, 45, 46, 47, 48]), (14, [39, 40, 41]), (12, [23, 24, 25, 26, 35]), (11, [5, 32, 34]), (10, [1, 5, 23, 24, 25, 32, 33]), (9, [31]), (8, [4, 29, 30]), (7, [26, 27, 28]), (5, [21, 22]), (4, [1, 21]), (3, [17, 18, 19, 20]), (2, [1, 17]), (1, [8, 9, 10, 11, 12, 13, 14, 15, 16]), (0, [0, 2])]
theorem c_ask_Check : compFn Try.prog [1, 4, 7] (fun i => (fg_ask_Check.lookup i).getD []) Try.f42 = some t_ask_Check.fn := by kernel_rfl
def fg_s_Clone_int_int : List (Nat × List Nat) := [(3, [0, 4, 5, 6, 7]), (2, [0, 4]), (1, [3]), (0, [2])]
theorem c_s_Clone_int_int : compFn Try.prog [] (fun i => (fg_s_Clone_int_int.lookup i).getD []) Try.f113 = some t_s_Clone_int_int.fn := by kernel_rfl
def fg_ask_copied : List (Nat × List Nat) := [(7, [3, 6, 7, 8, 9, 25]), (6, [24]), (5, [5, 12, 13, 14, 15, 16, 17, 18, 19, 20, 21, 22, 23]), (4, [9, 10, 11]), (2, [0]), (0, [2])]
theorem c_ask_copied : compFn Try.prog [22, 5] (fun i => (fg_ask_copied.lookup i).getD []) Try.f73 = some t_ask_copied.fn := by kernel_rfl
def fg_ask_Open : List (Nat × List Nat) := [(4, [0, 4, 9, 12, 13, 14]), (3, [0, 4, 9, 10, 11]), (2, [8]), (1, [5, 6, 7]), (0, [3])]
theorem c_ask_Open : compFn Try.prog [2] (fun i => (fg_ask_Open.lookup i).getD []) Try.f29 = some t_ask_Open.fn := by kernel_rfl
def fg_knife_whole : List (Nat × List Nat) := [(1, [0, 3, 4])]
theorem c_knife_whole : compFn Try.prog [2] (fun i => (fg_knife_whole.lookup i).getD []) Try.f30 = some t_knife_whole.fn := by kernel_rfl
def fg_cake_Total : List (Nat × List Nat) := [(10, [1, 5, 14, 15, 16, 17, 38]), (9, [37]), (8, [6, 7, 21, 22, 23, 24, 25, 26, 27, 28, 29, 30, 31, 32, 33, 34, 35, 36]), (7, [17, 18, 19, 20]), (5, [13]), (4, [4, 11]), (3, [1, 4, 11, 12]), (2, [10]), (1, [8, 9]), (0, [0, 2, 3])]
theorem c_cake_Total : compFn Try.prog [1] (fun i => (fg_cake_Total.lookup i).getD []) Try.f76 = some t_cake_Total.fn := by kernel_rfl
def fg_ratio_size : List (Nat × List Nat) := [(3, [0, 4, 8, 9]), (2, [0, 4, 5, 6, 7]), (1, [3]), (0, [2])]
theorem c_ratio_size : compFn Try.prog [] (fun i => (fg_ratio_size.lookup i).getD []) Try.f82 = some t_ratio_size.fn := by kernel_rfl
def fg_ratio_gcd : List (Nat × List Nat) := [(3, [0, 1, 6, 11]), (2, [6, 7, 8, 9, 10]), (1, [5]), (0, [4])]
theorem c_ratio_gcd : compFn Try.prog [] (fun i => (fg_ratio_gcd.lookup i).getD []) Try.f83 = some t_ratio_gcd.fn := by kernel_rfl
def fg_ratio_signed : List (Nat × List Nat) := [(5, [1, 2, 13, 20, 21, 22, 23, 24]), (4, [1, 2, 13, 14, 15, 16, 17, 18, 19]), (3, [0, 11]), (2, [0, 1, 2, 11, 12]), (1, [8, 9, 10]), (0, [7])]
theorem c_ratio_signed : compFn Try.prog [6] (fun i => (fg_ratio_signed.lookup i).getD []) Try.f85 = some t_ratio_signed.fn := by kernel_rfl
def fg_ratio_Make : List (Nat × List Nat) := [(5, [0, 1, 6, 7, 8, 19, 20, 21, 22, 23, 24, 25, 26, 27, 28, 29, 30, 31, 32]), (4, [16, 17, 18]), (3, [10, 12, 13, 14, 15]), (2, [0, 1, 10, 11]), (1, [9]), (0, [5])]
theorem c_ratio_Make : compFn Try.prog [4] (fun i => (fg_ratio_Make.lookup i).getD []) Try.f77 = some t_ratio_Make.fn := by kernel_rfl
def fg_knife_part : List (Nat × List Nat) := [(3, [7, 20]), (2, [1, 5, 8, 14, 15, 16, 17, 18, 19]), (1, [2, 6, 9, 10, 11, 12, 13]), (0, [0])]
theorem c_knife_part : compFn Try.prog [2, 4, 7] (fun i => (fg_knife_part.lookup i).getD []) Try.f32 = some t_knife_part.fn := by kernel_rfl
def fg_ratio_Check : List (Nat × List Nat) := [(3, [25]), (2, [25]), (1, [1, 3, 4, 5, 6, 7, 8, 9, 10, 11, 12, 13, 14, 15, 16, 17, 18, 19, 20, 21, 22, 23, 24]), (0, [0, 2])]
theorem c_ratio_Check : compFn Try.prog [1] (fun i => (fg_ratio_Check.lookup i).getD []) Try.f68 = some t_ratio_Check.fn := by kernel_rfl
def fg_cake_whole : List (Nat × List Nat) := [(1, [0, 3, 4])]
theorem c_cake_whole : compFn Try.prog [2] (fun i => (fg_cake_whole.lookup i).getD []) Try.f97 = some t_cake_whole.fn := by kernel_rfl
def fg_cmp_Or_api_Errno : List (Nat × List Nat) := [(8, [3, 6, 7, 8, 9, 17]), (7, [5, 14, 16]), (6, [3, 5, 6, 7, 8, 14, 15]), (5, [12, 13]), (4, [9, 10, 11]), (2, [0]), (0, [2])]
theorem c_cmp_Or_api_Errno : compFn Try.prog [] (fun i => (fg_cmp_Or_api_Errno.lookup i).getD []) Try.f121 = some t_cmp_Or_api_Errno.fn := by kernel_rfl
def fg_ratio_check : List (Nat × List Nat) := [(1, [2, 3, 5, 6, 7, 8, 9, 10]), (0, [0, 1, 4])]
theorem c_ratio_check : compFn Try.prog [9, 2, 3] (fun i => (fg_ratio_check.lookup i).getD []) Try.f81 = some t_ratio_check.fn := by kernel_rfl
def fg_cmp_isNaN_int64 : List (Nat × List Nat) := [(1, [0, 3, 4, 5]), (0, [2])]
theorem c_cmp_isNaN_int64 : compFn Try.prog [] (fun i => (fg_cmp_isNaN_int64.lookup i).getD []) Try.f127 = some t_cmp_isNaN_int64.fn := by kernel_rfl
def fg_cmp_Compare_int64 : List (Nat × List Nat) := [(13, [19]), (12, [19]), (11, [0, 1, 16, 17, 18]), (10, [0, 1, 16]), (9, [13, 14, 15]), (8, [0, 1, 13]), (7, [6, 11]), (6, [12]), (5, [12]), (4, [0, 1, 6, 11]), (3, [5]), (2, [9, 10]), (1, [7, 8]), (0, [4])]
theorem c_cmp_Compare_int64 : compFn Try.prog [] (fun i => (fg_cmp_Compare_int64.lookup i).getD []) Try.f115 = some t_cmp_Compare_int64.fn := by kernel_rfl
def fg_m_Mul64 : List (Nat × List Nat) := [(11, [0, 1, 48, 49, 50]), (10, [7, 9, 12, 13, 40, 41, 42, 43, 44, 45, 46, 47]), (9, [6, 35, 36, 37, 38, 39]), (8, [11, 33, 34]), (7, [31, 32]), (6, [8, 10, 25, 26, 27, 28, 29, 30]), (5, [22, 23, 24]), (4, [20, 21]), (3, [18, 19]), (2, [16, 17]), (1, [14, 15]), (0, [4, 5])]
theorem c_m_Mul64 : compFn Try.prog [] (fun i => (fg_m_Mul64.lookup i).getD []) Try.f84 = some t_m_Mul64.fn := by kernel_rfl
def fg_cmp_isNaN_uint64 : List (Nat × List Nat) := [(1, [0, 3, 4, 5]), (0, [2])]
theorem c_cmp_isNaN_uint64 : compFn Try.prog [] (fun i => (fg_cmp_isNaN_uint64.lookup i).getD []) Try.f128 = some t_cmp_isNaN_uint64.fn := by kernel_rfl
def fg_cmp_Compare_uint64 : List (Nat × List Nat) := [(13, [19]), (12, [19]), (11, [0, 1, 16, 17, 18]), (10, [0, 1, 16]), (9, [13, 14, 15]), (8, [0, 1, 13]), (7, [6, 11]), (6, [12]), (5, [12]), (4, [0, 1, 6, 11]), (3, [5]), (2, [9, 10]), (1, [7, 8]), (0, [4])]
theorem c_cmp_Compare_uint64 : compFn Try.prog [] (fun i => (fg_cmp_Compare_uint64.lookup i).getD []) Try.f117 = some t_cmp_Compare_uint64.fn := by kernel_rfl
def fg_cmp_Or_int : List (Nat × List Nat) := [(8, [3, 6, 7, 8, 9, 17]), (7, [5, 14, 16]), (6, [3, 5, 6, 7, 8, 14, 15]), (5, [12, 13]), (4, [9, 10, 11]), (2, [0]), (0, [2])]
theorem c_cmp_Or_int : compFn Try.prog [] (fun i => (fg_cmp_Or_int.lookup i).getD []) Try.f116 = some t_cmp_Or_int.fn := by kernel_rfl
def fg_ratio_Cmp : List (Nat × List Nat) := [(11, [11, 60, 63]), (10, [60, 61, 62]), (9, [2, 58, 59]), (8, [7, 8, 9, 10, 50, 51, 52, 53, 54, 55, 56, 57]), (7, [3, 40, 41, 42, 43, 44, 45, 46, 47, 48, 49]), (6, [24, 30, 31, 32, 33, 34, 35, 36, 37, 38, 39]), (5, [2, 3, 24, 25, 26, 27, 28, 29]), (4, [6, 16, 18, 19, 20, 21, 22, 23]), (3, [2, 3, 6, 16, 17]), (2, [15]), (1, [12, 13, 14]), (0, [0, 1, 4, 5])]
theorem c_ratio_Cmp : compFn Try.prog [56, 2, 3] (fun i => (fg_ratio_Cmp.lookup i).getD []) Try.f78 = some t_ratio_Cmp.fn := by kernel_rfl
def fg_cake_less : List (Nat × List Nat) := [(2, [5, 13, 14]), (1, [2, 3, 6, 7, 8, 9, 10, 11, 12]), (0, [0, 1, 4])]
theorem c_cake_less : compFn Try.prog [2, 3] (fun i => (fg_cake_less.lookup i).getD []) Try.f96 = some t_cake_less.fn := by kernel_rfl
def fg_cake_point : List (Nat × List Nat) := [(1, [2, 3, 5, 6, 7, 8, 9, 10, 11, 12, 13, 14, 15, 16, 17, 18, 19, 20]), (0, [0, 1, 4])]
theorem c_cake_point : compFn Try.prog [2, 3] (fun i => (fg_cake_point.lookup i).getD []) Try.f93 = some t_cake_point.fn := by kernel_rfl
def fg_m_Len64 : List (Nat × List Nat) := [(10, [0, 14, 19, 20, 21, 22, 23, 24]), (9, [17, 18]), (8, [14, 15, 16]), (7, [8, 13]), (6, [11, 12]), (5, [8, 9, 10]), (4, [4, 7]), (2, [2, 4, 5, 6]), (1, [3])]
theorem c_m_Len64 : compFn Try.prog [] (fun i => (fg_m_Len64.lookup i).getD []) Try.f130 = some t_m_Len64.fn := by kernel_rfl
def fg_m_LeadingZeros64 : List (Nat × List Nat) := [(1, [0, 3, 4, 5]), (0, [2])]
theorem c_m_LeadingZeros64 : compFn Try.prog [] (fun i => (fg_m_LeadingZeros64.lookup i).getD []) Try.f122 = some t_m_LeadingZeros64.fn := by kernel_rfl
def fg_m_Div64 : List (Nat × List Nat) := [(28, [2, 8, 9, 10, 14, 15, 16, 17, 18, 113, 120, 121, 122, 123, 124, 125, 126, 127, 128, 129, 130, 131, 132, 133, 134]), (27, [119]), (26, [116, 117, 118]), (25, [113, 114, 115]), (24, [102, 103, 104, 105, 106, 107, 108, 109, 110, 111, 112, 120]), (23, [97, 98, 99, 100, 101]), (22, [94, 95, 96]), (21, [11, 13, 16, 78, 85, 86, 87, 88, 89, 90, 91, 92, 93]), (20, [84]), (19, [81, 82, 83]), (18, [78, 79, 80]), (17, [67, 68, 69, 70, 71, 72, 73, 74, 75, 76, 77, 85]), (16, [62, 63, 64, 65, 66]), (15, [59, 60, 61]), (14, [12, 57, 58]), (13, [55, 56]), (12, [1, 52, 53, 54]), (11, [0, 44, 45, 46, 47, 48, 49, 50, 51]), (10, [42, 43]), (9, [40, 41]), (8, [37, 38, 39]), (7, [27, 34, 35, 36]), (6, [0, 1, 2, 27, 28, 29, 30, 31, 32, 33]), (5, [24, 26]), (4, [24, 25]), (3, [20, 22, 23]), (2, [20, 21]), (1, [19]), (0, [6, 7])]
theorem c_m_Div64 : compFn Try.prog [] (fun i => (fg_m_Div64.lookup i).getD []) Try.f89 = some t_m_Div64.fn := by kernel_rfl
def fg_m_Rem64 : List (Nat × List Nat) := [(2, [8, 18]), (1, [0, 1, 2, 7, 9, 10, 11, 12, 13, 14, 15, 16, 17]), (0, [6])]
theorem c_m_Rem64 : compFn Try.prog [] (fun i => (fg_m_Rem64.lookup i).getD []) Try.f88 = some t_m_Rem64.fn := by kernel_rfl
def fg_ratio_Add : List (Nat × List Nat) := [(26, [12, 17, 20, 153, 155, 156, 157, 158, 159, 160]), (25, [12, 17, 20, 153, 154]), (24, [19, 152]), (23, [2, 3, 7, 16, 138, 139, 140, 141, 142, 143, 144, 145, 146, 147, 148, 149, 150, 151]), (22, [13, 14, 18, 129, 131, 132, 133, 134, 135, 136, 137]), (21, [2, 3, 7, 12, 13, 14, 16, 129, 130]), (20, [127, 128]), (19, [119, 121, 122, 123, 124, 125, 126]), (18, [2, 3, 7, 12, 13, 14, 119, 120]), (17, [114, 115, 116, 117, 118]), (16, [8, 10, 15, 107, 108, 109, 110, 111, 112, 113]), (15, [9, 11, 94, 101, 102, 103, 104, 105, 106]), (14, [99, 100]), (13, [94, 95, 96, 97, 98]), (12, [68, 82, 83, 84, 85, 86, 87, 88, 89, 90, 91, 92, 93]), (11, [8, 10, 15, 75, 76, 77, 78, 79, 80, 81]), (10, [9, 11, 68, 69, 70, 71, 72, 73, 74]), (9, [62, 63, 64, 65, 66, 67]), (8, [13, 14, 15]), (7, [59, 60, 61]), (6, [47, 48, 49, 50, 51, 52, 53, 54, 55, 56, 57, 58]), (5, [35, 36, 37, 38, 39, 40, 41, 42, 43, 44, 45, 46]), (4, [6, 25, 28, 29, 30, 31, 32, 33, 34]), (3, [2, 3, 6, 25, 26, 27]), (2, [24]), (1, [21, 22, 23]), (0, [0, 1, 5])]
theorem c_ratio_Add : compFn Try.prog [2, 3, 4] (fun i => (fg_ratio_Add.lookup i).getD []) Try.f49 = some t_ratio_Add.fn := by kernel_rfl
def fg_ratio_Sub : List (Nat × List Nat) := [(5, [2, 3, 18, 19, 20, 21, 22]), (4, [6, 11, 14, 15, 16, 17]), (3, [2, 3, 6, 11, 12, 13]), (2, [10]), (1, [7, 8, 9]), (0, [0, 1, 5])]
theorem c_ratio_Sub : compFn Try.prog [2, 3, 4] (fun i => (fg_ratio_Sub.lookup i).getD []) Try.f46 = some t_ratio_Sub.fn := by kernel_rfl
def fg_ratio_Mul : List (Nat × List Nat) := [(10, [2, 3, 14, 16, 65, 67, 68, 69, 70, 71, 72, 73, 74, 75, 76, 77, 78, 79, 80, 81, 82]), (9, [2, 3, 14, 16, 65, 66]), (8, [13, 15, 62, 63, 64]), (7, [8, 10, 11, 12, 52, 53, 54, 55, 56, 57, 58, 59, 60, 61]), (6, [7, 9, 42, 43, 44, 45, 46, 47, 48, 49, 50, 51]), (5, [36, 37, 38, 39, 40, 41]), (4, [6, 21, 24, 25, 26, 27, 28, 29, 30, 31, 32, 33, 34, 35]), (3, [2, 3, 6, 21, 22, 23]), (2, [20]), (1, [17, 18, 19]), (0, [0, 1, 5])]
theorem c_ratio_Mul : compFn Try.prog [2, 3, 4] (fun i => (fg_ratio_Mul.lookup i).getD []) Try.f48 = some t_ratio_Mul.fn := by kernel_rfl
def fg_ratio_Div : List (Nat × List Nat) := [(8, [2, 3, 19, 34, 35, 36, 37, 38, 39, 40, 41, 42]), (7, [2, 3, 19, 23, 24, 25, 26, 27, 28, 29, 30, 31, 32, 33]), (6, [14, 20, 21, 22]), (5, [2, 3, 14, 18]), (4, [6, 11, 15, 16, 17]), (3, [2, 3, 6, 11, 12, 13]), (2, [10]), (1, [7, 8, 9]), (0, [0, 1, 5])]
theorem c_ratio_Div : compFn Try.prog [2, 3, 4] (fun i => (fg_ratio_Div.lookup i).getD []) Try.f47 = some t_ratio_Div.fn := by kernel_rfl
def fg_cake_Mark_1 : List (Nat × List Nat) := [(12, [5, 6, 7, 14, 15, 41, 48]), (11, [6, 7, 14, 41, 42, 43, 44, 45, 46, 47]), (10, [40]), (9, [3, 4, 9, 20, 33, 34, 35, 36, 37, 38, 39]), (8, [5, 13, 29, 31, 32]), (7, [5, 29, 30]), (6, [28]), (5, [4, 12, 27]), (4, [3, 6, 7, 9, 20, 21, 22, 23, 24, 25, 26]), (3, [17, 18, 19]), (2, [3, 4, 5, 6, 7, 9, 17]), (1, [16]), (0, [0, 1, 2, 8, 11])]
theorem c_cake_Mark_1 : compFn Try.prog [7, 8, 9, 12, 14] (fun i => (fg_cake_Mark_1.lookup i).getD []) Try.f95 = some t_cake_Mark_1.fn := by kernel_rfl
def fg_cake_walk : List (Nat × List Nat) := [(18, [2, 3, 4, 14, 15, 16, 17]), (17, [8, 9, 31, 61]), (16, [9, 59, 60]), (15, [2, 3, 4, 9, 14, 15, 16, 59]), (14, [8, 10, 12, 34, 52, 54, 55, 56, 57, 58]), (13, [2, 3, 4, 8, 9, 10, 12, 14, 15, 16, 52, 53]), (12, [51]), (11, [11, 42, 44, 45, 46, 47, 48, 49, 50]), (10, [2, 3, 4, 8, 9, 10, 11, 12, 14, 15, 16, 42, 43]), (9, [41]), (8, [34, 35, 36, 37, 38, 39, 40]), (7, [33]), (6, [31, 32]), (5, [28, 29, 30]), (4, [7, 21, 22, 23, 24, 25, 26, 27]), (3, [17, 18, 19, 20]), (1, [13]), (0, [0, 1, 6])]
theorem c_cake_walk : compFn Try.prog [3, 4, 9, 10, 11] (fun i => (fg_cake_walk.lookup i).getD []) Try.f94 = some t_cake_walk.fn := by kernel_rfl
def fg_cake_Mark : List (Nat × List Nat) := [(15, [9, 10, 45, 48]), (14, [9, 10, 45, 46, 47]), (13, [11, 42, 44]), (12, [11, 42, 43]), (11, [41]), (10, [3, 4, 5, 37, 38, 39, 40]), (8, [35]), (7, [3, 4, 5, 35, 36]), (6, [31, 33, 34]), (5, [3, 4, 5, 31, 32]), (4, [8, 15, 18, 19, 20, 21, 22, 23, 24, 25, 26, 27, 28, 29, 30]), (3, [3, 4, 5, 8, 15, 16, 17]), (2, [14]), (1, [12, 13]), (0, [0, 1, 2, 7])]
theorem c_cake_Mark : compFn Try.prog [3, 4, 6] (fun i => (fg_cake_Mark.lookup i).getD []) Try.f52 = some t_cake_Mark.fn := by kernel_rfl
def fg_ask_office_mark : List (Nat × List Nat) := [(1, [1, 4, 6, 7, 10, 11, 12, 13, 14, 15, 16, 17, 18, 19, 20]), (0, [0, 2, 3, 9])]
theorem c_ask_office_mark : compFn Try.prog [4, 6, 7, 8] (fun i => (fg_ask_office_mark.lookup i).getD []) Try.f75 = some t_ask_office_mark.fn := by kernel_rfl
def fg_ask_office_has : List (Nat × List Nat) := [(1, [1, 2, 5, 6, 7, 8, 9, 10, 11, 12, 13, 14]), (0, [0, 4])]
theorem c_ask_office_has : compFn Try.prog [2] (fun i => (fg_ask_office_has.lookup i).getD []) Try.f114 = some t_ask_office_has.fn := by kernel_rfl
def fg_ask_office_ask : List (Nat × List Nat) := [(13, [3, 4, 10, 12, 59, 60, 61, 62, 63, 64, 65, 66, 67, 68, 69, 70, 71, 72]), (12, [53, 54, 55, 56, 57, 58]), (11, [48, 51, 52]), (10, [3, 4, 10, 48, 49, 50]), (9, [11, 40, 44, 45, 46, 47]), (8, [3, 4, 10, 11, 40, 41, 42, 43]), (7, [39]), (6, [2, 25, 28, 29, 30, 31, 32, 33, 34, 35, 36, 37, 38]), (5, [2, 3, 4, 25, 26, 27]), (4, [9, 17, 21, 22, 23, 24]), (3, [2, 3, 4, 9, 17, 18, 19, 20]), (2, [16]), (1, [13, 14, 15]), (0, [0, 1, 8])]
theorem c_ask_office_ask : compFn Try.prog [69, 3, 4, 6, 7, 10] (fun i => (fg_ask_office_ask.lookup i).getD []) Try.f74 = some t_ask_office_ask.fn := by kernel_rfl
def fg_ask_Mark : List (Nat × List Nat) := [(2, [1, 6, 7, 11, 14, 15, 16, 17, 18, 19, 20, 21, 22, 23, 24]), (1, [4, 12, 13]), (0, [0, 2, 3, 10])]
theorem c_ask_Mark : compFn Try.prog [4, 6, 7, 8, 9, 11] (fun i => (fg_ask_Mark.lookup i).getD []) Try.f31 = some t_ask_Mark.fn := by kernel_rfl
def fg_knife_less : List (Nat × List Nat) := [(2, [5, 13, 14]), (1, [2, 3, 6, 7, 8, 9, 10, 11, 12]), (0, [0, 1, 4])]
theorem c_knife_less : compFn Try.prog [2, 3] (fun i => (fg_knife_less.lookup i).getD []) Try.f33 = some t_knife_less.fn := by kernel_rfl
def fg_knife_Spans : List (Nat × List Nat) := [(30, [6, 7, 125, 126, 127, 128, 129, 130, 131, 132, 133]), (29, [0, 9, 47, 111, 112, 113, 114, 115, 116, 117, 118, 119, 120, 121, 122, 123, 124]), (28, [11, 110]), (27, [10, 102, 103, 104, 105, 106, 107, 108, 109]), (26, [17, 98, 99, 100, 101]), (25, [90, 91, 92, 93, 94, 95, 96, 97]), (24, [49, 50, 51, 52, 86, 87, 88, 89]), (23, [12, 15, 82, 85]), (22, [12, 15, 82, 83, 84]), (21, [76, 77, 78, 79, 80, 81]), (20, [14, 16, 72, 75]), (19, [0, 6, 7, 9, 10, 11, 12, 14, 15, 16, 49, 50, 51, 72, 73, 74]), (18, [71]), (17, [13, 56, 57, 58, 59, 60, 61, 62, 63, 64, 65, 66, 67, 68, 69, 70]), (16, [52, 53, 54, 55]), (13, [47, 48]), (12, [45, 46]), (11, [44]), (10, [31, 32, 33, 40, 41, 42, 43]), (9, [39]), (8, [8, 35, 36, 37, 38]), (7, [33, 34]), (5, [30]), (4, [5, 24, 27, 28, 29]), (3, [0, 6, 24, 25, 26]), (2, [23]), (1, [18, 19, 20, 21, 22]), (0, [4, 5])]
theorem c_knife_Spans : compFn Try.prog [37, 96, 100, 123, 130, 2, 6, 9, 11, 14, 15] (fun i => (fg_knife_Spans.lookup i).getD []) Try.f8 = some t_knife_Spans.fn := by kernel_rfl
def fg_r02_Check : List (Nat × List Nat) := [(14, [98]), (13, [98]), (12, [1, 3, 4, 57, 97]), (8, [58, 59]), (11, [87, 88, 89, 90, 91, 92, 93, 94, 95, 96]), (10, [1, 3, 4, 87]), (9, [57, 60, 61, 62, 63, 64, 65, 66, 67, 68, 69, 70, 71, 72, 73, 74, 75, 76, 77, 78, 79, 80, 81, 82, 83, 84, 85, 86]), (7, [53, 54, 55, 56]), (5, [52]), (4, [1, 52]), (3, [13, 14, 15, 16, 17, 18, 19, 20, 21, 22, 23, 24, 25, 26, 27, 28, 29, 30, 31, 32, 33, 34, 35, 36, 37, 38, 39, 40, 41, 42, 43, 44, 45, 46, 47, 48, 49, 50, 51]), (2, [1, 13]), (1, [5, 6, 7, 8, 9, 10, 11, 12]), (0, [0, 2])]
theorem c_r02_Check : compFn Try.prog [1] (fun i => (fg_r02_Check.lookup i).getD []) Try.f53 = some t_r02_Check.fn := by kernel_rfl
def fg_r04_Check : List (Nat × List Nat) := [(15, [1, 4, 43]), (12, [44, 45, 57]), (14, [1, 4, 57]), (13, [43, 46, 47, 48, 49, 50, 51, 52, 53, 54, 55, 56]), (11, [39, 40, 41, 42]), (10, [3, 23]), (7, [24, 25, 32]), (9, [1, 3, 32, 33, 34, 35, 36, 37, 38]), (8, [23, 26, 27, 28, 29, 30, 31]), (6, [19, 20, 21, 22]), (5, [18]), (4, [1, 18]), (3, [14, 15, 16, 17]), (2, [1, 14]), (1, [5, 6, 7, 8, 9, 10, 11, 12, 13]), (0, [0, 2])]
theorem c_r04_Check : compFn Try.prog [1] (fun i => (fg_r04_Check.lookup i).getD []) Try.f62 = some t_r04_Check.fn := by kernel_rfl
def fg_r02_Twin : List (Nat × List Nat) := [(1, [1, 3, 4, 5, 6, 7, 8, 9, 10, 11, 12, 13]), (0, [0])]
theorem c_r02_Twin : compFn Try.prog [5, 9, 1, 2] (fun i => (fg_r02_Twin.lookup i).getD []) Try.f118 = some t_r02_Twin.fn := by kernel_rfl
def fg_r04_Twins : List (Nat × List Nat) := [(6, [0, 3, 4, 8, 19]), (4, [9, 10]), (5, [8, 11, 12, 13, 14, 15, 16, 17, 18]), (3, [5, 6, 7]), (0, [2])]
theorem c_r04_Twins : compFn Try.prog [17] (fun i => (fg_r04_Twins.lookup i).getD []) Try.f79 = some t_r04_Twins.fn := by kernel_rfl
def fg_r04_Open : List (Nat × List Nat) := [(4, [0, 4, 9, 13, 14, 15]), (3, [0, 4, 9, 10, 11, 12]), (2, [7, 8]), (1, [5, 6]), (0, [3])]
theorem c_r04_Open : compFn Try.prog [2, 4] (fun i => (fg_r04_Open.lookup i).getD []) Try.f34 = some t_r04_Open.fn := by kernel_rfl
def fg_r01_Of : List (Nat × List Nat) := [(1, [0, 3, 4])]
theorem c_r01_Of : compFn Try.prog [2] (fun i => (fg_r01_Of.lookup i).getD []) Try.f25 = some t_r01_Of.fn := by kernel_rfl
def fg_r02_Whole : List (Nat × List Nat) := [(6, [1, 3, 4, 9, 32]), (4, [10, 11]), (5, [9, 12, 13, 14, 15, 16, 17, 18, 19, 20, 21, 22, 23, 24, 25, 26, 27, 28, 29, 30, 31]), (3, [5, 6, 7, 8]), (0, [0, 2])]
theorem c_r02_Whole : compFn Try.prog [1] (fun i => (fg_r02_Whole.lookup i).getD []) Try.f57 = some t_r02_Whole.fn := by kernel_rfl
def fg_r01_abs : List (Nat × List Nat) := [(3, [0, 4, 10, 11]), (2, [0, 4, 5, 6, 7, 8, 9]), (1, [3]), (0, [2])]
theorem c_r01_abs : compFn Try.prog [] (fun i => (fg_r01_abs.lookup i).getD []) Try.f59 = some t_r01_abs.fn := by kernel_rfl
def fg_r01_gcd : List (Nat × List Nat) := [(3, [0, 1, 6, 11]), (2, [6, 7, 8, 9, 10]), (1, [5]), (0, [4])]
theorem c_r01_gcd : compFn Try.prog [] (fun i => (fg_r01_gcd.lookup i).getD []) Try.f90 = some t_r01_gcd.fn := by kernel_rfl
def fg_r01_made : List (Nat × List Nat) := [(6, [8, 35, 40]), (5, [35, 36, 37, 38, 39]), (4, [0]), (3, [4, 5, 26, 28, 29, 30, 31, 32, 33, 34]), (2, [0, 4, 5, 26, 27]), (1, [9, 10, 11, 12, 13, 14, 15, 16, 17, 18, 19, 20, 21, 22, 23, 24, 25]), (0, [1, 2, 7])]
theorem c_r01_made : compFn Try.prog [4, 5, 6, 8] (fun i => (fg_r01_made.lookup i).getD []) Try.f106 = some t_r01_made.fn := by kernel_rfl
def fg_r01_Make : List (Nat × List Nat) := [(5, [0, 1, 6, 7, 8, 19, 20, 21, 22, 23, 24, 25, 26, 27, 28, 29, 30, 31, 32, 33, 34]), (4, [16, 17, 18]), (3, [10, 12, 13, 14, 15]), (2, [0, 1, 10, 11]), (1, [9]), (0, [5])]
theorem c_r01_Make : compFn Try.prog [4] (fun i => (fg_r01_Make.lookup i).getD []) Try.f56 = some t_r01_Make.fn := by kernel_rfl
def fg_r08_Share : List (Nat × List Nat) := [(2, [5, 20]), (1, [1, 2, 6, 7, 8, 9, 10, 11, 12, 13, 14, 15, 16, 17, 18, 19]), (0, [0])]
theorem c_r08_Share : compFn Try.prog [2, 4, 5] (fun i => (fg_r08_Share.lookup i).getD []) Try.f26 = some t_r08_Share.fn := by kernel_rfl
def fg_r04_Agent : List (Nat × List Nat) := [(1, [1, 2, 5, 6, 7, 8, 9, 10, 11, 12, 13]), (0, [0, 4])]
theorem c_r04_Agent : compFn Try.prog [2] (fun i => (fg_r04_Agent.lookup i).getD []) Try.f119 = some t_r04_Agent.fn := by kernel_rfl
def fg_r01_Check : List (Nat × List Nat) := [(3, [30]), (2, [30]), (1, [1, 3, 4, 5, 6, 7, 8, 9, 10, 11, 12, 13, 14, 15, 16, 17, 18, 19, 20, 21, 22, 23, 24, 25, 26, 27, 28, 29]), (0, [0, 2])]
theorem c_r01_Check : compFn Try.prog [1] (fun i => (fg_r01_Check.lookup i).getD []) Try.f50 = some t_r01_Check.fn := by kernel_rfl
def fg_r01_times : List (Nat × List Nat) := [(5, [5, 7, 9, 10, 11, 35, 36, 37, 38, 39, 40, 41, 42, 43, 44, 45, 46, 47, 48, 49]), (4, [6, 26, 27, 28, 29, 30, 31, 32, 33, 34]), (3, [8, 20, 21, 22, 23, 24, 25]), (2, [1, 16, 17, 18, 19]), (1, [0, 12, 13, 14, 15])]
theorem c_r01_times : compFn Try.prog [4] (fun i => (fg_r01_times.lookup i).getD []) Try.f58 = some t_r01_times.fn := by kernel_rfl
def fg_r01_less : List (Nat × List Nat) := [(1, [2, 3, 5, 6, 7, 8, 9, 10, 11, 12, 13, 14, 15, 16, 17, 18, 19, 20, 21, 22, 23]), (0, [0, 1, 4])]
theorem c_r01_less : compFn Try.prog [2, 3] (fun i => (fg_r01_less.lookup i).getD []) Try.f60 = some t_r01_less.fn := by kernel_rfl
def fg_r01_Less : List (Nat × List Nat) := [(6, [5, 6, 33, 37, 38, 39]), (5, [5, 6, 33, 34, 35, 36]), (4, [2, 31, 32]), (3, [3, 13, 17, 18, 19, 20, 21, 22, 23, 24, 25, 26, 27, 28, 29, 30]), (2, [2, 3, 13, 14, 15, 16]), (1, [7, 8, 9, 10, 11, 12]), (0, [0, 1, 4])]
theorem c_r01_Less : compFn Try.prog [2, 3, 5, 6] (fun i => (fg_r01_Less.lookup i).getD []) Try.f20 = some t_r01_Less.fn := by kernel_rfl
def fg_r02_Point : List (Nat × List Nat) := [(1, [0, 3, 5, 6, 7, 8, 9, 10, 11, 12, 13, 14, 15, 16, 17, 18, 19]), (0, [1, 4])]
theorem c_r02_Point : compFn Try.prog [3] (fun i => (fg_r02_Point.lookup i).getD []) Try.f16 = some t_r02_Point.fn := by kernel_rfl
def fg_r02_later : List (Nat × List Nat) := [(3, [2, 3, 7, 9]), (2, [2, 3, 7, 8]), (1, [5, 6]), (0, [0, 1])]
theorem c_r02_later : compFn Try.prog [2, 3, 4] (fun i => (fg_r02_later.lookup i).getD []) Try.f98 = some t_r02_later.fn := by kernel_rfl
def fg_r02_sooner : List (Nat × List Nat) := [(3, [2, 3, 7, 9]), (2, [2, 3, 7, 8]), (1, [5, 6]), (0, [0, 1])]
theorem c_r02_sooner : compFn Try.prog [2, 3, 4] (fun i => (fg_r02_sooner.lookup i).getD []) Try.f99 = some t_r02_sooner.fn := by kernel_rfl
def fg_r01_Both : List (Nat × List Nat) := [(3, [2, 3, 7, 10, 11]), (2, [2, 3, 7, 8, 9]), (1, [5, 6]), (0, [0, 1, 4])]
theorem c_r01_Both : compFn Try.prog [2, 3] (fun i => (fg_r01_Both.lookup i).getD []) Try.f102 = some t_r01_Both.fn := by kernel_rfl
def fg_r01_Neg : List (Nat × List Nat) := [(2, [1, 7]), (1, [3, 4, 5, 6]), (0, [0])]
theorem c_r01_Neg : compFn Try.prog [1, 2] (fun i => (fg_r01_Neg.lookup i).getD []) Try.f123 = some t_r01_Neg.fn := by kernel_rfl
def fg_r01_plus : List (Nat × List Nat) := [(5, [5, 6, 20, 23, 24, 25]), (4, [20, 21, 22]), (3, [2, 17, 18, 19]), (2, [3, 12, 13, 14, 15, 16]), (1, [7, 8, 9, 10, 11]), (0, [0, 1])]
theorem c_r01_plus : compFn Try.prog [2, 3, 4] (fun i => (fg_r01_plus.lookup i).getD []) Try.f103 = some t_r01_plus.fn := by kernel_rfl
def fg_r01_minus : List (Nat × List Nat) := [(4, [2, 3, 5, 15, 18, 19, 20, 21, 22, 23, 24]), (3, [15, 16, 17]), (2, [11, 12, 13, 14]), (1, [6, 7, 8, 9, 10]), (0, [0, 1])]
theorem c_r01_minus : compFn Try.prog [2, 3, 4] (fun i => (fg_r01_minus.lookup i).getD []) Try.f104 = some t_r01_minus.fn := by kernel_rfl
def fg_r01_split : List (Nat × List Nat) := [(14, [1, 2, 6, 7, 8, 11, 45, 46]), (5, [12, 13, 37]), (13, [41, 42, 43, 44]), (12, [37, 38, 39, 40]), (11, [35, 36]), (10, [32, 33, 34]), (9, [9, 21, 28, 29, 30, 31]), (8, [21, 22, 23, 24, 25, 26, 27]), (7, [20]), (6, [11, 14, 15, 16, 17, 18, 19]), (4, [10]), (0, [0, 5])]
theorem c_r01_split : compFn Try.prog [2, 4, 6] (fun i => (fg_r01_split.lookup i).getD []) Try.f105 = some t_r01_split.fn := by kernel_rfl
def fg_r01_Add : List (Nat × List Nat) := [(17, [2, 3, 6, 9, 13, 14, 93, 94, 95, 96, 97, 98, 99, 100, 101, 102, 103, 104, 105, 106, 107, 108]), (16, [10, 15, 87, 88, 89, 90, 91, 92]), (15, [12, 84, 85, 86]), (14, [11, 76, 78, 79, 80, 81, 82, 83]), (13, [2, 3, 6, 9, 10, 76, 77]), (12, [7, 8, 61, 67, 74, 75]), (11, [71, 72, 73]), (10, [7, 8, 9, 67, 68, 69, 70]), (9, [65, 66]), (8, [61, 62, 63, 64]), (7, [55, 56, 57, 58, 59, 60]), (6, [52, 53, 54]), (5, [49, 50, 51]), (4, [31, 32, 33, 34, 35, 36, 37, 38, 39, 40, 41, 42, 43, 44, 45, 46, 47, 48]), (3, [19, 24, 25, 26, 27, 28, 29, 30]), (2, [2, 3, 19, 20, 21, 22, 23]), (1, [16, 17, 18]), (0, [0, 1, 5])]
theorem c_r01_Add : compFn Try.prog [2, 3, 4, 7, 8, 10, 11, 14] (fun i => (fg_r01_Add.lookup i).getD []) Try.f55 = some t_r01_Add.fn := by kernel_rfl
def fg_r01_Sub : List (Nat × List Nat) := [(3, [2, 3, 9, 14, 15, 16, 17, 18, 19]), (2, [2, 3, 9, 10, 11, 12, 13]), (1, [6, 7, 8]), (0, [0, 1, 5])]
theorem c_r01_Sub : compFn Try.prog [2, 3, 4] (fun i => (fg_r01_Sub.lookup i).getD []) Try.f100 = some t_r01_Sub.fn := by kernel_rfl
def fg_r01_Mul : List (Nat × List Nat) := [(4, [2, 3, 6, 7, 30, 31, 32, 33, 34, 35, 36, 37, 38, 39, 40, 41, 42, 43, 44, 45, 46, 47, 48, 49, 50, 51, 52, 53, 54, 55, 56, 57, 58, 59, 60, 61, 62, 63, 64, 65, 66, 67, 68, 69, 70, 71]), (3, [11, 16, 17, 18, 19, 20, 21, 22, 23, 24, 25, 26, 27, 28, 29]), (2, [2, 3, 11, 12, 13, 14, 15]), (1, [8, 9, 10]), (0, [0, 1, 5])]
theorem c_r01_Mul : compFn Try.prog [2, 3, 4] (fun i => (fg_r01_Mul.lookup i).getD []) Try.f101 = some t_r01_Mul.fn := by kernel_rfl
def fg_r02_worth : List (Nat × List Nat) := [(7, [1, 4, 12, 13, 51, 54, 55, 56, 57, 58, 59, 60, 61, 62, 63]), (6, [1, 4, 12, 13, 51, 52, 53]), (5, [50]), (4, [10, 11, 42, 44, 45, 46, 47, 48, 49]), (3, [1, 4, 10, 11, 42, 43]), (2, [31, 32, 33, 34, 35, 36, 37, 38, 39, 40, 41]), (1, [6, 7, 14, 15, 16, 17, 18, 19, 20, 21, 22, 23, 24, 25, 26, 27, 28, 29, 30]), (0, [0, 2, 3, 9])]
theorem c_r02_worth : compFn Try.prog [4, 6, 7, 8, 10, 11, 12] (fun i => (fg_r02_worth.lookup i).getD []) Try.f54 = some t_r02_worth.fn := by kernel_rfl
def fg_r02_Value : List (Nat × List Nat) := [(15, [3, 4, 5, 8, 9, 41, 66]), (8, [11, 42, 43, 63]), (14, [3, 4, 5, 8, 9, 11, 63, 64, 65]), (13, [62]), (12, [10, 53, 56, 57, 58, 59, 60, 61]), (11, [3, 4, 5, 8, 9, 10, 11, 53, 54, 55]), (10, [52]), (9, [41, 44, 45, 46, 47, 48, 49, 50, 51]), (7, [37, 38, 39, 40]), (5, [34, 36]), (4, [3, 4, 5, 34, 35]), (3, [14, 18, 19, 20, 21, 22, 23, 24, 25, 26, 27, 28, 29, 30, 31, 32, 33]), (2, [3, 4, 5, 14, 15, 16, 17]), (1, [12, 13]), (0, [0, 1, 2, 7])]
theorem c_r02_Value : compFn Try.prog [3, 4, 5, 6, 8, 10] (fun i => (fg_r02_Value.lookup i).getD []) Try.f18 = some t_r02_Value.fn := by kernel_rfl
def fg_r01_Div : List (Nat × List Nat) := [(8, [2, 3, 6, 26, 34, 35, 36, 37, 38]), (7, [3, 26, 27, 28, 29, 30, 31, 32, 33]), (6, [24, 25]), (5, [17, 19, 20, 21, 22, 23]), (4, [2, 3, 17, 18]), (3, [10, 15, 16]), (2, [2, 3, 10, 11, 12, 13, 14]), (1, [7, 8, 9]), (0, [0, 1, 5])]
theorem c_r01_Div : compFn Try.prog [2, 3, 4, 6] (fun i => (fg_r01_Div.lookup i).getD []) Try.f131 = some t_r01_Div.fn := by kernel_rfl
def fg_r02_Mark : List (Nat × List Nat) := [(26, [4, 121, 123]), (25, [4, 121, 122]), (24, [3, 5, 8, 9, 47, 119, 120]), (8, [48, 49]), (23, [10, 12, 115, 118]), (22, [3, 4, 5, 8, 9, 10, 12, 115, 116, 117]), (21, [114]), (20, [11, 87, 108, 109, 110, 111, 112, 113]), (19, [8, 13, 14, 100, 103, 104, 105, 106, 107]), (18, [8, 13, 14, 100, 101, 102]), (17, [99]), (16, [3, 4, 5, 9, 10, 11, 87, 88, 89, 90, 91, 92, 93, 94, 95, 96, 97, 98]), (15, [12, 81, 84, 85, 86]), (14, [3, 4, 5, 8, 9, 10, 11, 12, 81, 82, 83]), (13, [80]), (12, [68, 72, 73, 74, 75, 76, 77, 78, 79]), (11, [10, 68, 69, 70, 71]), (10, [57, 58, 59, 60, 61, 62, 63, 64, 65, 66, 67]), (9, [47, 50, 51, 52, 53, 54, 55, 56]), (7, [38, 39, 40, 41, 42, 43, 44, 45, 46]), (5, [35, 37]), (4, [3, 4, 5, 35, 36]), (3, [17, 21, 22, 23, 24, 25, 26, 27, 28, 29, 30, 31, 32, 33, 34]), (2, [3, 4, 5, 17, 18, 19, 20]), (1, [15, 16]), (0, [0, 1, 2, 7])]
theorem c_r02_Mark : compFn Try.prog [3, 4, 5, 6, 8, 10, 11, 13] (fun i => (fg_r02_Mark.lookup i).getD []) Try.f129 = some t_r02_Mark.fn := by kernel_rfl
def fg_r04_answer : List (Nat × List Nat) := [(3, [0, 3, 8, 21, 22, 23, 24, 25, 26, 27, 28, 29, 30, 31, 32]), (2, [0, 3, 8, 9, 10, 11, 12, 13, 14, 15, 16, 17, 18, 19, 20]), (1, [6, 7]), (0, [1, 5])]
theorem c_r04_answer : compFn Try.prog [3, 4] (fun i => (fg_r04_answer.lookup i).getD []) Try.f120 = some t_r04_answer.fn := by kernel_rfl
def fg_r04_asked : List (Nat × List Nat) := [(11, [2, 3, 7, 43, 44, 45, 46, 47, 48, 49, 50, 51, 52, 53, 54]), (10, [38, 41, 42]), (9, [2, 3, 7, 38, 39, 40]), (8, [8, 31, 35, 36, 37]), (7, [2, 3, 7, 8, 31, 32, 33, 34]), (6, [30]), (5, [20, 23, 24, 25, 26, 27, 28, 29]), (4, [2, 3, 20, 21, 22]), (3, [11, 16, 17, 18, 19]), (2, [2, 3, 11, 12, 13, 14, 15]), (1, [9, 10]), (0, [0, 1, 6])]
theorem c_r04_asked : compFn Try.prog [46, 51, 2, 3, 4, 5, 7] (fun i => (fg_r04_asked.lookup i).getD []) Try.f80 = some t_r04_asked.fn := by kernel_rfl
def fg_r04_Mark : List (Nat × List Nat) := [(1, [1, 4, 6, 7, 11, 12, 13, 14, 15, 16, 17, 18, 19]), (0, [0, 2, 3, 10])]
theorem c_r04_Mark : compFn Try.prog [4, 6, 7, 8, 9] (fun i => (fg_r04_Mark.lookup i).getD []) Try.f35 = some t_r04_Mark.fn := by kernel_rfl
def fg_r11_Spans : List (Nat × List Nat) := [(25, [0, 6, 8, 9, 10, 11, 12, 43, 102, 103, 104, 105]), (24, [14, 101]), (23, [13, 97, 98, 99, 100]), (22, [94, 95, 96]), (21, [15, 48, 86, 87, 88, 89, 90, 91, 92, 93]), (12, [16, 49, 50, 54, 83]), (20, [16, 83, 84, 85]), (19, [7, 61, 74, 77, 78, 79, 80, 81, 82]), (18, [0, 6, 7, 8, 9, 10, 11, 12, 13, 14, 15, 16, 74, 75, 76]), (17, [73]), (16, [61, 62, 63, 64, 65, 66, 67, 68, 69, 70, 71, 72]), (15, [56, 57, 58, 59, 60]), (14, [54, 55]), (13, [48, 51, 52, 53]), (11, [45, 46, 47]), (9, [43, 44]), (8, [39, 40, 41, 42]), (6, [33, 34, 35, 36, 37, 38]), (5, [30, 31, 32]), (4, [7, 23, 26, 27, 28, 29]), (3, [0, 6, 7, 23, 24, 25]), (2, [22]), (1, [17, 18, 19, 20, 21]), (0, [3, 4, 5])]
theorem c_r11_Spans : compFn Try.prog [92, 99, 2, 6, 8, 10, 11, 14, 16] (fun i => (fg_r11_Spans.lookup i).getD []) Try.f9 = some t_r11_Spans.fn := by kernel_rfl
def fg_r03_Same : List (Nat × List Nat) := [(8, [0, 1, 5, 14]), (5, [15, 16, 25]), (7, [0, 1, 5, 25]), (6, [14, 17, 18, 19, 20, 21, 22, 23, 24]), (4, [11, 12, 13]), (3, [10]), (2, [0, 1, 10]), (1, [6, 7, 8, 9]), (0, [4])]
theorem c_r03_Same : compFn Try.prog [] (fun i => (fg_r03_Same.lookup i).getD []) Try.f36 = some t_r03_Same.fn := by kernel_rfl
def fg_r06_Same : List (Nat × List Nat) := [(8, [2, 3, 5, 17]), (5, [18, 19, 31]), (7, [2, 3, 5, 31]), (6, [17, 20, 21, 22, 23, 24, 25, 26, 27, 28, 29, 30]), (4, [13, 14, 15, 16]), (3, [12]), (2, [2, 3, 12]), (1, [6, 7, 8, 9, 10, 11]), (0, [0, 1, 4])]
theorem c_r06_Same : compFn Try.prog [2, 3] (fun i => (fg_r06_Same.lookup i).getD []) Try.f10 = some t_r06_Same.fn := by kernel_rfl
def fg_r09_Same : List (Nat × List Nat) := [(8, [0, 1, 5, 14]), (5, [15, 16, 25]), (7, [0, 1, 5, 25]), (6, [14, 17, 18, 19, 20, 21, 22, 23, 24]), (4, [11, 12, 13]), (3, [10]), (2, [0, 1, 10]), (1, [6, 7, 8, 9]), (0, [4])]
theorem c_r09_Same : compFn Try.prog [] (fun i => (fg_r09_Same.lookup i).getD []) Try.f11 = some t_r09_Same.fn := by kernel_rfl
def fg_r04_SameLogs : List (Nat × List Nat) := [(8, [0, 1, 5, 14]), (5, [15, 16, 25]), (7, [0, 1, 5, 25]), (6, [14, 17, 18, 19, 20, 21, 22, 23, 24]), (4, [11, 12, 13]), (3, [10]), (2, [0, 1, 10]), (1, [6, 7, 8, 9]), (0, [4])]
theorem c_r04_SameLogs : compFn Try.prog [] (fun i => (fg_r04_SameLogs.lookup i).getD []) Try.f12 = some t_r04_SameLogs.fn := by kernel_rfl
def fg_l11_KnifeSpans : List (Nat × List Nat) := [(5, [3, 4, 5, 6, 7, 8, 9, 10, 27, 28, 29, 30, 31, 32, 33, 34, 35, 36, 37, 38, 39, 40, 41, 42, 43, 44]), (4, [0, 20, 21, 22, 23, 24, 25, 26]), (3, [12, 13, 14, 15, 16, 17, 18, 19]), (2, [0, 12]), (1, [11]), (0, [2])]
theorem c_l11_KnifeSpans : compFn Try.prog [3, 7] (fun i => (fg_l11_KnifeSpans.lookup i).getD []) Try.f3 = some t_l11_KnifeSpans.fn := by kernel_rfl
theorem tabOk : AllOk Try.prog tab := by
  unfold tab
  simp only [AllOk]
  exact ⟨⟨Try.f28, _, _, Try.func28, c_r02_Great⟩, ⟨Try.f7, _, _, Try.func7, c_r04_GreatCakes⟩, ⟨Try.f91, _, _, Try.func91, c_s_Min_int_int⟩, ⟨Try.f92, _, _, Try.func92, c_s_Max_int_int⟩, ⟨Try.f51, _, _, Try.func51, c_cake_Check⟩, ⟨Try.f42, _, _, Try.func42, c_ask_Check⟩, ⟨Try.f113, _, _, Try.func113, c_s_Clone_int_int⟩, ⟨Try.f73, _, _, Try.func73, c_ask_copied⟩, ⟨Try.f29, _, _, Try.func29, c_ask_Open⟩, ⟨Try.f30, _, _, Try.func30, c_knife_whole⟩, ⟨Try.f76, _, _, Try.func76, c_cake_Total⟩, ⟨Try.f82, _, _, Try.func82, c_ratio_size⟩, ⟨Try.f83, _, _, Try.func83, c_ratio_gcd⟩, ⟨Try.f85, _, _, Try.func85, c_ratio_signed⟩, ⟨Try.f77, _, _, Try.func77, c_ratio_Make⟩, ⟨Try.f32, _, _, Try.func32, c_knife_part⟩, ⟨Try.f68, _, _, Try.func68, c_ratio_Check⟩, ⟨Try.f97, _, _, Try.func97, c_cake_whole⟩, ⟨Try.f121, _, _, Try.func121, c_cmp_Or_api_Errno⟩, ⟨Try.f81, _, _, Try.func81, c_ratio_check⟩, ⟨Try.f127, _, _, Try.func127, c_cmp_isNaN_int64⟩, ⟨Try.f115, _, _, Try.func115, c_cmp_Compare_int64⟩, ⟨Try.f84, _, _, Try.func84, c_m_Mul64⟩, ⟨Try.f128, _, _, Try.func128, c_cmp_isNaN_uint64⟩, ⟨Try.f117, _, _, Try.func117, c_cmp_Compare_uint64⟩, ⟨Try.f116, _, _, Try.func116, c_cmp_Or_int⟩, ⟨Try.f78, _, _, Try.func78, c_ratio_Cmp⟩, ⟨Try.f96, _, _, Try.func96, c_cake_less⟩, ⟨Try.f93, _, _, Try.func93, c_cake_point⟩, ⟨Try.f130, _, _, Try.func130, c_m_Len64⟩, ⟨Try.f122, _, _, Try.func122, c_m_LeadingZeros64⟩, ⟨Try.f89, _, _, Try.func89, c_m_Div64⟩, ⟨Try.f88, _, _, Try.func88, c_m_Rem64⟩, ⟨Try.f49, _, _, Try.func49, c_ratio_Add⟩, ⟨Try.f46, _, _, Try.func46, c_ratio_Sub⟩, ⟨Try.f48, _, _, Try.func48, c_ratio_Mul⟩, ⟨Try.f47, _, _, Try.func47, c_ratio_Div⟩, ⟨Try.f95, _, _, Try.func95, c_cake_Mark_1⟩, ⟨Try.f94, _, _, Try.func94, c_cake_walk⟩, ⟨Try.f52, _, _, Try.func52, c_cake_Mark⟩, ⟨Try.f75, _, _, Try.func75, c_ask_office_mark⟩, ⟨Try.f114, _, _, Try.func114, c_ask_office_has⟩, ⟨Try.f74, _, _, Try.func74, c_ask_office_ask⟩, ⟨Try.f31, _, _, Try.func31, c_ask_Mark⟩, ⟨Try.f33, _, _, Try.func33, c_knife_less⟩, ⟨Try.f8, _, _, Try.func8, c_knife_Spans⟩, ⟨Try.f53, _, _, Try.func53, c_r02_Check⟩, ⟨Try.f62, _, _, Try.func62, c_r04_Check⟩, ⟨Try.f118, _, _, Try.func118, c_r02_Twin⟩, ⟨Try.f79, _, _, Try.func79, c_r04_Twins⟩, ⟨Try.f34, _, _, Try.func34, c_r04_Open⟩, ⟨Try.f25, _, _, Try.func25, c_r01_Of⟩, ⟨Try.f57, _, _, Try.func57, c_r02_Whole⟩, ⟨Try.f59, _, _, Try.func59, c_r01_abs⟩, ⟨Try.f90, _, _, Try.func90, c_r01_gcd⟩, ⟨Try.f106, _, _, Try.func106, c_r01_made⟩, ⟨Try.f56, _, _, Try.func56, c_r01_Make⟩, ⟨Try.f26, _, _, Try.func26, c_r08_Share⟩, ⟨Try.f119, _, _, Try.func119, c_r04_Agent⟩, ⟨Try.f50, _, _, Try.func50, c_r01_Check⟩, ⟨Try.f58, _, _, Try.func58, c_r01_times⟩, ⟨Try.f60, _, _, Try.func60, c_r01_less⟩, ⟨Try.f20, _, _, Try.func20, c_r01_Less⟩, ⟨Try.f16, _, _, Try.func16, c_r02_Point⟩, ⟨Try.f98, _, _, Try.func98, c_r02_later⟩, ⟨Try.f99, _, _, Try.func99, c_r02_sooner⟩, ⟨Try.f102, _, _, Try.func102, c_r01_Both⟩, ⟨Try.f123, _, _, Try.func123, c_r01_Neg⟩, ⟨Try.f103, _, _, Try.func103, c_r01_plus⟩, ⟨Try.f104, _, _, Try.func104, c_r01_minus⟩, ⟨Try.f105, _, _, Try.func105, c_r01_split⟩, ⟨Try.f55, _, _, Try.func55, c_r01_Add⟩, ⟨Try.f100, _, _, Try.func100, c_r01_Sub⟩, ⟨Try.f101, _, _, Try.func101, c_r01_Mul⟩, ⟨Try.f54, _, _, Try.func54, c_r02_worth⟩, ⟨Try.f18, _, _, Try.func18, c_r02_Value⟩, ⟨Try.f131, _, _, Try.func131, c_r01_Div⟩, ⟨Try.f129, _, _, Try.func129, c_r02_Mark⟩, ⟨Try.f120, _, _, Try.func120, c_r04_answer⟩, ⟨Try.f80, _, _, Try.func80, c_r04_asked⟩, ⟨Try.f35, _, _, Try.func35, c_r04_Mark⟩, ⟨Try.f9, _, _, Try.func9, c_r11_Spans⟩, ⟨Try.f36, _, _, Try.func36, c_r03_Same⟩, ⟨Try.f10, _, _, Try.func10, c_r06_Same⟩, ⟨Try.f11, _, _, Try.func11, c_r09_Same⟩, ⟨Try.f12, _, _, Try.func12, c_r04_SameLogs⟩, ⟨Try.f3, _, _, Try.func3, c_l11_KnifeSpans⟩, trivial⟩
theorem hm : Try.prog.follows .mixedOrders = true := by kernel_rfl
theorem isAdd : IsExtern Try.prog n_m_Add64 add64Entry := ⟨_, Try.func86, by kernel_rfl, by kernel_rfl, by kernel_rfl, by kernel_rfl⟩
theorem isSub : IsExtern Try.prog n_m_Sub64 sub64E := ⟨_, Try.func87, by kernel_rfl, by kernel_rfl, by kernel_rfl, by kernel_rfl⟩
theorem k0 : EnvOk Try.prog E := by
  refine baseC_ok hm isAdd isSub tabOk ?_
  intro n e b h
  simp only [List.mem_cons, Prod.mk.injEq, List.not_mem_nil, or_false] at h
  rcases h with ⟨rfl, rfl, rfl⟩
  exact ⟨(.int .i64 (0)), by kernel_rfl⟩
end Go.Proofs.Ytniodknidoemfaa.Ks
