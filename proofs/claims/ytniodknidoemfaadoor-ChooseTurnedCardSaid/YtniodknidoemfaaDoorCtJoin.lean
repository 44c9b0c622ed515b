/- The statement ChooseTurned: what the conditions and their plain laws say of the program's functions, joined with the program. -/
import Derived.Test.YtniodknidoemfaaDoorCards
import Derived.Test.YtniodknidoemfaaDoorTie
import Derived.Test.YtniodknidoemfaaDoorCtW4
import Derived.WalkKit
import Derived.ProofKit
import Derived.OpenShut
import Derived.ReadAgain
import Derived.ChangeBears
import Derived.LaidMore
import Derived.Lay
import Derived.SevenTiedAt
import Derived.Stop.Joined
namespace Go.Proofs.YtniodknidoemfaaDoor.Ct
open Go Go.Pf Go.Pf.Vc Go.ChangeShapes Go.WideShapes Go.ChangeAt Go.RowKit
set_option maxRecDepth 100000
def fg_r02_Great : List (Nat × List Nat) := [(1, [1, 3, 4, 5, 6, 7, 8, 9, 10, 11, 12]), (0, [0, 2])]
theorem c_r02_Great : compFn Tryd.prog [1] (fun i => (fg_r02_Great.lookup i).getD []) Tryd.f26 = some t_r02_Great.fn := by kernel_rfl
def fg_r04_GreatCakes : List (Nat × List Nat) := [(6, [0, 3, 7, 15, 16, 17]), (3, [8, 9, 14]), (5, [0, 3, 14]), (4, [7, 10, 11, 12, 13]), (2, [4, 5, 6]), (0, [2])]
theorem c_r04_GreatCakes : compFn Tryd.prog [] (fun i => (fg_r04_GreatCakes.lookup i).getD []) Tryd.f15 = some t_r04_GreatCakes.fn := by kernel_rfl
def fg_r02_Check : List (Nat × List Nat) := [(14, [98]), (13, [98]), (12, [1, 3, 4, 57, 97]), (8, [58, 59]), (11, [87, 88, 89, 90, 91, 92, 93, 94, 95, 96]), (10, [1, 3, 4, 87]), (9, [57, 60, 61, 62, 63, 64, 65, 66, 67, 68, 69, 70, 71, 72, 73, 74, 75, 76, 77, 78, 79, 80, 81, 82, 83, 84, 85, 86]), (7, [53, 54, 55, 56]), (5, [52]), (4, [1, 52]), (3, [13, 14, 15, 16, 17, 18, 19, 20, 21, 22, 23, 24, 25, 26, 27, 28, 29, 30, 31, 32, 33, 34, 35, 36, 37, 38, 39, 40, 41, 42, 43, 44, 45, 46, 47, 48, 49, 50, 51]), (2, [1, 13]), (1, [5, 6, 7, 8, 9, 10, 11, 12]), (0, [0, 2])]
theorem c_r02_Check : compFn Tryd.prog [1] (fun i => (fg_r02_Check.lookup i).getD []) Tryd.f34 = some t_r02_Check.fn := by kernel_rfl
def fg_r04_Check : List (Nat × List Nat) := [(15, [1, 4, 43]), (12, [44, 45, 57]), (14, [1, 4, 57]), (13, [43, 46, 47, 48, 49, 50, 51, 52, 53, 54, 55, 56]), (11, [39, 40, 41, 42]), (10, [3, 23]), (7, [24, 25, 32]), (9, [1, 3, 32, 33, 34, 35, 36, 37, 38]), (8, [23, 26, 27, 28, 29, 30, 31]), (6, [19, 20, 21, 22]), (5, [18]), (4, [1, 18]), (3, [14, 15, 16, 17]), (2, [1, 14]), (1, [5, 6, 7, 8, 9, 10, 11, 12, 13]), (0, [0, 2])]
theorem c_r04_Check : compFn Tryd.prog [1] (fun i => (fg_r04_Check.lookup i).getD []) Tryd.f27 = some t_r04_Check.fn := by kernel_rfl
def fg_r07_Cakes : List (Nat × List Nat) := [(6, [22]), (5, [22]), (4, [0, 1, 5, 10, 12, 13, 14, 15, 16, 17, 18, 19, 20, 21]), (3, [0, 1, 5, 10, 11]), (2, [9]), (1, [6, 7, 8]), (0, [4])]
theorem c_r07_Cakes : compFn Tryd.prog [] (fun i => (fg_r07_Cakes.lookup i).getD []) Tryd.f16 = some t_r07_Cakes.fn := by kernel_rfl
def fg_l07_fit : List (Nat × List Nat) := [(1, [0, 1, 5, 6, 7, 8, 9, 10, 11, 12, 13]), (0, [4])]
theorem c_l07_fit : compFn Tryd.prog [] (fun i => (fg_l07_fit.lookup i).getD []) Tryd.f5 = some t_l07_fit.fn := by kernel_rfl
def fg_r01_Of : List (Nat × List Nat) := [(1, [0, 3, 4])]
theorem c_r01_Of : compFn Tryd.prog [2] (fun i => (fg_r01_Of.lookup i).getD []) Tryd.f17 = some t_r01_Of.fn := by kernel_rfl
def fg_l07_two : List (Nat × List Nat) := [(1, [1, 2, 3, 4, 5, 6, 7]), (0, [0])]
theorem c_l07_two : compFn Tryd.prog [1, 2, 4, 5] (fun i => (fg_l07_two.lookup i).getD []) Tryd.f18 = some t_l07_two.fn := by kernel_rfl
def fg_s_Min_int_int : List (Nat × List Nat) := [(8, [0, 3, 4, 15, 24]), (6, [16, 17]), (7, [15, 18, 19, 20, 21, 22, 23]), (5, [12, 13, 14]), (3, [7, 9, 10, 11]), (2, [7, 8]), (1, [5, 6]), (0, [2])]
theorem c_s_Min_int_int : compFn Tryd.prog [] (fun i => (fg_s_Min_int_int.lookup i).getD []) Tryd.f47 = some t_s_Min_int_int.fn := by kernel_rfl
def fg_s_Max_int_int : List (Nat × List Nat) := [(8, [0, 3, 4, 15, 24]), (6, [16, 17]), (7, [15, 18, 19, 20, 21, 22, 23]), (5, [12, 13, 14]), (3, [7, 9, 10, 11]), (2, [7, 8]), (1, [5, 6]), (0, [2])]
theorem c_s_Max_int_int : compFn Tryd.prog [] (fun i => (fg_s_Max_int_int.lookup i).getD []) Tryd.f48 = some t_s_Max_int_int.fn := by kernel_rfl
def fg_cake_Check : List (Nat × List Nat) := [(14, [81]), (13, [81]), (12, [1, 49, 50, 51, 66, 67, 68, 69, 70, 71, 72, 73, 74, 75, 76, 77, 78, 79, 80]), (11, [64, 65]), (10, [1, 49, 50, 64]), (9, [4, 53, 54, 55, 56, 57, 58, 59, 60, 61, 62, 63]), (8, [51, 52]), (6, [3, 47, 48]), (5, [1, 3, 47]), (4, [14, 15, 16, 17, 18, 19, 20, 21, 22, 23, 24, 25, 26, 27, 28, 29, 30, 31, 32, 33, 34, 35, 36, 37, 38, 39, 40, 41, 42, 43, 44, 45, 46]), (3, [1, 3, 14]), (2, [8, 9, 10, 11, 12, 13]), (1, [5, 6, 7]), (0, [0, 2])]
theorem c_cake_Check : compFn Tryd.prog [1] (fun i => (fg_cake_Check.lookup i).getD []) Tryd.f33 = some t_cake_Check.fn := by kernel_rfl
def fg_ask_Check : List (Nat × List Nat) := [(18, [1, 36, 37, 38, 39]), (17, [49, 50]), (16, [1, 36, 37, 38, 49]), (15, [7, 42, 43, 44, 45, 46, 47, 48]), (14, [39, 40, 41]), (12, [23, 24, 25, 26, 35]), (11, [5, 32, 34]), (10, [1, 5, 23, 24, 25, 32, 33]), (9, [31]), (8, [4, 29, 30]), (7, [26, 27, 28]), (5, [21, 22]), (4, [1, 21]), (3, [17, 18, 19, 20]), (2, [1, 17]), (1, [8, 9, 10, 11, 12, 13, 14, 15, 16]), (0, [0, 2])]
theorem c_ask_Check : compFn Tryd.prog [1, 4, 7] (fun i => (fg_ask_Check.lookup i).getD []) Tryd.f24 = some t_ask_Check.fn := by kernel_rfl
def fg_s_Clone_int_int : List (Nat × List Nat) := [(3, [0, 4, 5, 6, 7]), (2, [0, 4]), (1, [3]), (0, [2])]
theorem c_s_Clone_int_int : compFn Tryd.prog [] (fun i => (fg_s_Clone_int_int.lookup i).getD []) Tryd.f46 = some t_s_Clone_int_int.fn := by kernel_rfl
def fg_ask_copied : List (Nat × List Nat) := [(7, [3, 6, 7, 8, 9, 25]), (6, [24]), (5, [5, 12, 13, 14, 15, 16, 17, 18, 19, 20, 21, 22, 23]), (4, [9, 10, 11]), (2, [0]), (0, [2])]
theorem c_ask_copied : compFn Tryd.prog [22, 5] (fun i => (fg_ask_copied.lookup i).getD []) Tryd.f32 = some t_ask_copied.fn := by kernel_rfl
def fg_ask_Open : List (Nat × List Nat) := [(4, [0, 4, 9, 12, 13, 14]), (3, [0, 4, 9, 10, 11]), (2, [8]), (1, [5, 6, 7]), (0, [3])]
theorem c_ask_Open : compFn Tryd.prog [2] (fun i => (fg_ask_Open.lookup i).getD []) Tryd.f22 = some t_ask_Open.fn := by kernel_rfl
def fg_choose_Start : List (Nat × List Nat) := [(6, [1, 6, 27, 29, 30, 31, 32]), (5, [1, 6, 27, 28]), (4, [0, 7, 14, 17, 18, 19, 20, 21, 22, 23, 24, 25, 26]), (3, [0, 1, 6, 7, 14, 15, 16]), (2, [13]), (1, [8, 9, 10, 11, 12]), (0, [5])]
theorem c_choose_Start : compFn Tryd.prog [4, 6] (fun i => (fg_choose_Start.lookup i).getD []) Tryd.f9 = some t_choose_Start.fn := by kernel_rfl
def fg_cake_Total : List (Nat × List Nat) := [(10, [1, 5, 14, 15, 16, 17, 38]), (9, [37]), (8, [6, 7, 21, 22, 23, 24, 25, 26, 27, 28, 29, 30, 31, 32, 33, 34, 35, 36]), (7, [17, 18, 19, 20]), (5, [13]), (4, [4, 11]), (3, [1, 4, 11, 12]), (2, [10]), (1, [8, 9]), (0, [0, 2, 3])]
theorem c_cake_Total : compFn Tryd.prog [1] (fun i => (fg_cake_Total.lookup i).getD []) Tryd.f37 = some t_cake_Total.fn := by kernel_rfl
def fg_ratio_size : List (Nat × List Nat) := [(3, [0, 4, 8, 9]), (2, [0, 4, 5, 6, 7]), (1, [3]), (0, [2])]
theorem c_ratio_size : compFn Tryd.prog [] (fun i => (fg_ratio_size.lookup i).getD []) Tryd.f43 = some t_ratio_size.fn := by kernel_rfl
def fg_ratio_gcd : List (Nat × List Nat) := [(3, [0, 1, 6, 11]), (2, [6, 7, 8, 9, 10]), (1, [5]), (0, [4])]
theorem c_ratio_gcd : compFn Tryd.prog [] (fun i => (fg_ratio_gcd.lookup i).getD []) Tryd.f51 = some t_ratio_gcd.fn := by kernel_rfl
def fg_ratio_signed : List (Nat × List Nat) := [(5, [1, 2, 13, 20, 21, 22, 23, 24]), (4, [1, 2, 13, 14, 15, 16, 17, 18, 19]), (3, [0, 11]), (2, [0, 1, 2, 11, 12]), (1, [8, 9, 10]), (0, [7])]
theorem c_ratio_signed : compFn Tryd.prog [6] (fun i => (fg_ratio_signed.lookup i).getD []) Tryd.f52 = some t_ratio_signed.fn := by kernel_rfl
def fg_ratio_Make : List (Nat × List Nat) := [(5, [0, 1, 6, 7, 8, 19, 20, 21, 22, 23, 24, 25, 26, 27, 28, 29, 30, 31, 32]), (4, [16, 17, 18]), (3, [10, 12, 13, 14, 15]), (2, [0, 1, 10, 11]), (1, [9]), (0, [5])]
theorem c_ratio_Make : compFn Tryd.prog [4] (fun i => (fg_ratio_Make.lookup i).getD []) Tryd.f38 = some t_ratio_Make.fn := by kernel_rfl
def fg_choose_half : List (Nat × List Nat) := [(3, [5, 17]), (2, [3, 6, 12, 13, 14, 15, 16]), (1, [1, 4, 7, 8, 9, 10, 11]), (0, [0])]
theorem c_choose_half : compFn Tryd.prog [1, 2, 5] (fun i => (fg_choose_half.lookup i).getD []) Tryd.f29 = some t_choose_half.fn := by kernel_rfl
def fg_ratio_Check : List (Nat × List Nat) := [(3, [25]), (2, [25]), (1, [1, 3, 4, 5, 6, 7, 8, 9, 10, 11, 12, 13, 14, 15, 16, 17, 18, 19, 20, 21, 22, 23, 24]), (0, [0, 2])]
theorem c_ratio_Check : compFn Tryd.prog [1] (fun i => (fg_ratio_Check.lookup i).getD []) Tryd.f55 = some t_ratio_Check.fn := by kernel_rfl
def fg_cake_whole : List (Nat × List Nat) := [(1, [0, 3, 4])]
theorem c_cake_whole : compFn Tryd.prog [2] (fun i => (fg_cake_whole.lookup i).getD []) Tryd.f64 = some t_cake_whole.fn := by kernel_rfl
def fg_cmp_Or_api_Errno : List (Nat × List Nat) := [(8, [3, 6, 7, 8, 9, 17]), (7, [5, 14, 16]), (6, [3, 5, 6, 7, 8, 14, 15]), (5, [12, 13]), (4, [9, 10, 11]), (2, [0]), (0, [2])]
theorem c_cmp_Or_api_Errno : compFn Tryd.prog [] (fun i => (fg_cmp_Or_api_Errno.lookup i).getD []) Tryd.f54 = some t_cmp_Or_api_Errno.fn := by kernel_rfl
def fg_ratio_check : List (Nat × List Nat) := [(1, [2, 3, 5, 6, 7, 8, 9, 10]), (0, [0, 1, 4])]
theorem c_ratio_check : compFn Tryd.prog [9, 2, 3] (fun i => (fg_ratio_check.lookup i).getD []) Tryd.f40 = some t_ratio_check.fn := by kernel_rfl
def fg_cmp_isNaN_int64 : List (Nat × List Nat) := [(1, [0, 3, 4, 5]), (0, [2])]
theorem c_cmp_isNaN_int64 : compFn Tryd.prog [] (fun i => (fg_cmp_isNaN_int64.lookup i).getD []) Tryd.f56 = some t_cmp_isNaN_int64.fn := by kernel_rfl
def fg_cmp_Compare_int64 : List (Nat × List Nat) := [(13, [19]), (12, [19]), (11, [0, 1, 16, 17, 18]), (10, [0, 1, 16]), (9, [13, 14, 15]), (8, [0, 1, 13]), (7, [6, 11]), (6, [12]), (5, [12]), (4, [0, 1, 6, 11]), (3, [5]), (2, [9, 10]), (1, [7, 8]), (0, [4])]
theorem c_cmp_Compare_int64 : compFn Tryd.prog [] (fun i => (fg_cmp_Compare_int64.lookup i).getD []) Tryd.f41 = some t_cmp_Compare_int64.fn := by kernel_rfl
def fg_m_Mul64 : List (Nat × List Nat) := [(11, [0, 1, 48, 49, 50]), (10, [7, 9, 12, 13, 40, 41, 42, 43, 44, 45, 46, 47]), (9, [6, 35, 36, 37, 38, 39]), (8, [11, 33, 34]), (7, [31, 32]), (6, [8, 10, 25, 26, 27, 28, 29, 30]), (5, [22, 23, 24]), (4, [20, 21]), (3, [18, 19]), (2, [16, 17]), (1, [14, 15]), (0, [4, 5])]
theorem c_m_Mul64 : compFn Tryd.prog [] (fun i => (fg_m_Mul64.lookup i).getD []) Tryd.f42 = some t_m_Mul64.fn := by kernel_rfl
def fg_cmp_isNaN_uint64 : List (Nat × List Nat) := [(1, [0, 3, 4, 5]), (0, [2])]
theorem c_cmp_isNaN_uint64 : compFn Tryd.prog [] (fun i => (fg_cmp_isNaN_uint64.lookup i).getD []) Tryd.f57 = some t_cmp_isNaN_uint64.fn := by kernel_rfl
def fg_cmp_Compare_uint64 : List (Nat × List Nat) := [(13, [19]), (12, [19]), (11, [0, 1, 16, 17, 18]), (10, [0, 1, 16]), (9, [13, 14, 15]), (8, [0, 1, 13]), (7, [6, 11]), (6, [12]), (5, [12]), (4, [0, 1, 6, 11]), (3, [5]), (2, [9, 10]), (1, [7, 8]), (0, [4])]
theorem c_cmp_Compare_uint64 : compFn Tryd.prog [] (fun i => (fg_cmp_Compare_uint64.lookup i).getD []) Tryd.f45 = some t_cmp_Compare_uint64.fn := by kernel_rfl
def fg_cmp_Or_int : List (Nat × List Nat) := [(8, [3, 6, 7, 8, 9, 17]), (7, [5, 14, 16]), (6, [3, 5, 6, 7, 8, 14, 15]), (5, [12, 13]), (4, [9, 10, 11]), (2, [0]), (0, [2])]
theorem c_cmp_Or_int : compFn Tryd.prog [] (fun i => (fg_cmp_Or_int.lookup i).getD []) Tryd.f44 = some t_cmp_Or_int.fn := by kernel_rfl
def fg_ratio_Cmp : List (Nat × List Nat) := [(11, [11, 60, 63]), (10, [60, 61, 62]), (9, [2, 58, 59]), (8, [7, 8, 9, 10, 50, 51, 52, 53, 54, 55, 56, 57]), (7, [3, 40, 41, 42, 43, 44, 45, 46, 47, 48, 49]), (6, [24, 30, 31, 32, 33, 34, 35, 36, 37, 38, 39]), (5, [2, 3, 24, 25, 26, 27, 28, 29]), (4, [6, 16, 18, 19, 20, 21, 22, 23]), (3, [2, 3, 6, 16, 17]), (2, [15]), (1, [12, 13, 14]), (0, [0, 1, 4, 5])]
theorem c_ratio_Cmp : compFn Tryd.prog [56, 2, 3] (fun i => (fg_ratio_Cmp.lookup i).getD []) Tryd.f31 = some t_ratio_Cmp.fn := by kernel_rfl
def fg_cake_less : List (Nat × List Nat) := [(2, [5, 13, 14]), (1, [2, 3, 6, 7, 8, 9, 10, 11, 12]), (0, [0, 1, 4])]
theorem c_cake_less : compFn Tryd.prog [2, 3] (fun i => (fg_cake_less.lookup i).getD []) Tryd.f61 = some t_cake_less.fn := by kernel_rfl
def fg_cake_point : List (Nat × List Nat) := [(1, [2, 3, 5, 6, 7, 8, 9, 10, 11, 12, 13, 14, 15, 16, 17, 18, 19, 20]), (0, [0, 1, 4])]
theorem c_cake_point : compFn Tryd.prog [2, 3] (fun i => (fg_cake_point.lookup i).getD []) Tryd.f58 = some t_cake_point.fn := by kernel_rfl
def fg_m_Len64 : List (Nat × List Nat) := [(10, [0, 14, 19, 20, 21, 22, 23, 24]), (9, [17, 18]), (8, [14, 15, 16]), (7, [8, 13]), (6, [11, 12]), (5, [8, 9, 10]), (4, [4, 7]), (2, [2, 4, 5, 6]), (1, [3])]
theorem c_m_Len64 : compFn Tryd.prog [] (fun i => (fg_m_Len64.lookup i).getD []) Tryd.f72 = some t_m_Len64.fn := by kernel_rfl
def fg_m_LeadingZeros64 : List (Nat × List Nat) := [(1, [0, 3, 4, 5]), (0, [2])]
theorem c_m_LeadingZeros64 : compFn Tryd.prog [] (fun i => (fg_m_LeadingZeros64.lookup i).getD []) Tryd.f71 = some t_m_LeadingZeros64.fn := by kernel_rfl
def fg_m_Div64 : List (Nat × List Nat) := [(28, [2, 8, 9, 10, 14, 15, 16, 17, 18, 113, 120, 121, 122, 123, 124, 125, 126, 127, 128, 129, 130, 131, 132, 133, 134]), (27, [119]), (26, [116, 117, 118]), (25, [113, 114, 115]), (24, [102, 103, 104, 105, 106, 107, 108, 109, 110, 111, 112, 120]), (23, [97, 98, 99, 100, 101]), (22, [94, 95, 96]), (21, [11, 13, 16, 78, 85, 86, 87, 88, 89, 90, 91, 92, 93]), (20, [84]), (19, [81, 82, 83]), (18, [78, 79, 80]), (17, [67, 68, 69, 70, 71, 72, 73, 74, 75, 76, 77, 85]), (16, [62, 63, 64, 65, 66]), (15, [59, 60, 61]), (14, [12, 57, 58]), (13, [55, 56]), (12, [1, 52, 53, 54]), (11, [0, 44, 45, 46, 47, 48, 49, 50, 51]), (10, [42, 43]), (9, [40, 41]), (8, [37, 38, 39]), (7, [27, 34, 35, 36]), (6, [0, 1, 2, 27, 28, 29, 30, 31, 32, 33]), (5, [24, 26]), (4, [24, 25]), (3, [20, 22, 23]), (2, [20, 21]), (1, [19]), (0, [6, 7])]
theorem c_m_Div64 : compFn Tryd.prog [] (fun i => (fg_m_Div64.lookup i).getD []) Tryd.f70 = some t_m_Div64.fn := by kernel_rfl
def fg_m_Rem64 : List (Nat × List Nat) := [(2, [8, 18]), (1, [0, 1, 2, 7, 9, 10, 11, 12, 13, 14, 15, 16, 17]), (0, [6])]
theorem c_m_Rem64 : compFn Tryd.prog [] (fun i => (fg_m_Rem64.lookup i).getD []) Tryd.f69 = some t_m_Rem64.fn := by kernel_rfl
def fg_ratio_Add : List (Nat × List Nat) := [(26, [12, 17, 20, 153, 155, 156, 157, 158, 159, 160]), (25, [12, 17, 20, 153, 154]), (24, [19, 152]), (23, [2, 3, 7, 16, 138, 139, 140, 141, 142, 143, 144, 145, 146, 147, 148, 149, 150, 151]), (22, [13, 14, 18, 129, 131, 132, 133, 134, 135, 136, 137]), (21, [2, 3, 7, 12, 13, 14, 16, 129, 130]), (20, [127, 128]), (19, [119, 121, 122, 123, 124, 125, 126]), (18, [2, 3, 7, 12, 13, 14, 119, 120]), (17, [114, 115, 116, 117, 118]), (16, [8, 10, 15, 107, 108, 109, 110, 111, 112, 113]), (15, [9, 11, 94, 101, 102, 103, 104, 105, 106]), (14, [99, 100]), (13, [94, 95, 96, 97, 98]), (12, [68, 82, 83, 84, 85, 86, 87, 88, 89, 90, 91, 92, 93]), (11, [8, 10, 15, 75, 76, 77, 78, 79, 80, 81]), (10, [9, 11, 68, 69, 70, 71, 72, 73, 74]), (9, [62, 63, 64, 65, 66, 67]), (8, [13, 14, 15]), (7, [59, 60, 61]), (6, [47, 48, 49, 50, 51, 52, 53, 54, 55, 56, 57, 58]), (5, [35, 36, 37, 38, 39, 40, 41, 42, 43, 44, 45, 46]), (4, [6, 25, 28, 29, 30, 31, 32, 33, 34]), (3, [2, 3, 6, 25, 26, 27]), (2, [24]), (1, [21, 22, 23]), (0, [0, 1, 5])]
theorem c_ratio_Add : compFn Tryd.prog [2, 3, 4] (fun i => (fg_ratio_Add.lookup i).getD []) Tryd.f65 = some t_ratio_Add.fn := by kernel_rfl
def fg_ratio_Sub : List (Nat × List Nat) := [(5, [2, 3, 18, 19, 20, 21, 22]), (4, [6, 11, 14, 15, 16, 17]), (3, [2, 3, 6, 11, 12, 13]), (2, [10]), (1, [7, 8, 9]), (0, [0, 1, 5])]
theorem c_ratio_Sub : compFn Tryd.prog [2, 3, 4] (fun i => (fg_ratio_Sub.lookup i).getD []) Tryd.f62 = some t_ratio_Sub.fn := by kernel_rfl
def fg_ratio_Mul : List (Nat × List Nat) := [(10, [2, 3, 14, 16, 65, 67, 68, 69, 70, 71, 72, 73, 74, 75, 76, 77, 78, 79, 80, 81, 82]), (9, [2, 3, 14, 16, 65, 66]), (8, [13, 15, 62, 63, 64]), (7, [8, 10, 11, 12, 52, 53, 54, 55, 56, 57, 58, 59, 60, 61]), (6, [7, 9, 42, 43, 44, 45, 46, 47, 48, 49, 50, 51]), (5, [36, 37, 38, 39, 40, 41]), (4, [6, 21, 24, 25, 26, 27, 28, 29, 30, 31, 32, 33, 34, 35]), (3, [2, 3, 6, 21, 22, 23]), (2, [20]), (1, [17, 18, 19]), (0, [0, 1, 5])]
theorem c_ratio_Mul : compFn Tryd.prog [2, 3, 4] (fun i => (fg_ratio_Mul.lookup i).getD []) Tryd.f66 = some t_ratio_Mul.fn := by kernel_rfl
def fg_ratio_Div : List (Nat × List Nat) := [(8, [2, 3, 19, 34, 35, 36, 37, 38, 39, 40, 41, 42]), (7, [2, 3, 19, 23, 24, 25, 26, 27, 28, 29, 30, 31, 32, 33]), (6, [14, 20, 21, 22]), (5, [2, 3, 14, 18]), (4, [6, 11, 15, 16, 17]), (3, [2, 3, 6, 11, 12, 13]), (2, [10]), (1, [7, 8, 9]), (0, [0, 1, 5])]
theorem c_ratio_Div : compFn Tryd.prog [2, 3, 4] (fun i => (fg_ratio_Div.lookup i).getD []) Tryd.f63 = some t_ratio_Div.fn := by kernel_rfl
def fg_cake_Mark_1 : List (Nat × List Nat) := [(12, [5, 6, 7, 14, 15, 41, 48]), (11, [6, 7, 14, 41, 42, 43, 44, 45, 46, 47]), (10, [40]), (9, [3, 4, 9, 20, 33, 34, 35, 36, 37, 38, 39]), (8, [5, 13, 29, 31, 32]), (7, [5, 29, 30]), (6, [28]), (5, [4, 12, 27]), (4, [3, 6, 7, 9, 20, 21, 22, 23, 24, 25, 26]), (3, [17, 18, 19]), (2, [3, 4, 5, 6, 7, 9, 17]), (1, [16]), (0, [0, 1, 2, 8, 11])]
theorem c_cake_Mark_1 : compFn Tryd.prog [7, 8, 9, 12, 14] (fun i => (fg_cake_Mark_1.lookup i).getD []) Tryd.f60 = some t_cake_Mark_1.fn := by kernel_rfl
def fg_cake_walk : List (Nat × List Nat) := [(18, [2, 3, 4, 14, 15, 16, 17]), (17, [8, 9, 31, 61]), (16, [9, 59, 60]), (15, [2, 3, 4, 9, 14, 15, 16, 59]), (14, [8, 10, 12, 34, 52, 54, 55, 56, 57, 58]), (13, [2, 3, 4, 8, 9, 10, 12, 14, 15, 16, 52, 53]), (12, [51]), (11, [11, 42, 44, 45, 46, 47, 48, 49, 50]), (10, [2, 3, 4, 8, 9, 10, 11, 12, 14, 15, 16, 42, 43]), (9, [41]), (8, [34, 35, 36, 37, 38, 39, 40]), (7, [33]), (6, [31, 32]), (5, [28, 29, 30]), (4, [7, 21, 22, 23, 24, 25, 26, 27]), (3, [17, 18, 19, 20]), (1, [13]), (0, [0, 1, 6])]
theorem c_cake_walk : compFn Tryd.prog [3, 4, 9, 10, 11] (fun i => (fg_cake_walk.lookup i).getD []) Tryd.f59 = some t_cake_walk.fn := by kernel_rfl
def fg_cake_Mark : List (Nat × List Nat) := [(15, [9, 10, 45, 48]), (14, [9, 10, 45, 46, 47]), (13, [11, 42, 44]), (12, [11, 42, 43]), (11, [41]), (10, [3, 4, 5, 37, 38, 39, 40]), (8, [35]), (7, [3, 4, 5, 35, 36]), (6, [31, 33, 34]), (5, [3, 4, 5, 31, 32]), (4, [8, 15, 18, 19, 20, 21, 22, 23, 24, 25, 26, 27, 28, 29, 30]), (3, [3, 4, 5, 8, 15, 16, 17]), (2, [14]), (1, [12, 13]), (0, [0, 1, 2, 7])]
theorem c_cake_Mark : compFn Tryd.prog [3, 4, 6] (fun i => (fg_cake_Mark.lookup i).getD []) Tryd.f50 = some t_cake_Mark.fn := by kernel_rfl
def fg_ask_office_mark : List (Nat × List Nat) := [(1, [1, 4, 6, 7, 10, 11, 12, 13, 14, 15, 16, 17, 18, 19, 20]), (0, [0, 2, 3, 9])]
theorem c_ask_office_mark : compFn Tryd.prog [4, 6, 7, 8] (fun i => (fg_ask_office_mark.lookup i).getD []) Tryd.f36 = some t_ask_office_mark.fn := by kernel_rfl
def fg_ask_office_has : List (Nat × List Nat) := [(1, [1, 2, 5, 6, 7, 8, 9, 10, 11, 12, 13, 14]), (0, [0, 4])]
theorem c_ask_office_has : compFn Tryd.prog [2] (fun i => (fg_ask_office_has.lookup i).getD []) Tryd.f49 = some t_ask_office_has.fn := by kernel_rfl
def fg_ask_office_ask : List (Nat × List Nat) := [(13, [3, 4, 10, 12, 59, 60, 61, 62, 63, 64, 65, 66, 67, 68, 69, 70, 71, 72]), (12, [53, 54, 55, 56, 57, 58]), (11, [48, 51, 52]), (10, [3, 4, 10, 48, 49, 50]), (9, [11, 40, 44, 45, 46, 47]), (8, [3, 4, 10, 11, 40, 41, 42, 43]), (7, [39]), (6, [2, 25, 28, 29, 30, 31, 32, 33, 34, 35, 36, 37, 38]), (5, [2, 3, 4, 25, 26, 27]), (4, [9, 17, 21, 22, 23, 24]), (3, [2, 3, 4, 9, 17, 18, 19, 20]), (2, [16]), (1, [13, 14, 15]), (0, [0, 1, 8])]
theorem c_ask_office_ask : compFn Tryd.prog [69, 3, 4, 6, 7, 10] (fun i => (fg_ask_office_ask.lookup i).getD []) Tryd.f35 = some t_ask_office_ask.fn := by kernel_rfl
def fg_ask_Mark : List (Nat × List Nat) := [(2, [1, 6, 7, 11, 14, 15, 16, 17, 18, 19, 20, 21, 22, 23, 24]), (1, [4, 12, 13]), (0, [0, 2, 3, 10])]
theorem c_ask_Mark : compFn Tryd.prog [4, 6, 7, 8, 9, 11] (fun i => (fg_ask_Mark.lookup i).getD []) Tryd.f28 = some t_ask_Mark.fn := by kernel_rfl
def fg_cake_Value : List (Nat × List Nat) := [(28, [3, 5, 9, 10, 42, 43, 44, 45, 105]), (27, [13, 70, 104]), (26, [13, 15, 100, 103]), (25, [3, 5, 9, 10, 13, 15, 42, 43, 44, 100, 101, 102]), (24, [99]), (23, [16, 90, 93, 94, 95, 96, 97, 98]), (22, [3, 5, 9, 10, 13, 15, 16, 42, 43, 44, 90, 91, 92]), (21, [89]), (20, [12, 14, 79, 82, 83, 84, 85, 86, 87, 88]), (19, [3, 5, 9, 10, 12, 13, 14, 15, 42, 43, 44, 79, 80, 81]), (18, [78]), (17, [67, 72, 73, 74, 75, 76, 77]), (16, [13, 70, 71]), (15, [12, 67, 68, 69]), (14, [58, 60, 61, 62, 63, 64, 65, 66]), (13, [58, 59]), (12, [56, 57]), (11, [11, 49, 50, 51, 52, 53, 54, 55]), (10, [45, 46, 47, 48]), (8, [41]), (7, [4, 40]), (6, [37, 39]), (5, [3, 4, 5, 37, 38]), (4, [8, 20, 23, 24, 25, 26, 27, 28, 29, 30, 31, 32, 33, 34, 35, 36]), (3, [3, 4, 5, 8, 20, 21, 22]), (2, [19]), (1, [17, 18]), (0, [0, 1, 2, 7])]
theorem c_cake_Value : compFn Tryd.prog [3, 4, 5, 6, 9, 10, 13, 14, 16] (fun i => (fg_cake_Value.lookup i).getD []) Tryd.f53 = some t_cake_Value.fn := by kernel_rfl
def fg_ask_office_value : List (Nat × List Nat) := [(1, [1, 4, 6, 7, 10, 11, 12, 13, 14, 15, 16, 17, 18, 19, 20]), (0, [0, 2, 3, 9])]
theorem c_ask_office_value : compFn Tryd.prog [4, 6, 7, 8] (fun i => (fg_ask_office_value.lookup i).getD []) Tryd.f39 = some t_ask_office_value.fn := by kernel_rfl
def fg_ask_Value : List (Nat × List Nat) := [(2, [1, 6, 7, 11, 14, 15, 16, 17, 18, 19, 20, 21, 22, 23, 24]), (1, [4, 12, 13]), (0, [0, 2, 3, 10])]
theorem c_ask_Value : compFn Tryd.prog [4, 6, 7, 8, 9, 11] (fun i => (fg_ask_Value.lookup i).getD []) Tryd.f30 = some t_ask_Value.fn := by kernel_rfl
def fg_choose_step : List (Nat × List Nat) := [(9, [1, 66]), (8, [4, 7, 60, 61, 62, 63, 64, 65]), (7, [3, 5, 8, 48, 49, 50, 51, 52, 53, 54, 55, 56, 57, 58, 59]), (6, [6, 37, 38, 39, 40, 41, 42, 43, 44, 45, 46, 47]), (5, [11, 34, 35, 36]), (4, [1, 33]), (3, [32]), (2, [11, 12, 13, 14, 15, 16, 17, 18, 19, 20, 21, 22, 23, 24, 25, 26, 27, 28, 29, 30, 31]), (1, [9, 10]), (0, [0])]
theorem c_choose_step : compFn Tryd.prog [1, 2, 4, 5] (fun i => (fg_choose_step.lookup i).getD []) Tryd.f20 = some t_choose_step.fn := by kernel_rfl
def fg_s_Equal_api_Query_api_Query : List (Nat × List Nat) := [(9, [0, 1, 12, 13, 14]), (8, [24, 25]), (7, [0, 1, 12, 13, 24]), (6, [5, 16, 17, 18, 19, 20, 21, 22, 23]), (5, [14, 15]), (3, [10, 11]), (2, [0, 1, 10]), (1, [6, 7, 8, 9]), (0, [4])]
theorem c_s_Equal_api_Query_api_Query : compFn Tryd.prog [] (fun i => (fg_s_Equal_api_Query_api_Query.lookup i).getD []) Tryd.f25 = some t_s_Equal_api_Query_api_Query.fn := by kernel_rfl
def fg_choose_Check : List (Nat × List Nat) := [(11, [60]), (10, [60]), (9, [1, 4, 29, 32, 33, 34, 35, 36, 37, 38, 39, 40, 41, 42, 43, 44, 45, 46, 47, 48, 49, 50, 51, 52, 53, 54, 55, 56, 57, 58, 59]), (8, [29, 30, 31]), (7, [5, 22, 24, 25, 26, 27, 28]), (6, [1, 4, 5, 22, 23]), (5, [21]), (4, [3, 10, 12, 13, 14, 15, 16, 17, 18, 19, 20]), (3, [1, 3, 10, 11]), (2, [9]), (1, [6, 7, 8]), (0, [0, 2])]
theorem c_choose_Check : compFn Tryd.prog [1, 4] (fun i => (fg_choose_Check.lookup i).getD []) Tryd.f11 = some t_choose_Check.fn := by kernel_rfl
def fg_choose_Division : List (Nat × List Nat) := [(12, [6, 50]), (11, [1, 5, 34, 35, 36, 37, 38, 39, 40, 41, 42, 43, 44, 45, 46, 47, 48, 49]), (10, [25, 26, 27, 28, 29, 30, 31, 32, 33]), (9, [20, 23, 24]), (8, [20, 21, 22]), (7, [19]), (6, [15, 17, 18]), (5, [1, 15, 16]), (4, [4, 10, 13, 14]), (3, [1, 4, 10, 11, 12]), (2, [9]), (1, [7, 8]), (0, [0, 3])]
theorem c_choose_Division : compFn Tryd.prog [32, 48, 1, 2, 6] (fun i => (fg_choose_Division.lookup i).getD []) Tryd.f14 = some t_choose_Division.fn := by kernel_rfl
def fg_choose_Run : List (Nat × List Nat) := [(6, [7, 26, 27, 28, 29, 30]), (5, [21, 22, 23, 24, 25]), (4, [6, 15, 18, 19, 20]), (3, [7, 15, 16, 17]), (2, [14]), (1, [0, 1, 8, 9, 10, 11, 12, 13]), (0, [5, 6])]
theorem c_choose_Run : compFn Tryd.prog [4, 7] (fun i => (fg_choose_Run.lookup i).getD []) Tryd.f7 = some t_choose_Run.fn := by kernel_rfl
def fg_l07_piece : List (Nat × List Nat) := [(1, [2, 3, 5, 6, 7, 8]), (0, [0, 1, 4])]
theorem c_l07_piece : compFn Tryd.prog [2, 3] (fun i => (fg_l07_piece.lookup i).getD []) Tryd.f19 = some t_l07_piece.fn := by kernel_rfl
def fg_r03_Same : List (Nat × List Nat) := [(8, [0, 1, 5, 14]), (5, [15, 16, 25]), (7, [0, 1, 5, 25]), (6, [14, 17, 18, 19, 20, 21, 22, 23, 24]), (4, [11, 12, 13]), (3, [10]), (2, [0, 1, 10]), (1, [6, 7, 8, 9]), (0, [4])]
theorem c_r03_Same : compFn Tryd.prog [] (fun i => (fg_r03_Same.lookup i).getD []) Tryd.f21 = some t_r03_Same.fn := by kernel_rfl
def fg_r06_Same : List (Nat × List Nat) := [(8, [2, 3, 5, 17]), (5, [18, 19, 31]), (7, [2, 3, 5, 31]), (6, [17, 20, 21, 22, 23, 24, 25, 26, 27, 28, 29, 30]), (4, [13, 14, 15, 16]), (3, [12]), (2, [2, 3, 12]), (1, [6, 7, 8, 9, 10, 11]), (0, [0, 1, 4])]
theorem c_r06_Same : compFn Tryd.prog [2, 3] (fun i => (fg_r06_Same.lookup i).getD []) Tryd.f8 = some t_r06_Same.fn := by kernel_rfl
def fg_l07_alive : List (Nat × List Nat) := [(4, [1, 2, 3, 4, 5, 7, 8, 9, 10, 27, 28, 29, 30, 31, 32, 33, 34, 35, 36, 37, 38, 39, 40, 41, 42, 43, 44, 45, 46, 47, 48, 49, 50, 51, 52, 53, 54, 55, 56, 57, 58, 59, 60, 61]), (3, [21, 22, 23, 24, 25, 26]), (2, [6, 15, 16, 17, 18, 19, 20]), (1, [11, 12, 13, 14]), (0, [0])]
theorem c_l07_alive : compFn Tryd.prog [37, 58, 1, 2, 3, 4, 5, 8] (fun i => (fg_l07_alive.lookup i).getD []) Tryd.f6 = some t_l07_alive.fn := by kernel_rfl
def fg_l07_ChooseTurned : List (Nat × List Nat) := [(7, [5, 8, 48, 49, 50, 51, 52, 53, 54, 55, 56, 57, 58, 59, 60, 61, 62, 63]), (6, [5, 8, 48]), (5, [7, 10, 37, 38, 39, 40, 41, 42, 43, 44, 45, 46, 47]), (4, [0, 1, 9, 23, 24, 25, 26, 27, 28, 29, 30, 31, 32, 33, 34, 35, 36]), (3, [6, 14, 16, 17, 18, 19, 20, 21, 22]), (2, [0, 1, 14, 15]), (1, [11, 12, 13]), (0, [4])]
theorem c_l07_ChooseTurned : compFn Tryd.prog [30, 58, 5, 8] (fun i => (fg_l07_ChooseTurned.lookup i).getD []) Tryd.f3 = some t_l07_ChooseTurned.fn := by kernel_rfl
def fg_r02_Same : List (Nat × List Nat) := [(13, [2, 3, 6, 52]), (10, [53, 54, 65]), (12, [2, 3, 6, 65]), (11, [52, 55, 56, 57, 58, 59, 60, 61, 62, 63, 64]), (9, [48, 49, 50, 51]), (8, [5, 34]), (5, [35, 36, 47]), (7, [2, 3, 5, 47]), (6, [34, 37, 38, 39, 40, 41, 42, 43, 44, 45, 46]), (4, [30, 31, 32, 33]), (3, [29]), (2, [2, 3, 29]), (1, [7, 8, 9, 10, 11, 12, 13, 14, 15, 16, 17, 18, 19, 20, 21, 22, 23, 24, 25, 26, 27, 28]), (0, [0, 1, 4])]
theorem c_r02_Same : compFn Tryd.prog [2, 3] (fun i => (fg_r02_Same.lookup i).getD []) Tryd.f23 = some t_r02_Same.fn := by kernel_rfl
def fg_r04_SameCakes : List (Nat × List Nat) := [(8, [0, 1, 5, 14]), (5, [15, 16, 26]), (7, [0, 1, 5, 26]), (6, [14, 17, 18, 19, 20, 21, 22, 23, 24, 25]), (4, [11, 12, 13]), (3, [10]), (2, [0, 1, 10]), (1, [6, 7, 8, 9]), (0, [4])]
theorem c_r04_SameCakes : compFn Tryd.prog [] (fun i => (fg_r04_SameCakes.lookup i).getD []) Tryd.f10 = some t_r04_SameCakes.fn := by kernel_rfl
def fg_choose_Next : List (Nat × List Nat) := [(6, [1, 13, 15, 16]), (5, [1, 13, 14]), (4, [4, 8, 11, 12]), (3, [1, 4, 8, 9, 10]), (2, [7]), (1, [5, 6]), (0, [0, 3])]
theorem c_choose_Next : compFn Tryd.prog [1, 2] (fun i => (fg_choose_Next.lookup i).getD []) Tryd.f12 = some t_choose_Next.fn := by kernel_rfl
def fg_r04_SameLogs : List (Nat × List Nat) := [(8, [0, 1, 5, 14]), (5, [15, 16, 25]), (7, [0, 1, 5, 25]), (6, [14, 17, 18, 19, 20, 21, 22, 23, 24]), (4, [11, 12, 13]), (3, [10]), (2, [0, 1, 10]), (1, [6, 7, 8, 9]), (0, [4])]
theorem c_r04_SameLogs : compFn Tryd.prog [] (fun i => (fg_r04_SameLogs.lookup i).getD []) Tryd.f13 = some t_r04_SameLogs.fn := by kernel_rfl
def fg_l07_ChooseLine : List (Nat × List Nat) := [(18, [5, 7, 8, 13, 14, 16, 121, 122, 123, 124, 125, 126, 127, 128, 129, 130, 131, 132, 133, 134, 135, 136, 137, 138, 139, 140, 141, 142, 143, 144, 145, 146, 147, 148, 149, 150, 151]), (17, [15, 116, 117, 118, 119, 120]), (16, [1, 10, 56, 111, 112, 113, 114, 115]), (9, [57, 58]), (15, [11, 109, 110]), (14, [1, 5, 7, 8, 10, 11, 109]), (13, [12, 81, 82, 83, 84, 85, 86, 87, 88, 89, 90, 91, 92, 93, 94, 95, 96, 97, 98, 99, 100, 101, 102, 103, 104, 105, 106, 107, 108]), (12, [75, 76, 77, 78, 79, 80]), (11, [1, 5, 7, 8, 10, 75]), (10, [56, 59, 60, 61, 62, 63, 64, 65, 66, 67, 68, 69, 70, 71, 72, 73, 74]), (8, [55]), (7, [54]), (6, [1, 5, 7, 8, 54]), (5, [0, 6, 9, 35, 36, 37, 38, 39, 40, 41, 42, 43, 44, 45, 46, 47, 48, 49, 50, 51, 52, 53]), (4, [28, 29, 30, 31, 32, 33, 34]), (3, [20, 22, 23, 24, 25, 26, 27]), (2, [0, 1, 20, 21]), (1, [17, 18, 19]), (0, [4])]
theorem c_l07_ChooseLine : compFn Tryd.prog [5, 7, 11, 13, 15] (fun i => (fg_l07_ChooseLine.lookup i).getD []) Tryd.f4 = some t_l07_ChooseLine.fn := by kernel_rfl
theorem tabOk : AllOk Tryd.prog tab := by
  unfold tab
  simp only [AllOk]
  exact ⟨⟨Tryd.f26, _, _, Tryd.func26, c_r02_Great⟩, ⟨Tryd.f15, _, _, Tryd.func15, c_r04_GreatCakes⟩, ⟨Tryd.f34, _, _, Tryd.func34, c_r02_Check⟩, ⟨Tryd.f27, _, _, Tryd.func27, c_r04_Check⟩, ⟨Tryd.f16, _, _, Tryd.func16, c_r07_Cakes⟩, ⟨Tryd.f5, _, _, Tryd.func5, c_l07_fit⟩, ⟨Tryd.f17, _, _, Tryd.func17, c_r01_Of⟩, ⟨Tryd.f18, _, _, Tryd.func18, c_l07_two⟩, ⟨Tryd.f47, _, _, Tryd.func47, c_s_Min_int_int⟩, ⟨Tryd.f48, _, _, Tryd.func48, c_s_Max_int_int⟩, ⟨Tryd.f33, _, _, Tryd.func33, c_cake_Check⟩, ⟨Tryd.f24, _, _, Tryd.func24, c_ask_Check⟩, ⟨Tryd.f46, _, _, Tryd.func46, c_s_Clone_int_int⟩, ⟨Tryd.f32, _, _, Tryd.func32, c_ask_copied⟩, ⟨Tryd.f22, _, _, Tryd.func22, c_ask_Open⟩, ⟨Tryd.f9, _, _, Tryd.func9, c_choose_Start⟩, ⟨Tryd.f37, _, _, Tryd.func37, c_cake_Total⟩, ⟨Tryd.f43, _, _, Tryd.func43, c_ratio_size⟩, ⟨Tryd.f51, _, _, Tryd.func51, c_ratio_gcd⟩, ⟨Tryd.f52, _, _, Tryd.func52, c_ratio_signed⟩, ⟨Tryd.f38, _, _, Tryd.func38, c_ratio_Make⟩, ⟨Tryd.f29, _, _, Tryd.func29, c_choose_half⟩, ⟨Tryd.f55, _, _, Tryd.func55, c_ratio_Check⟩, ⟨Tryd.f64, _, _, Tryd.func64, c_cake_whole⟩, ⟨Tryd.f54, _, _, Tryd.func54, c_cmp_Or_api_Errno⟩, ⟨Tryd.f40, _, _, Tryd.func40, c_ratio_check⟩, ⟨Tryd.f56, _, _, Tryd.func56, c_cmp_isNaN_int64⟩, ⟨Tryd.f41, _, _, Tryd.func41, c_cmp_Compare_int64⟩, ⟨Tryd.f42, _, _, Tryd.func42, c_m_Mul64⟩, ⟨Tryd.f57, _, _, Tryd.func57, c_cmp_isNaN_uint64⟩, ⟨Tryd.f45, _, _, Tryd.func45, c_cmp_Compare_uint64⟩, ⟨Tryd.f44, _, _, Tryd.func44, c_cmp_Or_int⟩, ⟨Tryd.f31, _, _, Tryd.func31, c_ratio_Cmp⟩, ⟨Tryd.f61, _, _, Tryd.func61, c_cake_less⟩, ⟨Tryd.f58, _, _, Tryd.func58, c_cake_point⟩, ⟨Tryd.f72, _, _, Tryd.func72, c_m_Len64⟩, ⟨Tryd.f71, _, _, Tryd.func71, c_m_LeadingZeros64⟩, ⟨Tryd.f70, _, _, Tryd.func70, c_m_Div64⟩, ⟨Tryd.f69, _, _, Tryd.func69, c_m_Rem64⟩, ⟨Tryd.f65, _, _, Tryd.func65, c_ratio_Add⟩, ⟨Tryd.f62, _, _, Tryd.func62, c_ratio_Sub⟩, ⟨Tryd.f66, _, _, Tryd.func66, c_ratio_Mul⟩, ⟨Tryd.f63, _, _, Tryd.func63, c_ratio_Div⟩, ⟨Tryd.f60, _, _, Tryd.func60, c_cake_Mark_1⟩, ⟨Tryd.f59, _, _, Tryd.func59, c_cake_walk⟩, ⟨Tryd.f50, _, _, Tryd.func50, c_cake_Mark⟩, ⟨Tryd.f36, _, _, Tryd.func36, c_ask_office_mark⟩, ⟨Tryd.f49, _, _, Tryd.func49, c_ask_office_has⟩, ⟨Tryd.f35, _, _, Tryd.func35, c_ask_office_ask⟩, ⟨Tryd.f28, _, _, Tryd.func28, c_ask_Mark⟩, ⟨Tryd.f53, _, _, Tryd.func53, c_cake_Value⟩, ⟨Tryd.f39, _, _, Tryd.func39, c_ask_office_value⟩, ⟨Tryd.f30, _, _, Tryd.func30, c_ask_Value⟩, ⟨Tryd.f20, _, _, Tryd.func20, c_choose_step⟩, ⟨Tryd.f25, _, _, Tryd.func25, c_s_Equal_api_Query_api_Query⟩, ⟨Tryd.f11, _, _, Tryd.func11, c_choose_Check⟩, ⟨Tryd.f14, _, _, Tryd.func14, c_choose_Division⟩, ⟨Tryd.f7, _, _, Tryd.func7, c_choose_Run⟩, ⟨Tryd.f19, _, _, Tryd.func19, c_l07_piece⟩, ⟨Tryd.f21, _, _, Tryd.func21, c_r03_Same⟩, ⟨Tryd.f8, _, _, Tryd.func8, c_r06_Same⟩, ⟨Tryd.f6, _, _, Tryd.func6, c_l07_alive⟩, ⟨Tryd.f3, _, _, Tryd.func3, c_l07_ChooseTurned⟩, ⟨Tryd.f23, _, _, Tryd.func23, c_r02_Same⟩, ⟨Tryd.f10, _, _, Tryd.func10, c_r04_SameCakes⟩, ⟨Tryd.f12, _, _, Tryd.func12, c_choose_Next⟩, ⟨Tryd.f13, _, _, Tryd.func13, c_r04_SameLogs⟩, ⟨Tryd.f4, _, _, Tryd.func4, c_l07_ChooseLine⟩, trivial⟩
theorem hm : Tryd.prog.follows .mixedOrders = true := by kernel_rfl
theorem isAdd : IsExtern Tryd.prog n_m_Add64 add64Entry := ⟨_, Tryd.func67, by kernel_rfl, by kernel_rfl, by kernel_rfl, by kernel_rfl⟩
theorem isSub : IsExtern Tryd.prog n_m_Sub64 sub64E := ⟨_, Tryd.func68, by kernel_rfl, by kernel_rfl, by kernel_rfl, by kernel_rfl⟩
theorem k0 : EnvOk Tryd.prog E := by
  refine baseC_ok hm isAdd isSub tabOk ?_
  intro n e b h
  simp only [List.mem_cons, Prod.mk.injEq, List.not_mem_nil, or_false] at h
  rcases h with ⟨rfl, rfl, rfl⟩
  exact ⟨(.int .i64 (0)), by kernel_rfl⟩
end Go.Proofs.YtniodknidoemfaaDoor.Ct
