/- The statement ChooseSteps: what the conditions and their plain laws say of the program's functions, joined with the program. -/
import Derived.Test.YtniodknidoemfaaGreatDoorCards
import Derived.Test.YtniodknidoemfaaGreatDoorTie
import Derived.Test.YtniodknidoemfaaGreatDoorCpW5
import Derived.WalkKit
import Derived.ProofKit
import Derived.OpenShut
import Derived.ReadAgain
import Derived.ChangeBears
import Derived.LaidMore
import Derived.Lay
import Derived.SevenTiedAt
import Derived.Stop.Joined
namespace Go.Proofs.YtniodknidoemfaaGreatDoor.Cp
open Go Go.Pf Go.Pf.Vc Go.ChangeShapes Go.WideShapes Go.ChangeAt Go.RowKit
set_option maxRecDepth 100000
def fg_r02_Great : List (Nat × List Nat) := [(1, [1, 3, 4, 5, 6, 7, 8, 9, 10, 11, 12]), (0, [0, 2])]
theorem c_r02_Great : compFn Tryz.prog [1] (fun i => (fg_r02_Great.lookup i).getD []) Tryz.f22 = some t_r02_Great.fn := by kernel_rfl
def fg_r04_GreatCakes : List (Nat × List Nat) := [(6, [0, 3, 7, 15, 16, 17]), (3, [8, 9, 14]), (5, [0, 3, 14]), (4, [7, 10, 11, 12, 13]), (2, [4, 5, 6]), (0, [2])]
theorem c_r04_GreatCakes : compFn Tryz.prog [] (fun i => (fg_r04_GreatCakes.lookup i).getD []) Tryz.f5 = some t_r04_GreatCakes.fn := by kernel_rfl
def fg_s_Min_int_int : List (Nat × List Nat) := [(8, [0, 3, 4, 15, 24]), (6, [16, 17]), (7, [15, 18, 19, 20, 21, 22, 23]), (5, [12, 13, 14]), (3, [7, 9, 10, 11]), (2, [7, 8]), (1, [5, 6]), (0, [2])]
theorem c_s_Min_int_int : compFn Tryz.prog [] (fun i => (fg_s_Min_int_int.lookup i).getD []) Tryz.f65 = some t_s_Min_int_int.fn := by kernel_rfl
def fg_s_Max_int_int : List (Nat × List Nat) := [(8, [0, 3, 4, 15, 24]), (6, [16, 17]), (7, [15, 18, 19, 20, 21, 22, 23]), (5, [12, 13, 14]), (3, [7, 9, 10, 11]), (2, [7, 8]), (1, [5, 6]), (0, [2])]
theorem c_s_Max_int_int : compFn Tryz.prog [] (fun i => (fg_s_Max_int_int.lookup i).getD []) Tryz.f66 = some t_s_Max_int_int.fn := by kernel_rfl
def fg_cake_Check : List (Nat × List Nat) := [(14, [81]), (13, [81]), (12, [1, 49, 50, 51, 66, 67, 68, 69, 70, 71, 72, 73, 74, 75, 76, 77, 78, 79, 80]), (11, [64, 65]), (10, [1, 49, 50, 64]), (9, [4, 53, 54, 55, 56, 57, 58, 59, 60, 61, 62, 63]), (8, [51, 52]), (6, [3, 47, 48]), (5, [1, 3, 47]), (4, [14, 15, 16, 17, 18, 19, 20, 21, 22, 23, 24, 25, 26, 27, 28, 29, 30, 31, 32, 33, 34, 35, 36, 37, 38, 39, 40, 41, 42, 43, 44, 45, 46]), (3, [1, 3, 14]), (2, [8, 9, 10, 11, 12, 13]), (1, [5, 6, 7]), (0, [0, 2])]
theorem c_cake_Check : compFn Tryz.prog [1] (fun i => (fg_cake_Check.lookup i).getD []) Tryz.f44 = some t_cake_Check.fn := by kernel_rfl
def fg_ask_Check : List (Nat × List Nat) := [(18, [1, 36, 37, 38, 39]), (17, [49, 50]), (16, [1, 36, 37, 38, 49]), (15, [7, 42, 43, 44, 45, 46, 47, 48]), (14, [39, 40, 41]), (12, [23, 24, 25, 26, 35]), (11, [5, 32, 34]), (10, [1, 5, 23, 24, 25, 32, 33]), (9, [31]), (8, [4, 29, 30]), (7, [26, 27, 28]), (5, [21, 22]), (4, [1, 21]), (3, [17, 18, 19, 20]), (2, [1, 17]), (1, [8, 9, 10, 11, 12, 13, 14, 15, 16]), (0, [0, 2])]
theorem c_ask_Check : compFn Tryz.prog [1, 4, 7] (fun i => (fg_ask_Check.lookup i).getD []) Tryz.f30 = some t_ask_Check.fn := by kernel_rfl
def fg_s_Clone_int_int : List (Nat × List Nat) := [(3, [0, 4, 5, 6, 7]), (2, [0, 4]), (1, [3]), (0, [2])]
theorem c_s_Clone_int_int : compFn Tryz.prog [] (fun i => (fg_s_Clone_int_int.lookup i).getD []) Tryz.f47 = some t_s_Clone_int_int.fn := by kernel_rfl
def fg_ask_copied : List (Nat × List Nat) := [(7, [3, 6, 7, 8, 9, 25]), (6, [24]), (5, [5, 12, 13, 14, 15, 16, 17, 18, 19, 20, 21, 22, 23]), (4, [9, 10, 11]), (2, [0]), (0, [2])]
theorem c_ask_copied : compFn Tryz.prog [22, 5] (fun i => (fg_ask_copied.lookup i).getD []) Tryz.f34 = some t_ask_copied.fn := by kernel_rfl
def fg_ask_Open : List (Nat × List Nat) := [(4, [0, 4, 9, 12, 13, 14]), (3, [0, 4, 9, 10, 11]), (2, [8]), (1, [5, 6, 7]), (0, [3])]
theorem c_ask_Open : compFn Tryz.prog [2] (fun i => (fg_ask_Open.lookup i).getD []) Tryz.f23 = some t_ask_Open.fn := by kernel_rfl
def fg_choose_Start : List (Nat × List Nat) := [(6, [1, 6, 27, 29, 30, 31, 32]), (5, [1, 6, 27, 28]), (4, [0, 7, 14, 17, 18, 19, 20, 21, 22, 23, 24, 25, 26]), (3, [0, 1, 6, 7, 14, 15, 16]), (2, [13]), (1, [8, 9, 10, 11, 12]), (0, [5])]
theorem c_choose_Start : compFn Tryz.prog [4, 6] (fun i => (fg_choose_Start.lookup i).getD []) Tryz.f6 = some t_choose_Start.fn := by kernel_rfl
def fg_r02_Check : List (Nat × List Nat) := [(14, [98]), (13, [98]), (12, [1, 3, 4, 57, 97]), (8, [58, 59]), (11, [87, 88, 89, 90, 91, 92, 93, 94, 95, 96]), (10, [1, 3, 4, 87]), (9, [57, 60, 61, 62, 63, 64, 65, 66, 67, 68, 69, 70, 71, 72, 73, 74, 75, 76, 77, 78, 79, 80, 81, 82, 83, 84, 85, 86]), (7, [53, 54, 55, 56]), (5, [52]), (4, [1, 52]), (3, [13, 14, 15, 16, 17, 18, 19, 20, 21, 22, 23, 24, 25, 26, 27, 28, 29, 30, 31, 32, 33, 34, 35, 36, 37, 38, 39, 40, 41, 42, 43, 44, 45, 46, 47, 48, 49, 50, 51]), (2, [1, 13]), (1, [5, 6, 7, 8, 9, 10, 11, 12]), (0, [0, 2])]
theorem c_r02_Check : compFn Tryz.prog [1] (fun i => (fg_r02_Check.lookup i).getD []) Tryz.f45 = some t_r02_Check.fn := by kernel_rfl
def fg_r04_Check : List (Nat × List Nat) := [(15, [1, 4, 43]), (12, [44, 45, 57]), (14, [1, 4, 57]), (13, [43, 46, 47, 48, 49, 50, 51, 52, 53, 54, 55, 56]), (11, [39, 40, 41, 42]), (10, [3, 23]), (7, [24, 25, 32]), (9, [1, 3, 32, 33, 34, 35, 36, 37, 38]), (8, [23, 26, 27, 28, 29, 30, 31]), (6, [19, 20, 21, 22]), (5, [18]), (4, [1, 18]), (3, [14, 15, 16, 17]), (2, [1, 14]), (1, [5, 6, 7, 8, 9, 10, 11, 12, 13]), (0, [0, 2])]
theorem c_r04_Check : compFn Tryz.prog [1] (fun i => (fg_r04_Check.lookup i).getD []) Tryz.f32 = some t_r04_Check.fn := by kernel_rfl
def fg_r07_Cakes : List (Nat × List Nat) := [(6, [22]), (5, [22]), (4, [0, 1, 5, 10, 12, 13, 14, 15, 16, 17, 18, 19, 20, 21]), (3, [0, 1, 5, 10, 11]), (2, [9]), (1, [6, 7, 8]), (0, [4])]
theorem c_r07_Cakes : compFn Tryz.prog [] (fun i => (fg_r07_Cakes.lookup i).getD []) Tryz.f24 = some t_r07_Cakes.fn := by kernel_rfl
def fg_r02_Twin : List (Nat × List Nat) := [(1, [1, 3, 4, 5, 6, 7, 8, 9, 10, 11, 12, 13]), (0, [0])]
theorem c_r02_Twin : compFn Tryz.prog [5, 9, 1, 2] (fun i => (fg_r02_Twin.lookup i).getD []) Tryz.f29 = some t_r02_Twin.fn := by kernel_rfl
def fg_r04_Twins : List (Nat × List Nat) := [(6, [0, 3, 4, 8, 19]), (4, [9, 10]), (5, [8, 11, 12, 13, 14, 15, 16, 17, 18]), (3, [5, 6, 7]), (0, [2])]
theorem c_r04_Twins : compFn Tryz.prog [17] (fun i => (fg_r04_Twins.lookup i).getD []) Tryz.f14 = some t_r04_Twins.fn := by kernel_rfl
def fg_r01_Of : List (Nat × List Nat) := [(1, [0, 3, 4])]
theorem c_r01_Of : compFn Tryz.prog [2] (fun i => (fg_r01_Of.lookup i).getD []) Tryz.f35 = some t_r01_Of.fn := by kernel_rfl
def fg_r02_Whole : List (Nat × List Nat) := [(6, [1, 3, 4, 9, 32]), (4, [10, 11]), (5, [9, 12, 13, 14, 15, 16, 17, 18, 19, 20, 21, 22, 23, 24, 25, 26, 27, 28, 29, 30, 31]), (3, [5, 6, 7, 8]), (0, [0, 2])]
theorem c_r02_Whole : compFn Tryz.prog [1] (fun i => (fg_r02_Whole.lookup i).getD []) Tryz.f50 = some t_r02_Whole.fn := by kernel_rfl
def fg_r01_abs : List (Nat × List Nat) := [(3, [0, 4, 10, 11]), (2, [0, 4, 5, 6, 7, 8, 9]), (1, [3]), (0, [2])]
theorem c_r01_abs : compFn Tryz.prog [] (fun i => (fg_r01_abs.lookup i).getD []) Tryz.f52 = some t_r01_abs.fn := by kernel_rfl
def fg_r01_gcd : List (Nat × List Nat) := [(3, [0, 1, 6, 11]), (2, [6, 7, 8, 9, 10]), (1, [5]), (0, [4])]
theorem c_r01_gcd : compFn Tryz.prog [] (fun i => (fg_r01_gcd.lookup i).getD []) Tryz.f69 = some t_r01_gcd.fn := by kernel_rfl
def fg_r01_made : List (Nat × List Nat) := [(6, [8, 35, 40]), (5, [35, 36, 37, 38, 39]), (4, [0]), (3, [4, 5, 26, 28, 29, 30, 31, 32, 33, 34]), (2, [0, 4, 5, 26, 27]), (1, [9, 10, 11, 12, 13, 14, 15, 16, 17, 18, 19, 20, 21, 22, 23, 24, 25]), (0, [1, 2, 7])]
theorem c_r01_made : compFn Tryz.prog [4, 5, 6, 8] (fun i => (fg_r01_made.lookup i).getD []) Tryz.f70 = some t_r01_made.fn := by kernel_rfl
def fg_r01_Make : List (Nat × List Nat) := [(5, [0, 1, 6, 7, 8, 19, 20, 21, 22, 23, 24, 25, 26, 27, 28, 29, 30, 31, 32, 33, 34]), (4, [16, 17, 18]), (3, [10, 12, 13, 14, 15]), (2, [0, 1, 10, 11]), (1, [9]), (0, [5])]
theorem c_r01_Make : compFn Tryz.prog [4] (fun i => (fg_r01_Make.lookup i).getD []) Tryz.f49 = some t_r01_Make.fn := by kernel_rfl
def fg_r07_Half : List (Nat × List Nat) := [(2, [3, 11]), (1, [1, 4, 5, 6, 7, 8, 9, 10]), (0, [0])]
theorem c_r07_Half : compFn Tryz.prog [1, 2, 3] (fun i => (fg_r07_Half.lookup i).getD []) Tryz.f37 = some t_r07_Half.fn := by kernel_rfl
def fg_r04_Agent : List (Nat × List Nat) := [(1, [1, 2, 5, 6, 7, 8, 9, 10, 11, 12, 13]), (0, [0, 4])]
theorem c_r04_Agent : compFn Tryz.prog [2] (fun i => (fg_r04_Agent.lookup i).getD []) Tryz.f67 = some t_r04_Agent.fn := by kernel_rfl
def fg_r01_Check : List (Nat × List Nat) := [(3, [30]), (2, [30]), (1, [1, 3, 4, 5, 6, 7, 8, 9, 10, 11, 12, 13, 14, 15, 16, 17, 18, 19, 20, 21, 22, 23, 24, 25, 26, 27, 28, 29]), (0, [0, 2])]
theorem c_r01_Check : compFn Tryz.prog [1] (fun i => (fg_r01_Check.lookup i).getD []) Tryz.f94 = some t_r01_Check.fn := by kernel_rfl
def fg_r01_times : List (Nat × List Nat) := [(5, [5, 7, 9, 10, 11, 35, 36, 37, 38, 39, 40, 41, 42, 43, 44, 45, 46, 47, 48, 49]), (4, [6, 26, 27, 28, 29, 30, 31, 32, 33, 34]), (3, [8, 20, 21, 22, 23, 24, 25]), (2, [1, 16, 17, 18, 19]), (1, [0, 12, 13, 14, 15])]
theorem c_r01_times : compFn Tryz.prog [4] (fun i => (fg_r01_times.lookup i).getD []) Tryz.f51 = some t_r01_times.fn := by kernel_rfl
def fg_r01_less : List (Nat × List Nat) := [(1, [2, 3, 5, 6, 7, 8, 9, 10, 11, 12, 13, 14, 15, 16, 17, 18, 19, 20, 21, 22, 23]), (0, [0, 1, 4])]
theorem c_r01_less : compFn Tryz.prog [2, 3] (fun i => (fg_r01_less.lookup i).getD []) Tryz.f53 = some t_r01_less.fn := by kernel_rfl
def fg_r01_Less : List (Nat × List Nat) := [(6, [5, 6, 33, 37, 38, 39]), (5, [5, 6, 33, 34, 35, 36]), (4, [2, 31, 32]), (3, [3, 13, 17, 18, 19, 20, 21, 22, 23, 24, 25, 26, 27, 28, 29, 30]), (2, [2, 3, 13, 14, 15, 16]), (1, [7, 8, 9, 10, 11, 12]), (0, [0, 1, 4])]
theorem c_r01_Less : compFn Tryz.prog [2, 3, 5, 6] (fun i => (fg_r01_Less.lookup i).getD []) Tryz.f39 = some t_r01_Less.fn := by kernel_rfl
def fg_r02_Point : List (Nat × List Nat) := [(1, [0, 3, 5, 6, 7, 8, 9, 10, 11, 12, 13, 14, 15, 16, 17, 18, 19]), (0, [1, 4])]
theorem c_r02_Point : compFn Tryz.prog [3] (fun i => (fg_r02_Point.lookup i).getD []) Tryz.f91 = some t_r02_Point.fn := by kernel_rfl
def fg_r02_later : List (Nat × List Nat) := [(3, [2, 3, 7, 9]), (2, [2, 3, 7, 8]), (1, [5, 6]), (0, [0, 1])]
theorem c_r02_later : compFn Tryz.prog [2, 3, 4] (fun i => (fg_r02_later.lookup i).getD []) Tryz.f95 = some t_r02_later.fn := by kernel_rfl
def fg_r02_sooner : List (Nat × List Nat) := [(3, [2, 3, 7, 9]), (2, [2, 3, 7, 8]), (1, [5, 6]), (0, [0, 1])]
theorem c_r02_sooner : compFn Tryz.prog [2, 3, 4] (fun i => (fg_r02_sooner.lookup i).getD []) Tryz.f102 = some t_r02_sooner.fn := by kernel_rfl
def fg_r01_Both : List (Nat × List Nat) := [(3, [2, 3, 7, 10, 11]), (2, [2, 3, 7, 8, 9]), (1, [5, 6]), (0, [0, 1, 4])]
theorem c_r01_Both : compFn Tryz.prog [2, 3] (fun i => (fg_r01_Both.lookup i).getD []) Tryz.f104 = some t_r01_Both.fn := by kernel_rfl
def fg_r01_Neg : List (Nat × List Nat) := [(2, [1, 7]), (1, [3, 4, 5, 6]), (0, [0])]
theorem c_r01_Neg : compFn Tryz.prog [1, 2] (fun i => (fg_r01_Neg.lookup i).getD []) Tryz.f108 = some t_r01_Neg.fn := by kernel_rfl
def fg_r01_plus : List (Nat × List Nat) := [(5, [5, 6, 20, 23, 24, 25]), (4, [20, 21, 22]), (3, [2, 17, 18, 19]), (2, [3, 12, 13, 14, 15, 16]), (1, [7, 8, 9, 10, 11]), (0, [0, 1])]
theorem c_r01_plus : compFn Tryz.prog [2, 3, 4] (fun i => (fg_r01_plus.lookup i).getD []) Tryz.f105 = some t_r01_plus.fn := by kernel_rfl
def fg_r01_minus : List (Nat × List Nat) := [(4, [2, 3, 5, 15, 18, 19, 20, 21, 22, 23, 24]), (3, [15, 16, 17]), (2, [11, 12, 13, 14]), (1, [6, 7, 8, 9, 10]), (0, [0, 1])]
theorem c_r01_minus : compFn Tryz.prog [2, 3, 4] (fun i => (fg_r01_minus.lookup i).getD []) Tryz.f106 = some t_r01_minus.fn := by kernel_rfl
def fg_r01_split : List (Nat × List Nat) := [(14, [1, 2, 6, 7, 8, 11, 45, 46]), (5, [12, 13, 37]), (13, [41, 42, 43, 44]), (12, [37, 38, 39, 40]), (11, [35, 36]), (10, [32, 33, 34]), (9, [9, 21, 28, 29, 30, 31]), (8, [21, 22, 23, 24, 25, 26, 27]), (7, [20]), (6, [11, 14, 15, 16, 17, 18, 19]), (4, [10]), (0, [0, 5])]
theorem c_r01_split : compFn Tryz.prog [2, 4, 6] (fun i => (fg_r01_split.lookup i).getD []) Tryz.f107 = some t_r01_split.fn := by kernel_rfl
def fg_r01_Add : List (Nat × List Nat) := [(17, [2, 3, 6, 9, 13, 14, 93, 94, 95, 96, 97, 98, 99, 100, 101, 102, 103, 104, 105, 106, 107, 108]), (16, [10, 15, 87, 88, 89, 90, 91, 92]), (15, [12, 84, 85, 86]), (14, [11, 76, 78, 79, 80, 81, 82, 83]), (13, [2, 3, 6, 9, 10, 76, 77]), (12, [7, 8, 61, 67, 74, 75]), (11, [71, 72, 73]), (10, [7, 8, 9, 67, 68, 69, 70]), (9, [65, 66]), (8, [61, 62, 63, 64]), (7, [55, 56, 57, 58, 59, 60]), (6, [52, 53, 54]), (5, [49, 50, 51]), (4, [31, 32, 33, 34, 35, 36, 37, 38, 39, 40, 41, 42, 43, 44, 45, 46, 47, 48]), (3, [19, 24, 25, 26, 27, 28, 29, 30]), (2, [2, 3, 19, 20, 21, 22, 23]), (1, [16, 17, 18]), (0, [0, 1, 5])]
theorem c_r01_Add : compFn Tryz.prog [2, 3, 4, 7, 8, 10, 11, 14] (fun i => (fg_r01_Add.lookup i).getD []) Tryz.f93 = some t_r01_Add.fn := by kernel_rfl
def fg_r01_Sub : List (Nat × List Nat) := [(3, [2, 3, 9, 14, 15, 16, 17, 18, 19]), (2, [2, 3, 9, 10, 11, 12, 13]), (1, [6, 7, 8]), (0, [0, 1, 5])]
theorem c_r01_Sub : compFn Tryz.prog [2, 3, 4] (fun i => (fg_r01_Sub.lookup i).getD []) Tryz.f97 = some t_r01_Sub.fn := by kernel_rfl
def fg_r01_Mul : List (Nat × List Nat) := [(4, [2, 3, 6, 7, 30, 31, 32, 33, 34, 35, 36, 37, 38, 39, 40, 41, 42, 43, 44, 45, 46, 47, 48, 49, 50, 51, 52, 53, 54, 55, 56, 57, 58, 59, 60, 61, 62, 63, 64, 65, 66, 67, 68, 69, 70, 71]), (3, [11, 16, 17, 18, 19, 20, 21, 22, 23, 24, 25, 26, 27, 28, 29]), (2, [2, 3, 11, 12, 13, 14, 15]), (1, [8, 9, 10]), (0, [0, 1, 5])]
theorem c_r01_Mul : compFn Tryz.prog [2, 3, 4] (fun i => (fg_r01_Mul.lookup i).getD []) Tryz.f103 = some t_r01_Mul.fn := by kernel_rfl
def fg_r02_worth : List (Nat × List Nat) := [(7, [1, 4, 12, 13, 51, 54, 55, 56, 57, 58, 59, 60, 61, 62, 63]), (6, [1, 4, 12, 13, 51, 52, 53]), (5, [50]), (4, [10, 11, 42, 44, 45, 46, 47, 48, 49]), (3, [1, 4, 10, 11, 42, 43]), (2, [31, 32, 33, 34, 35, 36, 37, 38, 39, 40, 41]), (1, [6, 7, 14, 15, 16, 17, 18, 19, 20, 21, 22, 23, 24, 25, 26, 27, 28, 29, 30]), (0, [0, 2, 3, 9])]
theorem c_r02_worth : compFn Tryz.prog [4, 6, 7, 8, 10, 11, 12] (fun i => (fg_r02_worth.lookup i).getD []) Tryz.f92 = some t_r02_worth.fn := by kernel_rfl
def fg_r02_Value : List (Nat × List Nat) := [(15, [3, 4, 5, 8, 9, 41, 66]), (8, [11, 42, 43, 63]), (14, [3, 4, 5, 8, 9, 11, 63, 64, 65]), (13, [62]), (12, [10, 53, 56, 57, 58, 59, 60, 61]), (11, [3, 4, 5, 8, 9, 10, 11, 53, 54, 55]), (10, [52]), (9, [41, 44, 45, 46, 47, 48, 49, 50, 51]), (7, [37, 38, 39, 40]), (5, [34, 36]), (4, [3, 4, 5, 34, 35]), (3, [14, 18, 19, 20, 21, 22, 23, 24, 25, 26, 27, 28, 29, 30, 31, 32, 33]), (2, [3, 4, 5, 14, 15, 16, 17]), (1, [12, 13]), (0, [0, 1, 2, 7])]
theorem c_r02_Value : compFn Tryz.prog [3, 4, 5, 6, 8, 10] (fun i => (fg_r02_Value.lookup i).getD []) Tryz.f80 = some t_r02_Value.fn := by kernel_rfl
def fg_r01_Div : List (Nat × List Nat) := [(8, [2, 3, 6, 26, 34, 35, 36, 37, 38]), (7, [3, 26, 27, 28, 29, 30, 31, 32, 33]), (6, [24, 25]), (5, [17, 19, 20, 21, 22, 23]), (4, [2, 3, 17, 18]), (3, [10, 15, 16]), (2, [2, 3, 10, 11, 12, 13, 14]), (1, [7, 8, 9]), (0, [0, 1, 5])]
theorem c_r01_Div : compFn Tryz.prog [2, 3, 4, 6] (fun i => (fg_r01_Div.lookup i).getD []) Tryz.f96 = some t_r01_Div.fn := by kernel_rfl
def fg_r02_Mark : List (Nat × List Nat) := [(26, [4, 121, 123]), (25, [4, 121, 122]), (24, [3, 5, 8, 9, 47, 119, 120]), (8, [48, 49]), (23, [10, 12, 115, 118]), (22, [3, 4, 5, 8, 9, 10, 12, 115, 116, 117]), (21, [114]), (20, [11, 87, 108, 109, 110, 111, 112, 113]), (19, [8, 13, 14, 100, 103, 104, 105, 106, 107]), (18, [8, 13, 14, 100, 101, 102]), (17, [99]), (16, [3, 4, 5, 9, 10, 11, 87, 88, 89, 90, 91, 92, 93, 94, 95, 96, 97, 98]), (15, [12, 81, 84, 85, 86]), (14, [3, 4, 5, 8, 9, 10, 11, 12, 81, 82, 83]), (13, [80]), (12, [68, 72, 73, 74, 75, 76, 77, 78, 79]), (11, [10, 68, 69, 70, 71]), (10, [57, 58, 59, 60, 61, 62, 63, 64, 65, 66, 67]), (9, [47, 50, 51, 52, 53, 54, 55, 56]), (7, [38, 39, 40, 41, 42, 43, 44, 45, 46]), (5, [35, 37]), (4, [3, 4, 5, 35, 36]), (3, [17, 21, 22, 23, 24, 25, 26, 27, 28, 29, 30, 31, 32, 33, 34]), (2, [3, 4, 5, 17, 18, 19, 20]), (1, [15, 16]), (0, [0, 1, 2, 7])]
theorem c_r02_Mark : compFn Tryz.prog [3, 4, 5, 6, 8, 10, 11, 13] (fun i => (fg_r02_Mark.lookup i).getD []) Tryz.f81 = some t_r02_Mark.fn := by kernel_rfl
def fg_r04_answer : List (Nat × List Nat) := [(3, [0, 3, 8, 21, 22, 23, 24, 25, 26, 27, 28, 29, 30, 31, 32]), (2, [0, 3, 8, 9, 10, 11, 12, 13, 14, 15, 16, 17, 18, 19, 20]), (1, [6, 7]), (0, [1, 5])]
theorem c_r04_answer : compFn Tryz.prog [3, 4] (fun i => (fg_r04_answer.lookup i).getD []) Tryz.f68 = some t_r04_answer.fn := by kernel_rfl
def fg_r04_asked : List (Nat × List Nat) := [(11, [2, 3, 7, 43, 44, 45, 46, 47, 48, 49, 50, 51, 52, 53, 54]), (10, [38, 41, 42]), (9, [2, 3, 7, 38, 39, 40]), (8, [8, 31, 35, 36, 37]), (7, [2, 3, 7, 8, 31, 32, 33, 34]), (6, [30]), (5, [20, 23, 24, 25, 26, 27, 28, 29]), (4, [2, 3, 20, 21, 22]), (3, [11, 16, 17, 18, 19]), (2, [2, 3, 11, 12, 13, 14, 15]), (1, [9, 10]), (0, [0, 1, 6])]
theorem c_r04_asked : compFn Tryz.prog [46, 51, 2, 3, 4, 5, 7] (fun i => (fg_r04_asked.lookup i).getD []) Tryz.f48 = some t_r04_asked.fn := by kernel_rfl
def fg_r04_Mark : List (Nat × List Nat) := [(1, [1, 4, 6, 7, 11, 12, 13, 14, 15, 16, 17, 18, 19]), (0, [0, 2, 3, 10])]
theorem c_r04_Mark : compFn Tryz.prog [4, 6, 7, 8, 9] (fun i => (fg_r04_Mark.lookup i).getD []) Tryz.f36 = some t_r04_Mark.fn := by kernel_rfl
def fg_r04_Value : List (Nat × List Nat) := [(1, [1, 4, 6, 7, 11, 12, 13, 14, 15, 16, 17, 18, 19]), (0, [0, 2, 3, 10])]
theorem c_r04_Value : compFn Tryz.prog [4, 6, 7, 8, 9] (fun i => (fg_r04_Value.lookup i).getD []) Tryz.f38 = some t_r04_Value.fn := by kernel_rfl
def fg_r07_state : List (Nat × List Nat) := [(8, [0, 1, 7, 35, 60]), (7, [0, 1, 8, 50, 51, 52, 53, 54, 55, 56, 57, 58, 59]), (6, [37, 38, 39, 40, 41, 42, 43, 44, 45, 46, 47, 48, 49]), (5, [35, 36]), (4, [2, 17, 34]), (3, [17, 18, 19, 20, 21, 22, 23, 24, 25, 26, 27, 28, 29, 30, 31, 32, 33]), (2, [16]), (1, [9, 10, 11, 12, 13, 14, 15])]
theorem c_r07_state : compFn Tryz.prog [6, 7, 8] (fun i => (fg_r07_state.lookup i).getD []) Tryz.f25 = some t_r07_state.fn := by kernel_rfl
def fg_r07_Start : List (Nat × List Nat) := [(3, [0, 1, 9, 14, 15, 16]), (2, [0, 1, 9, 10, 11, 12, 13]), (1, [6, 7, 8]), (0, [5])]
theorem c_r07_Start : compFn Tryz.prog [4] (fun i => (fg_r07_Start.lookup i).getD []) Tryz.f7 = some t_r07_Start.fn := by kernel_rfl
def fg_cake_Total : List (Nat × List Nat) := [(10, [1, 5, 14, 15, 16, 17, 38]), (9, [37]), (8, [6, 7, 21, 22, 23, 24, 25, 26, 27, 28, 29, 30, 31, 32, 33, 34, 35, 36]), (7, [17, 18, 19, 20]), (5, [13]), (4, [4, 11]), (3, [1, 4, 11, 12]), (2, [10]), (1, [8, 9]), (0, [0, 2, 3])]
theorem c_cake_Total : compFn Tryz.prog [1] (fun i => (fg_cake_Total.lookup i).getD []) Tryz.f56 = some t_cake_Total.fn := by kernel_rfl
def fg_ratio_size : List (Nat × List Nat) := [(3, [0, 4, 8, 9]), (2, [0, 4, 5, 6, 7]), (1, [3]), (0, [2])]
theorem c_ratio_size : compFn Tryz.prog [] (fun i => (fg_ratio_size.lookup i).getD []) Tryz.f62 = some t_ratio_size.fn := by kernel_rfl
def fg_ratio_gcd : List (Nat × List Nat) := [(3, [0, 1, 6, 11]), (2, [6, 7, 8, 9, 10]), (1, [5]), (0, [4])]
theorem c_ratio_gcd : compFn Tryz.prog [] (fun i => (fg_ratio_gcd.lookup i).getD []) Tryz.f73 = some t_ratio_gcd.fn := by kernel_rfl
def fg_ratio_signed : List (Nat × List Nat) := [(5, [1, 2, 13, 20, 21, 22, 23, 24]), (4, [1, 2, 13, 14, 15, 16, 17, 18, 19]), (3, [0, 11]), (2, [0, 1, 2, 11, 12]), (1, [8, 9, 10]), (0, [7])]
theorem c_ratio_signed : compFn Tryz.prog [6] (fun i => (fg_ratio_signed.lookup i).getD []) Tryz.f74 = some t_ratio_signed.fn := by kernel_rfl
def fg_ratio_Make : List (Nat × List Nat) := [(5, [0, 1, 6, 7, 8, 19, 20, 21, 22, 23, 24, 25, 26, 27, 28, 29, 30, 31, 32]), (4, [16, 17, 18]), (3, [10, 12, 13, 14, 15]), (2, [0, 1, 10, 11]), (1, [9]), (0, [5])]
theorem c_ratio_Make : compFn Tryz.prog [4] (fun i => (fg_ratio_Make.lookup i).getD []) Tryz.f57 = some t_ratio_Make.fn := by kernel_rfl
def fg_choose_half : List (Nat × List Nat) := [(3, [5, 17]), (2, [3, 6, 12, 13, 14, 15, 16]), (1, [1, 4, 7, 8, 9, 10, 11]), (0, [0])]
theorem c_choose_half : compFn Tryz.prog [1, 2, 5] (fun i => (fg_choose_half.lookup i).getD []) Tryz.f41 = some t_choose_half.fn := by kernel_rfl
def fg_ratio_Check : List (Nat × List Nat) := [(3, [25]), (2, [25]), (1, [1, 3, 4, 5, 6, 7, 8, 9, 10, 11, 12, 13, 14, 15, 16, 17, 18, 19, 20, 21, 22, 23, 24]), (0, [0, 2])]
theorem c_ratio_Check : compFn Tryz.prog [1] (fun i => (fg_ratio_Check.lookup i).getD []) Tryz.f77 = some t_ratio_Check.fn := by kernel_rfl
def fg_cake_whole : List (Nat × List Nat) := [(1, [0, 3, 4])]
theorem c_cake_whole : compFn Tryz.prog [2] (fun i => (fg_cake_whole.lookup i).getD []) Tryz.f88 = some t_cake_whole.fn := by kernel_rfl
def fg_cmp_Or_api_Errno : List (Nat × List Nat) := [(8, [3, 6, 7, 8, 9, 17]), (7, [5, 14, 16]), (6, [3, 5, 6, 7, 8, 14, 15]), (5, [12, 13]), (4, [9, 10, 11]), (2, [0]), (0, [2])]
theorem c_cmp_Or_api_Errno : compFn Tryz.prog [] (fun i => (fg_cmp_Or_api_Errno.lookup i).getD []) Tryz.f76 = some t_cmp_Or_api_Errno.fn := by kernel_rfl
def fg_ratio_check : List (Nat × List Nat) := [(1, [2, 3, 5, 6, 7, 8, 9, 10]), (0, [0, 1, 4])]
theorem c_ratio_check : compFn Tryz.prog [9, 2, 3] (fun i => (fg_ratio_check.lookup i).getD []) Tryz.f59 = some t_ratio_check.fn := by kernel_rfl
def fg_cmp_isNaN_int64 : List (Nat × List Nat) := [(1, [0, 3, 4, 5]), (0, [2])]
theorem c_cmp_isNaN_int64 : compFn Tryz.prog [] (fun i => (fg_cmp_isNaN_int64.lookup i).getD []) Tryz.f78 = some t_cmp_isNaN_int64.fn := by kernel_rfl
def fg_cmp_Compare_int64 : List (Nat × List Nat) := [(13, [19]), (12, [19]), (11, [0, 1, 16, 17, 18]), (10, [0, 1, 16]), (9, [13, 14, 15]), (8, [0, 1, 13]), (7, [6, 11]), (6, [12]), (5, [12]), (4, [0, 1, 6, 11]), (3, [5]), (2, [9, 10]), (1, [7, 8]), (0, [4])]
theorem c_cmp_Compare_int64 : compFn Tryz.prog [] (fun i => (fg_cmp_Compare_int64.lookup i).getD []) Tryz.f60 = some t_cmp_Compare_int64.fn := by kernel_rfl
def fg_m_Mul64 : List (Nat × List Nat) := [(11, [0, 1, 48, 49, 50]), (10, [7, 9, 12, 13, 40, 41, 42, 43, 44, 45, 46, 47]), (9, [6, 35, 36, 37, 38, 39]), (8, [11, 33, 34]), (7, [31, 32]), (6, [8, 10, 25, 26, 27, 28, 29, 30]), (5, [22, 23, 24]), (4, [20, 21]), (3, [18, 19]), (2, [16, 17]), (1, [14, 15]), (0, [4, 5])]
theorem c_m_Mul64 : compFn Tryz.prog [] (fun i => (fg_m_Mul64.lookup i).getD []) Tryz.f61 = some t_m_Mul64.fn := by kernel_rfl
def fg_cmp_isNaN_uint64 : List (Nat × List Nat) := [(1, [0, 3, 4, 5]), (0, [2])]
theorem c_cmp_isNaN_uint64 : compFn Tryz.prog [] (fun i => (fg_cmp_isNaN_uint64.lookup i).getD []) Tryz.f79 = some t_cmp_isNaN_uint64.fn := by kernel_rfl
def fg_cmp_Compare_uint64 : List (Nat × List Nat) := [(13, [19]), (12, [19]), (11, [0, 1, 16, 17, 18]), (10, [0, 1, 16]), (9, [13, 14, 15]), (8, [0, 1, 13]), (7, [6, 11]), (6, [12]), (5, [12]), (4, [0, 1, 6, 11]), (3, [5]), (2, [9, 10]), (1, [7, 8]), (0, [4])]
theorem c_cmp_Compare_uint64 : compFn Tryz.prog [] (fun i => (fg_cmp_Compare_uint64.lookup i).getD []) Tryz.f64 = some t_cmp_Compare_uint64.fn := by kernel_rfl
def fg_cmp_Or_int : List (Nat × List Nat) := [(8, [3, 6, 7, 8, 9, 17]), (7, [5, 14, 16]), (6, [3, 5, 6, 7, 8, 14, 15]), (5, [12, 13]), (4, [9, 10, 11]), (2, [0]), (0, [2])]
theorem c_cmp_Or_int : compFn Tryz.prog [] (fun i => (fg_cmp_Or_int.lookup i).getD []) Tryz.f63 = some t_cmp_Or_int.fn := by kernel_rfl
def fg_ratio_Cmp : List (Nat × List Nat) := [(11, [11, 60, 63]), (10, [60, 61, 62]), (9, [2, 58, 59]), (8, [7, 8, 9, 10, 50, 51, 52, 53, 54, 55, 56, 57]), (7, [3, 40, 41, 42, 43, 44, 45, 46, 47, 48, 49]), (6, [24, 30, 31, 32, 33, 34, 35, 36, 37, 38, 39]), (5, [2, 3, 24, 25, 26, 27, 28, 29]), (4, [6, 16, 18, 19, 20, 21, 22, 23]), (3, [2, 3, 6, 16, 17]), (2, [15]), (1, [12, 13, 14]), (0, [0, 1, 4, 5])]
theorem c_ratio_Cmp : compFn Tryz.prog [56, 2, 3] (fun i => (fg_ratio_Cmp.lookup i).getD []) Tryz.f43 = some t_ratio_Cmp.fn := by kernel_rfl
def fg_cake_less : List (Nat × List Nat) := [(2, [5, 13, 14]), (1, [2, 3, 6, 7, 8, 9, 10, 11, 12]), (0, [0, 1, 4])]
theorem c_cake_less : compFn Tryz.prog [2, 3] (fun i => (fg_cake_less.lookup i).getD []) Tryz.f85 = some t_cake_less.fn := by kernel_rfl
def fg_cake_point : List (Nat × List Nat) := [(1, [2, 3, 5, 6, 7, 8, 9, 10, 11, 12, 13, 14, 15, 16, 17, 18, 19, 20]), (0, [0, 1, 4])]
theorem c_cake_point : compFn Tryz.prog [2, 3] (fun i => (fg_cake_point.lookup i).getD []) Tryz.f82 = some t_cake_point.fn := by kernel_rfl
def fg_m_Len64 : List (Nat × List Nat) := [(10, [0, 14, 19, 20, 21, 22, 23, 24]), (9, [17, 18]), (8, [14, 15, 16]), (7, [8, 13]), (6, [11, 12]), (5, [8, 9, 10]), (4, [4, 7]), (2, [2, 4, 5, 6]), (1, [3])]
theorem c_m_Len64 : compFn Tryz.prog [] (fun i => (fg_m_Len64.lookup i).getD []) Tryz.f110 = some t_m_Len64.fn := by kernel_rfl
def fg_m_LeadingZeros64 : List (Nat × List Nat) := [(1, [0, 3, 4, 5]), (0, [2])]
theorem c_m_LeadingZeros64 : compFn Tryz.prog [] (fun i => (fg_m_LeadingZeros64.lookup i).getD []) Tryz.f109 = some t_m_LeadingZeros64.fn := by kernel_rfl
def fg_m_Div64 : List (Nat × List Nat) := [(28, [2, 8, 9, 10, 14, 15, 16, 17, 18, 113, 120, 121, 122, 123, 124, 125, 126, 127, 128, 129, 130, 131, 132, 133, 134]), (27, [119]), (26, [116, 117, 118]), (25, [113, 114, 115]), (24, [102, 103, 104, 105, 106, 107, 108, 109, 110, 111, 112, 120]), (23, [97, 98, 99, 100, 101]), (22, [94, 95, 96]), (21, [11, 13, 16, 78, 85, 86, 87, 88, 89, 90, 91, 92, 93]), (20, [84]), (19, [81, 82, 83]), (18, [78, 79, 80]), (17, [67, 68, 69, 70, 71, 72, 73, 74, 75, 76, 77, 85]), (16, [62, 63, 64, 65, 66]), (15, [59, 60, 61]), (14, [12, 57, 58]), (13, [55, 56]), (12, [1, 52, 53, 54]), (11, [0, 44, 45, 46, 47, 48, 49, 50, 51]), (10, [42, 43]), (9, [40, 41]), (8, [37, 38, 39]), (7, [27, 34, 35, 36]), (6, [0, 1, 2, 27, 28, 29, 30, 31, 32, 33]), (5, [24, 26]), (4, [24, 25]), (3, [20, 22, 23]), (2, [20, 21]), (1, [19]), (0, [6, 7])]
theorem c_m_Div64 : compFn Tryz.prog [] (fun i => (fg_m_Div64.lookup i).getD []) Tryz.f101 = some t_m_Div64.fn := by kernel_rfl
def fg_m_Rem64 : List (Nat × List Nat) := [(2, [8, 18]), (1, [0, 1, 2, 7, 9, 10, 11, 12, 13, 14, 15, 16, 17]), (0, [6])]
theorem c_m_Rem64 : compFn Tryz.prog [] (fun i => (fg_m_Rem64.lookup i).getD []) Tryz.f100 = some t_m_Rem64.fn := by kernel_rfl
def fg_ratio_Add : List (Nat × List Nat) := [(26, [12, 17, 20, 153, 155, 156, 157, 158, 159, 160]), (25, [12, 17, 20, 153, 154]), (24, [19, 152]), (23, [2, 3, 7, 16, 138, 139, 140, 141, 142, 143, 144, 145, 146, 147, 148, 149, 150, 151]), (22, [13, 14, 18, 129, 131, 132, 133, 134, 135, 136, 137]), (21, [2, 3, 7, 12, 13, 14, 16, 129, 130]), (20, [127, 128]), (19, [119, 121, 122, 123, 124, 125, 126]), (18, [2, 3, 7, 12, 13, 14, 119, 120]), (17, [114, 115, 116, 117, 118]), (16, [8, 10, 15, 107, 108, 109, 110, 111, 112, 113]), (15, [9, 11, 94, 101, 102, 103, 104, 105, 106]), (14, [99, 100]), (13, [94, 95, 96, 97, 98]), (12, [68, 82, 83, 84, 85, 86, 87, 88, 89, 90, 91, 92, 93]), (11, [8, 10, 15, 75, 76, 77, 78, 79, 80, 81]), (10, [9, 11, 68, 69, 70, 71, 72, 73, 74]), (9, [62, 63, 64, 65, 66, 67]), (8, [13, 14, 15]), (7, [59, 60, 61]), (6, [47, 48, 49, 50, 51, 52, 53, 54, 55, 56, 57, 58]), (5, [35, 36, 37, 38, 39, 40, 41, 42, 43, 44, 45, 46]), (4, [6, 25, 28, 29, 30, 31, 32, 33, 34]), (3, [2, 3, 6, 25, 26, 27]), (2, [24]), (1, [21, 22, 23]), (0, [0, 1, 5])]
theorem c_ratio_Add : compFn Tryz.prog [2, 3, 4] (fun i => (fg_ratio_Add.lookup i).getD []) Tryz.f89 = some t_ratio_Add.fn := by kernel_rfl
def fg_ratio_Sub : List (Nat × List Nat) := [(5, [2, 3, 18, 19, 20, 21, 22]), (4, [6, 11, 14, 15, 16, 17]), (3, [2, 3, 6, 11, 12, 13]), (2, [10]), (1, [7, 8, 9]), (0, [0, 1, 5])]
theorem c_ratio_Sub : compFn Tryz.prog [2, 3, 4] (fun i => (fg_ratio_Sub.lookup i).getD []) Tryz.f86 = some t_ratio_Sub.fn := by kernel_rfl
def fg_ratio_Mul : List (Nat × List Nat) := [(10, [2, 3, 14, 16, 65, 67, 68, 69, 70, 71, 72, 73, 74, 75, 76, 77, 78, 79, 80, 81, 82]), (9, [2, 3, 14, 16, 65, 66]), (8, [13, 15, 62, 63, 64]), (7, [8, 10, 11, 12, 52, 53, 54, 55, 56, 57, 58, 59, 60, 61]), (6, [7, 9, 42, 43, 44, 45, 46, 47, 48, 49, 50, 51]), (5, [36, 37, 38, 39, 40, 41]), (4, [6, 21, 24, 25, 26, 27, 28, 29, 30, 31, 32, 33, 34, 35]), (3, [2, 3, 6, 21, 22, 23]), (2, [20]), (1, [17, 18, 19]), (0, [0, 1, 5])]
theorem c_ratio_Mul : compFn Tryz.prog [2, 3, 4] (fun i => (fg_ratio_Mul.lookup i).getD []) Tryz.f90 = some t_ratio_Mul.fn := by kernel_rfl
def fg_ratio_Div : List (Nat × List Nat) := [(8, [2, 3, 19, 34, 35, 36, 37, 38, 39, 40, 41, 42]), (7, [2, 3, 19, 23, 24, 25, 26, 27, 28, 29, 30, 31, 32, 33]), (6, [14, 20, 21, 22]), (5, [2, 3, 14, 18]), (4, [6, 11, 15, 16, 17]), (3, [2, 3, 6, 11, 12, 13]), (2, [10]), (1, [7, 8, 9]), (0, [0, 1, 5])]
theorem c_ratio_Div : compFn Tryz.prog [2, 3, 4] (fun i => (fg_ratio_Div.lookup i).getD []) Tryz.f87 = some t_ratio_Div.fn := by kernel_rfl
def fg_cake_Mark_1 : List (Nat × List Nat) := [(12, [5, 6, 7, 14, 15, 41, 48]), (11, [6, 7, 14, 41, 42, 43, 44, 45, 46, 47]), (10, [40]), (9, [3, 4, 9, 20, 33, 34, 35, 36, 37, 38, 39]), (8, [5, 13, 29, 31, 32]), (7, [5, 29, 30]), (6, [28]), (5, [4, 12, 27]), (4, [3, 6, 7, 9, 20, 21, 22, 23, 24, 25, 26]), (3, [17, 18, 19]), (2, [3, 4, 5, 6, 7, 9, 17]), (1, [16]), (0, [0, 1, 2, 8, 11])]
theorem c_cake_Mark_1 : compFn Tryz.prog [7, 8, 9, 12, 14] (fun i => (fg_cake_Mark_1.lookup i).getD []) Tryz.f84 = some t_cake_Mark_1.fn := by kernel_rfl
def fg_cake_walk : List (Nat × List Nat) := [(18, [2, 3, 4, 14, 15, 16, 17]), (17, [8, 9, 31, 61]), (16, [9, 59, 60]), (15, [2, 3, 4, 9, 14, 15, 16, 59]), (14, [8, 10, 12, 34, 52, 54, 55, 56, 57, 58]), (13, [2, 3, 4, 8, 9, 10, 12, 14, 15, 16, 52, 53]), (12, [51]), (11, [11, 42, 44, 45, 46, 47, 48, 49, 50]), (10, [2, 3, 4, 8, 9, 10, 11, 12, 14, 15, 16, 42, 43]), (9, [41]), (8, [34, 35, 36, 37, 38, 39, 40]), (7, [33]), (6, [31, 32]), (5, [28, 29, 30]), (4, [7, 21, 22, 23, 24, 25, 26, 27]), (3, [17, 18, 19, 20]), (1, [13]), (0, [0, 1, 6])]
theorem c_cake_walk : compFn Tryz.prog [3, 4, 9, 10, 11] (fun i => (fg_cake_walk.lookup i).getD []) Tryz.f83 = some t_cake_walk.fn := by kernel_rfl
def fg_cake_Mark : List (Nat × List Nat) := [(15, [9, 10, 45, 48]), (14, [9, 10, 45, 46, 47]), (13, [11, 42, 44]), (12, [11, 42, 43]), (11, [41]), (10, [3, 4, 5, 37, 38, 39, 40]), (8, [35]), (7, [3, 4, 5, 35, 36]), (6, [31, 33, 34]), (5, [3, 4, 5, 31, 32]), (4, [8, 15, 18, 19, 20, 21, 22, 23, 24, 25, 26, 27, 28, 29, 30]), (3, [3, 4, 5, 8, 15, 16, 17]), (2, [14]), (1, [12, 13]), (0, [0, 1, 2, 7])]
theorem c_cake_Mark : compFn Tryz.prog [3, 4, 6] (fun i => (fg_cake_Mark.lookup i).getD []) Tryz.f72 = some t_cake_Mark.fn := by kernel_rfl
def fg_ask_office_mark : List (Nat × List Nat) := [(1, [1, 4, 6, 7, 10, 11, 12, 13, 14, 15, 16, 17, 18, 19, 20]), (0, [0, 2, 3, 9])]
theorem c_ask_office_mark : compFn Tryz.prog [4, 6, 7, 8] (fun i => (fg_ask_office_mark.lookup i).getD []) Tryz.f55 = some t_ask_office_mark.fn := by kernel_rfl
def fg_ask_office_has : List (Nat × List Nat) := [(1, [1, 2, 5, 6, 7, 8, 9, 10, 11, 12, 13, 14]), (0, [0, 4])]
theorem c_ask_office_has : compFn Tryz.prog [2] (fun i => (fg_ask_office_has.lookup i).getD []) Tryz.f71 = some t_ask_office_has.fn := by kernel_rfl
def fg_ask_office_ask : List (Nat × List Nat) := [(13, [3, 4, 10, 12, 59, 60, 61, 62, 63, 64, 65, 66, 67, 68, 69, 70, 71, 72]), (12, [53, 54, 55, 56, 57, 58]), (11, [48, 51, 52]), (10, [3, 4, 10, 48, 49, 50]), (9, [11, 40, 44, 45, 46, 47]), (8, [3, 4, 10, 11, 40, 41, 42, 43]), (7, [39]), (6, [2, 25, 28, 29, 30, 31, 32, 33, 34, 35, 36, 37, 38]), (5, [2, 3, 4, 25, 26, 27]), (4, [9, 17, 21, 22, 23, 24]), (3, [2, 3, 4, 9, 17, 18, 19, 20]), (2, [16]), (1, [13, 14, 15]), (0, [0, 1, 8])]
theorem c_ask_office_ask : compFn Tryz.prog [69, 3, 4, 6, 7, 10] (fun i => (fg_ask_office_ask.lookup i).getD []) Tryz.f54 = some t_ask_office_ask.fn := by kernel_rfl
def fg_ask_Mark : List (Nat × List Nat) := [(2, [1, 6, 7, 11, 14, 15, 16, 17, 18, 19, 20, 21, 22, 23, 24]), (1, [4, 12, 13]), (0, [0, 2, 3, 10])]
theorem c_ask_Mark : compFn Tryz.prog [4, 6, 7, 8, 9, 11] (fun i => (fg_ask_Mark.lookup i).getD []) Tryz.f40 = some t_ask_Mark.fn := by kernel_rfl
def fg_cake_Value : List (Nat × List Nat) := [(28, [3, 5, 9, 10, 42, 43, 44, 45, 105]), (27, [13, 70, 104]), (26, [13, 15, 100, 103]), (25, [3, 5, 9, 10, 13, 15, 42, 43, 44, 100, 101, 102]), (24, [99]), (23, [16, 90, 93, 94, 95, 96, 97, 98]), (22, [3, 5, 9, 10, 13, 15, 16, 42, 43, 44, 90, 91, 92]), (21, [89]), (20, [12, 14, 79, 82, 83, 84, 85, 86, 87, 88]), (19, [3, 5, 9, 10, 12, 13, 14, 15, 42, 43, 44, 79, 80, 81]), (18, [78]), (17, [67, 72, 73, 74, 75, 76, 77]), (16, [13, 70, 71]), (15, [12, 67, 68, 69]), (14, [58, 60, 61, 62, 63, 64, 65, 66]), (13, [58, 59]), (12, [56, 57]), (11, [11, 49, 50, 51, 52, 53, 54, 55]), (10, [45, 46, 47, 48]), (8, [41]), (7, [4, 40]), (6, [37, 39]), (5, [3, 4, 5, 37, 38]), (4, [8, 20, 23, 24, 25, 26, 27, 28, 29, 30, 31, 32, 33, 34, 35, 36]), (3, [3, 4, 5, 8, 20, 21, 22]), (2, [19]), (1, [17, 18]), (0, [0, 1, 2, 7])]
theorem c_cake_Value : compFn Tryz.prog [3, 4, 5, 6, 9, 10, 13, 14, 16] (fun i => (fg_cake_Value.lookup i).getD []) Tryz.f75 = some t_cake_Value.fn := by kernel_rfl
def fg_ask_office_value : List (Nat × List Nat) := [(1, [1, 4, 6, 7, 10, 11, 12, 13, 14, 15, 16, 17, 18, 19, 20]), (0, [0, 2, 3, 9])]
theorem c_ask_office_value : compFn Tryz.prog [4, 6, 7, 8] (fun i => (fg_ask_office_value.lookup i).getD []) Tryz.f58 = some t_ask_office_value.fn := by kernel_rfl
def fg_ask_Value : List (Nat × List Nat) := [(2, [1, 6, 7, 11, 14, 15, 16, 17, 18, 19, 20, 21, 22, 23, 24]), (1, [4, 12, 13]), (0, [0, 2, 3, 10])]
theorem c_ask_Value : compFn Tryz.prog [4, 6, 7, 8, 9, 11] (fun i => (fg_ask_Value.lookup i).getD []) Tryz.f42 = some t_ask_Value.fn := by kernel_rfl
def fg_choose_step : List (Nat × List Nat) := [(9, [1, 66]), (8, [4, 7, 60, 61, 62, 63, 64, 65]), (7, [3, 5, 8, 48, 49, 50, 51, 52, 53, 54, 55, 56, 57, 58, 59]), (6, [6, 37, 38, 39, 40, 41, 42, 43, 44, 45, 46, 47]), (5, [11, 34, 35, 36]), (4, [1, 33]), (3, [32]), (2, [11, 12, 13, 14, 15, 16, 17, 18, 19, 20, 21, 22, 23, 24, 25, 26, 27, 28, 29, 30, 31]), (1, [9, 10]), (0, [0])]
theorem c_choose_step : compFn Tryz.prog [1, 2, 4, 5] (fun i => (fg_choose_step.lookup i).getD []) Tryz.f26 = some t_choose_step.fn := by kernel_rfl
def fg_s_Equal_api_Query_api_Query : List (Nat × List Nat) := [(9, [0, 1, 12, 13, 14]), (8, [24, 25]), (7, [0, 1, 12, 13, 24]), (6, [5, 16, 17, 18, 19, 20, 21, 22, 23]), (5, [14, 15]), (3, [10, 11]), (2, [0, 1, 10]), (1, [6, 7, 8, 9]), (0, [4])]
theorem c_s_Equal_api_Query_api_Query : compFn Tryz.prog [] (fun i => (fg_s_Equal_api_Query_api_Query.lookup i).getD []) Tryz.f31 = some t_s_Equal_api_Query_api_Query.fn := by kernel_rfl
def fg_choose_Check : List (Nat × List Nat) := [(11, [60]), (10, [60]), (9, [1, 4, 29, 32, 33, 34, 35, 36, 37, 38, 39, 40, 41, 42, 43, 44, 45, 46, 47, 48, 49, 50, 51, 52, 53, 54, 55, 56, 57, 58, 59]), (8, [29, 30, 31]), (7, [5, 22, 24, 25, 26, 27, 28]), (6, [1, 4, 5, 22, 23]), (5, [21]), (4, [3, 10, 12, 13, 14, 15, 16, 17, 18, 19, 20]), (3, [1, 3, 10, 11]), (2, [9]), (1, [6, 7, 8]), (0, [0, 2])]
theorem c_choose_Check : compFn Tryz.prog [1, 4] (fun i => (fg_choose_Check.lookup i).getD []) Tryz.f19 = some t_choose_Check.fn := by kernel_rfl
def fg_choose_Division : List (Nat × List Nat) := [(12, [6, 50]), (11, [1, 5, 34, 35, 36, 37, 38, 39, 40, 41, 42, 43, 44, 45, 46, 47, 48, 49]), (10, [25, 26, 27, 28, 29, 30, 31, 32, 33]), (9, [20, 23, 24]), (8, [20, 21, 22]), (7, [19]), (6, [15, 17, 18]), (5, [1, 15, 16]), (4, [4, 10, 13, 14]), (3, [1, 4, 10, 11, 12]), (2, [9]), (1, [7, 8]), (0, [0, 3])]
theorem c_choose_Division : compFn Tryz.prog [32, 48, 1, 2, 6] (fun i => (fg_choose_Division.lookup i).getD []) Tryz.f17 = some t_choose_Division.fn := by kernel_rfl
def fg_choose_Run : List (Nat × List Nat) := [(6, [7, 26, 27, 28, 29, 30]), (5, [21, 22, 23, 24, 25]), (4, [6, 15, 18, 19, 20]), (3, [7, 15, 16, 17]), (2, [14]), (1, [0, 1, 8, 9, 10, 11, 12, 13]), (0, [5, 6])]
theorem c_choose_Run : compFn Tryz.prog [4, 7] (fun i => (fg_choose_Run.lookup i).getD []) Tryz.f8 = some t_choose_Run.fn := by kernel_rfl
def fg_r07_divided : List (Nat × List Nat) := [(5, [3, 4, 26, 31, 32, 33, 34]), (4, [3, 4, 26, 27, 28, 29, 30]), (3, [1, 21, 22, 23, 24, 25]), (2, [10, 11, 12, 13, 14, 15, 16, 17, 18, 19, 20]), (1, [5, 6, 7, 8, 9]), (0, [0])]
theorem c_r07_divided : compFn Tryz.prog [9, 20, 29, 33, 1, 2] (fun i => (fg_r07_divided.lookup i).getD []) Tryz.f27 = some t_r07_divided.fn := by kernel_rfl
def fg_r07_Run : List (Nat × List Nat) := [(4, [7, 19, 20, 21, 22, 23]), (3, [0, 1, 11, 16, 17, 18]), (2, [0, 1, 11, 12, 13, 14, 15]), (1, [8, 9, 10]), (0, [5, 6])]
theorem c_r07_Run : compFn Tryz.prog [4, 7] (fun i => (fg_r07_Run.lookup i).getD []) Tryz.f9 = some t_r07_Run.fn := by kernel_rfl
def fg_r02_Same : List (Nat × List Nat) := [(13, [2, 3, 6, 52]), (10, [53, 54, 65]), (12, [2, 3, 6, 65]), (11, [52, 55, 56, 57, 58, 59, 60, 61, 62, 63, 64]), (9, [48, 49, 50, 51]), (8, [5, 34]), (5, [35, 36, 47]), (7, [2, 3, 5, 47]), (6, [34, 37, 38, 39, 40, 41, 42, 43, 44, 45, 46]), (4, [30, 31, 32, 33]), (3, [29]), (2, [2, 3, 29]), (1, [7, 8, 9, 10, 11, 12, 13, 14, 15, 16, 17, 18, 19, 20, 21, 22, 23, 24, 25, 26, 27, 28]), (0, [0, 1, 4])]
theorem c_r02_Same : compFn Tryz.prog [2, 3] (fun i => (fg_r02_Same.lookup i).getD []) Tryz.f46 = some t_r02_Same.fn := by kernel_rfl
def fg_r04_SameCakes : List (Nat × List Nat) := [(8, [0, 1, 5, 14]), (5, [15, 16, 26]), (7, [0, 1, 5, 26]), (6, [14, 17, 18, 19, 20, 21, 22, 23, 24, 25]), (4, [11, 12, 13]), (3, [10]), (2, [0, 1, 10]), (1, [6, 7, 8, 9]), (0, [4])]
theorem c_r04_SameCakes : compFn Tryz.prog [] (fun i => (fg_r04_SameCakes.lookup i).getD []) Tryz.f33 = some t_r04_SameCakes.fn := by kernel_rfl
def fg_r04_SameLogs : List (Nat × List Nat) := [(8, [0, 1, 5, 14]), (5, [15, 16, 25]), (7, [0, 1, 5, 25]), (6, [14, 17, 18, 19, 20, 21, 22, 23, 24]), (4, [11, 12, 13]), (3, [10]), (2, [0, 1, 10]), (1, [6, 7, 8, 9]), (0, [4])]
theorem c_r04_SameLogs : compFn Tryz.prog [] (fun i => (fg_r04_SameLogs.lookup i).getD []) Tryz.f12 = some t_r04_SameLogs.fn := by kernel_rfl
def fg_r04_Same : List (Nat × List Nat) := [(1, [2, 3, 5, 6, 7, 8, 9, 10, 11, 12, 13, 14, 15, 16]), (0, [0, 1, 4])]
theorem c_r04_Same : compFn Tryz.prog [2, 3] (fun i => (fg_r04_Same.lookup i).getD []) Tryz.f21 = some t_r04_Same.fn := by kernel_rfl
def fg_r07_Same : List (Nat × List Nat) := [(1, [2, 3, 5, 6, 7, 8, 9, 10, 11, 12, 13, 14, 15, 16, 17, 18, 19, 20, 21, 22, 23, 24, 25, 26, 27, 28, 29, 30, 31, 32, 33, 34, 35, 36, 37]), (0, [0, 1, 4])]
theorem c_r07_Same : compFn Tryz.prog [2, 3] (fun i => (fg_r07_Same.lookup i).getD []) Tryz.f10 = some t_r07_Same.fn := by kernel_rfl
def fg_r03_Same : List (Nat × List Nat) := [(8, [0, 1, 5, 14]), (5, [15, 16, 25]), (7, [0, 1, 5, 25]), (6, [14, 17, 18, 19, 20, 21, 22, 23, 24]), (4, [11, 12, 13]), (3, [10]), (2, [0, 1, 10]), (1, [6, 7, 8, 9]), (0, [4])]
theorem c_r03_Same : compFn Tryz.prog [] (fun i => (fg_r03_Same.lookup i).getD []) Tryz.f28 = some t_r03_Same.fn := by kernel_rfl
def fg_r06_Same : List (Nat × List Nat) := [(8, [2, 3, 5, 17]), (5, [18, 19, 31]), (7, [2, 3, 5, 31]), (6, [17, 20, 21, 22, 23, 24, 25, 26, 27, 28, 29, 30]), (4, [13, 14, 15, 16]), (3, [12]), (2, [2, 3, 12]), (1, [6, 7, 8, 9, 10, 11]), (0, [0, 1, 4])]
theorem c_r06_Same : compFn Tryz.prog [2, 3] (fun i => (fg_r06_Same.lookup i).getD []) Tryz.f11 = some t_r06_Same.fn := by kernel_rfl
def fg_l07_ChooseRuns : List (Nat × List Nat) := [(7, [5, 6, 7, 8, 9, 10, 11, 12, 13, 14, 43, 44, 45, 46, 47, 48, 49, 50, 51, 52, 53, 54, 55, 56, 57, 58, 59, 60, 61, 62, 63, 64, 65]), (6, [0, 1, 36, 37, 38, 39, 40, 41, 42]), (5, [29, 30, 31, 32, 33, 34, 35]), (4, [23, 24, 25, 26, 27, 28]), (3, [16, 17, 18, 19, 20, 21, 22]), (2, [0, 1, 16]), (1, [15]), (0, [4])]
theorem c_l07_ChooseRuns : compFn Tryz.prog [5, 7, 9, 12] (fun i => (fg_l07_ChooseRuns.lookup i).getD []) Tryz.f3 = some t_l07_ChooseRuns.fn := by kernel_rfl
def fg_r04_Great : List (Nat × List Nat) := [(1, [1, 3, 4, 5, 6, 7, 8, 9, 10, 11, 12, 13, 14, 15, 16, 17, 18, 19, 20, 21, 22, 23]), (0, [0, 2])]
theorem c_r04_Great : compFn Tryz.prog [1] (fun i => (fg_r04_Great.lookup i).getD []) Tryz.f13 = some t_r04_Great.fn := by kernel_rfl
def fg_choose_Next : List (Nat × List Nat) := [(6, [1, 13, 15, 16]), (5, [1, 13, 14]), (4, [4, 8, 11, 12]), (3, [1, 4, 8, 9, 10]), (2, [7]), (1, [5, 6]), (0, [0, 3])]
theorem c_choose_Next : compFn Tryz.prog [1, 2] (fun i => (fg_choose_Next.lookup i).getD []) Tryz.f15 = some t_choose_Next.fn := by kernel_rfl
def fg_r07_Check : List (Nat × List Nat) := [(9, [40]), (8, [40]), (7, [1, 4, 18, 20, 21, 22, 23, 24, 25, 26, 27, 28, 29, 30, 31, 32, 33, 34, 35, 36, 37, 38, 39]), (6, [1, 4, 18, 19]), (5, [17]), (4, [3, 9, 11, 12, 13, 14, 15, 16]), (3, [1, 3, 9, 10]), (2, [8]), (1, [5, 6, 7]), (0, [0, 2])]
theorem c_r07_Check : compFn Tryz.prog [1] (fun i => (fg_r07_Check.lookup i).getD []) Tryz.f20 = some t_r07_Check.fn := by kernel_rfl
def fg_r07_Next : List (Nat × List Nat) := [(5, [1, 12, 14, 15, 16, 17, 18, 19, 20, 21, 22]), (4, [1, 12, 13]), (3, [6, 10, 11]), (2, [1, 6, 7, 8, 9]), (1, [4, 5]), (0, [0, 3])]
theorem c_r07_Next : compFn Tryz.prog [1, 2] (fun i => (fg_r07_Next.lookup i).getD []) Tryz.f16 = some t_r07_Next.fn := by kernel_rfl
def fg_r07_Division : List (Nat × List Nat) := [(5, [1, 12, 14, 15]), (4, [1, 12, 13]), (3, [6, 10, 11]), (2, [1, 6, 7, 8, 9]), (1, [4, 5]), (0, [0, 3])]
theorem c_r07_Division : compFn Tryz.prog [1, 2] (fun i => (fg_r07_Division.lookup i).getD []) Tryz.f18 = some t_r07_Division.fn := by kernel_rfl
def fg_l07_ChooseSteps : List (Nat × List Nat) := [(8, [1, 3, 4, 5, 6, 7, 8, 9, 10, 11, 45, 46, 47, 48, 49, 50, 51, 52, 53, 54, 55, 56, 57, 58, 59, 60, 61, 62, 63, 64, 65, 66, 67, 68, 69, 70, 71, 72, 73, 74, 75]), (7, [40, 41, 42, 43, 44]), (6, [35, 36, 37, 38, 39]), (5, [30, 31, 32, 33, 34]), (4, [25, 26, 27, 28, 29]), (3, [14, 15, 16, 17, 18, 19, 20, 21, 22, 23, 24]), (2, [1, 14]), (1, [12, 13]), (0, [0, 2])]
theorem c_l07_ChooseSteps : compFn Tryz.prog [19, 1, 3, 4, 6, 8, 10] (fun i => (fg_l07_ChooseSteps.lookup i).getD []) Tryz.f4 = some t_l07_ChooseSteps.fn := by kernel_rfl
theorem tabOk : AllOk Tryz.prog tab := by
  unfold tab
  simp only [AllOk]
  exact ⟨⟨Tryz.f22, _, _, Tryz.func22, c_r02_Great⟩, ⟨Tryz.f5, _, _, Tryz.func5, c_r04_GreatCakes⟩, ⟨Tryz.f65, _, _, Tryz.func65, c_s_Min_int_int⟩, ⟨Tryz.f66, _, _, Tryz.func66, c_s_Max_int_int⟩, ⟨Tryz.f44, _, _, Tryz.func44, c_cake_Check⟩, ⟨Tryz.f30, _, _, Tryz.func30, c_ask_Check⟩, ⟨Tryz.f47, _, _, Tryz.func47, c_s_Clone_int_int⟩, ⟨Tryz.f34, _, _, Tryz.func34, c_ask_copied⟩, ⟨Tryz.f23, _, _, Tryz.func23, c_ask_Open⟩, ⟨Tryz.f6, _, _, Tryz.func6, c_choose_Start⟩, ⟨Tryz.f45, _, _, Tryz.func45, c_r02_Check⟩, ⟨Tryz.f32, _, _, Tryz.func32, c_r04_Check⟩, ⟨Tryz.f24, _, _, Tryz.func24, c_r07_Cakes⟩, ⟨Tryz.f29, _, _, Tryz.func29, c_r02_Twin⟩, ⟨Tryz.f14, _, _, Tryz.func14, c_r04_Twins⟩, ⟨Tryz.f35, _, _, Tryz.func35, c_r01_Of⟩, ⟨Tryz.f50, _, _, Tryz.func50, c_r02_Whole⟩, ⟨Tryz.f52, _, _, Tryz.func52, c_r01_abs⟩, ⟨Tryz.f69, _, _, Tryz.func69, c_r01_gcd⟩, ⟨Tryz.f70, _, _, Tryz.func70, c_r01_made⟩, ⟨Tryz.f49, _, _, Tryz.func49, c_r01_Make⟩, ⟨Tryz.f37, _, _, Tryz.func37, c_r07_Half⟩, ⟨Tryz.f67, _, _, Tryz.func67, c_r04_Agent⟩, ⟨Tryz.f94, _, _, Tryz.func94, c_r01_Check⟩, ⟨Tryz.f51, _, _, Tryz.func51, c_r01_times⟩, ⟨Tryz.f53, _, _, Tryz.func53, c_r01_less⟩, ⟨Tryz.f39, _, _, Tryz.func39, c_r01_Less⟩, ⟨Tryz.f91, _, _, Tryz.func91, c_r02_Point⟩, ⟨Tryz.f95, _, _, Tryz.func95, c_r02_later⟩, ⟨Tryz.f102, _, _, Tryz.func102, c_r02_sooner⟩, ⟨Tryz.f104, _, _, Tryz.func104, c_r01_Both⟩, ⟨Tryz.f108, _, _, Tryz.func108, c_r01_Neg⟩, ⟨Tryz.f105, _, _, Tryz.func105, c_r01_plus⟩, ⟨Tryz.f106, _, _, Tryz.func106, c_r01_minus⟩, ⟨Tryz.f107, _, _, Tryz.func107, c_r01_split⟩, ⟨Tryz.f93, _, _, Tryz.func93, c_r01_Add⟩, ⟨Tryz.f97, _, _, Tryz.func97, c_r01_Sub⟩, ⟨Tryz.f103, _, _, Tryz.func103, c_r01_Mul⟩, ⟨Tryz.f92, _, _, Tryz.func92, c_r02_worth⟩, ⟨Tryz.f80, _, _, Tryz.func80, c_r02_Value⟩, ⟨Tryz.f96, _, _, Tryz.func96, c_r01_Div⟩, ⟨Tryz.f81, _, _, Tryz.func81, c_r02_Mark⟩, ⟨Tryz.f68, _, _, Tryz.func68, c_r04_answer⟩, ⟨Tryz.f48, _, _, Tryz.func48, c_r04_asked⟩, ⟨Tryz.f36, _, _, Tryz.func36, c_r04_Mark⟩, ⟨Tryz.f38, _, _, Tryz.func38, c_r04_Value⟩, ⟨Tryz.f25, _, _, Tryz.func25, c_r07_state⟩, ⟨Tryz.f7, _, _, Tryz.func7, c_r07_Start⟩, ⟨Tryz.f56, _, _, Tryz.func56, c_cake_Total⟩, ⟨Tryz.f62, _, _, Tryz.func62, c_ratio_size⟩, ⟨Tryz.f73, _, _, Tryz.func73, c_ratio_gcd⟩, ⟨Tryz.f74, _, _, Tryz.func74, c_ratio_signed⟩, ⟨Tryz.f57, _, _, Tryz.func57, c_ratio_Make⟩, ⟨Tryz.f41, _, _, Tryz.func41, c_choose_half⟩, ⟨Tryz.f77, _, _, Tryz.func77, c_ratio_Check⟩, ⟨Tryz.f88, _, _, Tryz.func88, c_cake_whole⟩, ⟨Tryz.f76, _, _, Tryz.func76, c_cmp_Or_api_Errno⟩, ⟨Tryz.f59, _, _, Tryz.func59, c_ratio_check⟩, ⟨Tryz.f78, _, _, Tryz.func78, c_cmp_isNaN_int64⟩, ⟨Tryz.f60, _, _, Tryz.func60, c_cmp_Compare_int64⟩, ⟨Tryz.f61, _, _, Tryz.func61, c_m_Mul64⟩, ⟨Tryz.f79, _, _, Tryz.func79, c_cmp_isNaN_uint64⟩, ⟨Tryz.f64, _, _, Tryz.func64, c_cmp_Compare_uint64⟩, ⟨Tryz.f63, _, _, Tryz.func63, c_cmp_Or_int⟩, ⟨Tryz.f43, _, _, Tryz.func43, c_ratio_Cmp⟩, ⟨Tryz.f85, _, _, Tryz.func85, c_cake_less⟩, ⟨Tryz.f82, _, _, Tryz.func82, c_cake_point⟩, ⟨Tryz.f110, _, _, Tryz.func110, c_m_Len64⟩, ⟨Tryz.f109, _, _, Tryz.func109, c_m_LeadingZeros64⟩, ⟨Tryz.f101, _, _, Tryz.func101, c_m_Div64⟩, ⟨Tryz.f100, _, _, Tryz.func100, c_m_Rem64⟩, ⟨Tryz.f89, _, _, Tryz.func89, c_ratio_Add⟩, ⟨Tryz.f86, _, _, Tryz.func86, c_ratio_Sub⟩, ⟨Tryz.f90, _, _, Tryz.func90, c_ratio_Mul⟩, ⟨Tryz.f87, _, _, Tryz.func87, c_ratio_Div⟩, ⟨Tryz.f84, _, _, Tryz.func84, c_cake_Mark_1⟩, ⟨Tryz.f83, _, _, Tryz.func83, c_cake_walk⟩, ⟨Tryz.f72, _, _, Tryz.func72, c_cake_Mark⟩, ⟨Tryz.f55, _, _, Tryz.func55, c_ask_office_mark⟩, ⟨Tryz.f71, _, _, Tryz.func71, c_ask_office_has⟩, ⟨Tryz.f54, _, _, Tryz.func54, c_ask_office_ask⟩, ⟨Tryz.f40, _, _, Tryz.func40, c_ask_Mark⟩, ⟨Tryz.f75, _, _, Tryz.func75, c_cake_Value⟩, ⟨Tryz.f58, _, _, Tryz.func58, c_ask_office_value⟩, ⟨Tryz.f42, _, _, Tryz.func42, c_ask_Value⟩, ⟨Tryz.f26, _, _, Tryz.func26, c_choose_step⟩, ⟨Tryz.f31, _, _, Tryz.func31, c_s_Equal_api_Query_api_Query⟩, ⟨Tryz.f19, _, _, Tryz.func19, c_choose_Check⟩, ⟨Tryz.f17, _, _, Tryz.func17, c_choose_Division⟩, ⟨Tryz.f8, _, _, Tryz.func8, c_choose_Run⟩, ⟨Tryz.f27, _, _, Tryz.func27, c_r07_divided⟩, ⟨Tryz.f9, _, _, Tryz.func9, c_r07_Run⟩, ⟨Tryz.f46, _, _, Tryz.func46, c_r02_Same⟩, ⟨Tryz.f33, _, _, Tryz.func33, c_r04_SameCakes⟩, ⟨Tryz.f12, _, _, Tryz.func12, c_r04_SameLogs⟩, ⟨Tryz.f21, _, _, Tryz.func21, c_r04_Same⟩, ⟨Tryz.f10, _, _, Tryz.func10, c_r07_Same⟩, ⟨Tryz.f28, _, _, Tryz.func28, c_r03_Same⟩, ⟨Tryz.f11, _, _, Tryz.func11, c_r06_Same⟩, ⟨Tryz.f3, _, _, Tryz.func3, c_l07_ChooseRuns⟩, ⟨Tryz.f13, _, _, Tryz.func13, c_r04_Great⟩, ⟨Tryz.f15, _, _, Tryz.func15, c_choose_Next⟩, ⟨Tryz.f20, _, _, Tryz.func20, c_r07_Check⟩, ⟨Tryz.f16, _, _, Tryz.func16, c_r07_Next⟩, ⟨Tryz.f18, _, _, Tryz.func18, c_r07_Division⟩, ⟨Tryz.f4, _, _, Tryz.func4, c_l07_ChooseSteps⟩, trivial⟩
theorem hm : Tryz.prog.follows .mixedOrders = true := by kernel_rfl
theorem isAdd : IsExtern Tryz.prog n_m_Add64 add64Entry := ⟨_, Tryz.func98, by kernel_rfl, by kernel_rfl, by kernel_rfl, by kernel_rfl⟩
theorem isSub : IsExtern Tryz.prog n_m_Sub64 sub64E := ⟨_, Tryz.func99, by kernel_rfl, by kernel_rfl, by kernel_rfl, by kernel_rfl⟩
theorem k0 : EnvOk Tryz.prog E := by
  refine baseC_ok hm isAdd isSub tabOk ?_
  intro n e b h
  simp only [List.mem_cons, Prod.mk.injEq, List.not_mem_nil, or_false] at h
  rcases h with ⟨rfl, rfl, rfl⟩
  exact ⟨(.int .i64 (0)), by kernel_rfl⟩
end Go.Proofs.YtniodknidoemfaaGreatDoor.Cp
