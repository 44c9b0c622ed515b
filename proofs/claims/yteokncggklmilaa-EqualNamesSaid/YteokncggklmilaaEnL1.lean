/- The functions that the statement EqualNames runs, in the small code (part 1); each is what the framework makes of the program. -/
import Derived.Test.YteokncggklmilaaFw27
import Derived.Test.YteokncggklmilaaRows
namespace Go.Proofs.Yteokncggklmilaa.En
open Go Go.Pf
-- parcener/cake.walk
def lit48 : AFn := ⟨3, [.tmp 6],
 (.seq
 (.ops [⟨some 3, (.boxL (.t 0)), none⟩,
 ⟨some 4, (.boxL (.t 1)), none⟩,
 ⟨some 6, (.mv (.c (.int .i64 (0)))), none⟩]
 [] [0, 1, 6])
 (.seq
 (.seq
 (.ops [⟨some 13, (.fad 2 (.t 3)), none⟩,
 ⟨some 14, (.load false 1 (.t 13)), none⟩,
 ⟨some 15, (.len (.t 14)), none⟩,
 ⟨some 16, (.mv (.c (.int .i64 (0)))), none⟩]
 [] [13])
 (.block 0
 (.loop
 (.seq
 (.ops [⟨some 17, (.bin .lss (.t 16) (.t 15)), none⟩]
 [] [])
 (.seq
 (.cond (.t 17)
 .skip
 (.exit 0))
 (.seq
 (.block 1
 (.seq
 (.ops [⟨some 18, (.mv (.t 16)), none⟩,
 ⟨some 19, (.iad 1 (.t 14) (.t 16)), none⟩,
 ⟨some 20, (.load false 1 (.t 19)), none⟩,
 ⟨some 7, (.mv (.t 18)), none⟩,
 ⟨some 8, (.mv (.t 20)), none⟩]
 [] [17, 18, 19, 20])
 (.seq
 (.ops [⟨some 21, (.fad 1 (.t 3)), none⟩,
 ⟨some 22, (.load false 1 (.t 21)), none⟩,
 ⟨some 23, (.mv (.t 7)), none⟩,
 ⟨some 24, (.bin .add (.t 23) (.c (.int .i64 (1)))), none⟩,
 ⟨some 25, (.iad 1 (.t 22) (.t 24)), none⟩,
 ⟨some 26, (.load false 1 (.t 25)), none⟩,
 ⟨some 27, (.call (.f 53) [(.t 26)]), none⟩,
 ⟨some 9, (.allocL (.agg [(.int .i64 (0)), (.int .i64 (0))])), none⟩,
 ⟨none, (.store 2 (.t 9) (.t 27)), none⟩]
 [] [7, 21, 22, 23, 24, 25, 26, 27])
 (.seq
 (.seq
 (.ops [⟨some 28, (.load true 2 (.t 4)), none⟩,
 ⟨some 29, (.load true 2 (.t 9)), none⟩,
 ⟨some 30, (.call (.f 50) [(.t 28), (.t 29)]), none⟩,
 ⟨some 31, (.un .not (.t 30)), none⟩]
 [] [28, 29, 30])
 (.cond (.t 31)
 (.exit 1)
 .skip))
 (.seq
 (.ops [⟨some 32, (.call (.f 53) [(.c (.int .i64 (0)))]), none⟩,
 ⟨some 10, (.allocL (.agg [(.int .i64 (0)), (.int .i64 (0))])), none⟩,
 ⟨none, (.store 2 (.t 10) (.t 32)), none⟩]
 [] [31, 32])
 (.seq
 (.seq
 (.ops [⟨some 33, (.mv (.t 8)), none⟩,
 ⟨some 34, (.bin .gtr (.t 33) (.c (.int .i64 (0)))), none⟩]
 [] [33])
 (.cond (.t 34)
 (.seq
 (.ops [⟨some 36, (.load true 2 (.t 9)), none⟩,
 ⟨some 37, (.load true 2 (.t 4)), none⟩,
 ⟨some 38, (.call (.f 51) [(.t 36), (.t 37)]), none⟩,
 ⟨some 35, (.mv (.t 38)), none⟩,
 ⟨some 39, (.ext (.t 35) 0), none⟩,
 ⟨some 40, (.ext (.t 35) 1), none⟩,
 ⟨some 11, (.allocL (.agg [(.int .i64 (0)), (.int .i64 (0))])), none⟩,
 ⟨none, (.store 2 (.t 11) (.t 39)), none⟩,
 ⟨some 12, (.mv (.t 40)), none⟩]
 [] [34, 35, 36, 37, 38, 39, 40])
 (.seq
 (.seq
 (.ops [⟨some 41, (.mv (.t 12)), none⟩,
 ⟨some 42, (.bin .neq (.t 41) (.c (.int .i64 (0)))), none⟩]
 [] [41])
 (.cond (.t 42)
 (.seq
 (.ops [⟨some 43, (.mv (.t 12)), none⟩,
 ⟨some 6, (.mv (.t 43)), none⟩]
 [] [2, 3, 4, 8, 9, 10, 11, 12, 14, 15, 16, 42, 43])
 .ret)
 .skip))
 (.seq
 (.ops [⟨some 45, (.load true 2 (.t 11)), none⟩,
 ⟨some 46, (.mv (.t 8)), none⟩,
 ⟨some 47, (.call (.f 53) [(.t 46)]), none⟩,
 ⟨some 48, (.call (.f 23) [(.t 45), (.t 47)]), none⟩,
 ⟨some 44, (.mv (.t 48)), none⟩,
 ⟨some 49, (.ext (.t 44) 0), none⟩,
 ⟨some 50, (.ext (.t 44) 1), none⟩,
 ⟨none, (.store 2 (.t 10) (.t 49)), none⟩,
 ⟨some 12, (.mv (.t 50)), none⟩]
 [(0, 1), (0, 2), (5, 6), (6, 7)] [11, 42, 44, 45, 46, 47, 48, 49, 50])
 (.seq
 (.ops [⟨some 51, (.mv (.t 12)), none⟩,
 ⟨some 52, (.bin .neq (.t 51) (.c (.int .i64 (0)))), none⟩]
 [] [51])
 (.cond (.t 52)
 (.seq
 (.ops [⟨some 53, (.mv (.t 12)), none⟩,
 ⟨some 6, (.mv (.t 53)), none⟩]
 [] [2, 3, 4, 8, 9, 10, 12, 14, 15, 16, 52, 53])
 .ret)
 .skip)))))
 .skip))
 (.seq
 (.seq
 (.ops [⟨some 54, (.mv (.t 2)), none⟩,
 ⟨some 55, (.load true 2 (.t 4)), none⟩,
 ⟨some 56, (.load true 2 (.t 9)), none⟩,
 ⟨some 57, (.load true 2 (.t 10)), none⟩,
 ⟨some 58, (.mv (.t 8)), none⟩,
 ⟨some 59, (.call (.t 54) [(.t 55), (.t 56), (.t 57), (.t 58)]), none⟩]
 [] [8, 10, 12, 34, 52, 54, 55, 56, 57, 58])
 (.cond (.t 59)
 (.seq
 (.ops [⟨some 6, (.mv (.c (.int .i64 (0)))), none⟩]
 [] [2, 3, 4, 9, 14, 15, 16, 59])
 .ret)
 .skip))
 (.ops [⟨some 60, (.load true 2 (.t 9)), none⟩,
 ⟨none, (.store 2 (.t 4) (.t 60)), none⟩]
 [] [9, 59, 60]))))))))
 (.ops [⟨some 61, (.bin .add (.t 16) (.c (.int .i64 (1)))), none⟩,
 ⟨some 16, (.mv (.t 61)), none⟩]
 [] [8, 9, 31, 61])))))))
 (.seq
 (.ops [⟨some 6, (.mv (.c (.int .i64 (0)))), none⟩]
 [] [2, 3, 4, 14, 15, 16, 17])
 .ret)))⟩
def loc48 : List Nat := [3, 4, 9, 10, 11]
def fg48 : List (Nat × List Nat) := [(18, [2, 3, 4, 14, 15, 16, 17]), (17, [8, 9, 31, 61]), (16, [9, 59, 60]), (15, [2, 3, 4, 9, 14, 15, 16, 59]), (14, [8, 10, 12, 34, 52, 54, 55, 56, 57, 58]), (13, [2, 3, 4, 8, 9, 10, 12, 14, 15, 16, 52, 53]), (12, [51]), (11, [11, 42, 44, 45, 46, 47, 48, 49, 50]), (10, [2, 3, 4, 8, 9, 10, 11, 12, 14, 15, 16, 42, 43]), (9, [41]), (8, [34, 35, 36, 37, 38, 39, 40]), (7, [33]), (6, [31, 32]), (5, [28, 29, 30]), (4, [7, 21, 22, 23, 24, 25, 26, 27]), (3, [17, 18, 19, 20]), (1, [13]), (0, [0, 1, 6])]
theorem comp48 : compFn Try.prog loc48 (fun i => (fg48.lookup i).getD []) Try.f48 = some lit48 := by kernel_rfl

-- parcener/cake.Mark$1
def lit49 : AFn := ⟨7, [.tmp 11],
 (.seq
 (.ops [⟨some 7, (.boxL (.t 0)), none⟩,
 ⟨some 8, (.boxL (.t 1)), none⟩,
 ⟨some 9, (.boxL (.t 2)), none⟩,
 ⟨some 11, (.mv (.c (.bool false))), none⟩]
 [] [0, 1, 2, 8, 11])
 (.seq
 (.seq
 (.ops [⟨some 16, (.mv (.t 3)), none⟩,
 ⟨some 17, (.bin .eql (.t 16) (.c (.int .i64 (0)))), none⟩]
 [] [16])
 (.cond (.t 17)
 (.seq
 (.ops [⟨some 11, (.mv (.c (.bool false))), none⟩]
 [] [3, 4, 5, 6, 7, 9, 17])
 .ret)
 .skip))
 (.seq
 (.seq
 (.ops [⟨some 18, (.load true 2 (.t 9)), none⟩,
 ⟨some 19, (.load true 2 (.t 4)), none⟩,
 ⟨some 20, (.call (.f 50) [(.t 18), (.t 19)]), none⟩]
 [] [17, 18, 19])
 (.cond (.t 20)
 (.seq
 (.ops [⟨some 22, (.load true 2 (.t 4)), none⟩,
 ⟨some 23, (.load true 2 (.t 9)), none⟩,
 ⟨some 24, (.call (.f 51) [(.t 22), (.t 23)]), none⟩,
 ⟨some 21, (.mv (.t 24)), none⟩,
 ⟨some 25, (.ext (.t 21) 0), none⟩,
 ⟨some 26, (.ext (.t 21) 1), none⟩,
 ⟨some 12, (.allocL (.agg [(.int .i64 (0)), (.int .i64 (0))])), none⟩,
 ⟨none, (.store 2 (.t 12) (.t 25)), none⟩,
 ⟨some 13, (.mv (.t 26)), none⟩]
 [] [3, 6, 7, 9, 20, 21, 22, 23, 24, 25, 26])
 (.seq
 (.ops [⟨some 27, (.load true 2 (.t 12)), none⟩,
 ⟨none, (.store 2 (.t 4) (.t 27)), none⟩,
 ⟨none, (.store 1 (.t 5) (.c (.int .i64 (6)))), none⟩]
 [] [4, 12, 27])
 (.seq
 (.seq
 (.ops [⟨some 28, (.mv (.t 13)), none⟩,
 ⟨some 29, (.bin .neq (.t 28) (.c (.int .i64 (0)))), none⟩]
 [] [28])
 (.cond (.t 29)
 (.ops [⟨some 30, (.mv (.t 13)), none⟩,
 ⟨none, (.store 1 (.t 5) (.t 30)), none⟩]
 [] [5, 29, 30])
 .skip))
 (.seq
 (.ops [⟨some 31, (.mv (.t 13)), none⟩,
 ⟨some 32, (.bin .neq (.t 31) (.c (.int .i64 (0)))), none⟩,
 ⟨some 11, (.mv (.t 32)), none⟩]
 [] [5, 13, 29, 31, 32])
 .ret))))
 .skip))
 (.seq
 (.ops [⟨some 34, (.load true 2 (.t 4)), none⟩,
 ⟨some 35, (.mv (.t 3)), none⟩,
 ⟨some 36, (.call (.f 53) [(.t 35)]), none⟩,
 ⟨some 37, (.call (.f 52) [(.t 34), (.t 36)]), none⟩,
 ⟨some 33, (.mv (.t 37)), none⟩,
 ⟨some 38, (.ext (.t 33) 0), none⟩,
 ⟨some 39, (.ext (.t 33) 1), none⟩,
 ⟨some 14, (.allocL (.agg [(.int .i64 (0)), (.int .i64 (0))])), none⟩,
 ⟨none, (.store 2 (.t 14) (.t 38)), none⟩,
 ⟨some 15, (.mv (.t 39)), none⟩]
 [(0, 1), (0, 2), (5, 6), (0, 7), (1, 7), (2, 7), (3, 7), (4, 7), (5, 7), (6, 7), (6, 8)] [3, 4, 9, 20, 33, 34, 35, 36, 37, 38, 39])
 (.seq
 (.seq
 (.ops [⟨some 40, (.mv (.t 15)), none⟩,
 ⟨some 41, (.bin .eql (.t 40) (.c (.int .i64 (0)))), none⟩]
 [] [40])
 (.cond (.t 41)
 (.ops [⟨some 43, (.load true 2 (.t 7)), none⟩,
 ⟨some 44, (.load true 2 (.t 14)), none⟩,
 ⟨some 45, (.call (.f 54) [(.t 43), (.t 44)]), none⟩,
 ⟨some 42, (.mv (.t 45)), none⟩,
 ⟨some 46, (.ext (.t 42) 0), none⟩,
 ⟨some 47, (.ext (.t 42) 1), none⟩,
 ⟨none, (.store 2 (.t 6) (.t 46)), none⟩,
 ⟨some 15, (.mv (.t 47)), none⟩]
 [] [6, 7, 14, 41, 42, 43, 44, 45, 46, 47])
 .skip))
 (.seq
 (.ops [⟨some 48, (.mv (.t 15)), none⟩,
 ⟨none, (.store 1 (.t 5) (.t 48)), none⟩]
 [] [5, 6, 7, 14, 15, 41, 48])
 (.seq
 (.ops [⟨some 11, (.mv (.c (.bool true))), none⟩]
 [] [])
 .ret)))))))⟩
def loc49 : List Nat := [7, 8, 9, 12, 14]
def fg49 : List (Nat × List Nat) := [(12, [5, 6, 7, 14, 15, 41, 48]), (11, [6, 7, 14, 41, 42, 43, 44, 45, 46, 47]), (10, [40]), (9, [3, 4, 9, 20, 33, 34, 35, 36, 37, 38, 39]), (8, [5, 13, 29, 31, 32]), (7, [5, 29, 30]), (6, [28]), (5, [4, 12, 27]), (4, [3, 6, 7, 9, 20, 21, 22, 23, 24, 25, 26]), (3, [17, 18, 19]), (2, [3, 4, 5, 6, 7, 9, 17]), (1, [16]), (0, [0, 1, 2, 8, 11])]
theorem comp49 : compFn Try.prog loc49 (fun i => (fg49.lookup i).getD []) Try.f49 = some lit49 := by kernel_rfl

-- parcener/cake.less
def lit50 : AFn := ⟨2, [.tmp 4],
 (.seq
 (.ops [⟨some 2, (.boxL (.t 0)), none⟩,
 ⟨some 3, (.boxL (.t 1)), none⟩,
 ⟨some 4, (.mv (.c (.bool false))), none⟩]
 [] [0, 1, 4])
 (.seq
 (.ops [⟨some 8, (.load true 2 (.t 2)), none⟩,
 ⟨some 9, (.load true 2 (.t 3)), none⟩,
 ⟨some 10, (.call (.f 40) [(.t 8), (.t 9)]), none⟩,
 ⟨some 7, (.mv (.t 10)), none⟩,
 ⟨some 11, (.ext (.t 7) 0), none⟩,
 ⟨some 12, (.ext (.t 7) 1), none⟩,
 ⟨some 5, (.mv (.t 11)), none⟩,
 ⟨some 6, (.mv (.t 12)), none⟩]
 [] [2, 3, 6, 7, 8, 9, 10, 11, 12])
 (.seq
 (.ops [⟨some 13, (.mv (.t 5)), none⟩,
 ⟨some 14, (.bin .lss (.t 13) (.c (.int .i64 (0)))), none⟩,
 ⟨some 4, (.mv (.t 14)), none⟩]
 [] [5, 13, 14])
 .ret)))⟩
def loc50 : List Nat := [2, 3]
def fg50 : List (Nat × List Nat) := [(2, [5, 13, 14]), (1, [2, 3, 6, 7, 8, 9, 10, 11, 12]), (0, [0, 1, 4])]
theorem comp50 : compFn Try.prog loc50 (fun i => (fg50.lookup i).getD []) Try.f50 = some lit50 := by kernel_rfl

-- parcener/ratio.Sub
def lit51 : AFn := ⟨2, [.cell 4 true 2, .tmp 5],
 (.seq
 (.ops [⟨some 2, (.boxL (.t 0)), none⟩,
 ⟨some 3, (.boxL (.t 1)), none⟩,
 ⟨some 4, (.allocL (.agg [(.int .i64 (0)), (.int .i64 (0))])), none⟩,
 ⟨some 5, (.mv (.c (.int .i64 (0)))), none⟩]
 [] [0, 1, 5])
 (.seq
 (.seq
 (.ops [⟨some 7, (.load true 2 (.t 2)), none⟩,
 ⟨some 8, (.load true 2 (.t 3)), none⟩,
 ⟨some 9, (.call (.f 44) [(.t 7), (.t 8)]), none⟩,
 ⟨some 6, (.mv (.t 9)), none⟩]
 [] [7, 8, 9])
 (.seq
 (.ops [⟨some 10, (.mv (.t 6)), none⟩,
 ⟨some 11, (.bin .neq (.t 10) (.c (.int .i64 (0)))), none⟩]
 [] [10])
 (.cond (.t 11)
 (.seq
 (.ops [⟨some 12, (.build [(.int .i64 (0)), (.int .i64 (0))] []), none⟩,
 ⟨some 13, (.mv (.t 6)), none⟩,
 ⟨none, (.store 2 (.t 4) (.t 12)), none⟩,
 ⟨some 5, (.mv (.t 13)), none⟩]
 [] [2, 3, 6, 11, 12, 13])
 .ret)
 .skip)))
 (.seq
 (.ops [⟨some 14, (.fad 0 (.t 3)), none⟩,
 ⟨some 15, (.load false 1 (.t 14)), none⟩,
 ⟨some 16, (.un .neg (.t 15)), none⟩,
 ⟨some 17, (.fad 0 (.t 3)), none⟩,
 ⟨none, (.store 1 (.t 17) (.t 16)), none⟩]
 [] [6, 11, 14, 15, 16, 17])
 (.seq
 (.ops [⟨some 18, (.load true 2 (.t 2)), none⟩,
 ⟨some 19, (.load true 2 (.t 3)), none⟩,
 ⟨some 20, (.call (.f 54) [(.t 18), (.t 19)]), none⟩,
 ⟨some 21, (.ext (.t 20) 0), none⟩,
 ⟨some 22, (.ext (.t 20) 1), none⟩,
 ⟨none, (.store 2 (.t 4) (.t 21)), none⟩,
 ⟨some 5, (.mv (.t 22)), none⟩]
 [] [2, 3, 18, 19, 20, 21, 22])
 .ret))))⟩
def loc51 : List Nat := [2, 3, 4]
def fg51 : List (Nat × List Nat) := [(5, [2, 3, 18, 19, 20, 21, 22]), (4, [6, 11, 14, 15, 16, 17]), (3, [2, 3, 6, 11, 12, 13]), (2, [10]), (1, [7, 8, 9]), (0, [0, 1, 5])]
theorem comp51 : compFn Try.prog loc51 (fun i => (fg51.lookup i).getD []) Try.f51 = some lit51 := by kernel_rfl

-- parcener/ratio.Div
def lit52 : AFn := ⟨2, [.cell 4 true 2, .tmp 5],
 (.seq
 (.ops [⟨some 2, (.boxL (.t 0)), none⟩,
 ⟨some 3, (.boxL (.t 1)), none⟩,
 ⟨some 4, (.allocL (.agg [(.int .i64 (0)), (.int .i64 (0))])), none⟩,
 ⟨some 5, (.mv (.c (.int .i64 (0)))), none⟩]
 [] [0, 1, 5])
 (.seq
 (.seq
 (.ops [⟨some 7, (.load true 2 (.t 2)), none⟩,
 ⟨some 8, (.load true 2 (.t 3)), none⟩,
 ⟨some 9, (.call (.f 44) [(.t 7), (.t 8)]), none⟩,
 ⟨some 6, (.mv (.t 9)), none⟩]
 [] [7, 8, 9])
 (.seq
 (.ops [⟨some 10, (.mv (.t 6)), none⟩,
 ⟨some 11, (.bin .neq (.t 10) (.c (.int .i64 (0)))), none⟩]
 [] [10])
 (.cond (.t 11)
 (.seq
 (.ops [⟨some 12, (.build [(.int .i64 (0)), (.int .i64 (0))] []), none⟩,
 ⟨some 13, (.mv (.t 6)), none⟩,
 ⟨none, (.store 2 (.t 4) (.t 12)), none⟩,
 ⟨some 5, (.mv (.t 13)), none⟩]
 [] [2, 3, 6, 11, 12, 13])
 .ret)
 .skip)))
 (.seq
 (.block 0
 (.seq
 (.ops [⟨some 15, (.fad 0 (.t 3)), none⟩,
 ⟨some 16, (.load false 1 (.t 15)), none⟩,
 ⟨some 17, (.bin .eql (.t 16) (.c (.int .i64 (0)))), none⟩,
 ⟨some 14, (.mv (.t 17)), none⟩]
 [] [6, 11, 15, 16, 17])
 (.cond (.t 14)
 (.seq
 (.ops [⟨some 18, (.build [(.int .i64 (0)), (.int .i64 (0))] []), none⟩,
 ⟨none, (.store 2 (.t 4) (.t 18)), none⟩,
 ⟨some 5, (.mv (.c (.int .i64 (18)))), none⟩]
 [] [2, 3, 14, 18])
 .ret)
 (.seq
 (.ops [⟨some 20, (.fad 0 (.t 3)), none⟩,
 ⟨some 21, (.load false 1 (.t 20)), none⟩,
 ⟨some 22, (.bin .lss (.t 21) (.c (.int .i64 (0)))), none⟩,
 ⟨some 19, (.mv (.t 22)), none⟩]
 [] [14, 20, 21, 22])
 (.cond (.t 19)
 (.seq
 (.ops [⟨some 23, (.load true 2 (.t 2)), none⟩,
 ⟨some 24, (.fad 1 (.t 3)), none⟩,
 ⟨some 25, (.load false 1 (.t 24)), none⟩,
 ⟨some 26, (.un .neg (.t 25)), none⟩,
 ⟨some 27, (.fad 0 (.t 3)), none⟩,
 ⟨some 28, (.load false 1 (.t 27)), none⟩,
 ⟨some 29, (.un .neg (.t 28)), none⟩,
 ⟨some 30, (.build [(.int .i64 (0)), (.int .i64 (0))] [(0, 1, (.t 26)), (1, 1, (.t 29))]), none⟩,
 ⟨some 31, (.call (.f 23) [(.t 23), (.t 30)]), none⟩,
 ⟨some 32, (.ext (.t 31) 0), none⟩,
 ⟨some 33, (.ext (.t 31) 1), none⟩,
 ⟨none, (.store 2 (.t 4) (.t 32)), none⟩,
 ⟨some 5, (.mv (.t 33)), none⟩]
 [] [2, 3, 19, 23, 24, 25, 26, 27, 28, 29, 30, 31, 32, 33])
 .ret)
 .skip)))))
 (.seq
 (.ops [⟨some 34, (.load true 2 (.t 2)), none⟩,
 ⟨some 35, (.fad 1 (.t 3)), none⟩,
 ⟨some 36, (.load false 1 (.t 35)), none⟩,
 ⟨some 37, (.fad 0 (.t 3)), none⟩,
 ⟨some 38, (.load false 1 (.t 37)), none⟩,
 ⟨some 39, (.build [(.int .i64 (0)), (.int .i64 (0))] [(0, 1, (.t 36)), (1, 1, (.t 38))]), none⟩,
 ⟨some 40, (.call (.f 23) [(.t 34), (.t 39)]), none⟩,
 ⟨some 41, (.ext (.t 40) 0), none⟩,
 ⟨some 42, (.ext (.t 40) 1), none⟩,
 ⟨none, (.store 2 (.t 4) (.t 41)), none⟩,
 ⟨some 5, (.mv (.t 42)), none⟩]
 [] [2, 3, 19, 34, 35, 36, 37, 38, 39, 40, 41, 42])
 .ret))))⟩
def loc52 : List Nat := [2, 3, 4]
def fg52 : List (Nat × List Nat) := [(8, [2, 3, 19, 34, 35, 36, 37, 38, 39, 40, 41, 42]), (7, [2, 3, 19, 23, 24, 25, 26, 27, 28, 29, 30, 31, 32, 33]), (6, [14, 20, 21, 22]), (5, [2, 3, 14, 18]), (4, [6, 11, 15, 16, 17]), (3, [2, 3, 6, 11, 12, 13]), (2, [10]), (1, [7, 8, 9]), (0, [0, 1, 5])]
theorem comp52 : compFn Try.prog loc52 (fun i => (fg52.lookup i).getD []) Try.f52 = some lit52 := by kernel_rfl

-- parcener/cake.whole
def lit53 : AFn := ⟨1, [.cell 2 true 2],
 (.seq
 (.ops [⟨some 2, (.allocL (.agg [(.int .i64 (0)), (.int .i64 (0))])), none⟩]
 [] [])
 (.seq
 (.ops [⟨some 3, (.mv (.t 0)), none⟩,
 ⟨some 4, (.build [(.int .i64 (0)), (.int .i64 (0))] [(0, 1, (.t 3)), (1, 1, (.c (.int .i64 (1))))]), none⟩,
 ⟨none, (.store 2 (.t 2) (.t 4)), none⟩]
 [] [0, 3, 4])
 .ret))⟩
def loc53 : List Nat := [2]
def fg53 : List (Nat × List Nat) := [(1, [0, 3, 4])]
theorem comp53 : compFn Try.prog loc53 (fun i => (fg53.lookup i).getD []) Try.f53 = some lit53 := by kernel_rfl

-- parcener/ratio.Add
def lit54 : AFn := ⟨2, [.cell 4 true 2, .tmp 5],
 (.seq
 (.ops [⟨some 2, (.boxL (.t 0)), none⟩,
 ⟨some 3, (.boxL (.t 1)), none⟩,
 ⟨some 4, (.allocL (.agg [(.int .i64 (0)), (.int .i64 (0))])), none⟩,
 ⟨some 5, (.mv (.c (.int .i64 (0)))), none⟩]
 [] [0, 1, 5])
 (.seq
 (.seq
 (.ops [⟨some 21, (.load true 2 (.t 2)), none⟩,
 ⟨some 22, (.load true 2 (.t 3)), none⟩,
 ⟨some 23, (.call (.f 44) [(.t 21), (.t 22)]), none⟩,
 ⟨some 6, (.mv (.t 23)), none⟩]
 [] [21, 22, 23])
 (.seq
 (.ops [⟨some 24, (.mv (.t 6)), none⟩,
 ⟨some 25, (.bin .neq (.t 24) (.c (.int .i64 (0)))), none⟩]
 [] [24])
 (.cond (.t 25)
 (.seq
 (.ops [⟨some 26, (.build [(.int .i64 (0)), (.int .i64 (0))] []), none⟩,
 ⟨some 27, (.mv (.t 6)), none⟩,
 ⟨none, (.store 2 (.t 4) (.t 26)), none⟩,
 ⟨some 5, (.mv (.t 27)), none⟩]
 [] [2, 3, 6, 25, 26, 27])
 .ret)
 .skip)))
 (.seq
 (.ops [⟨some 28, (.fad 1 (.t 2)), none⟩,
 ⟨some 29, (.load false 1 (.t 28)), none⟩,
 ⟨some 30, (.conv .u64 (.t 29)), none⟩,
 ⟨some 31, (.fad 1 (.t 3)), none⟩,
 ⟨some 32, (.load false 1 (.t 31)), none⟩,
 ⟨some 33, (.conv .u64 (.t 32)), none⟩,
 ⟨some 34, (.call (.f 42) [(.t 30), (.t 33)]), none⟩,
 ⟨some 7, (.mv (.t 34)), none⟩]
 [] [6, 25, 28, 29, 30, 31, 32, 33, 34])
 (.seq
 (.ops [⟨some 36, (.fad 0 (.t 2)), none⟩,
 ⟨some 37, (.load false 1 (.t 36)), none⟩,
 ⟨some 38, (.call (.f 41) [(.t 37)]), none⟩,
 ⟨some 39, (.fad 1 (.t 3)), none⟩,
 ⟨some 40, (.load false 1 (.t 39)), none⟩,
 ⟨some 41, (.conv .u64 (.t 40)), none⟩,
 ⟨some 42, (.mv (.t 7)), none⟩,
 ⟨some 43, (.bin .quo (.t 41) (.t 42)), none⟩,
 ⟨some 44, (.call (.f 45) [(.t 38), (.t 43)]), none⟩,
 ⟨some 35, (.mv (.t 44)), none⟩,
 ⟨some 45, (.ext (.t 35) 0), none⟩,
 ⟨some 46, (.ext (.t 35) 1), none⟩,
 ⟨some 8, (.mv (.t 45)), none⟩,
 ⟨some 9, (.mv (.t 46)), none⟩]
 [(0, 3), (1, 3), (2, 3), (0, 4), (1, 4), (2, 4), (0, 5), (1, 5), (2, 5), (0, 6), (1, 6), (2, 6), (3, 6), (4, 6), (5, 6), (0, 7), (1, 7), (2, 7), (10, 11), (11, 12)] [35, 36, 37, 38, 39, 40, 41, 42, 43, 44, 45, 46])
 (.seq
 (.ops [⟨some 48, (.fad 0 (.t 3)), none⟩,
 ⟨some 49, (.load false 1 (.t 48)), none⟩,
 ⟨some 50, (.call (.f 41) [(.t 49)]), none⟩,
 ⟨some 51, (.fad 1 (.t 2)), none⟩,
 ⟨some 52, (.load false 1 (.t 51)), none⟩,
 ⟨some 53, (.conv .u64 (.t 52)), none⟩,
 ⟨some 54, (.mv (.t 7)), none⟩,
 ⟨some 55, (.bin .quo (.t 53) (.t 54)), none⟩,
 ⟨some 56, (.call (.f 45) [(.t 50), (.t 55)]), none⟩,
 ⟨some 47, (.mv (.t 56)), none⟩,
 ⟨some 57, (.ext (.t 47) 0), none⟩,
 ⟨some 58, (.ext (.t 47) 1), none⟩,
 ⟨some 10, (.mv (.t 57)), none⟩,
 ⟨some 11, (.mv (.t 58)), none⟩]
 [(0, 3), (1, 3), (2, 3), (0, 4), (1, 4), (2, 4), (0, 5), (1, 5), (2, 5), (0, 6), (1, 6), (2, 6), (3, 6), (4, 6), (5, 6), (0, 7), (1, 7), (2, 7), (10, 11), (11, 12)] [47, 48, 49, 50, 51, 52, 53, 54, 55, 56, 57, 58])
 (.seq
 (.ops [⟨some 59, (.fad 0 (.t 2)), none⟩,
 ⟨some 60, (.load false 1 (.t 59)), none⟩,
 ⟨some 61, (.bin .lss (.t 60) (.c (.int .i64 (0)))), none⟩,
 ⟨some 12, (.mv (.t 61)), none⟩]
 [] [59, 60, 61])
 (.seq
 (.ops [⟨some 13, (.mv (.c (.int .u64 (0)))), none⟩,
 ⟨some 14, (.mv (.c (.int .u64 (0)))), none⟩,
 ⟨some 15, (.mv (.c (.int .u64 (0)))), none⟩]
 [] [13, 14, 15])
 (.seq
 (.seq
 (.ops [⟨some 62, (.fad 0 (.t 2)), none⟩,
 ⟨some 63, (.load false 1 (.t 62)), none⟩,
 ⟨some 64, (.bin .lss (.t 63) (.c (.int .i64 (0)))), none⟩,
 ⟨some 65, (.fad 0 (.t 3)), none⟩,
 ⟨some 66, (.load false 1 (.t 65)), none⟩,
 ⟨some 67, (.bin .lss (.t 66) (.c (.int .i64 (0)))), none⟩,
 ⟨some 68, (.eqB false (.t 64) (.t 67)), none⟩]
 [] [62, 63, 64, 65, 66, 67])
 (.cond (.t 68)
 (.seq
 (.ops [⟨some 70, (.mv (.t 9)), none⟩,
 ⟨some 71, (.mv (.t 11)), none⟩,
 ⟨some 72, (.call (.f 66) [(.t 70), (.t 71), (.c (.int .u64 (0)))]), none⟩,
 ⟨some 69, (.mv (.t 72)), none⟩,
 ⟨some 73, (.ext (.t 69) 0), none⟩,
 ⟨some 74, (.ext (.t 69) 1), none⟩,
 ⟨some 14, (.mv (.t 73)), none⟩,
 ⟨some 15, (.mv (.t 74)), none⟩]
 [] [9, 11, 68, 69, 70, 71, 72, 73, 74])
 (.ops [⟨some 76, (.mv (.t 8)), none⟩,
 ⟨some 77, (.mv (.t 10)), none⟩,
 ⟨some 78, (.mv (.t 15)), none⟩,
 ⟨some 79, (.call (.f 66) [(.t 76), (.t 77), (.t 78)]), none⟩,
 ⟨some 75, (.mv (.t 79)), none⟩,
 ⟨some 80, (.ext (.t 75) 0), none⟩,
 ⟨some 81, (.ext (.t 75) 1), none⟩,
 ⟨some 13, (.mv (.t 80)), none⟩]
 [] [8, 10, 15, 75, 76, 77, 78, 79, 80, 81]))
 (.seq
 (.seq
 (.ops [⟨some 82, (.mv (.t 8)), none⟩,
 ⟨some 83, (.mv (.t 10)), none⟩,
 ⟨some 84, (.bin .lss (.t 82) (.t 83)), none⟩,
 ⟨some 85, (.mv (.t 84)), none⟩,
 ⟨some 86, (.mv (.t 8)), some (85, false)⟩,
 ⟨some 87, (.mv (.t 10)), some (85, false)⟩,
 ⟨some 88, (.bin .eql (.t 86) (.t 87)), some (85, false)⟩,
 ⟨some 89, (.mv (.t 88)), some (85, false)⟩,
 ⟨some 90, (.mv (.t 9)), some (89, true)⟩,
 ⟨some 91, (.mv (.t 11)), some (89, true)⟩,
 ⟨some 92, (.bin .lss (.t 90) (.t 91)), some (89, true)⟩,
 ⟨some 93, (.pick (.t 89) (.t 92) (.c (.bool false))), some (85, false)⟩,
 ⟨some 94, (.pick (.t 85) (.c (.bool true)) (.t 93)), none⟩]
 [] [68, 82, 83, 84, 85, 86, 87, 88, 89, 90, 91, 92, 93])
 (.cond (.t 94)
 (.seq
 (.ops [⟨some 95, (.mv (.t 10)), none⟩,
 ⟨some 96, (.mv (.t 11)), none⟩,
 ⟨some 97, (.mv (.t 8)), none⟩,
 ⟨some 98, (.mv (.t 9)), none⟩,
 ⟨some 8, (.mv (.t 95)), none⟩,
 ⟨some 9, (.mv (.t 96)), none⟩,
 ⟨some 10, (.mv (.t 97)), none⟩,
 ⟨some 11, (.mv (.t 98)), none⟩]
 [] [94, 95, 96, 97, 98])
 (.ops [⟨some 99, (.mv (.t 12)), none⟩,
 ⟨some 100, (.un .not (.t 99)), none⟩,
 ⟨some 12, (.mv (.t 100)), none⟩]
 [] [99, 100]))
 .skip))
 (.seq
 (.ops [⟨some 102, (.mv (.t 9)), none⟩,
 ⟨some 103, (.mv (.t 11)), none⟩,
 ⟨some 104, (.call (.f 67) [(.t 102), (.t 103), (.c (.int .u64 (0)))]), none⟩,
 ⟨some 101, (.mv (.t 104)), none⟩,
 ⟨some 105, (.ext (.t 101) 0), none⟩,
 ⟨some 106, (.ext (.t 101) 1), none⟩,
 ⟨some 14, (.mv (.t 105)), none⟩,
 ⟨some 15, (.mv (.t 106)), none⟩]
 [] [9, 11, 94, 101, 102, 103, 104, 105, 106])
 (.ops [⟨some 108, (.mv (.t 8)), none⟩,
 ⟨some 109, (.mv (.t 10)), none⟩,
 ⟨some 110, (.mv (.t 15)), none⟩,
 ⟨some 111, (.call (.f 67) [(.t 108), (.t 109), (.t 110)]), none⟩,
 ⟨some 107, (.mv (.t 111)), none⟩,
 ⟨some 112, (.ext (.t 107) 0), none⟩,
 ⟨some 113, (.ext (.t 107) 1), none⟩,
 ⟨some 13, (.mv (.t 112)), none⟩]
 [] [8, 10, 15, 107, 108, 109, 110, 111, 112, 113])))))
 (.seq
 (.seq
 (.ops [⟨some 114, (.mv (.t 13)), none⟩,
 ⟨some 115, (.bin .eql (.t 114) (.c (.int .u64 (0)))), none⟩,
 ⟨some 116, (.mv (.t 115)), none⟩,
 ⟨some 117, (.mv (.t 14)), some (116, true)⟩,
 ⟨some 118, (.bin .eql (.t 117) (.c (.int .u64 (0)))), some (116, true)⟩,
 ⟨some 119, (.pick (.t 116) (.t 118) (.c (.bool false))), none⟩]
 [] [114, 115, 116, 117, 118])
 (.cond (.t 119)
 (.seq
 (.ops [⟨some 120, (.build [(.int .i64 (0)), (.int .i64 (0))] [(1, 1, (.c (.int .i64 (1))))]), none⟩,
 ⟨none, (.store 2 (.t 4) (.t 120)), none⟩,
 ⟨some 5, (.mv (.c (.int .i64 (0)))), none⟩]
 [] [2, 3, 7, 12, 13, 14, 119, 120])
 .ret)
 .skip))
 (.seq
 (.ops [⟨some 121, (.mv (.t 13)), none⟩,
 ⟨some 122, (.mv (.t 14)), none⟩,
 ⟨some 123, (.mv (.t 7)), none⟩,
 ⟨some 124, (.call (.f 68) [(.t 121), (.t 122), (.t 123)]), none⟩,
 ⟨some 125, (.mv (.t 7)), none⟩,
 ⟨some 126, (.call (.f 42) [(.t 124), (.t 125)]), none⟩,
 ⟨some 16, (.mv (.t 126)), none⟩]
 [] [119, 121, 122, 123, 124, 125, 126])
 (.seq
 (.seq
 (.ops [⟨some 127, (.mv (.t 13)), none⟩,
 ⟨some 128, (.mv (.t 16)), none⟩,
 ⟨some 129, (.bin .geq (.t 127) (.t 128)), none⟩]
 [] [127, 128])
 (.cond (.t 129)
 (.seq
 (.ops [⟨some 130, (.build [(.int .i64 (0)), (.int .i64 (0))] []), none⟩,
 ⟨none, (.store 2 (.t 4) (.t 130)), none⟩,
 ⟨some 5, (.mv (.c (.int .i64 (16)))), none⟩]
 [] [2, 3, 7, 12, 13, 14, 16, 129, 130])
 .ret)
 .skip))
 (.seq
 (.ops [⟨some 132, (.mv (.t 13)), none⟩,
 ⟨some 133, (.mv (.t 14)), none⟩,
 ⟨some 134, (.mv (.t 16)), none⟩,
 ⟨some 135, (.call (.f 69) [(.t 132), (.t 133), (.t 134)]), none⟩,
 ⟨some 131, (.mv (.t 135)), none⟩,
 ⟨some 136, (.ext (.t 131) 0), none⟩,
 ⟨some 137, (.ext (.t 131) 1), none⟩,
 ⟨some 17, (.mv (.t 136)), none⟩,
 ⟨some 18, (.mv (.t 137)), none⟩]
 [] [13, 14, 18, 129, 131, 132, 133, 134, 135, 136, 137])
 (.seq
 (.ops [⟨some 139, (.fad 1 (.t 2)), none⟩,
 ⟨some 140, (.load false 1 (.t 139)), none⟩,
 ⟨some 141, (.conv .u64 (.t 140)), none⟩,
 ⟨some 142, (.mv (.t 7)), none⟩,
 ⟨some 143, (.bin .quo (.t 141) (.t 142)), none⟩,
 ⟨some 144, (.fad 1 (.t 3)), none⟩,
 ⟨some 145, (.load false 1 (.t 144)), none⟩,
 ⟨some 146, (.conv .u64 (.t 145)), none⟩,
 ⟨some 147, (.mv (.t 16)), none⟩,
 ⟨some 148, (.bin .quo (.t 146) (.t 147)), none⟩,
 ⟨some 149, (.call (.f 45) [(.t 143), (.t 148)]), none⟩,
 ⟨some 138, (.mv (.t 149)), none⟩,
 ⟨some 150, (.ext (.t 138) 0), none⟩,
 ⟨some 151, (.ext (.t 138) 1), none⟩,
 ⟨some 19, (.mv (.t 150)), none⟩,
 ⟨some 20, (.mv (.t 151)), none⟩]
 [(0, 3), (1, 3), (2, 3), (0, 5), (1, 5), (2, 5), (3, 5), (4, 5), (0, 6), (1, 6), (2, 6), (3, 6), (4, 6), (0, 7), (1, 7), (2, 7), (3, 7), (4, 7), (0, 8), (1, 8), (2, 8), (3, 8), (4, 8), (5, 8), (6, 8), (7, 8), (0, 9), (1, 9), (2, 9), (3, 9), (4, 9), (12, 13), (13, 14)] [2, 3, 7, 16, 138, 139, 140, 141, 142, 143, 144, 145, 146, 147, 148, 149, 150, 151])
 (.seq
 (.seq
 (.ops [⟨some 152, (.mv (.t 19)), none⟩,
 ⟨some 153, (.bin .gtr (.t 152) (.c (.int .u64 (0)))), none⟩]
 [] [19, 152])
 (.cond (.t 153)
 (.seq
 (.ops [⟨some 154, (.build [(.int .i64 (0)), (.int .i64 (0))] []), none⟩,
 ⟨none, (.store 2 (.t 4) (.t 154)), none⟩,
 ⟨some 5, (.mv (.c (.int .i64 (16)))), none⟩]
 [] [12, 17, 20, 153, 154])
 .ret)
 .skip))
 (.seq
 (.ops [⟨some 155, (.mv (.t 12)), none⟩,
 ⟨some 156, (.mv (.t 17)), none⟩,
 ⟨some 157, (.mv (.t 20)), none⟩,
 ⟨some 158, (.call (.f 46) [(.t 155), (.t 156), (.t 157)]), none⟩,
 ⟨some 159, (.ext (.t 158) 0), none⟩,
 ⟨some 160, (.ext (.t 158) 1), none⟩,
 ⟨none, (.store 2 (.t 4) (.t 159)), none⟩,
 ⟨some 5, (.mv (.t 160)), none⟩]
 [] [12, 17, 20, 153, 155, 156, 157, 158, 159, 160])
 .ret)))))))))))))))⟩
def loc54 : List Nat := [2, 3, 4]
def fg54 : List (Nat × List Nat) := [(26, [12, 17, 20, 153, 155, 156, 157, 158, 159, 160]), (25, [12, 17, 20, 153, 154]), (24, [19, 152]), (23, [2, 3, 7, 16, 138, 139, 140, 141, 142, 143, 144, 145, 146, 147, 148, 149, 150, 151]), (22, [13, 14, 18, 129, 131, 132, 133, 134, 135, 136, 137]), (21, [2, 3, 7, 12, 13, 14, 16, 129, 130]), (20, [127, 128]), (19, [119, 121, 122, 123, 124, 125, 126]), (18, [2, 3, 7, 12, 13, 14, 119, 120]), (17, [114, 115, 116, 117, 118]), (16, [8, 10, 15, 107, 108, 109, 110, 111, 112, 113]), (15, [9, 11, 94, 101, 102, 103, 104, 105, 106]), (14, [99, 100]), (13, [94, 95, 96, 97, 98]), (12, [68, 82, 83, 84, 85, 86, 87, 88, 89, 90, 91, 92, 93]), (11, [8, 10, 15, 75, 76, 77, 78, 79, 80, 81]), (10, [9, 11, 68, 69, 70, 71, 72, 73, 74]), (9, [62, 63, 64, 65, 66, 67]), (8, [13, 14, 15]), (7, [59, 60, 61]), (6, [47, 48, 49, 50, 51, 52, 53, 54, 55, 56, 57, 58]), (5, [35, 36, 37, 38, 39, 40, 41, 42, 43, 44, 45, 46]), (4, [6, 25, 28, 29, 30, 31, 32, 33, 34]), (3, [2, 3, 6, 25, 26, 27]), (2, [24]), (1, [21, 22, 23]), (0, [0, 1, 5])]
theorem comp54 : compFn Try.prog loc54 (fun i => (fg54.lookup i).getD []) Try.f54 = some lit54 := by kernel_rfl

-- slices.Collect[int]
def lit55 : AFn := ⟨1, [.tmp 2],
 (.seq
 (.ops [⟨some 2, (.mv (.c .nils)), none⟩]
 [] [2])
 (.seq
 (.ops [⟨some 3, (.mv (.t 0)), none⟩,
 ⟨some 4, (.call (.f 70) [(.c .nils), (.t 3)]), none⟩,
 ⟨some 2, (.mv (.t 4)), none⟩]
 [] [0, 3, 4])
 .ret))⟩
def loc55 : List Nat := []
def fg55 : List (Nat × List Nat) := [(1, [0, 3, 4]), (0, [2])]
theorem comp55 : compFn Try.prog loc55 (fun i => (fg55.lookup i).getD []) Try.f55 = some lit55 := by kernel_rfl

-- slices.Sort[[]int,int]
def lit56 : AFn := ⟨1, [],
 (.seq
 (.ops [⟨some 3, (.mv (.t 0)), none⟩,
 ⟨some 4, (.len (.t 3)), none⟩,
 ⟨some 2, (.mv (.t 4)), none⟩]
 [] [3, 4])
 (.ops [⟨some 5, (.mv (.t 0)), none⟩,
 ⟨some 6, (.mv (.t 2)), none⟩,
 ⟨some 7, (.mv (.t 2)), none⟩,
 ⟨some 8, (.conv .u64 (.t 7)), none⟩,
 ⟨some 9, (.call (.f 72) [(.t 8)]), none⟩,
 ⟨some 10, (.call (.f 71) [(.t 5), (.c (.int .i64 (0))), (.t 6), (.t 9)]), none⟩]
 [] [0, 2, 5, 6, 7, 8, 9, 10]))⟩
def loc56 : List Nat := []
def fg56 : List (Nat × List Nat) := [(1, [0, 2, 5, 6, 7, 8, 9, 10]), (0, [3, 4])]
theorem comp56 : compFn Try.prog loc56 (fun i => (fg56.lookup i).getD []) Try.f56 = some lit56 := by kernel_rfl

-- slices.Values[[]int,int]$1
def lit57 : AFn := ⟨2, [],
 (.seq
 (.ops [⟨some 5, (.load false 1 (.t 1)), none⟩,
 ⟨some 6, (.len (.t 5)), none⟩,
 ⟨some 7, (.mv (.c (.int .i64 (0)))), none⟩]
 [] [1])
 (.block 0
 (.loop
 (.seq
 (.ops [⟨some 8, (.bin .lss (.t 7) (.t 6)), none⟩]
 [] [])
 (.seq
 (.cond (.t 8)
 .skip
 (.exit 0))
 (.seq
 (.block 1
 (.seq
 (.ops [⟨some 9, (.iad 1 (.t 5) (.t 7)), none⟩,
 ⟨some 10, (.load false 1 (.t 9)), none⟩,
 ⟨some 4, (.mv (.t 10)), none⟩]
 [] [8, 9, 10])
 (.yret
 (.seq
 (.ops [⟨some 11, (.mv (.t 0)), none⟩,
 ⟨some 12, (.mv (.t 4)), none⟩,
 ⟨some 13, (.call (.t 11) [(.t 12)]), none⟩,
 ⟨some 14, (.un .not (.t 13)), none⟩]
 [] [4, 11, 12, 13])
 (.cond (.t 14)
 .ret
 .skip))
 [⟨some 11, (.mv (.t 0)), none⟩,
 ⟨some 12, (.mv (.t 4)), none⟩]
 13 (.t 11) [(.t 12)] 14 [4, 11, 12, 13])))
 (.ops [⟨some 15, (.bin .add (.t 7) (.c (.int .i64 (1)))), none⟩,
 ⟨some 7, (.mv (.t 15)), none⟩]
 [] [14, 15])))))))⟩
def loc57 : List Nat := []
def fg57 : List (Nat × List Nat) := [(4, [14, 15]), (3, [4, 11, 12, 13]), (2, [8, 9, 10]), (0, [1])]
theorem comp57 : compFn Try.prog loc57 (fun i => (fg57.lookup i).getD []) Try.f57 = some lit57 := by kernel_rfl

-- slices.IndexFunc[[]parcener/api.Cake,parcener/api.Cake]
def lit58 : AFn := ⟨2, [.tmp 4],
 (.seq
 (.ops [⟨some 4, (.mv (.c (.int .i64 (0)))), none⟩]
 [] [4])
 (.seq
 (.seq
 (.ops [⟨some 6, (.mv (.t 0)), none⟩,
 ⟨some 7, (.len (.t 6)), none⟩,
 ⟨some 8, (.mv (.c (.int .i64 (0)))), none⟩]
 [] [6])
 (.block 0
 (.loop
 (.seq
 (.ops [⟨some 9, (.bin .lss (.t 8) (.t 7)), none⟩]
 [] [])
 (.seq
 (.cond (.t 9)
 .skip
 (.exit 0))
 (.seq
 (.block 1
 (.seq
 (.ops [⟨some 10, (.mv (.t 8)), none⟩,
 ⟨some 5, (.mv (.t 10)), none⟩]
 [] [9, 10])
 (.seq
 (.ops [⟨some 11, (.mv (.t 1)), none⟩,
 ⟨some 12, (.mv (.t 0)), none⟩,
 ⟨some 13, (.mv (.t 5)), none⟩,
 ⟨some 14, (.iad 3 (.t 12) (.t 13)), none⟩,
 ⟨some 15, (.load true 3 (.t 14)), none⟩,
 ⟨some 16, (.call (.t 11) [(.t 15)]), none⟩]
 [] [11, 12, 13, 14, 15])
 (.cond (.t 16)
 (.seq
 (.ops [⟨some 17, (.mv (.t 5)), none⟩,
 ⟨some 4, (.mv (.t 17)), none⟩]
 [] [0, 1, 5, 7, 8, 16, 17])
 .ret)
 .skip))))
 (.ops [⟨some 18, (.bin .add (.t 8) (.c (.int .i64 (1)))), none⟩,
 ⟨some 8, (.mv (.t 18)), none⟩]
 [] [5, 16, 18])))))))
 (.seq
 (.ops [⟨some 4, (.mv (.c (.int .i64 (-1)))), none⟩]
 [] [0, 1, 7, 8, 9])
 .ret)))⟩
def loc58 : List Nat := []
def fg58 : List (Nat × List Nat) := [(7, [0, 1, 7, 8, 9]), (6, [5, 16, 18]), (5, [0, 1, 5, 7, 8, 16, 17]), (4, [11, 12, 13, 14, 15]), (3, [9, 10]), (1, [6]), (0, [4])]
theorem comp58 : compFn Try.prog loc58 (fun i => (fg58.lookup i).getD []) Try.f58 = some lit58 := by kernel_rfl

-- slices.Index[[]int,int]
def lit59 : AFn := ⟨2, [.tmp 4],
 (.seq
 (.ops [⟨some 4, (.mv (.c (.int .i64 (0)))), none⟩]
 [] [4])
 (.seq
 (.seq
 (.ops [⟨some 6, (.mv (.t 0)), none⟩,
 ⟨some 7, (.len (.t 6)), none⟩,
 ⟨some 8, (.mv (.c (.int .i64 (0)))), none⟩]
 [] [6])
 (.block 0
 (.loop
 (.seq
 (.ops [⟨some 9, (.bin .lss (.t 8) (.t 7)), none⟩]
 [] [])
 (.seq
 (.cond (.t 9)
 .skip
 (.exit 0))
 (.seq
 (.block 1
 (.seq
 (.ops [⟨some 10, (.mv (.t 8)), none⟩,
 ⟨some 5, (.mv (.t 10)), none⟩]
 [] [9, 10])
 (.seq
 (.ops [⟨some 11, (.mv (.t 1)), none⟩,
 ⟨some 12, (.mv (.t 0)), none⟩,
 ⟨some 13, (.mv (.t 5)), none⟩,
 ⟨some 14, (.iad 1 (.t 12) (.t 13)), none⟩,
 ⟨some 15, (.load false 1 (.t 14)), none⟩,
 ⟨some 16, (.bin .eql (.t 11) (.t 15)), none⟩]
 [] [11, 12, 13, 14, 15])
 (.cond (.t 16)
 (.seq
 (.ops [⟨some 17, (.mv (.t 5)), none⟩,
 ⟨some 4, (.mv (.t 17)), none⟩]
 [] [0, 1, 5, 7, 8, 16, 17])
 .ret)
 .skip))))
 (.ops [⟨some 18, (.bin .add (.t 8) (.c (.int .i64 (1)))), none⟩,
 ⟨some 8, (.mv (.t 18)), none⟩]
 [] [5, 16, 18])))))))
 (.seq
 (.ops [⟨some 4, (.mv (.c (.int .i64 (-1)))), none⟩]
 [] [0, 1, 7, 8, 9])
 .ret)))⟩
def loc59 : List Nat := []
def fg59 : List (Nat × List Nat) := [(7, [0, 1, 7, 8, 9]), (6, [5, 16, 18]), (5, [0, 1, 5, 7, 8, 16, 17]), (4, [11, 12, 13, 14, 15]), (3, [9, 10]), (1, [6]), (0, [4])]
theorem comp59 : compFn Try.prog loc59 (fun i => (fg59.lookup i).getD []) Try.f59 = some lit59 := by kernel_rfl

-- cmp.Or[int]
def lit61 : AFn := ⟨1, [.tmp 2],
 (.seq
 (.ops [⟨some 2, (.mv (.c (.int .i64 (0)))), none⟩]
 [] [2])
 (.seq
 (.ops [⟨some 3, (.mv (.c (.int .i64 (0)))), none⟩]
 [] [])
 (.seq
 (.seq
 (.ops [⟨some 6, (.mv (.t 0)), none⟩,
 ⟨some 7, (.len (.t 6)), none⟩,
 ⟨some 8, (.mv (.c (.int .i64 (0)))), none⟩]
 [] [0])
 (.block 0
 (.loop
 (.seq
 (.ops [⟨some 9, (.bin .lss (.t 8) (.t 7)), none⟩]
 [] [])
 (.seq
 (.cond (.t 9)
 .skip
 (.exit 0))
 (.seq
 (.block 1
 (.seq
 (.ops [⟨some 10, (.iad 1 (.t 6) (.t 8)), none⟩,
 ⟨some 11, (.load false 1 (.t 10)), none⟩,
 ⟨some 5, (.mv (.t 11)), none⟩]
 [] [9, 10, 11])
 (.seq
 (.ops [⟨some 12, (.mv (.t 5)), none⟩,
 ⟨some 13, (.mv (.t 3)), none⟩,
 ⟨some 14, (.bin .neq (.t 12) (.t 13)), none⟩]
 [] [12, 13])
 (.cond (.t 14)
 (.seq
 (.ops [⟨some 15, (.mv (.t 5)), none⟩,
 ⟨some 2, (.mv (.t 15)), none⟩]
 [] [3, 5, 6, 7, 8, 14, 15])
 .ret)
 .skip))))
 (.ops [⟨some 16, (.bin .add (.t 8) (.c (.int .i64 (1)))), none⟩,
 ⟨some 8, (.mv (.t 16)), none⟩]
 [] [5, 14, 16])))))))
 (.seq
 (.ops [⟨some 17, (.mv (.t 3)), none⟩,
 ⟨some 2, (.mv (.t 17)), none⟩]
 [] [3, 6, 7, 8, 9, 17])
 .ret))))⟩
def loc61 : List Nat := []
def fg61 : List (Nat × List Nat) := [(8, [3, 6, 7, 8, 9, 17]), (7, [5, 14, 16]), (6, [3, 5, 6, 7, 8, 14, 15]), (5, [12, 13]), (4, [9, 10, 11]), (2, [0]), (0, [2])]
theorem comp61 : compFn Try.prog loc61 (fun i => (fg61.lookup i).getD []) Try.f61 = some lit61 := by kernel_rfl

-- cmp.Compare[uint64]
def lit62 : AFn := ⟨2, [.tmp 4],
 (.seq
 (.ops [⟨some 4, (.mv (.c (.int .i64 (0)))), none⟩]
 [] [4])
 (.seq
 (.ops [⟨some 7, (.mv (.t 0)), none⟩,
 ⟨some 8, (.call (.f 74) [(.t 7)]), none⟩,
 ⟨some 5, (.mv (.t 8)), none⟩]
 [] [7, 8])
 (.seq
 (.ops [⟨some 9, (.mv (.t 1)), none⟩,
 ⟨some 10, (.call (.f 74) [(.t 9)]), none⟩,
 ⟨some 6, (.mv (.t 10)), none⟩]
 [] [9, 10])
 (.seq
 (.seq
 (.ops [⟨some 11, (.mv (.t 5)), none⟩]
 [] [5])
 (.cond (.t 11)
 (.seq
 (.seq
 (.ops [⟨some 12, (.mv (.t 6)), none⟩]
 [] [0, 1, 6, 11])
 (.cond (.t 12)
 (.seq
 (.ops [⟨some 4, (.mv (.c (.int .i64 (0)))), none⟩]
 [] [12])
 .ret)
 .skip))
 (.seq
 (.ops [⟨some 4, (.mv (.c (.int .i64 (-1)))), none⟩]
 [] [12])
 .ret))
 .skip))
 (.seq
 (.seq
 (.ops [⟨some 13, (.mv (.t 6)), none⟩]
 [] [6, 11])
 (.cond (.t 13)
 (.seq
 (.ops [⟨some 4, (.mv (.c (.int .i64 (1)))), none⟩]
 [] [0, 1, 13])
 .ret)
 .skip))
 (.seq
 (.seq
 (.ops [⟨some 14, (.mv (.t 0)), none⟩,
 ⟨some 15, (.mv (.t 1)), none⟩,
 ⟨some 16, (.bin .lss (.t 14) (.t 15)), none⟩]
 [] [13, 14, 15])
 (.cond (.t 16)
 (.seq
 (.ops [⟨some 4, (.mv (.c (.int .i64 (-1)))), none⟩]
 [] [0, 1, 16])
 .ret)
 .skip))
 (.seq
 (.seq
 (.ops [⟨some 17, (.mv (.t 0)), none⟩,
 ⟨some 18, (.mv (.t 1)), none⟩,
 ⟨some 19, (.bin .gtr (.t 17) (.t 18)), none⟩]
 [] [0, 1, 16, 17, 18])
 (.cond (.t 19)
 (.seq
 (.ops [⟨some 4, (.mv (.c (.int .i64 (1)))), none⟩]
 [] [19])
 .ret)
 .skip))
 (.seq
 (.ops [⟨some 4, (.mv (.c (.int .i64 (0)))), none⟩]
 [] [19])
 .ret))))))))⟩
def loc62 : List Nat := []
def fg62 : List (Nat × List Nat) := [(13, [19]), (12, [19]), (11, [0, 1, 16, 17, 18]), (10, [0, 1, 16]), (9, [13, 14, 15]), (8, [0, 1, 13]), (7, [6, 11]), (6, [12]), (5, [12]), (4, [0, 1, 6, 11]), (3, [5]), (2, [9, 10]), (1, [7, 8]), (0, [4])]
theorem comp62 : compFn Try.prog loc62 (fun i => (fg62.lookup i).getD []) Try.f62 = some lit62 := by kernel_rfl

-- slices.Min[[]int,int]
def lit63 : AFn := ⟨1, [.tmp 2],
 (.seq
 (.ops [⟨some 2, (.mv (.c (.int .i64 (0)))), none⟩]
 [] [2])
 (.seq
 (.seq
 (.ops [⟨some 5, (.mv (.t 0)), none⟩,
 ⟨some 6, (.len (.t 5)), none⟩,
 ⟨some 7, (.bin .lss (.t 6) (.c (.int .i64 (1)))), none⟩]
 [] [5, 6])
 (.cond (.t 7)
 (.ops [⟨some 8, .bad, none⟩,
 ⟨none, .bad, none⟩]
 [] [7, 8])
 .skip))
 (.seq
 (.ops [⟨some 9, (.mv (.t 0)), none⟩,
 ⟨some 10, (.iad 1 (.t 9) (.c (.int .i64 (0)))), none⟩,
 ⟨some 11, (.load false 1 (.t 10)), none⟩,
 ⟨some 3, (.mv (.t 11)), none⟩]
 [] [7, 9, 10, 11])
 (.seq
 (.seq
 (.ops [⟨some 4, (.mv (.c (.int .i64 (1)))), none⟩]
 [] [])
 (.block 0
 (.loop
 (.seq
 (.seq
 (.ops [⟨some 12, (.mv (.t 4)), none⟩,
 ⟨some 13, (.mv (.t 0)), none⟩,
 ⟨some 14, (.len (.t 13)), none⟩,
 ⟨some 15, (.bin .lss (.t 12) (.t 14)), none⟩]
 [] [12, 13, 14])
 (.cond (.t 15)
 .skip
 (.exit 0)))
 (.seq
 (.block 1
 (.ops [⟨some 18, (.mv (.t 3)), none⟩,
 ⟨some 19, (.mv (.t 0)), none⟩,
 ⟨some 20, (.mv (.t 4)), none⟩,
 ⟨some 21, (.iad 1 (.t 19) (.t 20)), none⟩,
 ⟨some 22, (.load false 1 (.t 21)), none⟩,
 ⟨some 23, (.minmax false [(.t 18), (.t 22)]), none⟩,
 ⟨some 3, (.mv (.t 23)), none⟩]
 [] [15, 18, 19, 20, 21, 22, 23]))
 (.ops [⟨some 16, (.mv (.t 4)), none⟩,
 ⟨some 17, (.bin .add (.t 16) (.c (.int .i64 (1)))), none⟩,
 ⟨some 4, (.mv (.t 17)), none⟩]
 [] [16, 17]))))))
 (.seq
 (.ops [⟨some 24, (.mv (.t 3)), none⟩,
 ⟨some 2, (.mv (.t 24)), none⟩]
 [] [0, 3, 4, 15, 24])
 .ret)))))⟩
def loc63 : List Nat := []
def fg63 : List (Nat × List Nat) := [(8, [0, 3, 4, 15, 24]), (6, [16, 17]), (7, [15, 18, 19, 20, 21, 22, 23]), (5, [12, 13, 14]), (3, [7, 9, 10, 11]), (2, [7, 8]), (1, [5, 6]), (0, [2])]
theorem comp63 : compFn Try.prog loc63 (fun i => (fg63.lookup i).getD []) Try.f63 = some lit63 := by kernel_rfl

-- slices.Max[[]int,int]
def lit64 : AFn := ⟨1, [.tmp 2],
 (.seq
 (.ops [⟨some 2, (.mv (.c (.int .i64 (0)))), none⟩]
 [] [2])
 (.seq
 (.seq
 (.ops [⟨some 5, (.mv (.t 0)), none⟩,
 ⟨some 6, (.len (.t 5)), none⟩,
 ⟨some 7, (.bin .lss (.t 6) (.c (.int .i64 (1)))), none⟩]
 [] [5, 6])
 (.cond (.t 7)
 (.ops [⟨some 8, .bad, none⟩,
 ⟨none, .bad, none⟩]
 [] [7, 8])
 .skip))
 (.seq
 (.ops [⟨some 9, (.mv (.t 0)), none⟩,
 ⟨some 10, (.iad 1 (.t 9) (.c (.int .i64 (0)))), none⟩,
 ⟨some 11, (.load false 1 (.t 10)), none⟩,
 ⟨some 3, (.mv (.t 11)), none⟩]
 [] [7, 9, 10, 11])
 (.seq
 (.seq
 (.ops [⟨some 4, (.mv (.c (.int .i64 (1)))), none⟩]
 [] [])
 (.block 0
 (.loop
 (.seq
 (.seq
 (.ops [⟨some 12, (.mv (.t 4)), none⟩,
 ⟨some 13, (.mv (.t 0)), none⟩,
 ⟨some 14, (.len (.t 13)), none⟩,
 ⟨some 15, (.bin .lss (.t 12) (.t 14)), none⟩]
 [] [12, 13, 14])
 (.cond (.t 15)
 .skip
 (.exit 0)))
 (.seq
 (.block 1
 (.ops [⟨some 18, (.mv (.t 3)), none⟩,
 ⟨some 19, (.mv (.t 0)), none⟩,
 ⟨some 20, (.mv (.t 4)), none⟩,
 ⟨some 21, (.iad 1 (.t 19) (.t 20)), none⟩,
 ⟨some 22, (.load false 1 (.t 21)), none⟩,
 ⟨some 23, (.minmax true [(.t 18), (.t 22)]), none⟩,
 ⟨some 3, (.mv (.t 23)), none⟩]
 [] [15, 18, 19, 20, 21, 22, 23]))
 (.ops [⟨some 16, (.mv (.t 4)), none⟩,
 ⟨some 17, (.bin .add (.t 16) (.c (.int .i64 (1)))), none⟩,
 ⟨some 4, (.mv (.t 17)), none⟩]
 [] [16, 17]))))))
 (.seq
 (.ops [⟨some 24, (.mv (.t 3)), none⟩,
 ⟨some 2, (.mv (.t 24)), none⟩]
 [] [0, 3, 4, 15, 24])
 .ret)))))⟩
def loc64 : List Nat := []
def fg64 : List (Nat × List Nat) := [(8, [0, 3, 4, 15, 24]), (6, [16, 17]), (7, [15, 18, 19, 20, 21, 22, 23]), (5, [12, 13, 14]), (3, [7, 9, 10, 11]), (2, [7, 8]), (1, [5, 6]), (0, [2])]
theorem comp64 : compFn Try.prog loc64 (fun i => (fg64.lookup i).getD []) Try.f64 = some lit64 := by kernel_rfl

-- cmp.Or[parcener/api.Errno]
def lit65 : AFn := ⟨1, [.tmp 2],
 (.seq
 (.ops [⟨some 2, (.mv (.c (.int .i64 (0)))), none⟩]
 [] [2])
 (.seq
 (.ops [⟨some 3, (.mv (.c (.int .i64 (0)))), none⟩]
 [] [])
 (.seq
 (.seq
 (.ops [⟨some 6, (.mv (.t 0)), none⟩,
 ⟨some 7, (.len (.t 6)), none⟩,
 ⟨some 8, (.mv (.c (.int .i64 (0)))), none⟩]
 [] [0])
 (.block 0
 (.loop
 (.seq
 (.ops [⟨some 9, (.bin .lss (.t 8) (.t 7)), none⟩]
 [] [])
 (.seq
 (.cond (.t 9)
 .skip
 (.exit 0))
 (.seq
 (.block 1
 (.seq
 (.ops [⟨some 10, (.iad 1 (.t 6) (.t 8)), none⟩,
 ⟨some 11, (.load false 1 (.t 10)), none⟩,
 ⟨some 5, (.mv (.t 11)), none⟩]
 [] [9, 10, 11])
 (.seq
 (.ops [⟨some 12, (.mv (.t 5)), none⟩,
 ⟨some 13, (.mv (.t 3)), none⟩,
 ⟨some 14, (.bin .neq (.t 12) (.t 13)), none⟩]
 [] [12, 13])
 (.cond (.t 14)
 (.seq
 (.ops [⟨some 15, (.mv (.t 5)), none⟩,
 ⟨some 2, (.mv (.t 15)), none⟩]
 [] [3, 5, 6, 7, 8, 14, 15])
 .ret)
 .skip))))
 (.ops [⟨some 16, (.bin .add (.t 8) (.c (.int .i64 (1)))), none⟩,
 ⟨some 8, (.mv (.t 16)), none⟩]
 [] [5, 14, 16])))))))
 (.seq
 (.ops [⟨some 17, (.mv (.t 3)), none⟩,
 ⟨some 2, (.mv (.t 17)), none⟩]
 [] [3, 6, 7, 8, 9, 17])
 .ret))))⟩
def loc65 : List Nat := []
def fg65 : List (Nat × List Nat) := [(8, [3, 6, 7, 8, 9, 17]), (7, [5, 14, 16]), (6, [3, 5, 6, 7, 8, 14, 15]), (5, [12, 13]), (4, [9, 10, 11]), (2, [0]), (0, [2])]
theorem comp65 : compFn Try.prog loc65 (fun i => (fg65.lookup i).getD []) Try.f65 = some lit65 := by kernel_rfl

-- math/bits.Rem64
def lit68 : AFn := ⟨3, [.tmp 6],
 (.seq
 (.ops [⟨some 6, (.mv (.c (.int .u64 (0)))), none⟩]
 [] [6])
 (.seq
 (.ops [⟨some 10, (.mv (.t 0)), none⟩,
 ⟨some 11, (.mv (.t 2)), none⟩,
 ⟨some 12, (.bin .rem (.t 10) (.t 11)), none⟩,
 ⟨some 13, (.mv (.t 1)), none⟩,
 ⟨some 14, (.mv (.t 2)), none⟩,
 ⟨some 15, (.call (.f 69) [(.t 12), (.t 13), (.t 14)]), none⟩,
 ⟨some 9, (.mv (.t 15)), none⟩,
 ⟨some 16, (.ext (.t 9) 0), none⟩,
 ⟨some 17, (.ext (.t 9) 1), none⟩,
 ⟨some 7, (.mv (.t 16)), none⟩,
 ⟨some 8, (.mv (.t 17)), none⟩]
 [] [0, 1, 2, 7, 9, 10, 11, 12, 13, 14, 15, 16, 17])
 (.seq
 (.ops [⟨some 18, (.mv (.t 8)), none⟩,
 ⟨some 6, (.mv (.t 18)), none⟩]
 [] [8, 18])
 .ret)))⟩
def loc68 : List Nat := []
def fg68 : List (Nat × List Nat) := [(2, [8, 18]), (1, [0, 1, 2, 7, 9, 10, 11, 12, 13, 14, 15, 16, 17]), (0, [6])]
theorem comp68 : compFn Try.prog loc68 (fun i => (fg68.lookup i).getD []) Try.f68 = some lit68 := by kernel_rfl

-- math/bits.Div64
def lit69 : AFn := ⟨3, [.tmp 6, .tmp 7],
 (.seq
 (.ops [⟨some 6, (.mv (.c (.int .u64 (0)))), none⟩,
 ⟨some 7, (.mv (.c (.int .u64 (0)))), none⟩]
 [] [6, 7])
 (.seq
 (.seq
 (.ops [⟨some 19, (.mv (.t 2)), none⟩,
 ⟨some 20, (.bin .eql (.t 19) (.c (.int .u64 (0)))), none⟩]
 [] [19])
 (.cond (.t 20)
 (.ops [⟨some 21, (.load false 1 (.g 0)), none⟩,
 ⟨none, .bad, none⟩]
 [] [20, 21])
 .skip))
 (.seq
 (.seq
 (.ops [⟨some 22, (.mv (.t 2)), none⟩,
 ⟨some 23, (.mv (.t 0)), none⟩,
 ⟨some 24, (.bin .leq (.t 22) (.t 23)), none⟩]
 [] [20, 22, 23])
 (.cond (.t 24)
 (.ops [⟨some 25, (.load false 1 (.g 1)), none⟩,
 ⟨none, .bad, none⟩]
 [] [24, 25])
 .skip))
 (.seq
 (.seq
 (.ops [⟨some 26, (.mv (.t 0)), none⟩,
 ⟨some 27, (.bin .eql (.t 26) (.c (.int .u64 (0)))), none⟩]
 [] [24, 26])
 (.cond (.t 27)
 (.seq
 (.ops [⟨some 28, (.mv (.t 1)), none⟩,
 ⟨some 29, (.mv (.t 2)), none⟩,
 ⟨some 30, (.bin .quo (.t 28) (.t 29)), none⟩,
 ⟨some 31, (.mv (.t 1)), none⟩,
 ⟨some 32, (.mv (.t 2)), none⟩,
 ⟨some 33, (.bin .rem (.t 31) (.t 32)), none⟩,
 ⟨some 6, (.mv (.t 30)), none⟩,
 ⟨some 7, (.mv (.t 33)), none⟩]
 [(0, 1), (0, 3), (1, 3), (2, 3), (0, 4), (1, 4), (2, 4), (3, 4), (0, 5), (1, 5), (2, 5), (3, 6), (4, 6), (5, 6)] [0, 1, 2, 27, 28, 29, 30, 31, 32, 33])
 .ret)
 .skip))
 (.seq
 (.ops [⟨some 34, (.mv (.t 2)), none⟩,
 ⟨some 35, (.call (.f 75) [(.t 34)]), none⟩,
 ⟨some 36, (.conv .u64 (.t 35)), none⟩,
 ⟨some 8, (.mv (.t 36)), none⟩]
 [] [27, 34, 35, 36])
 (.seq
 (.ops [⟨some 37, (.mv (.t 2)), none⟩,
 ⟨some 38, (.mv (.t 8)), none⟩,
 ⟨some 39, (.bin .shl (.t 37) (.t 38)), none⟩,
 ⟨some 2, (.mv (.t 39)), none⟩]
 [] [37, 38, 39])
 (.seq
 (.ops [⟨some 40, (.mv (.t 2)), none⟩,
 ⟨some 41, (.bin .shr (.t 40) (.c (.int .u64 (32)))), none⟩,
 ⟨some 9, (.mv (.t 41)), none⟩]
 [] [40, 41])
 (.seq
 (.ops [⟨some 42, (.mv (.t 2)), none⟩,
 ⟨some 43, (.bin .and (.t 42) (.c (.int .u64 (4294967295)))), none⟩,
 ⟨some 10, (.mv (.t 43)), none⟩]
 [] [42, 43])
 (.seq
 (.ops [⟨some 44, (.mv (.t 0)), none⟩,
 ⟨some 45, (.mv (.t 8)), none⟩,
 ⟨some 46, (.bin .shl (.t 44) (.t 45)), none⟩,
 ⟨some 47, (.mv (.t 1)), none⟩,
 ⟨some 48, (.mv (.t 8)), none⟩,
 ⟨some 49, (.bin .sub (.c (.int .u64 (64))) (.t 48)), none⟩,
 ⟨some 50, (.bin .shr (.t 47) (.t 49)), none⟩,
 ⟨some 51, (.bin .or (.t 46) (.t 50)), none⟩,
 ⟨some 11, (.mv (.t 51)), none⟩]
 [] [0, 44, 45, 46, 47, 48, 49, 50, 51])
 (.seq
 (.ops [⟨some 52, (.mv (.t 1)), none⟩,
 ⟨some 53, (.mv (.t 8)), none⟩,
 ⟨some 54, (.bin .shl (.t 52) (.t 53)), none⟩,
 ⟨some 12, (.mv (.t 54)), none⟩]
 [] [1, 52, 53, 54])
 (.seq
 (.ops [⟨some 55, (.mv (.t 12)), none⟩,
 ⟨some 56, (.bin .shr (.t 55) (.c (.int .u64 (32)))), none⟩,
 ⟨some 13, (.mv (.t 56)), none⟩]
 [] [55, 56])
 (.seq
 (.ops [⟨some 57, (.mv (.t 12)), none⟩,
 ⟨some 58, (.bin .and (.t 57) (.c (.int .u64 (4294967295)))), none⟩,
 ⟨some 14, (.mv (.t 58)), none⟩]
 [] [12, 57, 58])
 (.seq
 (.ops [⟨some 59, (.mv (.t 11)), none⟩,
 ⟨some 60, (.mv (.t 9)), none⟩,
 ⟨some 61, (.bin .quo (.t 59) (.t 60)), none⟩,
 ⟨some 15, (.mv (.t 61)), none⟩]
 [] [59, 60, 61])
 (.seq
 (.ops [⟨some 62, (.mv (.t 11)), none⟩,
 ⟨some 63, (.mv (.t 15)), none⟩,
 ⟨some 64, (.mv (.t 9)), none⟩,
 ⟨some 65, (.bin .mul (.t 63) (.t 64)), none⟩,
 ⟨some 66, (.bin .sub (.t 62) (.t 65)), none⟩,
 ⟨some 16, (.mv (.t 66)), none⟩]
 [] [62, 63, 64, 65, 66])
 (.seq
 (.block 0
 (.loop
 (.seq
 (.seq
 (.ops [⟨some 67, (.mv (.t 15)), none⟩,
 ⟨some 68, (.bin .geq (.t 67) (.c (.int .u64 (4294967296)))), none⟩,
 ⟨some 69, (.mv (.t 68)), none⟩,
 ⟨some 70, (.mv (.t 15)), some (69, false)⟩,
 ⟨some 71, (.mv (.t 10)), some (69, false)⟩,
 ⟨some 72, (.bin .mul (.t 70) (.t 71)), some (69, false)⟩,
 ⟨some 73, (.mv (.t 16)), some (69, false)⟩,
 ⟨some 74, (.bin .mul (.c (.int .u64 (4294967296))) (.t 73)), some (69, false)⟩,
 ⟨some 75, (.mv (.t 13)), some (69, false)⟩,
 ⟨some 76, (.bin .add (.t 74) (.t 75)), some (69, false)⟩,
 ⟨some 77, (.bin .gtr (.t 72) (.t 76)), some (69, false)⟩,
 ⟨some 78, (.pick (.t 69) (.c (.bool true)) (.t 77)), none⟩]
 [] [67, 68, 69, 70, 71, 72, 73, 74, 75, 76, 77, 85])
 (.cond (.t 78)
 .skip
 (.exit 0)))
 (.block 1
 (.seq
 (.ops [⟨some 79, (.mv (.t 15)), none⟩,
 ⟨some 80, (.bin .sub (.t 79) (.c (.int .u64 (1)))), none⟩,
 ⟨some 15, (.mv (.t 80)), none⟩]
 [] [78, 79, 80])
 (.seq
 (.ops [⟨some 81, (.mv (.t 16)), none⟩,
 ⟨some 82, (.mv (.t 9)), none⟩,
 ⟨some 83, (.bin .add (.t 81) (.t 82)), none⟩,
 ⟨some 16, (.mv (.t 83)), none⟩]
 [] [81, 82, 83])
 (.seq
 (.ops [⟨some 84, (.mv (.t 16)), none⟩,
 ⟨some 85, (.bin .geq (.t 84) (.c (.int .u64 (4294967296)))), none⟩]
 [] [84])
 (.cond (.t 85)
 (.exit 0)
 .skip))))))))
 (.seq
 (.ops [⟨some 86, (.mv (.t 11)), none⟩,
 ⟨some 87, (.bin .mul (.t 86) (.c (.int .u64 (4294967296)))), none⟩,
 ⟨some 88, (.mv (.t 13)), none⟩,
 ⟨some 89, (.bin .add (.t 87) (.t 88)), none⟩,
 ⟨some 90, (.mv (.t 15)), none⟩,
 ⟨some 91, (.mv (.t 2)), none⟩,
 ⟨some 92, (.bin .mul (.t 90) (.t 91)), none⟩,
 ⟨some 93, (.bin .sub (.t 89) (.t 92)), none⟩,
 ⟨some 17, (.mv (.t 93)), none⟩]
 [] [11, 13, 16, 78, 85, 86, 87, 88, 89, 90, 91, 92, 93])
 (.seq
 (.ops [⟨some 94, (.mv (.t 17)), none⟩,
 ⟨some 95, (.mv (.t 9)), none⟩,
 ⟨some 96, (.bin .quo (.t 94) (.t 95)), none⟩,
 ⟨some 18, (.mv (.t 96)), none⟩]
 [] [94, 95, 96])
 (.seq
 (.ops [⟨some 97, (.mv (.t 17)), none⟩,
 ⟨some 98, (.mv (.t 18)), none⟩,
 ⟨some 99, (.mv (.t 9)), none⟩,
 ⟨some 100, (.bin .mul (.t 98) (.t 99)), none⟩,
 ⟨some 101, (.bin .sub (.t 97) (.t 100)), none⟩,
 ⟨some 16, (.mv (.t 101)), none⟩]
 [] [97, 98, 99, 100, 101])
 (.seq
 (.block 2
 (.loop
 (.seq
 (.seq
 (.ops [⟨some 102, (.mv (.t 18)), none⟩,
 ⟨some 103, (.bin .geq (.t 102) (.c (.int .u64 (4294967296)))), none⟩,
 ⟨some 104, (.mv (.t 103)), none⟩,
 ⟨some 105, (.mv (.t 18)), some (104, false)⟩,
 ⟨some 106, (.mv (.t 10)), some (104, false)⟩,
 ⟨some 107, (.bin .mul (.t 105) (.t 106)), some (104, false)⟩,
 ⟨some 108, (.mv (.t 16)), some (104, false)⟩,
 ⟨some 109, (.bin .mul (.c (.int .u64 (4294967296))) (.t 108)), some (104, false)⟩,
 ⟨some 110, (.mv (.t 14)), some (104, false)⟩,
 ⟨some 111, (.bin .add (.t 109) (.t 110)), some (104, false)⟩,
 ⟨some 112, (.bin .gtr (.t 107) (.t 111)), some (104, false)⟩,
 ⟨some 113, (.pick (.t 104) (.c (.bool true)) (.t 112)), none⟩]
 [] [102, 103, 104, 105, 106, 107, 108, 109, 110, 111, 112, 120])
 (.cond (.t 113)
 .skip
 (.exit 2)))
 (.block 3
 (.seq
 (.ops [⟨some 114, (.mv (.t 18)), none⟩,
 ⟨some 115, (.bin .sub (.t 114) (.c (.int .u64 (1)))), none⟩,
 ⟨some 18, (.mv (.t 115)), none⟩]
 [] [113, 114, 115])
 (.seq
 (.ops [⟨some 116, (.mv (.t 16)), none⟩,
 ⟨some 117, (.mv (.t 9)), none⟩,
 ⟨some 118, (.bin .add (.t 116) (.t 117)), none⟩,
 ⟨some 16, (.mv (.t 118)), none⟩]
 [] [116, 117, 118])
 (.seq
 (.ops [⟨some 119, (.mv (.t 16)), none⟩,
 ⟨some 120, (.bin .geq (.t 119) (.c (.int .u64 (4294967296)))), none⟩]
 [] [119])
 (.cond (.t 120)
 (.exit 2)
 .skip))))))))
 (.seq
 (.ops [⟨some 121, (.mv (.t 15)), none⟩,
 ⟨some 122, (.bin .mul (.t 121) (.c (.int .u64 (4294967296)))), none⟩,
 ⟨some 123, (.mv (.t 18)), none⟩,
 ⟨some 124, (.bin .add (.t 122) (.t 123)), none⟩,
 ⟨some 125, (.mv (.t 17)), none⟩,
 ⟨some 126, (.bin .mul (.t 125) (.c (.int .u64 (4294967296)))), none⟩,
 ⟨some 127, (.mv (.t 14)), none⟩,
 ⟨some 128, (.bin .add (.t 126) (.t 127)), none⟩,
 ⟨some 129, (.mv (.t 18)), none⟩,
 ⟨some 130, (.mv (.t 2)), none⟩,
 ⟨some 131, (.bin .mul (.t 129) (.t 130)), none⟩,
 ⟨some 132, (.bin .sub (.t 128) (.t 131)), none⟩,
 ⟨some 133, (.mv (.t 8)), none⟩,
 ⟨some 134, (.bin .shr (.t 132) (.t 133)), none⟩,
 ⟨some 6, (.mv (.t 124)), none⟩,
 ⟨some 7, (.mv (.t 134)), none⟩]
 [] [2, 8, 9, 10, 14, 15, 16, 17, 18, 113, 120, 121, 122, 123, 124, 125, 126, 127, 128, 129, 130, 131, 132, 133, 134])
 .ret))))))))))))))))))))⟩
def loc69 : List Nat := []
def fg69 : List (Nat × List Nat) := [(28, [2, 8, 9, 10, 14, 15, 16, 17, 18, 113, 120, 121, 122, 123, 124, 125, 126, 127, 128, 129, 130, 131, 132, 133, 134]), (27, [119]), (26, [116, 117, 118]), (25, [113, 114, 115]), (24, [102, 103, 104, 105, 106, 107, 108, 109, 110, 111, 112, 120]), (23, [97, 98, 99, 100, 101]), (22, [94, 95, 96]), (21, [11, 13, 16, 78, 85, 86, 87, 88, 89, 90, 91, 92, 93]), (20, [84]), (19, [81, 82, 83]), (18, [78, 79, 80]), (17, [67, 68, 69, 70, 71, 72, 73, 74, 75, 76, 77, 85]), (16, [62, 63, 64, 65, 66]), (15, [59, 60, 61]), (14, [12, 57, 58]), (13, [55, 56]), (12, [1, 52, 53, 54]), (11, [0, 44, 45, 46, 47, 48, 49, 50, 51]), (10, [42, 43]), (9, [40, 41]), (8, [37, 38, 39]), (7, [27, 34, 35, 36]), (6, [0, 1, 2, 27, 28, 29, 30, 31, 32, 33]), (5, [24, 26]), (4, [24, 25]), (3, [20, 22, 23]), (2, [20, 21]), (1, [19]), (0, [6, 7])]
theorem comp69 : compFn Try.prog loc69 (fun i => (fg69.lookup i).getD []) Try.f69 = some lit69 := by kernel_rfl

-- slices.AppendSeq[[]int,int]
def lit70 : AFn := ⟨2, [.tmp 4],
 (.seq
 (.ops [⟨some 2, (.boxH false 1 (.t 0)), none⟩,
 ⟨some 4, (.mv (.c .nils)), none⟩]
 [] [0])
 (.seq
 (.seq
 (.ops [⟨some 6, (.mv (.t 1)), none⟩]
 [] [1])
 (.block 0
 (.rangeF (.t 6) [7]
 (.ops [⟨some 5, (.mv (.t 7)), none⟩]
 [] [4, 6, 7])
 (.block 1
 (.ops [⟨some 8, (.load false 1 (.t 2)), none⟩,
 ⟨some 9, (.mv (.t 5)), none⟩,
 ⟨some 10, (.buildD 1 (.int .i64 (0)) 1 [(0, (.t 9))]), none⟩,
 ⟨some 11, (.app true 1 8 (.t 8) (.t 10)), none⟩,
 ⟨none, (.store 1 (.t 2) (.t 11)), none⟩]
 [] [2, 5, 8, 9, 10, 11])))))
 (.seq
 (.ops [⟨some 12, (.load false 1 (.t 2)), none⟩,
 ⟨some 4, (.mv (.t 12)), none⟩]
 [] [2, 6, 12])
 .ret)))⟩
def loc70 : List Nat := [10, 1000002]
def fg70 : List (Nat × List Nat) := [(4, [2, 6, 12]), (3, [2, 5, 8, 9, 10, 11]), (2, [4, 6, 7]), (1, [1]), (0, [0])]
theorem comp70 : compFn Try.prog loc70 (fun i => (fg70.lookup i).getD []) Try.f70 = some lit70 := by kernel_rfl

-- slices.pdqsortOrdered[int]
def lit71 : AFn := ⟨4, [],
 (.seq
 (.ops [⟨some 8, (.mv (.c (.bool true))), none⟩]
 [] [])
 (.seq
 (.ops [⟨some 9, (.mv (.c (.bool true))), none⟩]
 [] [])
 (.block 0
 (.loop
 (.block 1
 (.seq
 (.ops [⟨some 19, (.mv (.t 2)), none⟩,
 ⟨some 20, (.mv (.t 1)), none⟩,
 ⟨some 21, (.bin .sub (.t 19) (.t 20)), none⟩,
 ⟨some 10, (.mv (.t 21)), none⟩]
 [] [19, 20, 21])
 (.seq
 (.seq
 (.ops [⟨some 22, (.mv (.t 10)), none⟩,
 ⟨some 23, (.bin .leq (.t 22) (.c (.int .i64 (12)))), none⟩]
 [] [22])
 (.cond (.t 23)
 (.seq
 (.ops [⟨some 24, (.mv (.t 0)), none⟩,
 ⟨some 25, (.mv (.t 1)), none⟩,
 ⟨some 26, (.mv (.t 2)), none⟩,
 ⟨some 27, (.call (.f 76) [(.t 24), (.t 25), (.t 26)]), none⟩]
 [] [0, 1, 2, 3, 8, 9, 10, 23, 24, 25, 26, 27])
 .ret)
 .skip))
 (.seq
 (.seq
 (.ops [⟨some 28, (.mv (.t 3)), none⟩,
 ⟨some 29, (.bin .eql (.t 28) (.c (.int .i64 (0)))), none⟩]
 [] [23, 28])
 (.cond (.t 29)
 (.seq
 (.ops [⟨some 30, (.mv (.t 0)), none⟩,
 ⟨some 31, (.mv (.t 1)), none⟩,
 ⟨some 32, (.mv (.t 2)), none⟩,
 ⟨some 33, (.call (.f 77) [(.t 30), (.t 31), (.t 32)]), none⟩]
 [] [0, 1, 2, 3, 8, 9, 10, 29, 30, 31, 32, 33])
 .ret)
 .skip))
 (.seq
 (.seq
 (.ops [⟨some 34, (.mv (.t 8)), none⟩,
 ⟨some 35, (.un .not (.t 34)), none⟩]
 [] [29, 34])
 (.cond (.t 35)
 (.seq
 (.ops [⟨some 36, (.mv (.t 0)), none⟩,
 ⟨some 37, (.mv (.t 1)), none⟩,
 ⟨some 38, (.mv (.t 2)), none⟩,
 ⟨some 39, (.call (.f 78) [(.t 36), (.t 37), (.t 38)]), none⟩]
 [] [35, 36, 37, 38, 39])
 (.ops [⟨some 40, (.mv (.t 3)), none⟩,
 ⟨some 41, (.bin .sub (.t 40) (.c (.int .i64 (1)))), none⟩,
 ⟨some 3, (.mv (.t 41)), none⟩]
 [] [40, 41]))
 .skip))
 (.seq
 (.ops [⟨some 43, (.mv (.t 0)), none⟩,
 ⟨some 44, (.mv (.t 1)), none⟩,
 ⟨some 45, (.mv (.t 2)), none⟩,
 ⟨some 46, (.call (.f 79) [(.t 43), (.t 44), (.t 45)]), none⟩,
 ⟨some 42, (.mv (.t 46)), none⟩,
 ⟨some 47, (.ext (.t 42) 0), none⟩,
 ⟨some 48, (.ext (.t 42) 1), none⟩,
 ⟨some 11, (.mv (.t 47)), none⟩,
 ⟨some 12, (.mv (.t 48)), none⟩]
 [] [35, 42, 43, 44, 45, 46, 47, 48])
 (.seq
 (.seq
 (.ops [⟨some 49, (.mv (.t 12)), none⟩,
 ⟨some 50, (.bin .eql (.t 49) (.c (.int .i64 (2)))), none⟩]
 [] [49])
 (.cond (.t 50)
 (.seq
 (.ops [⟨some 51, (.mv (.t 0)), none⟩,
 ⟨some 52, (.mv (.t 1)), none⟩,
 ⟨some 53, (.mv (.t 2)), none⟩,
 ⟨some 54, (.call (.f 80) [(.t 51), (.t 52), (.t 53)]), none⟩]
 [] [12, 50, 51, 52, 53, 54])
 (.seq
 (.ops [⟨some 55, (.mv (.t 2)), none⟩,
 ⟨some 56, (.bin .sub (.t 55) (.c (.int .i64 (1)))), none⟩,
 ⟨some 57, (.mv (.t 11)), none⟩,
 ⟨some 58, (.mv (.t 1)), none⟩,
 ⟨some 59, (.bin .sub (.t 57) (.t 58)), none⟩,
 ⟨some 60, (.bin .sub (.t 56) (.t 59)), none⟩,
 ⟨some 11, (.mv (.t 60)), none⟩]
 [] [55, 56, 57, 58, 59, 60])
 (.ops [⟨some 12, (.mv (.c (.int .i64 (1)))), none⟩]
 [] [])))
 .skip))
 (.seq
 (.seq
 (.ops [⟨some 61, (.mv (.t 8)), none⟩,
 ⟨some 62, (.mv (.t 61)), none⟩,
 ⟨some 63, (.mv (.t 9)), some (62, true)⟩,
 ⟨some 64, (.pick (.t 62) (.t 63) (.c (.bool false))), none⟩,
 ⟨some 65, (.mv (.t 64)), none⟩,
 ⟨some 66, (.mv (.t 12)), some (65, true)⟩,
 ⟨some 67, (.bin .eql (.t 66) (.c (.int .i64 (1)))), some (65, true)⟩,
 ⟨some 68, (.pick (.t 65) (.t 67) (.c (.bool false))), none⟩]
 [] [12, 50, 61, 62, 63, 64, 65, 66, 67])
 (.cond (.t 68)
 (.seq
 (.ops [⟨some 69, (.mv (.t 0)), none⟩,
 ⟨some 70, (.mv (.t 1)), none⟩,
 ⟨some 71, (.mv (.t 2)), none⟩,
 ⟨some 72, (.call (.f 81) [(.t 69), (.t 70), (.t 71)]), none⟩]
 [] [68, 69, 70, 71])
 (.cond (.t 72)
 .ret
 .skip))
 .skip))
 (.seq
 (.seq
 (.ops [⟨some 73, (.mv (.t 1)), none⟩,
 ⟨some 74, (.bin .gtr (.t 73) (.c (.int .i64 (0)))), none⟩,
 ⟨some 75, (.mv (.t 74)), none⟩,
 ⟨some 76, (.mv (.t 0)), some (75, true)⟩,
 ⟨some 77, (.mv (.t 1)), some (75, true)⟩,
 ⟨some 78, (.bin .sub (.t 77) (.c (.int .i64 (1)))), some (75, true)⟩,
 ⟨some 79, (.iad 1 (.t 76) (.t 78)), some (75, true)⟩,
 ⟨some 80, (.load false 1 (.t 79)), some (75, true)⟩,
 ⟨some 81, (.mv (.t 0)), some (75, true)⟩,
 ⟨some 82, (.mv (.t 11)), some (75, true)⟩,
 ⟨some 83, (.iad 1 (.t 81) (.t 82)), some (75, true)⟩,
 ⟨some 84, (.load false 1 (.t 83)), some (75, true)⟩,
 ⟨some 85, (.call (.f 82) [(.t 80), (.t 84)]), some (75, true)⟩,
 ⟨some 86, (.un .not (.t 85)), some (75, true)⟩,
 ⟨some 87, (.pick (.t 75) (.t 86) (.c (.bool false))), none⟩]
 [(3, 4), (3, 5), (3, 8), (4, 8), (5, 8), (6, 8), (7, 8), (3, 9), (4, 9), (5, 9), (6, 9), (7, 9), (8, 9), (3, 10), (4, 10), (5, 10), (6, 10), (7, 10), (3, 11), (4, 11), (5, 11), (6, 11), (7, 11)] [68, 72, 73, 74, 75, 76, 77, 78, 79, 80, 81, 82, 83, 84, 85, 86])
 (.cond (.t 87)
 (.seq
 (.ops [⟨some 88, (.mv (.t 0)), none⟩,
 ⟨some 89, (.mv (.t 1)), none⟩,
 ⟨some 90, (.mv (.t 2)), none⟩,
 ⟨some 91, (.mv (.t 11)), none⟩,
 ⟨some 92, (.call (.f 83) [(.t 88), (.t 89), (.t 90), (.t 91)]), none⟩,
 ⟨some 13, (.mv (.t 92)), none⟩]
 [] [1, 10, 11, 87, 88, 89, 90, 91, 92])
 (.seq
 (.ops [⟨some 93, (.mv (.t 13)), none⟩,
 ⟨some 1, (.mv (.t 93)), none⟩]
 [] [13, 93])
 (.exit 1)))
 .skip))
 (.seq
 (.ops [⟨some 95, (.mv (.t 0)), none⟩,
 ⟨some 96, (.mv (.t 1)), none⟩,
 ⟨some 97, (.mv (.t 2)), none⟩,
 ⟨some 98, (.mv (.t 11)), none⟩,
 ⟨some 99, (.call (.f 84) [(.t 95), (.t 96), (.t 97), (.t 98)]), none⟩,
 ⟨some 94, (.mv (.t 99)), none⟩,
 ⟨some 100, (.ext (.t 94) 0), none⟩,
 ⟨some 101, (.ext (.t 94) 1), none⟩,
 ⟨some 14, (.mv (.t 100)), none⟩,
 ⟨some 15, (.mv (.t 101)), none⟩]
 [] [8, 9, 11, 87, 94, 95, 96, 97, 98, 99, 100, 101])
 (.seq
 (.ops [⟨some 102, (.mv (.t 15)), none⟩,
 ⟨some 9, (.mv (.t 102)), none⟩]
 [] [15, 102])
 (.seq
 (.ops [⟨some 103, (.mv (.t 14)), none⟩,
 ⟨some 104, (.mv (.t 1)), none⟩,
 ⟨some 105, (.bin .sub (.t 103) (.t 104)), none⟩,
 ⟨some 106, (.mv (.t 2)), none⟩,
 ⟨some 107, (.mv (.t 14)), none⟩,
 ⟨some 108, (.bin .sub (.t 106) (.t 107)), none⟩,
 ⟨some 16, (.mv (.t 105)), none⟩,
 ⟨some 17, (.mv (.t 108)), none⟩]
 [] [103, 104, 105, 106, 107, 108])
 (.seq
 (.ops [⟨some 109, (.mv (.t 10)), none⟩,
 ⟨some 110, (.bin .quo (.t 109) (.c (.int .i64 (8)))), none⟩,
 ⟨some 18, (.mv (.t 110)), none⟩]
 [] [10, 109, 110])
 (.seq
 (.ops [⟨some 111, (.mv (.t 16)), none⟩,
 ⟨some 112, (.mv (.t 17)), none⟩,
 ⟨some 113, (.bin .lss (.t 111) (.t 112)), none⟩]
 [] [111, 112])
 (.cond (.t 113)
 (.seq
 (.ops [⟨some 114, (.mv (.t 16)), none⟩,
 ⟨some 115, (.mv (.t 18)), none⟩,
 ⟨some 116, (.bin .geq (.t 114) (.t 115)), none⟩,
 ⟨some 8, (.mv (.t 116)), none⟩]
 [] [16, 17, 18, 113, 114, 115, 116])
 (.seq
 (.ops [⟨some 117, (.mv (.t 0)), none⟩,
 ⟨some 118, (.mv (.t 1)), none⟩,
 ⟨some 119, (.mv (.t 14)), none⟩,
 ⟨some 120, (.mv (.t 3)), none⟩,
 ⟨some 121, (.call (.f 71) [(.t 117), (.t 118), (.t 119), (.t 120)]), none⟩]
 [] [1, 117, 118, 119, 120, 121])
 (.ops [⟨some 122, (.mv (.t 14)), none⟩,
 ⟨some 123, (.bin .add (.t 122) (.c (.int .i64 (1)))), none⟩,
 ⟨some 1, (.mv (.t 123)), none⟩]
 [] [14, 122, 123])))
 (.seq
 (.ops [⟨some 124, (.mv (.t 17)), none⟩,
 ⟨some 125, (.mv (.t 18)), none⟩,
 ⟨some 126, (.bin .geq (.t 124) (.t 125)), none⟩,
 ⟨some 8, (.mv (.t 126)), none⟩]
 [] [16, 17, 18, 113, 124, 125, 126])
 (.seq
 (.ops [⟨some 127, (.mv (.t 0)), none⟩,
 ⟨some 128, (.mv (.t 14)), none⟩,
 ⟨some 129, (.bin .add (.t 128) (.c (.int .i64 (1)))), none⟩,
 ⟨some 130, (.mv (.t 2)), none⟩,
 ⟨some 131, (.mv (.t 3)), none⟩,
 ⟨some 132, (.call (.f 71) [(.t 127), (.t 129), (.t 130), (.t 131)]), none⟩]
 [] [2, 127, 128, 129, 130, 131, 132])
 (.ops [⟨some 133, (.mv (.t 14)), none⟩,
 ⟨some 2, (.mv (.t 133)), none⟩]
 [] [14, 133]))))))))))))))))))))))⟩
def loc71 : List Nat := []
def fg71 : List (Nat × List Nat) := [(30, [14, 133]), (29, [2, 127, 128, 129, 130, 131, 132]), (28, [16, 17, 18, 113, 124, 125, 126]), (27, [14, 122, 123]), (26, [1, 117, 118, 119, 120, 121]), (25, [16, 17, 18, 113, 114, 115, 116]), (24, [111, 112]), (23, [10, 109, 110]), (22, [103, 104, 105, 106, 107, 108]), (21, [15, 102]), (20, [8, 9, 11, 87, 94, 95, 96, 97, 98, 99, 100, 101]), (19, [13, 93]), (18, [1, 10, 11, 87, 88, 89, 90, 91, 92]), (17, [68, 72, 73, 74, 75, 76, 77, 78, 79, 80, 81, 82, 83, 84, 85, 86]), (16, [68, 69, 70, 71]), (15, [12, 50, 61, 62, 63, 64, 65, 66, 67]), (13, [55, 56, 57, 58, 59, 60]), (12, [12, 50, 51, 52, 53, 54]), (11, [49]), (10, [35, 42, 43, 44, 45, 46, 47, 48]), (9, [40, 41]), (8, [35, 36, 37, 38, 39]), (7, [29, 34]), (6, [0, 1, 2, 3, 8, 9, 10, 29, 30, 31, 32, 33]), (5, [23, 28]), (4, [0, 1, 2, 3, 8, 9, 10, 23, 24, 25, 26, 27]), (3, [22]), (2, [19, 20, 21])]
theorem comp71 : compFn Try.prog loc71 (fun i => (fg71.lookup i).getD []) Try.f71 = some lit71 := by kernel_rfl

-- math/bits.Len
def lit72 : AFn := ⟨1, [.tmp 2],
 (.seq
 (.ops [⟨some 2, (.mv (.c (.int .i64 (0)))), none⟩]
 [] [2])
 (.seq
 (.cond (.c (.bool false))
 (.seq
 (.ops [⟨some 3, (.mv (.t 0)), none⟩,
 ⟨some 4, (.conv .u32 (.t 3)), none⟩,
 ⟨some 5, (.call (.f 85) [(.t 4)]), none⟩,
 ⟨some 2, (.mv (.t 5)), none⟩]
 [] [0, 3, 4, 5])
 .ret)
 .skip)
 (.seq
 (.ops [⟨some 6, (.mv (.t 0)), none⟩,
 ⟨some 7, (.call (.f 86) [(.t 6)]), none⟩,
 ⟨some 2, (.mv (.t 7)), none⟩]
 [] [0, 6, 7])
 .ret)))⟩
def loc72 : List Nat := []
def fg72 : List (Nat × List Nat) := [(2, [0, 6, 7]), (1, [0, 3, 4, 5]), (0, [2])]
theorem comp72 : compFn Try.prog loc72 (fun i => (fg72.lookup i).getD []) Try.f72 = some lit72 := by kernel_rfl

-- cmp.isNaN[uint64]
def lit74 : AFn := ⟨1, [.tmp 2],
 (.seq
 (.ops [⟨some 2, (.mv (.c (.bool false))), none⟩]
 [] [2])
 (.seq
 (.ops [⟨some 3, (.mv (.t 0)), none⟩,
 ⟨some 4, (.mv (.t 0)), none⟩,
 ⟨some 5, (.bin .neq (.t 3) (.t 4)), none⟩,
 ⟨some 2, (.mv (.t 5)), none⟩]
 [] [0, 3, 4, 5])
 .ret))⟩
def loc74 : List Nat := []
def fg74 : List (Nat × List Nat) := [(1, [0, 3, 4, 5]), (0, [2])]
theorem comp74 : compFn Try.prog loc74 (fun i => (fg74.lookup i).getD []) Try.f74 = some lit74 := by kernel_rfl

-- slices.insertionSortOrdered[int]
def lit76 : AFn := ⟨3, [],
 (.seq
 (.ops [⟨some 8, (.mv (.t 1)), none⟩,
 ⟨some 9, (.bin .add (.t 8) (.c (.int .i64 (1)))), none⟩,
 ⟨some 6, (.mv (.t 9)), none⟩]
 [] [8, 9])
 (.block 0
 (.loop
 (.seq
 (.seq
 (.ops [⟨some 10, (.mv (.t 6)), none⟩,
 ⟨some 11, (.mv (.t 2)), none⟩,
 ⟨some 12, (.bin .lss (.t 10) (.t 11)), none⟩]
 [] [10, 11])
 (.cond (.t 12)
 .skip
 (.exit 0)))
 (.seq
 (.block 1
 (.seq
 (.ops [⟨some 15, (.mv (.t 6)), none⟩,
 ⟨some 7, (.mv (.t 15)), none⟩]
 [] [12, 15])
 (.block 2
 (.loop
 (.seq
 (.seq
 (.ops [⟨some 16, (.mv (.t 7)), none⟩,
 ⟨some 17, (.mv (.t 1)), none⟩,
 ⟨some 18, (.bin .gtr (.t 16) (.t 17)), none⟩,
 ⟨some 19, (.mv (.t 18)), none⟩,
 ⟨some 20, (.mv (.t 0)), some (19, true)⟩,
 ⟨some 21, (.mv (.t 7)), some (19, true)⟩,
 ⟨some 22, (.iad 1 (.t 20) (.t 21)), some (19, true)⟩,
 ⟨some 23, (.load false 1 (.t 22)), some (19, true)⟩,
 ⟨some 24, (.mv (.t 0)), some (19, true)⟩,
 ⟨some 25, (.mv (.t 7)), some (19, true)⟩,
 ⟨some 26, (.bin .sub (.t 25) (.c (.int .i64 (1)))), some (19, true)⟩,
 ⟨some 27, (.iad 1 (.t 24) (.t 26)), some (19, true)⟩,
 ⟨some 28, (.load false 1 (.t 27)), some (19, true)⟩,
 ⟨some 29, (.call (.f 82) [(.t 23), (.t 28)]), some (19, true)⟩,
 ⟨some 30, (.pick (.t 19) (.t 29) (.c (.bool false))), none⟩]
 [(0, 1), (4, 5), (4, 8), (5, 8), (6, 8), (7, 8), (4, 9), (5, 9), (6, 9), (7, 9), (8, 9), (4, 10), (5, 10), (6, 10), (7, 10), (8, 10), (4, 11), (5, 11), (6, 11), (7, 11), (4, 12), (5, 12), (6, 12), (7, 12)] [16, 17, 18, 19, 20, 21, 22, 23, 24, 25, 26, 27, 28, 29])
 (.cond (.t 30)
 .skip
 (.exit 2)))
 (.seq
 (.block 3
 (.ops [⟨some 33, (.mv (.t 0)), none⟩,
 ⟨some 34, (.mv (.t 7)), none⟩,
 ⟨some 35, (.mv (.t 0)), none⟩,
 ⟨some 36, (.mv (.t 7)), none⟩,
 ⟨some 37, (.bin .sub (.t 36) (.c (.int .i64 (1)))), none⟩,
 ⟨some 38, (.mv (.t 0)), none⟩,
 ⟨some 39, (.mv (.t 7)), none⟩,
 ⟨some 40, (.bin .sub (.t 39) (.c (.int .i64 (1)))), none⟩,
 ⟨some 41, (.iad 1 (.t 38) (.t 40)), none⟩,
 ⟨some 42, (.load false 1 (.t 41)), none⟩,
 ⟨some 43, (.mv (.t 0)), none⟩,
 ⟨some 44, (.mv (.t 7)), none⟩,
 ⟨some 45, (.iad 1 (.t 43) (.t 44)), none⟩,
 ⟨some 46, (.load false 1 (.t 45)), none⟩,
 ⟨some 47, (.iad 1 (.t 33) (.t 34)), none⟩,
 ⟨none, (.store 1 (.t 47) (.t 42)), none⟩,
 ⟨some 48, (.iad 1 (.t 35) (.t 37)), none⟩,
 ⟨none, (.store 1 (.t 48) (.t 46)), none⟩]
 [(0, 1), (0, 2), (1, 2), (0, 3), (1, 3), (2, 3), (0, 4), (1, 4), (2, 4), (0, 5), (1, 5), (2, 5), (3, 5), (4, 5), (0, 6), (1, 6), (2, 6), (3, 6), (4, 6), (5, 6), (0, 7), (1, 7), (2, 7), (3, 7), (4, 7), (5, 7), (0, 8), (1, 8), (2, 8), (3, 8), (4, 8), (0, 9), (1, 9), (2, 9), (3, 9), (4, 9), (0, 10), (1, 10), (2, 10), (3, 10), (4, 10), (5, 10), (6, 10), (7, 10), (8, 10), (9, 10), (0, 11), (1, 11), (2, 11), (3, 11), (4, 11), (5, 11), (6, 11), (7, 11), (8, 11), (9, 11), (10, 11), (0, 12), (1, 12), (2, 12), (3, 12), (4, 12), (5, 12), (6, 12), (7, 12), (8, 12), (9, 12), (0, 13), (1, 13), (2, 13), (3, 13), (4, 13), (5, 13), (6, 13), (7, 13), (8, 13), (9, 13), (2, 14), (3, 14), (4, 14), (2, 15), (3, 15), (4, 15)] [30, 33, 34, 35, 36, 37, 38, 39, 40, 41, 42, 43, 44, 45, 46, 47, 48]))
 (.ops [⟨some 31, (.mv (.t 7)), none⟩,
 ⟨some 32, (.bin .sub (.t 31) (.c (.int .i64 (1)))), none⟩,
 ⟨some 7, (.mv (.t 32)), none⟩]
 [] [31, 32])))))))
 (.ops [⟨some 13, (.mv (.t 6)), none⟩,
 ⟨some 14, (.bin .add (.t 13) (.c (.int .i64 (1)))), none⟩,
 ⟨some 6, (.mv (.t 14)), none⟩]
 [] [7, 13, 14, 30]))))))⟩
def loc76 : List Nat := []
def fg76 : List (Nat × List Nat) := [(2, [7, 13, 14, 30]), (5, [31, 32]), (6, [30, 33, 34, 35, 36, 37, 38, 39, 40, 41, 42, 43, 44, 45, 46, 47, 48]), (4, [16, 17, 18, 19, 20, 21, 22, 23, 24, 25, 26, 27, 28, 29]), (3, [12, 15]), (1, [10, 11]), (0, [8, 9])]
theorem comp76 : compFn Try.prog loc76 (fun i => (fg76.lookup i).getD []) Try.f76 = some lit76 := by kernel_rfl

-- cmp.Less[int]
def lit82 : AFn := ⟨2, [.tmp 4],
 (.seq
 (.ops [⟨some 4, (.mv (.c (.bool false))), none⟩]
 [] [4])
 (.seq
 (.ops [⟨some 5, (.mv (.t 0)), none⟩,
 ⟨some 6, (.call (.f 92) [(.t 5)]), none⟩,
 ⟨some 7, (.mv (.t 6)), none⟩,
 ⟨some 8, (.mv (.t 1)), some (7, true)⟩,
 ⟨some 9, (.call (.f 92) [(.t 8)]), some (7, true)⟩,
 ⟨some 10, (.un .not (.t 9)), some (7, true)⟩,
 ⟨some 11, (.pick (.t 7) (.t 10) (.c (.bool false))), none⟩,
 ⟨some 12, (.mv (.t 11)), none⟩,
 ⟨some 13, (.mv (.t 0)), some (12, false)⟩,
 ⟨some 14, (.mv (.t 1)), some (12, false)⟩,
 ⟨some 15, (.bin .lss (.t 13) (.t 14)), some (12, false)⟩,
 ⟨some 16, (.pick (.t 12) (.c (.bool true)) (.t 15)), none⟩,
 ⟨some 4, (.mv (.t 16)), none⟩]
 [] [0, 1, 5, 6, 7, 8, 9, 10, 11, 12, 13, 14, 15, 16])
 .ret))⟩
def loc82 : List Nat := []
def fg82 : List (Nat × List Nat) := [(1, [0, 1, 5, 6, 7, 8, 9, 10, 11, 12, 13, 14, 15, 16]), (0, [4])]
theorem comp82 : compFn Try.prog loc82 (fun i => (fg82.lookup i).getD []) Try.f82 = some lit82 := by kernel_rfl

-- math/bits.Len64
def lit86 : AFn := ⟨1, [.tmp 2],
 (.seq
 (.ops [⟨some 2, (.mv (.c (.int .i64 (0)))), none⟩]
 [] [])
 (.seq
 (.seq
 (.ops [⟨some 3, (.mv (.t 0)), none⟩,
 ⟨some 4, (.bin .geq (.t 3) (.c (.int .u64 (4294967296)))), none⟩]
 [] [3])
 (.cond (.t 4)
 (.seq
 (.ops [⟨some 5, (.mv (.t 0)), none⟩,
 ⟨some 6, (.bin .shr (.t 5) (.c (.int .u64 (32)))), none⟩,
 ⟨some 0, (.mv (.t 6)), none⟩]
 [] [2, 4, 5, 6])
 (.ops [⟨some 2, (.mv (.c (.int .i64 (32)))), none⟩]
 [] []))
 .skip))
 (.seq
 (.seq
 (.ops [⟨some 7, (.mv (.t 0)), none⟩,
 ⟨some 8, (.bin .geq (.t 7) (.c (.int .u64 (65536)))), none⟩]
 [] [4, 7])
 (.cond (.t 8)
 (.seq
 (.ops [⟨some 9, (.mv (.t 0)), none⟩,
 ⟨some 10, (.bin .shr (.t 9) (.c (.int .u64 (16)))), none⟩,
 ⟨some 0, (.mv (.t 10)), none⟩]
 [] [8, 9, 10])
 (.ops [⟨some 11, (.mv (.t 2)), none⟩,
 ⟨some 12, (.bin .add (.t 11) (.c (.int .i64 (16)))), none⟩,
 ⟨some 2, (.mv (.t 12)), none⟩]
 [] [11, 12]))
 .skip))
 (.seq
 (.seq
 (.ops [⟨some 13, (.mv (.t 0)), none⟩,
 ⟨some 14, (.bin .geq (.t 13) (.c (.int .u64 (256)))), none⟩]
 [] [8, 13])
 (.cond (.t 14)
 (.seq
 (.ops [⟨some 15, (.mv (.t 0)), none⟩,
 ⟨some 16, (.bin .shr (.t 15) (.c (.int .u64 (8)))), none⟩,
 ⟨some 0, (.mv (.t 16)), none⟩]
 [] [14, 15, 16])
 (.ops [⟨some 17, (.mv (.t 2)), none⟩,
 ⟨some 18, (.bin .add (.t 17) (.c (.int .i64 (8)))), none⟩,
 ⟨some 2, (.mv (.t 18)), none⟩]
 [] [17, 18]))
 .skip))
 (.seq
 (.ops [⟨some 19, (.mv (.t 2)), none⟩,
 ⟨some 20, (.mv (.t 0)), none⟩,
 ⟨some 21, (.conv .u8 (.t 20)), none⟩,
 ⟨some 22, (.idx false 256 1 (.c (.agg [(.int .u8 (0)), (.int .u8 (1)), (.int .u8 (2)), (.int .u8 (2)), (.int .u8 (3)), (.int .u8 (3)), (.int .u8 (3)), (.int .u8 (3)), (.int .u8 (4)), (.int .u8 (4)), (.int .u8 (4)), (.int .u8 (4)), (.int .u8 (4)), (.int .u8 (4)), (.int .u8 (4)), (.int .u8 (4)), (.int .u8 (5)), (.int .u8 (5)), (.int .u8 (5)), (.int .u8 (5)), (.int .u8 (5)), (.int .u8 (5)), (.int .u8 (5)), (.int .u8 (5)), (.int .u8 (5)), (.int .u8 (5)), (.int .u8 (5)), (.int .u8 (5)), (.int .u8 (5)), (.int .u8 (5)), (.int .u8 (5)), (.int .u8 (5)), (.int .u8 (6)), (.int .u8 (6)), (.int .u8 (6)), (.int .u8 (6)), (.int .u8 (6)), (.int .u8 (6)), (.int .u8 (6)), (.int .u8 (6)), (.int .u8 (6)), (.int .u8 (6)), (.int .u8 (6)), (.int .u8 (6)), (.int .u8 (6)), (.int .u8 (6)), (.int .u8 (6)), (.int .u8 (6)), (.int .u8 (6)), (.int .u8 (6)), (.int .u8 (6)), (.int .u8 (6)), (.int .u8 (6)), (.int .u8 (6)), (.int .u8 (6)), (.int .u8 (6)), (.int .u8 (6)), (.int .u8 (6)), (.int .u8 (6)), (.int .u8 (6)), (.int .u8 (6)), (.int .u8 (6)), (.int .u8 (6)), (.int .u8 (6)), (.int .u8 (7)), (.int .u8 (7)), (.int .u8 (7)), (.int .u8 (7)), (.int .u8 (7)), (.int .u8 (7)), (.int .u8 (7)), (.int .u8 (7)), (.int .u8 (7)), (.int .u8 (7)), (.int .u8 (7)), (.int .u8 (7)), (.int .u8 (7)), (.int .u8 (7)), (.int .u8 (7)), (.int .u8 (7)), (.int .u8 (7)), (.int .u8 (7)), (.int .u8 (7)), (.int .u8 (7)), (.int .u8 (7)), (.int .u8 (7)), (.int .u8 (7)), (.int .u8 (7)), (.int .u8 (7)), (.int .u8 (7)), (.int .u8 (7)), (.int .u8 (7)), (.int .u8 (7)), (.int .u8 (7)), (.int .u8 (7)), (.int .u8 (7)), (.int .u8 (7)), (.int .u8 (7)), (.int .u8 (7)), (.int .u8 (7)), (.int .u8 (7)), (.int .u8 (7)), (.int .u8 (7)), (.int .u8 (7)), (.int .u8 (7)), (.int .u8 (7)), (.int .u8 (7)), (.int .u8 (7)), (.int .u8 (7)), (.int .u8 (7)), (.int .u8 (7)), (.int .u8 (7)), (.int .u8 (7)), (.int .u8 (7)), (.int .u8 (7)), (.int .u8 (7)), (.int .u8 (7)), (.int .u8 (7)), (.int .u8 (7)), (.int .u8 (7)), (.int .u8 (7)), (.int .u8 (7)), (.int .u8 (7)), (.int .u8 (7)), (.int .u8 (7)), (.int .u8 (7)), (.int .u8 (7)), (.int .u8 (7)), (.int .u8 (8)), (.int .u8 (8)), (.int .u8 (8)), (.int .u8 (8)), (.int .u8 (8)), (.int .u8 (8)), (.int .u8 (8)), (.int .u8 (8)), (.int .u8 (8)), (.int .u8 (8)), (.int .u8 (8)), (.int .u8 (8)), (.int .u8 (8)), (.int .u8 (8)), (.int .u8 (8)), (.int .u8 (8)), (.int .u8 (8)), (.int .u8 (8)), (.int .u8 (8)), (.int .u8 (8)), (.int .u8 (8)), (.int .u8 (8)), (.int .u8 (8)), (.int .u8 (8)), (.int .u8 (8)), (.int .u8 (8)), (.int .u8 (8)), (.int .u8 (8)), (.int .u8 (8)), (.int .u8 (8)), (.int .u8 (8)), (.int .u8 (8)), (.int .u8 (8)), (.int .u8 (8)), (.int .u8 (8)), (.int .u8 (8)), (.int .u8 (8)), (.int .u8 (8)), (.int .u8 (8)), (.int .u8 (8)), (.int .u8 (8)), (.int .u8 (8)), (.int .u8 (8)), (.int .u8 (8)), (.int .u8 (8)), (.int .u8 (8)), (.int .u8 (8)), (.int .u8 (8)), (.int .u8 (8)), (.int .u8 (8)), (.int .u8 (8)), (.int .u8 (8)), (.int .u8 (8)), (.int .u8 (8)), (.int .u8 (8)), (.int .u8 (8)), (.int .u8 (8)), (.int .u8 (8)), (.int .u8 (8)), (.int .u8 (8)), (.int .u8 (8)), (.int .u8 (8)), (.int .u8 (8)), (.int .u8 (8)), (.int .u8 (8)), (.int .u8 (8)), (.int .u8 (8)), (.int .u8 (8)), (.int .u8 (8)), (.int .u8 (8)), (.int .u8 (8)), (.int .u8 (8)), (.int .u8 (8)), (.int .u8 (8)), (.int .u8 (8)), (.int .u8 (8)), (.int .u8 (8)), (.int .u8 (8)), (.int .u8 (8)), (.int .u8 (8)), (.int .u8 (8)), (.int .u8 (8)), (.int .u8 (8)), (.int .u8 (8)), (.int .u8 (8)), (.int .u8 (8)), (.int .u8 (8)), (.int .u8 (8)), (.int .u8 (8)), (.int .u8 (8)), (.int .u8 (8)), (.int .u8 (8)), (.int .u8 (8)), (.int .u8 (8)), (.int .u8 (8)), (.int .u8 (8)), (.int .u8 (8)), (.int .u8 (8)), (.int .u8 (8)), (.int .u8 (8)), (.int .u8 (8)), (.int .u8 (8)), (.int .u8 (8)), (.int .u8 (8)), (.int .u8 (8)), (.int .u8 (8)), (.int .u8 (8)), (.int .u8 (8)), (.int .u8 (8)), (.int .u8 (8)), (.int .u8 (8)), (.int .u8 (8)), (.int .u8 (8)), (.int .u8 (8)), (.int .u8 (8)), (.int .u8 (8)), (.int .u8 (8)), (.int .u8 (8)), (.int .u8 (8)), (.int .u8 (8)), (.int .u8 (8)), (.int .u8 (8)), (.int .u8 (8)), (.int .u8 (8)), (.int .u8 (8)), (.int .u8 (8)), (.int .u8 (8)), (.int .u8 (8))])) (.t 21)), none⟩,
 ⟨some 23, (.conv .i64 (.t 22)), none⟩,
 ⟨some 24, (.bin .add (.t 19) (.t 23)), none⟩,
 ⟨some 2, (.mv (.t 24)), none⟩]
 [] [0, 14, 19, 20, 21, 22, 23, 24])
 .ret)))))⟩
def loc86 : List Nat := []
def fg86 : List (Nat × List Nat) := [(10, [0, 14, 19, 20, 21, 22, 23, 24]), (9, [17, 18]), (8, [14, 15, 16]), (7, [8, 13]), (6, [11, 12]), (5, [8, 9, 10]), (4, [4, 7]), (2, [2, 4, 5, 6]), (1, [3])]
theorem comp86 : compFn Try.prog loc86 (fun i => (fg86.lookup i).getD []) Try.f86 = some lit86 := by kernel_rfl

-- cmp.isNaN[int]
def lit92 : AFn := ⟨1, [.tmp 2],
 (.seq
 (.ops [⟨some 2, (.mv (.c (.bool false))), none⟩]
 [] [2])
 (.seq
 (.ops [⟨some 3, (.mv (.t 0)), none⟩,
 ⟨some 4, (.mv (.t 0)), none⟩,
 ⟨some 5, (.bin .neq (.t 3) (.t 4)), none⟩,
 ⟨some 2, (.mv (.t 5)), none⟩]
 [] [0, 3, 4, 5])
 .ret))⟩
def loc92 : List Nat := []
def fg92 : List (Nat × List Nat) := [(1, [0, 3, 4, 5]), (0, [2])]
theorem comp92 : compFn Try.prog loc92 (fun i => (fg92.lookup i).getD []) Try.f92 = some lit92 := by kernel_rfl

def tab1 : List (Nat × AFn) := [(48, lit48), (49, lit49), (50, lit50), (51, lit51), (52, lit52), (53, lit53), (54, lit54), (55, lit55), (56, lit56), (57, lit57), (58, lit58), (59, lit59), (61, lit61), (62, lit62), (63, lit63), (64, lit64), (65, lit65), (68, lit68), (69, lit69), (70, lit70), (71, lit71), (72, lit72), (74, lit74), (76, lit76), (82, lit82), (86, lit86), (92, lit92)]
theorem tabOk1 : AllOk Try.prog tab1 := ⟨⟨_, _, _, Try.func48, comp48⟩, ⟨_, _, _, Try.func49, comp49⟩, ⟨_, _, _, Try.func50, comp50⟩, ⟨_, _, _, Try.func51, comp51⟩, ⟨_, _, _, Try.func52, comp52⟩, ⟨_, _, _, Try.func53, comp53⟩, ⟨_, _, _, Try.func54, comp54⟩, ⟨_, _, _, Try.func55, comp55⟩, ⟨_, _, _, Try.func56, comp56⟩, ⟨_, _, _, Try.func57, comp57⟩, ⟨_, _, _, Try.func58, comp58⟩, ⟨_, _, _, Try.func59, comp59⟩, ⟨_, _, _, Try.func61, comp61⟩, ⟨_, _, _, Try.func62, comp62⟩, ⟨_, _, _, Try.func63, comp63⟩, ⟨_, _, _, Try.func64, comp64⟩, ⟨_, _, _, Try.func65, comp65⟩, ⟨_, _, _, Try.func68, comp68⟩, ⟨_, _, _, Try.func69, comp69⟩, ⟨_, _, _, Try.func70, comp70⟩, ⟨_, _, _, Try.func71, comp71⟩, ⟨_, _, _, Try.func72, comp72⟩, ⟨_, _, _, Try.func74, comp74⟩, ⟨_, _, _, Try.func76, comp76⟩, ⟨_, _, _, Try.func82, comp82⟩, ⟨_, _, _, Try.func86, comp86⟩, ⟨_, _, _, Try.func92, comp92⟩, trivial⟩
end Go.Proofs.Yteokncggklmilaa.En
