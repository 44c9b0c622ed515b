/- The functions that the statement PieceNames runs, in the small code (part 1); each is what the framework makes of the program. -/
import Derived.Test.YtnbebjhmfpchcaaFw27
import Derived.Test.YtnbebjhmfpchcaaRows
namespace Go.Proofs.Ytnbebjhmfpchcaa.Pn
open Go Go.Pf
-- math/bits.Div64
def lit84 : AFn := ⟨3, [.tmp 6, .tmp 7],
 (.seq
 (.ops [⟨some 6, (.mv (.c (.int .u64 (0)))), none⟩,
 ⟨some 7, (.mv (.c (.int .u64 (0)))), none⟩]
 [] [6, 7])
 (.seq
 (.seq
 (.ops [⟨some 19, (.mv (.t 2)), none⟩,
 ⟨some 20, (.bin .eql (.t 19) (.c (.int .u64 (0)))), none⟩]
 [] [19])
 (.cond (.t 20)
 (.ops [⟨some 21, (.load false 1 (.g 0)), none⟩,
 ⟨none, .bad, none⟩]
 [] [20, 21])
 .skip))
 (.seq
 (.seq
 (.ops [⟨some 22, (.mv (.t 2)), none⟩,
 ⟨some 23, (.mv (.t 0)), none⟩,
 ⟨some 24, (.bin .leq (.t 22) (.t 23)), none⟩]
 [] [20, 22, 23])
 (.cond (.t 24)
 (.ops [⟨some 25, (.load false 1 (.g 1)), none⟩,
 ⟨none, .bad, none⟩]
 [] [24, 25])
 .skip))
 (.seq
 (.seq
 (.ops [⟨some 26, (.mv (.t 0)), none⟩,
 ⟨some 27, (.bin .eql (.t 26) (.c (.int .u64 (0)))), none⟩]
 [] [24, 26])
 (.cond (.t 27)
 (.seq
 (.ops [⟨some 28, (.mv (.t 1)), none⟩,
 ⟨some 29, (.mv (.t 2)), none⟩,
 ⟨some 30, (.bin .quo (.t 28) (.t 29)), none⟩,
 ⟨some 31, (.mv (.t 1)), none⟩,
 ⟨some 32, (.mv (.t 2)), none⟩,
 ⟨some 33, (.bin .rem (.t 31) (.t 32)), none⟩,
 ⟨some 6, (.mv (.t 30)), none⟩,
 ⟨some 7, (.mv (.t 33)), none⟩]
 [(0, 1), (0, 3), (1, 3), (2, 3), (0, 4), (1, 4), (2, 4), (3, 4), (0, 5), (1, 5), (2, 5), (3, 6), (4, 6), (5, 6)] [0, 1, 2, 27, 28, 29, 30, 31, 32, 33])
 .ret)
 .skip))
 (.seq
 (.ops [⟨some 34, (.mv (.t 2)), none⟩,
 ⟨some 35, (.call (.f 95) [(.t 34)]), none⟩,
 ⟨some 36, (.conv .u64 (.t 35)), none⟩,
 ⟨some 8, (.mv (.t 36)), none⟩]
 [] [27, 34, 35, 36])
 (.seq
 (.ops [⟨some 37, (.mv (.t 2)), none⟩,
 ⟨some 38, (.mv (.t 8)), none⟩,
 ⟨some 39, (.bin .shl (.t 37) (.t 38)), none⟩,
 ⟨some 2, (.mv (.t 39)), none⟩]
 [] [37, 38, 39])
 (.seq
 (.ops [⟨some 40, (.mv (.t 2)), none⟩,
 ⟨some 41, (.bin .shr (.t 40) (.c (.int .u64 (32)))), none⟩,
 ⟨some 9, (.mv (.t 41)), none⟩]
 [] [40, 41])
 (.seq
 (.ops [⟨some 42, (.mv (.t 2)), none⟩,
 ⟨some 43, (.bin .and (.t 42) (.c (.int .u64 (4294967295)))), none⟩,
 ⟨some 10, (.mv (.t 43)), none⟩]
 [] [42, 43])
 (.seq
 (.ops [⟨some 44, (.mv (.t 0)), none⟩,
 ⟨some 45, (.mv (.t 8)), none⟩,
 ⟨some 46, (.bin .shl (.t 44) (.t 45)), none⟩,
 ⟨some 47, (.mv (.t 1)), none⟩,
 ⟨some 48, (.mv (.t 8)), none⟩,
 ⟨some 49, (.bin .sub (.c (.int .u64 (64))) (.t 48)), none⟩,
 ⟨some 50, (.bin .shr (.t 47) (.t 49)), none⟩,
 ⟨some 51, (.bin .or (.t 46) (.t 50)), none⟩,
 ⟨some 11, (.mv (.t 51)), none⟩]
 [] [0, 44, 45, 46, 47, 48, 49, 50, 51])
 (.seq
 (.ops [⟨some 52, (.mv (.t 1)), none⟩,
 ⟨some 53, (.mv (.t 8)), none⟩,
 ⟨some 54, (.bin .shl (.t 52) (.t 53)), none⟩,
 ⟨some 12, (.mv (.t 54)), none⟩]
 [] [1, 52, 53, 54])
 (.seq
 (.ops [⟨some 55, (.mv (.t 12)), none⟩,
 ⟨some 56, (.bin .shr (.t 55) (.c (.int .u64 (32)))), none⟩,
 ⟨some 13, (.mv (.t 56)), none⟩]
 [] [55, 56])
 (.seq
 (.ops [⟨some 57, (.mv (.t 12)), none⟩,
 ⟨some 58, (.bin .and (.t 57) (.c (.int .u64 (4294967295)))), none⟩,
 ⟨some 14, (.mv (.t 58)), none⟩]
 [] [12, 57, 58])
 (.seq
 (.ops [⟨some 59, (.mv (.t 11)), none⟩,
 ⟨some 60, (.mv (.t 9)), none⟩,
 ⟨some 61, (.bin .quo (.t 59) (.t 60)), none⟩,
 ⟨some 15, (.mv (.t 61)), none⟩]
 [] [59, 60, 61])
 (.seq
 (.ops [⟨some 62, (.mv (.t 11)), none⟩,
 ⟨some 63, (.mv (.t 15)), none⟩,
 ⟨some 64, (.mv (.t 9)), none⟩,
 ⟨some 65, (.bin .mul (.t 63) (.t 64)), none⟩,
 ⟨some 66, (.bin .sub (.t 62) (.t 65)), none⟩,
 ⟨some 16, (.mv (.t 66)), none⟩]
 [] [62, 63, 64, 65, 66])
 (.seq
 (.block 0
 (.loop
 (.seq
 (.seq
 (.ops [⟨some 67, (.mv (.t 15)), none⟩,
 ⟨some 68, (.bin .geq (.t 67) (.c (.int .u64 (4294967296)))), none⟩,
 ⟨some 69, (.mv (.t 68)), none⟩,
 ⟨some 70, (.mv (.t 15)), some (69, false)⟩,
 ⟨some 71, (.mv (.t 10)), some (69, false)⟩,
 ⟨some 72, (.bin .mul (.t 70) (.t 71)), some (69, false)⟩,
 ⟨some 73, (.mv (.t 16)), some (69, false)⟩,
 ⟨some 74, (.bin .mul (.c (.int .u64 (4294967296))) (.t 73)), some (69, false)⟩,
 ⟨some 75, (.mv (.t 13)), some (69, false)⟩,
 ⟨some 76, (.bin .add (.t 74) (.t 75)), some (69, false)⟩,
 ⟨some 77, (.bin .gtr (.t 72) (.t 76)), some (69, false)⟩,
 ⟨some 78, (.pick (.t 69) (.c (.bool true)) (.t 77)), none⟩]
 [] [67, 68, 69, 70, 71, 72, 73, 74, 75, 76, 77, 85])
 (.cond (.t 78)
 .skip
 (.exit 0)))
 (.block 1
 (.seq
 (.ops [⟨some 79, (.mv (.t 15)), none⟩,
 ⟨some 80, (.bin .sub (.t 79) (.c (.int .u64 (1)))), none⟩,
 ⟨some 15, (.mv (.t 80)), none⟩]
 [] [78, 79, 80])
 (.seq
 (.ops [⟨some 81, (.mv (.t 16)), none⟩,
 ⟨some 82, (.mv (.t 9)), none⟩,
 ⟨some 83, (.bin .add (.t 81) (.t 82)), none⟩,
 ⟨some 16, (.mv (.t 83)), none⟩]
 [] [81, 82, 83])
 (.seq
 (.ops [⟨some 84, (.mv (.t 16)), none⟩,
 ⟨some 85, (.bin .geq (.t 84) (.c (.int .u64 (4294967296)))), none⟩]
 [] [84])
 (.cond (.t 85)
 (.exit 0)
 .skip))))))))
 (.seq
 (.ops [⟨some 86, (.mv (.t 11)), none⟩,
 ⟨some 87, (.bin .mul (.t 86) (.c (.int .u64 (4294967296)))), none⟩,
 ⟨some 88, (.mv (.t 13)), none⟩,
 ⟨some 89, (.bin .add (.t 87) (.t 88)), none⟩,
 ⟨some 90, (.mv (.t 15)), none⟩,
 ⟨some 91, (.mv (.t 2)), none⟩,
 ⟨some 92, (.bin .mul (.t 90) (.t 91)), none⟩,
 ⟨some 93, (.bin .sub (.t 89) (.t 92)), none⟩,
 ⟨some 17, (.mv (.t 93)), none⟩]
 [] [11, 13, 16, 78, 85, 86, 87, 88, 89, 90, 91, 92, 93])
 (.seq
 (.ops [⟨some 94, (.mv (.t 17)), none⟩,
 ⟨some 95, (.mv (.t 9)), none⟩,
 ⟨some 96, (.bin .quo (.t 94) (.t 95)), none⟩,
 ⟨some 18, (.mv (.t 96)), none⟩]
 [] [94, 95, 96])
 (.seq
 (.ops [⟨some 97, (.mv (.t 17)), none⟩,
 ⟨some 98, (.mv (.t 18)), none⟩,
 ⟨some 99, (.mv (.t 9)), none⟩,
 ⟨some 100, (.bin .mul (.t 98) (.t 99)), none⟩,
 ⟨some 101, (.bin .sub (.t 97) (.t 100)), none⟩,
 ⟨some 16, (.mv (.t 101)), none⟩]
 [] [97, 98, 99, 100, 101])
 (.seq
 (.block 2
 (.loop
 (.seq
 (.seq
 (.ops [⟨some 102, (.mv (.t 18)), none⟩,
 ⟨some 103, (.bin .geq (.t 102) (.c (.int .u64 (4294967296)))), none⟩,
 ⟨some 104, (.mv (.t 103)), none⟩,
 ⟨some 105, (.mv (.t 18)), some (104, false)⟩,
 ⟨some 106, (.mv (.t 10)), some (104, false)⟩,
 ⟨some 107, (.bin .mul (.t 105) (.t 106)), some (104, false)⟩,
 ⟨some 108, (.mv (.t 16)), some (104, false)⟩,
 ⟨some 109, (.bin .mul (.c (.int .u64 (4294967296))) (.t 108)), some (104, false)⟩,
 ⟨some 110, (.mv (.t 14)), some (104, false)⟩,
 ⟨some 111, (.bin .add (.t 109) (.t 110)), some (104, false)⟩,
 ⟨some 112, (.bin .gtr (.t 107) (.t 111)), some (104, false)⟩,
 ⟨some 113, (.pick (.t 104) (.c (.bool true)) (.t 112)), none⟩]
 [] [102, 103, 104, 105, 106, 107, 108, 109, 110, 111, 112, 120])
 (.cond (.t 113)
 .skip
 (.exit 2)))
 (.block 3
 (.seq
 (.ops [⟨some 114, (.mv (.t 18)), none⟩,
 ⟨some 115, (.bin .sub (.t 114) (.c (.int .u64 (1)))), none⟩,
 ⟨some 18, (.mv (.t 115)), none⟩]
 [] [113, 114, 115])
 (.seq
 (.ops [⟨some 116, (.mv (.t 16)), none⟩,
 ⟨some 117, (.mv (.t 9)), none⟩,
 ⟨some 118, (.bin .add (.t 116) (.t 117)), none⟩,
 ⟨some 16, (.mv (.t 118)), none⟩]
 [] [116, 117, 118])
 (.seq
 (.ops [⟨some 119, (.mv (.t 16)), none⟩,
 ⟨some 120, (.bin .geq (.t 119) (.c (.int .u64 (4294967296)))), none⟩]
 [] [119])
 (.cond (.t 120)
 (.exit 2)
 .skip))))))))
 (.seq
 (.ops [⟨some 121, (.mv (.t 15)), none⟩,
 ⟨some 122, (.bin .mul (.t 121) (.c (.int .u64 (4294967296)))), none⟩,
 ⟨some 123, (.mv (.t 18)), none⟩,
 ⟨some 124, (.bin .add (.t 122) (.t 123)), none⟩,
 ⟨some 125, (.mv (.t 17)), none⟩,
 ⟨some 126, (.bin .mul (.t 125) (.c (.int .u64 (4294967296)))), none⟩,
 ⟨some 127, (.mv (.t 14)), none⟩,
 ⟨some 128, (.bin .add (.t 126) (.t 127)), none⟩,
 ⟨some 129, (.mv (.t 18)), none⟩,
 ⟨some 130, (.mv (.t 2)), none⟩,
 ⟨some 131, (.bin .mul (.t 129) (.t 130)), none⟩,
 ⟨some 132, (.bin .sub (.t 128) (.t 131)), none⟩,
 ⟨some 133, (.mv (.t 8)), none⟩,
 ⟨some 134, (.bin .shr (.t 132) (.t 133)), none⟩,
 ⟨some 6, (.mv (.t 124)), none⟩,
 ⟨some 7, (.mv (.t 134)), none⟩]
 [] [2, 8, 9, 10, 14, 15, 16, 17, 18, 113, 120, 121, 122, 123, 124, 125, 126, 127, 128, 129, 130, 131, 132, 133, 134])
 .ret))))))))))))))))))))⟩
def loc84 : List Nat := []
def fg84 : List (Nat × List Nat) := [(28, [2, 8, 9, 10, 14, 15, 16, 17, 18, 113, 120, 121, 122, 123, 124, 125, 126, 127, 128, 129, 130, 131, 132, 133, 134]), (27, [119]), (26, [116, 117, 118]), (25, [113, 114, 115]), (24, [102, 103, 104, 105, 106, 107, 108, 109, 110, 111, 112, 120]), (23, [97, 98, 99, 100, 101]), (22, [94, 95, 96]), (21, [11, 13, 16, 78, 85, 86, 87, 88, 89, 90, 91, 92, 93]), (20, [84]), (19, [81, 82, 83]), (18, [78, 79, 80]), (17, [67, 68, 69, 70, 71, 72, 73, 74, 75, 76, 77, 85]), (16, [62, 63, 64, 65, 66]), (15, [59, 60, 61]), (14, [12, 57, 58]), (13, [55, 56]), (12, [1, 52, 53, 54]), (11, [0, 44, 45, 46, 47, 48, 49, 50, 51]), (10, [42, 43]), (9, [40, 41]), (8, [37, 38, 39]), (7, [27, 34, 35, 36]), (6, [0, 1, 2, 27, 28, 29, 30, 31, 32, 33]), (5, [24, 26]), (4, [24, 25]), (3, [20, 22, 23]), (2, [20, 21]), (1, [19]), (0, [6, 7])]
theorem comp84 : compFn Try.prog loc84 (fun i => (fg84.lookup i).getD []) Try.f84 = some lit84 := by kernel_rfl

-- parcener/ratio.signed
def lit85 : AFn := ⟨3, [.cell 6 true 2, .tmp 7],
 (.seq
 (.ops [⟨some 6, (.allocL (.agg [(.int .i64 (0)), (.int .i64 (0))])), none⟩,
 ⟨some 7, (.mv (.c (.int .i64 (0)))), none⟩]
 [] [7])
 (.seq
 (.seq
 (.ops [⟨some 8, (.mv (.t 1)), none⟩,
 ⟨some 9, (.mv (.t 2)), none⟩,
 ⟨some 10, (.minmax true [(.t 8), (.t 9)]), none⟩,
 ⟨some 11, (.bin .gtr (.t 10) (.c (.int .u64 (1000000000000000000)))), none⟩]
 [] [8, 9, 10])
 (.cond (.t 11)
 (.seq
 (.ops [⟨some 12, (.build [(.int .i64 (0)), (.int .i64 (0))] []), none⟩,
 ⟨none, (.store 2 (.t 6) (.t 12)), none⟩,
 ⟨some 7, (.mv (.c (.int .i64 (16)))), none⟩]
 [] [0, 1, 2, 11, 12])
 .ret)
 .skip))
 (.seq
 (.seq
 (.ops [⟨some 13, (.mv (.t 0)), none⟩]
 [] [0, 11])
 (.cond (.t 13)
 (.seq
 (.ops [⟨some 14, (.mv (.t 1)), none⟩,
 ⟨some 15, (.conv .i64 (.t 14)), none⟩,
 ⟨some 16, (.un .neg (.t 15)), none⟩,
 ⟨some 17, (.mv (.t 2)), none⟩,
 ⟨some 18, (.conv .i64 (.t 17)), none⟩,
 ⟨some 19, (.build [(.int .i64 (0)), (.int .i64 (0))] [(0, 1, (.t 16)), (1, 1, (.t 18))]), none⟩,
 ⟨none, (.store 2 (.t 6) (.t 19)), none⟩,
 ⟨some 7, (.mv (.c (.int .i64 (0)))), none⟩]
 [] [1, 2, 13, 14, 15, 16, 17, 18, 19])
 .ret)
 .skip))
 (.seq
 (.ops [⟨some 20, (.mv (.t 1)), none⟩,
 ⟨some 21, (.conv .i64 (.t 20)), none⟩,
 ⟨some 22, (.mv (.t 2)), none⟩,
 ⟨some 23, (.conv .i64 (.t 22)), none⟩,
 ⟨some 24, (.build [(.int .i64 (0)), (.int .i64 (0))] [(0, 1, (.t 21)), (1, 1, (.t 23))]), none⟩,
 ⟨none, (.store 2 (.t 6) (.t 24)), none⟩,
 ⟨some 7, (.mv (.c (.int .i64 (0)))), none⟩]
 [] [1, 2, 13, 20, 21, 22, 23, 24])
 .ret))))⟩
def loc85 : List Nat := [6]
def fg85 : List (Nat × List Nat) := [(5, [1, 2, 13, 20, 21, 22, 23, 24]), (4, [1, 2, 13, 14, 15, 16, 17, 18, 19]), (3, [0, 11]), (2, [0, 1, 2, 11, 12]), (1, [8, 9, 10]), (0, [7])]
theorem comp85 : compFn Try.prog loc85 (fun i => (fg85.lookup i).getD []) Try.f85 = some lit85 := by kernel_rfl

-- slices.pdqsortCmpFunc[parcener/api.Span]
def lit87 : AFn := ⟨5, [],
 (.seq
 (.ops [⟨some 10, (.mv (.c (.bool true))), none⟩]
 [] [])
 (.seq
 (.ops [⟨some 11, (.mv (.c (.bool true))), none⟩]
 [] [])
 (.block 0
 (.loop
 (.block 1
 (.seq
 (.ops [⟨some 21, (.mv (.t 2)), none⟩,
 ⟨some 22, (.mv (.t 1)), none⟩,
 ⟨some 23, (.bin .sub (.t 21) (.t 22)), none⟩,
 ⟨some 12, (.mv (.t 23)), none⟩]
 [] [21, 22, 23])
 (.seq
 (.seq
 (.ops [⟨some 24, (.mv (.t 12)), none⟩,
 ⟨some 25, (.bin .leq (.t 24) (.c (.int .i64 (12)))), none⟩]
 [] [24])
 (.cond (.t 25)
 (.seq
 (.ops [⟨some 26, (.mv (.t 0)), none⟩,
 ⟨some 27, (.mv (.t 1)), none⟩,
 ⟨some 28, (.mv (.t 2)), none⟩,
 ⟨some 29, (.mv (.t 4)), none⟩,
 ⟨some 30, (.call (.f 96) [(.t 26), (.t 27), (.t 28), (.t 29)]), none⟩]
 [] [0, 1, 2, 3, 4, 10, 11, 12, 25, 26, 27, 28, 29, 30])
 .ret)
 .skip))
 (.seq
 (.seq
 (.ops [⟨some 31, (.mv (.t 3)), none⟩,
 ⟨some 32, (.bin .eql (.t 31) (.c (.int .i64 (0)))), none⟩]
 [] [25, 31])
 (.cond (.t 32)
 (.seq
 (.ops [⟨some 33, (.mv (.t 0)), none⟩,
 ⟨some 34, (.mv (.t 1)), none⟩,
 ⟨some 35, (.mv (.t 2)), none⟩,
 ⟨some 36, (.mv (.t 4)), none⟩,
 ⟨some 37, (.call (.f 97) [(.t 33), (.t 34), (.t 35), (.t 36)]), none⟩]
 [] [0, 1, 2, 3, 4, 10, 11, 12, 32, 33, 34, 35, 36, 37])
 .ret)
 .skip))
 (.seq
 (.seq
 (.ops [⟨some 38, (.mv (.t 10)), none⟩,
 ⟨some 39, (.un .not (.t 38)), none⟩]
 [] [32, 38])
 (.cond (.t 39)
 (.seq
 (.ops [⟨some 40, (.mv (.t 0)), none⟩,
 ⟨some 41, (.mv (.t 1)), none⟩,
 ⟨some 42, (.mv (.t 2)), none⟩,
 ⟨some 43, (.mv (.t 4)), none⟩,
 ⟨some 44, (.call (.f 98) [(.t 40), (.t 41), (.t 42), (.t 43)]), none⟩]
 [] [39, 40, 41, 42, 43, 44])
 (.ops [⟨some 45, (.mv (.t 3)), none⟩,
 ⟨some 46, (.bin .sub (.t 45) (.c (.int .i64 (1)))), none⟩,
 ⟨some 3, (.mv (.t 46)), none⟩]
 [] [45, 46]))
 .skip))
 (.seq
 (.ops [⟨some 48, (.mv (.t 0)), none⟩,
 ⟨some 49, (.mv (.t 1)), none⟩,
 ⟨some 50, (.mv (.t 2)), none⟩,
 ⟨some 51, (.mv (.t 4)), none⟩,
 ⟨some 52, (.call (.f 99) [(.t 48), (.t 49), (.t 50), (.t 51)]), none⟩,
 ⟨some 47, (.mv (.t 52)), none⟩,
 ⟨some 53, (.ext (.t 47) 0), none⟩,
 ⟨some 54, (.ext (.t 47) 1), none⟩,
 ⟨some 13, (.mv (.t 53)), none⟩,
 ⟨some 14, (.mv (.t 54)), none⟩]
 [] [39, 47, 48, 49, 50, 51, 52, 53, 54])
 (.seq
 (.seq
 (.ops [⟨some 55, (.mv (.t 14)), none⟩,
 ⟨some 56, (.bin .eql (.t 55) (.c (.int .i64 (2)))), none⟩]
 [] [55])
 (.cond (.t 56)
 (.seq
 (.ops [⟨some 57, (.mv (.t 0)), none⟩,
 ⟨some 58, (.mv (.t 1)), none⟩,
 ⟨some 59, (.mv (.t 2)), none⟩,
 ⟨some 60, (.mv (.t 4)), none⟩,
 ⟨some 61, (.call (.f 100) [(.t 57), (.t 58), (.t 59), (.t 60)]), none⟩]
 [] [14, 56, 57, 58, 59, 60, 61])
 (.seq
 (.ops [⟨some 62, (.mv (.t 2)), none⟩,
 ⟨some 63, (.bin .sub (.t 62) (.c (.int .i64 (1)))), none⟩,
 ⟨some 64, (.mv (.t 13)), none⟩,
 ⟨some 65, (.mv (.t 1)), none⟩,
 ⟨some 66, (.bin .sub (.t 64) (.t 65)), none⟩,
 ⟨some 67, (.bin .sub (.t 63) (.t 66)), none⟩,
 ⟨some 13, (.mv (.t 67)), none⟩]
 [] [62, 63, 64, 65, 66, 67])
 (.ops [⟨some 14, (.mv (.c (.int .i64 (1)))), none⟩]
 [] [])))
 .skip))
 (.seq
 (.seq
 (.ops [⟨some 68, (.mv (.t 10)), none⟩,
 ⟨some 69, (.mv (.t 68)), none⟩,
 ⟨some 70, (.mv (.t 11)), some (69, true)⟩,
 ⟨some 71, (.pick (.t 69) (.t 70) (.c (.bool false))), none⟩,
 ⟨some 72, (.mv (.t 71)), none⟩,
 ⟨some 73, (.mv (.t 14)), some (72, true)⟩,
 ⟨some 74, (.bin .eql (.t 73) (.c (.int .i64 (1)))), some (72, true)⟩,
 ⟨some 75, (.pick (.t 72) (.t 74) (.c (.bool false))), none⟩]
 [] [14, 56, 68, 69, 70, 71, 72, 73, 74])
 (.cond (.t 75)
 (.seq
 (.ops [⟨some 76, (.mv (.t 0)), none⟩,
 ⟨some 77, (.mv (.t 1)), none⟩,
 ⟨some 78, (.mv (.t 2)), none⟩,
 ⟨some 79, (.mv (.t 4)), none⟩,
 ⟨some 80, (.call (.f 101) [(.t 76), (.t 77), (.t 78), (.t 79)]), none⟩]
 [] [75, 76, 77, 78, 79])
 (.cond (.t 80)
 .ret
 .skip))
 .skip))
 (.seq
 (.seq
 (.ops [⟨some 81, (.mv (.t 1)), none⟩,
 ⟨some 82, (.bin .gtr (.t 81) (.c (.int .i64 (0)))), none⟩,
 ⟨some 83, (.mv (.t 82)), none⟩,
 ⟨some 84, (.mv (.t 4)), some (83, true)⟩,
 ⟨some 85, (.mv (.t 0)), some (83, true)⟩,
 ⟨some 86, (.mv (.t 1)), some (83, true)⟩,
 ⟨some 87, (.bin .sub (.t 86) (.c (.int .i64 (1)))), some (83, true)⟩,
 ⟨some 88, (.iad 4 (.t 85) (.t 87)), some (83, true)⟩,
 ⟨some 89, (.load true 4 (.t 88)), some (83, true)⟩,
 ⟨some 90, (.mv (.t 0)), some (83, true)⟩,
 ⟨some 91, (.mv (.t 13)), some (83, true)⟩,
 ⟨some 92, (.iad 4 (.t 90) (.t 91)), some (83, true)⟩,
 ⟨some 93, (.load true 4 (.t 92)), some (83, true)⟩,
 ⟨some 94, (.call (.t 84) [(.t 89), (.t 93)]), some (83, true)⟩,
 ⟨some 95, (.bin .lss (.t 94) (.c (.int .i64 (0)))), some (83, true)⟩,
 ⟨some 96, (.un .not (.t 95)), some (83, true)⟩,
 ⟨some 97, (.pick (.t 83) (.t 96) (.c (.bool false))), none⟩]
 [(3, 4), (3, 5), (4, 5), (3, 6), (4, 6), (3, 7), (3, 8), (3, 9), (4, 9), (5, 9), (6, 9), (7, 9), (8, 9), (3, 10), (4, 10), (5, 10), (6, 10), (7, 10), (8, 10), (9, 10), (3, 11), (4, 11), (5, 11), (6, 11), (7, 11), (8, 11), (3, 12), (4, 12), (5, 12), (6, 12), (7, 12), (8, 12)] [75, 80, 81, 82, 83, 84, 85, 86, 87, 88, 89, 90, 91, 92, 93, 94, 95, 96])
 (.cond (.t 97)
 (.seq
 (.ops [⟨some 98, (.mv (.t 0)), none⟩,
 ⟨some 99, (.mv (.t 1)), none⟩,
 ⟨some 100, (.mv (.t 2)), none⟩,
 ⟨some 101, (.mv (.t 13)), none⟩,
 ⟨some 102, (.mv (.t 4)), none⟩,
 ⟨some 103, (.call (.f 102) [(.t 98), (.t 99), (.t 100), (.t 101), (.t 102)]), none⟩,
 ⟨some 15, (.mv (.t 103)), none⟩]
 [] [1, 12, 13, 97, 98, 99, 100, 101, 102, 103])
 (.seq
 (.ops [⟨some 104, (.mv (.t 15)), none⟩,
 ⟨some 1, (.mv (.t 104)), none⟩]
 [] [15, 104])
 (.exit 1)))
 .skip))
 (.seq
 (.ops [⟨some 106, (.mv (.t 0)), none⟩,
 ⟨some 107, (.mv (.t 1)), none⟩,
 ⟨some 108, (.mv (.t 2)), none⟩,
 ⟨some 109, (.mv (.t 13)), none⟩,
 ⟨some 110, (.mv (.t 4)), none⟩,
 ⟨some 111, (.call (.f 103) [(.t 106), (.t 107), (.t 108), (.t 109), (.t 110)]), none⟩,
 ⟨some 105, (.mv (.t 111)), none⟩,
 ⟨some 112, (.ext (.t 105) 0), none⟩,
 ⟨some 113, (.ext (.t 105) 1), none⟩,
 ⟨some 16, (.mv (.t 112)), none⟩,
 ⟨some 17, (.mv (.t 113)), none⟩]
 [] [10, 11, 13, 97, 105, 106, 107, 108, 109, 110, 111, 112, 113])
 (.seq
 (.ops [⟨some 114, (.mv (.t 17)), none⟩,
 ⟨some 11, (.mv (.t 114)), none⟩]
 [] [17, 114])
 (.seq
 (.ops [⟨some 115, (.mv (.t 16)), none⟩,
 ⟨some 116, (.mv (.t 1)), none⟩,
 ⟨some 117, (.bin .sub (.t 115) (.t 116)), none⟩,
 ⟨some 118, (.mv (.t 2)), none⟩,
 ⟨some 119, (.mv (.t 16)), none⟩,
 ⟨some 120, (.bin .sub (.t 118) (.t 119)), none⟩,
 ⟨some 18, (.mv (.t 117)), none⟩,
 ⟨some 19, (.mv (.t 120)), none⟩]
 [] [115, 116, 117, 118, 119, 120])
 (.seq
 (.ops [⟨some 121, (.mv (.t 12)), none⟩,
 ⟨some 122, (.bin .quo (.t 121) (.c (.int .i64 (8)))), none⟩,
 ⟨some 20, (.mv (.t 122)), none⟩]
 [] [12, 121, 122])
 (.seq
 (.ops [⟨some 123, (.mv (.t 18)), none⟩,
 ⟨some 124, (.mv (.t 19)), none⟩,
 ⟨some 125, (.bin .lss (.t 123) (.t 124)), none⟩]
 [] [123, 124])
 (.cond (.t 125)
 (.seq
 (.ops [⟨some 126, (.mv (.t 18)), none⟩,
 ⟨some 127, (.mv (.t 20)), none⟩,
 ⟨some 128, (.bin .geq (.t 126) (.t 127)), none⟩,
 ⟨some 10, (.mv (.t 128)), none⟩]
 [] [18, 19, 20, 125, 126, 127, 128])
 (.seq
 (.ops [⟨some 129, (.mv (.t 0)), none⟩,
 ⟨some 130, (.mv (.t 1)), none⟩,
 ⟨some 131, (.mv (.t 16)), none⟩,
 ⟨some 132, (.mv (.t 3)), none⟩,
 ⟨some 133, (.mv (.t 4)), none⟩,
 ⟨some 134, (.call (.f 87) [(.t 129), (.t 130), (.t 131), (.t 132), (.t 133)]), none⟩]
 [] [1, 129, 130, 131, 132, 133, 134])
 (.ops [⟨some 135, (.mv (.t 16)), none⟩,
 ⟨some 136, (.bin .add (.t 135) (.c (.int .i64 (1)))), none⟩,
 ⟨some 1, (.mv (.t 136)), none⟩]
 [] [16, 135, 136])))
 (.seq
 (.ops [⟨some 137, (.mv (.t 19)), none⟩,
 ⟨some 138, (.mv (.t 20)), none⟩,
 ⟨some 139, (.bin .geq (.t 137) (.t 138)), none⟩,
 ⟨some 10, (.mv (.t 139)), none⟩]
 [] [18, 19, 20, 125, 137, 138, 139])
 (.seq
 (.ops [⟨some 140, (.mv (.t 0)), none⟩,
 ⟨some 141, (.mv (.t 16)), none⟩,
 ⟨some 142, (.bin .add (.t 141) (.c (.int .i64 (1)))), none⟩,
 ⟨some 143, (.mv (.t 2)), none⟩,
 ⟨some 144, (.mv (.t 3)), none⟩,
 ⟨some 145, (.mv (.t 4)), none⟩,
 ⟨some 146, (.call (.f 87) [(.t 140), (.t 142), (.t 143), (.t 144), (.t 145)]), none⟩]
 [] [2, 140, 141, 142, 143, 144, 145, 146])
 (.ops [⟨some 147, (.mv (.t 16)), none⟩,
 ⟨some 2, (.mv (.t 147)), none⟩]
 [] [16, 147]))))))))))))))))))))))⟩
def loc87 : List Nat := []
def fg87 : List (Nat × List Nat) := [(30, [16, 147]), (29, [2, 140, 141, 142, 143, 144, 145, 146]), (28, [18, 19, 20, 125, 137, 138, 139]), (27, [16, 135, 136]), (26, [1, 129, 130, 131, 132, 133, 134]), (25, [18, 19, 20, 125, 126, 127, 128]), (24, [123, 124]), (23, [12, 121, 122]), (22, [115, 116, 117, 118, 119, 120]), (21, [17, 114]), (20, [10, 11, 13, 97, 105, 106, 107, 108, 109, 110, 111, 112, 113]), (19, [15, 104]), (18, [1, 12, 13, 97, 98, 99, 100, 101, 102, 103]), (17, [75, 80, 81, 82, 83, 84, 85, 86, 87, 88, 89, 90, 91, 92, 93, 94, 95, 96]), (16, [75, 76, 77, 78, 79]), (15, [14, 56, 68, 69, 70, 71, 72, 73, 74]), (13, [62, 63, 64, 65, 66, 67]), (12, [14, 56, 57, 58, 59, 60, 61]), (11, [55]), (10, [39, 47, 48, 49, 50, 51, 52, 53, 54]), (9, [45, 46]), (8, [39, 40, 41, 42, 43, 44]), (7, [32, 38]), (6, [0, 1, 2, 3, 4, 10, 11, 12, 32, 33, 34, 35, 36, 37]), (5, [25, 31]), (4, [0, 1, 2, 3, 4, 10, 11, 12, 25, 26, 27, 28, 29, 30]), (3, [24]), (2, [21, 22, 23])]
theorem comp87 : compFn Try.prog loc87 (fun i => (fg87.lookup i).getD []) Try.f87 = some lit87 := by kernel_rfl

-- math/bits.Len
def lit88 : AFn := ⟨1, [.tmp 2],
 (.seq
 (.ops [⟨some 2, (.mv (.c (.int .i64 (0)))), none⟩]
 [] [2])
 (.seq
 (.cond (.c (.bool false))
 (.seq
 (.ops [⟨some 3, (.mv (.t 0)), none⟩,
 ⟨some 4, (.conv .u32 (.t 3)), none⟩,
 ⟨some 5, (.call (.f 104) [(.t 4)]), none⟩,
 ⟨some 2, (.mv (.t 5)), none⟩]
 [] [0, 3, 4, 5])
 .ret)
 .skip)
 (.seq
 (.ops [⟨some 6, (.mv (.t 0)), none⟩,
 ⟨some 7, (.call (.f 105) [(.t 6)]), none⟩,
 ⟨some 2, (.mv (.t 7)), none⟩]
 [] [0, 6, 7])
 .ret)))⟩
def loc88 : List Nat := []
def fg88 : List (Nat × List Nat) := [(2, [0, 6, 7]), (1, [0, 3, 4, 5]), (0, [2])]
theorem comp88 : compFn Try.prog loc88 (fun i => (fg88.lookup i).getD []) Try.f88 = some lit88 := by kernel_rfl

-- cmp.Compare[int64]
def lit91 : AFn := ⟨2, [.tmp 4],
 (.seq
 (.ops [⟨some 4, (.mv (.c (.int .i64 (0)))), none⟩]
 [] [4])
 (.seq
 (.ops [⟨some 7, (.mv (.t 0)), none⟩,
 ⟨some 8, (.call (.f 107) [(.t 7)]), none⟩,
 ⟨some 5, (.mv (.t 8)), none⟩]
 [] [7, 8])
 (.seq
 (.ops [⟨some 9, (.mv (.t 1)), none⟩,
 ⟨some 10, (.call (.f 107) [(.t 9)]), none⟩,
 ⟨some 6, (.mv (.t 10)), none⟩]
 [] [9, 10])
 (.seq
 (.seq
 (.ops [⟨some 11, (.mv (.t 5)), none⟩]
 [] [5])
 (.cond (.t 11)
 (.seq
 (.seq
 (.ops [⟨some 12, (.mv (.t 6)), none⟩]
 [] [0, 1, 6, 11])
 (.cond (.t 12)
 (.seq
 (.ops [⟨some 4, (.mv (.c (.int .i64 (0)))), none⟩]
 [] [12])
 .ret)
 .skip))
 (.seq
 (.ops [⟨some 4, (.mv (.c (.int .i64 (-1)))), none⟩]
 [] [12])
 .ret))
 .skip))
 (.seq
 (.seq
 (.ops [⟨some 13, (.mv (.t 6)), none⟩]
 [] [6, 11])
 (.cond (.t 13)
 (.seq
 (.ops [⟨some 4, (.mv (.c (.int .i64 (1)))), none⟩]
 [] [0, 1, 13])
 .ret)
 .skip))
 (.seq
 (.seq
 (.ops [⟨some 14, (.mv (.t 0)), none⟩,
 ⟨some 15, (.mv (.t 1)), none⟩,
 ⟨some 16, (.bin .lss (.t 14) (.t 15)), none⟩]
 [] [13, 14, 15])
 (.cond (.t 16)
 (.seq
 (.ops [⟨some 4, (.mv (.c (.int .i64 (-1)))), none⟩]
 [] [0, 1, 16])
 .ret)
 .skip))
 (.seq
 (.seq
 (.ops [⟨some 17, (.mv (.t 0)), none⟩,
 ⟨some 18, (.mv (.t 1)), none⟩,
 ⟨some 19, (.bin .gtr (.t 17) (.t 18)), none⟩]
 [] [0, 1, 16, 17, 18])
 (.cond (.t 19)
 (.seq
 (.ops [⟨some 4, (.mv (.c (.int .i64 (1)))), none⟩]
 [] [19])
 .ret)
 .skip))
 (.seq
 (.ops [⟨some 4, (.mv (.c (.int .i64 (0)))), none⟩]
 [] [19])
 .ret))))))))⟩
def loc91 : List Nat := []
def fg91 : List (Nat × List Nat) := [(13, [19]), (12, [19]), (11, [0, 1, 16, 17, 18]), (10, [0, 1, 16]), (9, [13, 14, 15]), (8, [0, 1, 13]), (7, [6, 11]), (6, [12]), (5, [12]), (4, [0, 1, 6, 11]), (3, [5]), (2, [9, 10]), (1, [7, 8]), (0, [4])]
theorem comp91 : compFn Try.prog loc91 (fun i => (fg91.lookup i).getD []) Try.f91 = some lit91 := by kernel_rfl

-- cmp.Or[int]
def lit92 : AFn := ⟨1, [.tmp 2],
 (.seq
 (.ops [⟨some 2, (.mv (.c (.int .i64 (0)))), none⟩]
 [] [2])
 (.seq
 (.ops [⟨some 3, (.mv (.c (.int .i64 (0)))), none⟩]
 [] [])
 (.seq
 (.seq
 (.ops [⟨some 6, (.mv (.t 0)), none⟩,
 ⟨some 7, (.len (.t 6)), none⟩,
 ⟨some 8, (.mv (.c (.int .i64 (0)))), none⟩]
 [] [0])
 (.block 0
 (.loop
 (.seq
 (.ops [⟨some 9, (.bin .lss (.t 8) (.t 7)), none⟩]
 [] [])
 (.seq
 (.cond (.t 9)
 .skip
 (.exit 0))
 (.seq
 (.block 1
 (.seq
 (.ops [⟨some 10, (.iad 1 (.t 6) (.t 8)), none⟩,
 ⟨some 11, (.load false 1 (.t 10)), none⟩,
 ⟨some 5, (.mv (.t 11)), none⟩]
 [] [9, 10, 11])
 (.seq
 (.ops [⟨some 12, (.mv (.t 5)), none⟩,
 ⟨some 13, (.mv (.t 3)), none⟩,
 ⟨some 14, (.bin .neq (.t 12) (.t 13)), none⟩]
 [] [12, 13])
 (.cond (.t 14)
 (.seq
 (.ops [⟨some 15, (.mv (.t 5)), none⟩,
 ⟨some 2, (.mv (.t 15)), none⟩]
 [] [3, 5, 6, 7, 8, 14, 15])
 .ret)
 .skip))))
 (.ops [⟨some 16, (.bin .add (.t 8) (.c (.int .i64 (1)))), none⟩,
 ⟨some 8, (.mv (.t 16)), none⟩]
 [] [5, 14, 16])))))))
 (.seq
 (.ops [⟨some 17, (.mv (.t 3)), none⟩,
 ⟨some 2, (.mv (.t 17)), none⟩]
 [] [3, 6, 7, 8, 9, 17])
 .ret))))⟩
def loc92 : List Nat := []
def fg92 : List (Nat × List Nat) := [(8, [3, 6, 7, 8, 9, 17]), (7, [5, 14, 16]), (6, [3, 5, 6, 7, 8, 14, 15]), (5, [12, 13]), (4, [9, 10, 11]), (2, [0]), (0, [2])]
theorem comp92 : compFn Try.prog loc92 (fun i => (fg92.lookup i).getD []) Try.f92 = some lit92 := by kernel_rfl

-- cmp.Compare[uint64]
def lit93 : AFn := ⟨2, [.tmp 4],
 (.seq
 (.ops [⟨some 4, (.mv (.c (.int .i64 (0)))), none⟩]
 [] [4])
 (.seq
 (.ops [⟨some 7, (.mv (.t 0)), none⟩,
 ⟨some 8, (.call (.f 108) [(.t 7)]), none⟩,
 ⟨some 5, (.mv (.t 8)), none⟩]
 [] [7, 8])
 (.seq
 (.ops [⟨some 9, (.mv (.t 1)), none⟩,
 ⟨some 10, (.call (.f 108) [(.t 9)]), none⟩,
 ⟨some 6, (.mv (.t 10)), none⟩]
 [] [9, 10])
 (.seq
 (.seq
 (.ops [⟨some 11, (.mv (.t 5)), none⟩]
 [] [5])
 (.cond (.t 11)
 (.seq
 (.seq
 (.ops [⟨some 12, (.mv (.t 6)), none⟩]
 [] [0, 1, 6, 11])
 (.cond (.t 12)
 (.seq
 (.ops [⟨some 4, (.mv (.c (.int .i64 (0)))), none⟩]
 [] [12])
 .ret)
 .skip))
 (.seq
 (.ops [⟨some 4, (.mv (.c (.int .i64 (-1)))), none⟩]
 [] [12])
 .ret))
 .skip))
 (.seq
 (.seq
 (.ops [⟨some 13, (.mv (.t 6)), none⟩]
 [] [6, 11])
 (.cond (.t 13)
 (.seq
 (.ops [⟨some 4, (.mv (.c (.int .i64 (1)))), none⟩]
 [] [0, 1, 13])
 .ret)
 .skip))
 (.seq
 (.seq
 (.ops [⟨some 14, (.mv (.t 0)), none⟩,
 ⟨some 15, (.mv (.t 1)), none⟩,
 ⟨some 16, (.bin .lss (.t 14) (.t 15)), none⟩]
 [] [13, 14, 15])
 (.cond (.t 16)
 (.seq
 (.ops [⟨some 4, (.mv (.c (.int .i64 (-1)))), none⟩]
 [] [0, 1, 16])
 .ret)
 .skip))
 (.seq
 (.seq
 (.ops [⟨some 17, (.mv (.t 0)), none⟩,
 ⟨some 18, (.mv (.t 1)), none⟩,
 ⟨some 19, (.bin .gtr (.t 17) (.t 18)), none⟩]
 [] [0, 1, 16, 17, 18])
 (.cond (.t 19)
 (.seq
 (.ops [⟨some 4, (.mv (.c (.int .i64 (1)))), none⟩]
 [] [19])
 .ret)
 .skip))
 (.seq
 (.ops [⟨some 4, (.mv (.c (.int .i64 (0)))), none⟩]
 [] [19])
 .ret))))))))⟩
def loc93 : List Nat := []
def fg93 : List (Nat × List Nat) := [(13, [19]), (12, [19]), (11, [0, 1, 16, 17, 18]), (10, [0, 1, 16]), (9, [13, 14, 15]), (8, [0, 1, 13]), (7, [6, 11]), (6, [12]), (5, [12]), (4, [0, 1, 6, 11]), (3, [5]), (2, [9, 10]), (1, [7, 8]), (0, [4])]
theorem comp93 : compFn Try.prog loc93 (fun i => (fg93.lookup i).getD []) Try.f93 = some lit93 := by kernel_rfl

-- cmp.Or[parcener/api.Errno]
def lit94 : AFn := ⟨1, [.tmp 2],
 (.seq
 (.ops [⟨some 2, (.mv (.c (.int .i64 (0)))), none⟩]
 [] [2])
 (.seq
 (.ops [⟨some 3, (.mv (.c (.int .i64 (0)))), none⟩]
 [] [])
 (.seq
 (.seq
 (.ops [⟨some 6, (.mv (.t 0)), none⟩,
 ⟨some 7, (.len (.t 6)), none⟩,
 ⟨some 8, (.mv (.c (.int .i64 (0)))), none⟩]
 [] [0])
 (.block 0
 (.loop
 (.seq
 (.ops [⟨some 9, (.bin .lss (.t 8) (.t 7)), none⟩]
 [] [])
 (.seq
 (.cond (.t 9)
 .skip
 (.exit 0))
 (.seq
 (.block 1
 (.seq
 (.ops [⟨some 10, (.iad 1 (.t 6) (.t 8)), none⟩,
 ⟨some 11, (.load false 1 (.t 10)), none⟩,
 ⟨some 5, (.mv (.t 11)), none⟩]
 [] [9, 10, 11])
 (.seq
 (.ops [⟨some 12, (.mv (.t 5)), none⟩,
 ⟨some 13, (.mv (.t 3)), none⟩,
 ⟨some 14, (.bin .neq (.t 12) (.t 13)), none⟩]
 [] [12, 13])
 (.cond (.t 14)
 (.seq
 (.ops [⟨some 15, (.mv (.t 5)), none⟩,
 ⟨some 2, (.mv (.t 15)), none⟩]
 [] [3, 5, 6, 7, 8, 14, 15])
 .ret)
 .skip))))
 (.ops [⟨some 16, (.bin .add (.t 8) (.c (.int .i64 (1)))), none⟩,
 ⟨some 8, (.mv (.t 16)), none⟩]
 [] [5, 14, 16])))))))
 (.seq
 (.ops [⟨some 17, (.mv (.t 3)), none⟩,
 ⟨some 2, (.mv (.t 17)), none⟩]
 [] [3, 6, 7, 8, 9, 17])
 .ret))))⟩
def loc94 : List Nat := []
def fg94 : List (Nat × List Nat) := [(8, [3, 6, 7, 8, 9, 17]), (7, [5, 14, 16]), (6, [3, 5, 6, 7, 8, 14, 15]), (5, [12, 13]), (4, [9, 10, 11]), (2, [0]), (0, [2])]
theorem comp94 : compFn Try.prog loc94 (fun i => (fg94.lookup i).getD []) Try.f94 = some lit94 := by kernel_rfl

-- slices.insertionSortCmpFunc[parcener/api.Span]
def lit96 : AFn := ⟨4, [],
 (.seq
 (.ops [⟨some 10, (.mv (.t 1)), none⟩,
 ⟨some 11, (.bin .add (.t 10) (.c (.int .i64 (1)))), none⟩,
 ⟨some 8, (.mv (.t 11)), none⟩]
 [] [10, 11])
 (.block 0
 (.loop
 (.seq
 (.seq
 (.ops [⟨some 12, (.mv (.t 8)), none⟩,
 ⟨some 13, (.mv (.t 2)), none⟩,
 ⟨some 14, (.bin .lss (.t 12) (.t 13)), none⟩]
 [] [12, 13])
 (.cond (.t 14)
 .skip
 (.exit 0)))
 (.seq
 (.block 1
 (.seq
 (.ops [⟨some 17, (.mv (.t 8)), none⟩,
 ⟨some 9, (.mv (.t 17)), none⟩]
 [] [14, 17])
 (.block 2
 (.loop
 (.seq
 (.seq
 (.ops [⟨some 18, (.mv (.t 9)), none⟩,
 ⟨some 19, (.mv (.t 1)), none⟩,
 ⟨some 20, (.bin .gtr (.t 18) (.t 19)), none⟩,
 ⟨some 21, (.mv (.t 20)), none⟩,
 ⟨some 22, (.mv (.t 3)), some (21, true)⟩,
 ⟨some 23, (.mv (.t 0)), some (21, true)⟩,
 ⟨some 24, (.mv (.t 9)), some (21, true)⟩,
 ⟨some 25, (.iad 4 (.t 23) (.t 24)), some (21, true)⟩,
 ⟨some 26, (.load true 4 (.t 25)), some (21, true)⟩,
 ⟨some 27, (.mv (.t 0)), some (21, true)⟩,
 ⟨some 28, (.mv (.t 9)), some (21, true)⟩,
 ⟨some 29, (.bin .sub (.t 28) (.c (.int .i64 (1)))), some (21, true)⟩,
 ⟨some 30, (.iad 4 (.t 27) (.t 29)), some (21, true)⟩,
 ⟨some 31, (.load true 4 (.t 30)), some (21, true)⟩,
 ⟨some 32, (.call (.t 22) [(.t 26), (.t 31)]), some (21, true)⟩,
 ⟨some 33, (.bin .lss (.t 32) (.c (.int .i64 (0)))), some (21, true)⟩,
 ⟨some 34, (.pick (.t 21) (.t 33) (.c (.bool false))), none⟩]
 [(0, 1), (4, 5), (4, 6), (5, 6), (4, 7), (4, 8), (4, 9), (5, 9), (6, 9), (7, 9), (8, 9), (4, 10), (5, 10), (6, 10), (7, 10), (8, 10), (9, 10), (4, 11), (5, 11), (6, 11), (7, 11), (8, 11), (9, 11), (4, 12), (5, 12), (6, 12), (7, 12), (8, 12), (4, 13), (5, 13), (6, 13), (7, 13), (8, 13)] [18, 19, 20, 21, 22, 23, 24, 25, 26, 27, 28, 29, 30, 31, 32, 33])
 (.cond (.t 34)
 .skip
 (.exit 2)))
 (.seq
 (.block 3
 (.ops [⟨some 37, (.mv (.t 0)), none⟩,
 ⟨some 38, (.mv (.t 9)), none⟩,
 ⟨some 39, (.mv (.t 0)), none⟩,
 ⟨some 40, (.mv (.t 9)), none⟩,
 ⟨some 41, (.bin .sub (.t 40) (.c (.int .i64 (1)))), none⟩,
 ⟨some 42, (.mv (.t 0)), none⟩,
 ⟨some 43, (.mv (.t 9)), none⟩,
 ⟨some 44, (.bin .sub (.t 43) (.c (.int .i64 (1)))), none⟩,
 ⟨some 45, (.iad 4 (.t 42) (.t 44)), none⟩,
 ⟨some 46, (.load true 4 (.t 45)), none⟩,
 ⟨some 47, (.mv (.t 0)), none⟩,
 ⟨some 48, (.mv (.t 9)), none⟩,
 ⟨some 49, (.iad 4 (.t 47) (.t 48)), none⟩,
 ⟨some 50, (.load true 4 (.t 49)), none⟩,
 ⟨some 51, (.iad 4 (.t 37) (.t 38)), none⟩,
 ⟨none, (.store 4 (.t 51) (.t 46)), none⟩,
 ⟨some 52, (.iad 4 (.t 39) (.t 41)), none⟩,
 ⟨none, (.store 4 (.t 52) (.t 50)), none⟩]
 [(0, 1), (0, 2), (1, 2), (0, 3), (1, 3), (2, 3), (0, 4), (1, 4), (2, 4), (0, 5), (1, 5), (2, 5), (3, 5), (4, 5), (0, 6), (1, 6), (2, 6), (3, 6), (4, 6), (5, 6), (0, 7), (1, 7), (2, 7), (3, 7), (4, 7), (5, 7), (0, 8), (1, 8), (2, 8), (3, 8), (4, 8), (0, 9), (1, 9), (2, 9), (3, 9), (4, 9), (0, 10), (1, 10), (2, 10), (3, 10), (4, 10), (5, 10), (6, 10), (7, 10), (8, 10), (9, 10), (0, 11), (1, 11), (2, 11), (3, 11), (4, 11), (5, 11), (6, 11), (7, 11), (8, 11), (9, 11), (10, 11), (0, 12), (1, 12), (2, 12), (3, 12), (4, 12), (5, 12), (6, 12), (7, 12), (8, 12), (9, 12), (0, 13), (1, 13), (2, 13), (3, 13), (4, 13), (5, 13), (6, 13), (7, 13), (8, 13), (9, 13), (2, 14), (3, 14), (4, 14), (2, 15), (3, 15), (4, 15)] [34, 37, 38, 39, 40, 41, 42, 43, 44, 45, 46, 47, 48, 49, 50, 51, 52]))
 (.ops [⟨some 35, (.mv (.t 9)), none⟩,
 ⟨some 36, (.bin .sub (.t 35) (.c (.int .i64 (1)))), none⟩,
 ⟨some 9, (.mv (.t 36)), none⟩]
 [] [35, 36])))))))
 (.ops [⟨some 15, (.mv (.t 8)), none⟩,
 ⟨some 16, (.bin .add (.t 15) (.c (.int .i64 (1)))), none⟩,
 ⟨some 8, (.mv (.t 16)), none⟩]
 [] [9, 15, 16, 34]))))))⟩
def loc96 : List Nat := []
def fg96 : List (Nat × List Nat) := [(2, [9, 15, 16, 34]), (5, [35, 36]), (6, [34, 37, 38, 39, 40, 41, 42, 43, 44, 45, 46, 47, 48, 49, 50, 51, 52]), (4, [18, 19, 20, 21, 22, 23, 24, 25, 26, 27, 28, 29, 30, 31, 32, 33]), (3, [14, 17]), (1, [12, 13]), (0, [10, 11])]
theorem comp96 : compFn Try.prog loc96 (fun i => (fg96.lookup i).getD []) Try.f96 = some lit96 := by kernel_rfl

-- slices.choosePivotCmpFunc[parcener/api.Span]
def lit99 : AFn := ⟨4, [.tmp 8, .tmp 9],
 (.seq
 (.ops [⟨some 8, (.mv (.c (.int .i64 (0)))), none⟩,
 ⟨some 9, (.mv (.c (.int .i64 (0)))), none⟩]
 [] [8, 9])
 (.seq
 (.ops [⟨some 15, (.mv (.t 2)), none⟩,
 ⟨some 16, (.mv (.t 1)), none⟩,
 ⟨some 17, (.bin .sub (.t 15) (.t 16)), none⟩,
 ⟨some 10, (.mv (.t 17)), none⟩]
 [] [2, 15, 16, 17])
 (.seq
 (.ops [⟨some 11, (.allocH true 1 (.int .i64 (0))), none⟩]
 [] [])
 (.seq
 (.ops [⟨some 18, (.mv (.t 1)), none⟩,
 ⟨some 19, (.mv (.t 10)), none⟩,
 ⟨some 20, (.bin .quo (.t 19) (.c (.int .i64 (4)))), none⟩,
 ⟨some 21, (.bin .mul (.t 20) (.c (.int .i64 (1)))), none⟩,
 ⟨some 22, (.bin .add (.t 18) (.t 21)), none⟩,
 ⟨some 12, (.mv (.t 22)), none⟩]
 [] [18, 19, 20, 21, 22])
 (.seq
 (.ops [⟨some 23, (.mv (.t 1)), none⟩,
 ⟨some 24, (.mv (.t 10)), none⟩,
 ⟨some 25, (.bin .quo (.t 24) (.c (.int .i64 (4)))), none⟩,
 ⟨some 26, (.bin .mul (.t 25) (.c (.int .i64 (2)))), none⟩,
 ⟨some 27, (.bin .add (.t 23) (.t 26)), none⟩,
 ⟨some 13, (.mv (.t 27)), none⟩]
 [] [23, 24, 25, 26, 27])
 (.seq
 (.ops [⟨some 28, (.mv (.t 1)), none⟩,
 ⟨some 29, (.mv (.t 10)), none⟩,
 ⟨some 30, (.bin .quo (.t 29) (.c (.int .i64 (4)))), none⟩,
 ⟨some 31, (.bin .mul (.t 30) (.c (.int .i64 (3)))), none⟩,
 ⟨some 32, (.bin .add (.t 28) (.t 31)), none⟩,
 ⟨some 14, (.mv (.t 32)), none⟩]
 [] [1, 28, 29, 30, 31, 32])
 (.seq
 (.seq
 (.ops [⟨some 33, (.mv (.t 10)), none⟩,
 ⟨some 34, (.bin .geq (.t 33) (.c (.int .i64 (8)))), none⟩]
 [] [33])
 (.cond (.t 34)
 (.seq
 (.seq
 (.ops [⟨some 35, (.mv (.t 10)), none⟩,
 ⟨some 36, (.bin .geq (.t 35) (.c (.int .i64 (50)))), none⟩]
 [] [10, 34, 35])
 (.cond (.t 36)
 (.seq
 (.ops [⟨some 37, (.mv (.t 0)), none⟩,
 ⟨some 38, (.mv (.t 12)), none⟩,
 ⟨some 39, (.mv (.t 3)), none⟩,
 ⟨some 40, (.call (.f 112) [(.t 37), (.t 38), (.t 11), (.t 39)]), none⟩,
 ⟨some 12, (.mv (.t 40)), none⟩]
 [] [36, 37, 38, 39, 40])
 (.seq
 (.ops [⟨some 41, (.mv (.t 0)), none⟩,
 ⟨some 42, (.mv (.t 13)), none⟩,
 ⟨some 43, (.mv (.t 3)), none⟩,
 ⟨some 44, (.call (.f 112) [(.t 41), (.t 42), (.t 11), (.t 43)]), none⟩,
 ⟨some 13, (.mv (.t 44)), none⟩]
 [] [41, 42, 43, 44])
 (.ops [⟨some 45, (.mv (.t 0)), none⟩,
 ⟨some 46, (.mv (.t 14)), none⟩,
 ⟨some 47, (.mv (.t 3)), none⟩,
 ⟨some 48, (.call (.f 112) [(.t 45), (.t 46), (.t 11), (.t 47)]), none⟩,
 ⟨some 14, (.mv (.t 48)), none⟩]
 [] [45, 46, 47, 48])))
 .skip))
 (.ops [⟨some 49, (.mv (.t 0)), none⟩,
 ⟨some 50, (.mv (.t 12)), none⟩,
 ⟨some 51, (.mv (.t 13)), none⟩,
 ⟨some 52, (.mv (.t 14)), none⟩,
 ⟨some 53, (.mv (.t 3)), none⟩,
 ⟨some 54, (.call (.f 113) [(.t 49), (.t 50), (.t 51), (.t 52), (.t 11), (.t 53)]), none⟩,
 ⟨some 13, (.mv (.t 54)), none⟩]
 [] [0, 3, 12, 14, 36, 49, 50, 51, 52, 53, 54]))
 .skip))
 (.seq
 (.ops [⟨some 55, (.load false 1 (.t 11)), none⟩]
 [] [0, 3, 10, 11, 12, 14, 34])
 (.block 0
 (.seq
 (.ops [⟨some 58, (.bin .eql (.t 55) (.c (.int .i64 (0)))), none⟩,
 ⟨some 57, (.mv (.t 58)), none⟩]
 [] [58])
 (.cond (.t 57)
 (.seq
 (.ops [⟨some 59, (.mv (.t 13)), none⟩,
 ⟨some 8, (.mv (.t 59)), none⟩,
 ⟨some 9, (.mv (.c (.int .i64 (1)))), none⟩]
 [] [13, 55, 57, 59])
 .ret)
 (.seq
 (.ops [⟨some 61, (.bin .eql (.t 55) (.c (.int .i64 (12)))), none⟩,
 ⟨some 60, (.mv (.t 61)), none⟩]
 [] [55, 57, 61])
 (.cond (.t 60)
 (.seq
 (.ops [⟨some 62, (.mv (.t 13)), none⟩,
 ⟨some 8, (.mv (.t 62)), none⟩,
 ⟨some 9, (.mv (.c (.int .i64 (2)))), none⟩]
 [] [13, 60, 62])
 .ret)
 (.seq
 (.ops [⟨some 56, (.mv (.t 13)), none⟩,
 ⟨some 8, (.mv (.t 56)), none⟩,
 ⟨some 9, (.mv (.c (.int .i64 (0)))), none⟩]
 [] [13, 56, 60])
 .ret))))))))))))))⟩
def loc99 : List Nat := []
def fg99 : List (Nat × List Nat) := [(13, [13, 56, 60]), (17, [13, 60, 62]), (16, [55, 57, 61]), (15, [13, 55, 57, 59]), (14, [58]), (12, [0, 3, 10, 11, 12, 14, 34]), (11, [0, 3, 12, 14, 36, 49, 50, 51, 52, 53, 54]), (10, [45, 46, 47, 48]), (9, [41, 42, 43, 44]), (8, [36, 37, 38, 39, 40]), (7, [10, 34, 35]), (6, [33]), (5, [1, 28, 29, 30, 31, 32]), (4, [23, 24, 25, 26, 27]), (3, [18, 19, 20, 21, 22]), (1, [2, 15, 16, 17]), (0, [8, 9])]
theorem comp99 : compFn Try.prog loc99 (fun i => (fg99.lookup i).getD []) Try.f99 = some lit99 := by kernel_rfl

-- slices.partialInsertionSortCmpFunc[parcener/api.Span]
def lit101 : AFn := ⟨4, [.tmp 8],
 (.seq
 (.ops [⟨some 8, (.mv (.c (.bool false))), none⟩]
 [] [8])
 (.seq
 (.ops [⟨some 13, (.mv (.t 1)), none⟩,
 ⟨some 14, (.bin .add (.t 13) (.c (.int .i64 (1)))), none⟩,
 ⟨some 9, (.mv (.t 14)), none⟩]
 [] [13, 14])
 (.seq
 (.seq
 (.ops [⟨some 10, (.mv (.c (.int .i64 (0)))), none⟩]
 [] [])
 (.block 0
 (.loop
 (.seq
 (.seq
 (.ops [⟨some 15, (.mv (.t 10)), none⟩,
 ⟨some 16, (.bin .lss (.t 15) (.c (.int .i64 (5)))), none⟩]
 [] [15])
 (.cond (.t 16)
 .skip
 (.exit 0)))
 (.seq
 (.block 1
 (.seq
 (.block 2
 (.loop
 (.seq
 (.seq
 (.ops [⟨some 19, (.mv (.t 9)), none⟩,
 ⟨some 20, (.mv (.t 2)), none⟩,
 ⟨some 21, (.bin .lss (.t 19) (.t 20)), none⟩,
 ⟨some 22, (.mv (.t 21)), none⟩,
 ⟨some 23, (.mv (.t 3)), some (22, true)⟩,
 ⟨some 24, (.mv (.t 0)), some (22, true)⟩,
 ⟨some 25, (.mv (.t 9)), some (22, true)⟩,
 ⟨some 26, (.iad 4 (.t 24) (.t 25)), some (22, true)⟩,
 ⟨some 27, (.load true 4 (.t 26)), some (22, true)⟩,
 ⟨some 28, (.mv (.t 0)), some (22, true)⟩,
 ⟨some 29, (.mv (.t 9)), some (22, true)⟩,
 ⟨some 30, (.bin .sub (.t 29) (.c (.int .i64 (1)))), some (22, true)⟩,
 ⟨some 31, (.iad 4 (.t 28) (.t 30)), some (22, true)⟩,
 ⟨some 32, (.load true 4 (.t 31)), some (22, true)⟩,
 ⟨some 33, (.call (.t 23) [(.t 27), (.t 32)]), some (22, true)⟩,
 ⟨some 34, (.bin .lss (.t 33) (.c (.int .i64 (0)))), some (22, true)⟩,
 ⟨some 35, (.un .not (.t 34)), some (22, true)⟩,
 ⟨some 36, (.pick (.t 22) (.t 35) (.c (.bool false))), none⟩]
 [(0, 1), (4, 5), (4, 6), (5, 6), (4, 7), (4, 8), (4, 9), (5, 9), (6, 9), (7, 9), (8, 9), (4, 10), (5, 10), (6, 10), (7, 10), (8, 10), (9, 10), (4, 11), (5, 11), (6, 11), (7, 11), (8, 11), (9, 11), (4, 12), (5, 12), (6, 12), (7, 12), (8, 12), (4, 13), (5, 13), (6, 13), (7, 13), (8, 13)] [16, 19, 20, 21, 22, 23, 24, 25, 26, 27, 28, 29, 30, 31, 32, 33, 34, 35])
 (.cond (.t 36)
 .skip
 (.exit 2)))
 (.block 3
 (.ops [⟨some 37, (.mv (.t 9)), none⟩,
 ⟨some 38, (.bin .add (.t 37) (.c (.int .i64 (1)))), none⟩,
 ⟨some 9, (.mv (.t 38)), none⟩]
 [] [36, 37, 38])))))
 (.seq
 (.seq
 (.ops [⟨some 39, (.mv (.t 9)), none⟩,
 ⟨some 40, (.mv (.t 2)), none⟩,
 ⟨some 41, (.bin .eql (.t 39) (.t 40)), none⟩]
 [] [36, 39, 40])
 (.cond (.t 41)
 (.seq
 (.ops [⟨some 8, (.mv (.c (.bool true))), none⟩]
 [] [0, 1, 2, 3, 9, 10, 41])
 .ret)
 .skip))
 (.seq
 (.seq
 (.ops [⟨some 42, (.mv (.t 2)), none⟩,
 ⟨some 43, (.mv (.t 1)), none⟩,
 ⟨some 44, (.bin .sub (.t 42) (.t 43)), none⟩,
 ⟨some 45, (.bin .lss (.t 44) (.c (.int .i64 (50)))), none⟩]
 [] [41, 42, 43, 44])
 (.cond (.t 45)
 (.seq
 (.ops [⟨some 8, (.mv (.c (.bool false))), none⟩]
 [] [0, 1, 2, 3, 9, 10, 45])
 .ret)
 .skip))
 (.seq
 (.ops [⟨some 46, (.mv (.t 0)), none⟩,
 ⟨some 47, (.mv (.t 9)), none⟩,
 ⟨some 48, (.mv (.t 0)), none⟩,
 ⟨some 49, (.mv (.t 9)), none⟩,
 ⟨some 50, (.bin .sub (.t 49) (.c (.int .i64 (1)))), none⟩,
 ⟨some 51, (.mv (.t 0)), none⟩,
 ⟨some 52, (.mv (.t 9)), none⟩,
 ⟨some 53, (.bin .sub (.t 52) (.c (.int .i64 (1)))), none⟩,
 ⟨some 54, (.iad 4 (.t 51) (.t 53)), none⟩,
 ⟨some 55, (.load true 4 (.t 54)), none⟩,
 ⟨some 56, (.mv (.t 0)), none⟩,
 ⟨some 57, (.mv (.t 9)), none⟩,
 ⟨some 58, (.iad 4 (.t 56) (.t 57)), none⟩,
 ⟨some 59, (.load true 4 (.t 58)), none⟩,
 ⟨some 60, (.iad 4 (.t 46) (.t 47)), none⟩,
 ⟨none, (.store 4 (.t 60) (.t 55)), none⟩,
 ⟨some 61, (.iad 4 (.t 48) (.t 50)), none⟩,
 ⟨none, (.store 4 (.t 61) (.t 59)), none⟩]
 [(0, 1), (0, 2), (1, 2), (0, 3), (1, 3), (2, 3), (0, 4), (1, 4), (2, 4), (0, 5), (1, 5), (2, 5), (3, 5), (4, 5), (0, 6), (1, 6), (2, 6), (3, 6), (4, 6), (5, 6), (0, 7), (1, 7), (2, 7), (3, 7), (4, 7), (5, 7), (0, 8), (1, 8), (2, 8), (3, 8), (4, 8), (0, 9), (1, 9), (2, 9), (3, 9), (4, 9), (0, 10), (1, 10), (2, 10), (3, 10), (4, 10), (5, 10), (6, 10), (7, 10), (8, 10), (9, 10), (0, 11), (1, 11), (2, 11), (3, 11), (4, 11), (5, 11), (6, 11), (7, 11), (8, 11), (9, 11), (10, 11), (0, 12), (1, 12), (2, 12), (3, 12), (4, 12), (5, 12), (6, 12), (7, 12), (8, 12), (9, 12), (0, 13), (1, 13), (2, 13), (3, 13), (4, 13), (5, 13), (6, 13), (7, 13), (8, 13), (9, 13), (2, 14), (3, 14), (4, 14), (2, 15), (3, 15), (4, 15)] [45, 46, 47, 48, 49, 50, 51, 52, 53, 54, 55, 56, 57, 58, 59, 60, 61])
 (.seq
 (.seq
 (.ops [⟨some 62, (.mv (.t 9)), none⟩,
 ⟨some 63, (.mv (.t 1)), none⟩,
 ⟨some 64, (.bin .sub (.t 62) (.t 63)), none⟩,
 ⟨some 65, (.bin .geq (.t 64) (.c (.int .i64 (2)))), none⟩]
 [] [62, 63, 64])
 (.cond (.t 65)
 (.seq
 (.ops [⟨some 66, (.mv (.t 9)), none⟩,
 ⟨some 67, (.bin .sub (.t 66) (.c (.int .i64 (1)))), none⟩,
 ⟨some 11, (.mv (.t 67)), none⟩]
 [] [65, 66, 67])
 (.block 4
 (.loop
 (.seq
 (.seq
 (.ops [⟨some 68, (.mv (.t 11)), none⟩,
 ⟨some 69, (.bin .geq (.t 68) (.c (.int .i64 (1)))), none⟩]
 [] [68])
 (.cond (.t 69)
 .skip
 (.exit 4)))
 (.seq
 (.block 5
 (.seq
 (.seq
 (.ops [⟨some 72, (.mv (.t 3)), none⟩,
 ⟨some 73, (.mv (.t 0)), none⟩,
 ⟨some 74, (.mv (.t 11)), none⟩,
 ⟨some 75, (.iad 4 (.t 73) (.t 74)), none⟩,
 ⟨some 76, (.load true 4 (.t 75)), none⟩,
 ⟨some 77, (.mv (.t 0)), none⟩,
 ⟨some 78, (.mv (.t 11)), none⟩,
 ⟨some 79, (.bin .sub (.t 78) (.c (.int .i64 (1)))), none⟩,
 ⟨some 80, (.iad 4 (.t 77) (.t 79)), none⟩,
 ⟨some 81, (.load true 4 (.t 80)), none⟩,
 ⟨some 82, (.call (.t 72) [(.t 76), (.t 81)]), none⟩,
 ⟨some 83, (.bin .lss (.t 82) (.c (.int .i64 (0)))), none⟩,
 ⟨some 84, (.un .not (.t 83)), none⟩]
 [(0, 1), (0, 2), (1, 2), (0, 3), (0, 4), (0, 5), (1, 5), (2, 5), (3, 5), (4, 5), (0, 6), (1, 6), (2, 6), (3, 6), (4, 6), (5, 6), (0, 7), (1, 7), (2, 7), (3, 7), (4, 7), (5, 7), (0, 8), (1, 8), (2, 8), (3, 8), (4, 8), (0, 9), (1, 9), (2, 9), (3, 9), (4, 9)] [69, 72, 73, 74, 75, 76, 77, 78, 79, 80, 81, 82, 83])
 (.cond (.t 84)
 (.exit 4)
 .skip))
 (.ops [⟨some 85, (.mv (.t 0)), none⟩,
 ⟨some 86, (.mv (.t 11)), none⟩,
 ⟨some 87, (.mv (.t 0)), none⟩,
 ⟨some 88, (.mv (.t 11)), none⟩,
 ⟨some 89, (.bin .sub (.t 88) (.c (.int .i64 (1)))), none⟩,
 ⟨some 90, (.mv (.t 0)), none⟩,
 ⟨some 91, (.mv (.t 11)), none⟩,
 ⟨some 92, (.bin .sub (.t 91) (.c (.int .i64 (1)))), none⟩,
 ⟨some 93, (.iad 4 (.t 90) (.t 92)), none⟩,
 ⟨some 94, (.load true 4 (.t 93)), none⟩,
 ⟨some 95, (.mv (.t 0)), none⟩,
 ⟨some 96, (.mv (.t 11)), none⟩,
 ⟨some 97, (.iad 4 (.t 95) (.t 96)), none⟩,
 ⟨some 98, (.load true 4 (.t 97)), none⟩,
 ⟨some 99, (.iad 4 (.t 85) (.t 86)), none⟩,
 ⟨none, (.store 4 (.t 99) (.t 94)), none⟩,
 ⟨some 100, (.iad 4 (.t 87) (.t 89)), none⟩,
 ⟨none, (.store 4 (.t 100) (.t 98)), none⟩]
 [(0, 1), (0, 2), (1, 2), (0, 3), (1, 3), (2, 3), (0, 4), (1, 4), (2, 4), (0, 5), (1, 5), (2, 5), (3, 5), (4, 5), (0, 6), (1, 6), (2, 6), (3, 6), (4, 6), (5, 6), (0, 7), (1, 7), (2, 7), (3, 7), (4, 7), (5, 7), (0, 8), (1, 8), (2, 8), (3, 8), (4, 8), (0, 9), (1, 9), (2, 9), (3, 9), (4, 9), (0, 10), (1, 10), (2, 10), (3, 10), (4, 10), (5, 10), (6, 10), (7, 10), (8, 10), (9, 10), (0, 11), (1, 11), (2, 11), (3, 11), (4, 11), (5, 11), (6, 11), (7, 11), (8, 11), (9, 11), (10, 11), (0, 12), (1, 12), (2, 12), (3, 12), (4, 12), (5, 12), (6, 12), (7, 12), (8, 12), (9, 12), (0, 13), (1, 13), (2, 13), (3, 13), (4, 13), (5, 13), (6, 13), (7, 13), (8, 13), (9, 13), (2, 14), (3, 14), (4, 14), (2, 15), (3, 15), (4, 15)] [84, 85, 86, 87, 88, 89, 90, 91, 92, 93, 94, 95, 96, 97, 98, 99, 100])))
 (.ops [⟨some 70, (.mv (.t 11)), none⟩,
 ⟨some 71, (.bin .sub (.t 70) (.c (.int .i64 (1)))), none⟩,
 ⟨some 11, (.mv (.t 71)), none⟩]
 [] [70, 71]))))))
 .skip))
 (.seq
 (.ops [⟨some 101, (.mv (.t 2)), none⟩,
 ⟨some 102, (.mv (.t 9)), none⟩,
 ⟨some 103, (.bin .sub (.t 101) (.t 102)), none⟩,
 ⟨some 104, (.bin .geq (.t 103) (.c (.int .i64 (2)))), none⟩]
 [] [11, 65, 69, 84, 101, 102, 103])
 (.cond (.t 104)
 (.seq
 (.ops [⟨some 105, (.mv (.t 9)), none⟩,
 ⟨some 106, (.bin .add (.t 105) (.c (.int .i64 (1)))), none⟩,
 ⟨some 12, (.mv (.t 106)), none⟩]
 [] [104, 105, 106])
 (.block 6
 (.loop
 (.seq
 (.seq
 (.ops [⟨some 107, (.mv (.t 12)), none⟩,
 ⟨some 108, (.mv (.t 2)), none⟩,
 ⟨some 109, (.bin .lss (.t 107) (.t 108)), none⟩]
 [] [107, 108])
 (.cond (.t 109)
 .skip
 (.exit 6)))
 (.seq
 (.block 7
 (.seq
 (.seq
 (.ops [⟨some 112, (.mv (.t 3)), none⟩,
 ⟨some 113, (.mv (.t 0)), none⟩,
 ⟨some 114, (.mv (.t 12)), none⟩,
 ⟨some 115, (.iad 4 (.t 113) (.t 114)), none⟩,
 ⟨some 116, (.load true 4 (.t 115)), none⟩,
 ⟨some 117, (.mv (.t 0)), none⟩,
 ⟨some 118, (.mv (.t 12)), none⟩,
 ⟨some 119, (.bin .sub (.t 118) (.c (.int .i64 (1)))), none⟩,
 ⟨some 120, (.iad 4 (.t 117) (.t 119)), none⟩,
 ⟨some 121, (.load true 4 (.t 120)), none⟩,
 ⟨some 122, (.call (.t 112) [(.t 116), (.t 121)]), none⟩,
 ⟨some 123, (.bin .lss (.t 122) (.c (.int .i64 (0)))), none⟩,
 ⟨some 124, (.un .not (.t 123)), none⟩]
 [(0, 1), (0, 2), (1, 2), (0, 3), (0, 4), (0, 5), (1, 5), (2, 5), (3, 5), (4, 5), (0, 6), (1, 6), (2, 6), (3, 6), (4, 6), (5, 6), (0, 7), (1, 7), (2, 7), (3, 7), (4, 7), (5, 7), (0, 8), (1, 8), (2, 8), (3, 8), (4, 8), (0, 9), (1, 9), (2, 9), (3, 9), (4, 9)] [109, 112, 113, 114, 115, 116, 117, 118, 119, 120, 121, 122, 123])
 (.cond (.t 124)
 (.exit 6)
 .skip))
 (.ops [⟨some 125, (.mv (.t 0)), none⟩,
 ⟨some 126, (.mv (.t 12)), none⟩,
 ⟨some 127, (.mv (.t 0)), none⟩,
 ⟨some 128, (.mv (.t 12)), none⟩,
 ⟨some 129, (.bin .sub (.t 128) (.c (.int .i64 (1)))), none⟩,
 ⟨some 130, (.mv (.t 0)), none⟩,
 ⟨some 131, (.mv (.t 12)), none⟩,
 ⟨some 132, (.bin .sub (.t 131) (.c (.int .i64 (1)))), none⟩,
 ⟨some 133, (.iad 4 (.t 130) (.t 132)), none⟩,
 ⟨some 134, (.load true 4 (.t 133)), none⟩,
 ⟨some 135, (.mv (.t 0)), none⟩,
 ⟨some 136, (.mv (.t 12)), none⟩,
 ⟨some 137, (.iad 4 (.t 135) (.t 136)), none⟩,
 ⟨some 138, (.load true 4 (.t 137)), none⟩,
 ⟨some 139, (.iad 4 (.t 125) (.t 126)), none⟩,
 ⟨none, (.store 4 (.t 139) (.t 134)), none⟩,
 ⟨some 140, (.iad 4 (.t 127) (.t 129)), none⟩,
 ⟨none, (.store 4 (.t 140) (.t 138)), none⟩]
 [(0, 1), (0, 2), (1, 2), (0, 3), (1, 3), (2, 3), (0, 4), (1, 4), (2, 4), (0, 5), (1, 5), (2, 5), (3, 5), (4, 5), (0, 6), (1, 6), (2, 6), (3, 6), (4, 6), (5, 6), (0, 7), (1, 7), (2, 7), (3, 7), (4, 7), (5, 7), (0, 8), (1, 8), (2, 8), (3, 8), (4, 8), (0, 9), (1, 9), (2, 9), (3, 9), (4, 9), (0, 10), (1, 10), (2, 10), (3, 10), (4, 10), (5, 10), (6, 10), (7, 10), (8, 10), (9, 10), (0, 11), (1, 11), (2, 11), (3, 11), (4, 11), (5, 11), (6, 11), (7, 11), (8, 11), (9, 11), (10, 11), (0, 12), (1, 12), (2, 12), (3, 12), (4, 12), (5, 12), (6, 12), (7, 12), (8, 12), (9, 12), (0, 13), (1, 13), (2, 13), (3, 13), (4, 13), (5, 13), (6, 13), (7, 13), (8, 13), (9, 13), (2, 14), (3, 14), (4, 14), (2, 15), (3, 15), (4, 15)] [124, 125, 126, 127, 128, 129, 130, 131, 132, 133, 134, 135, 136, 137, 138, 139, 140])))
 (.ops [⟨some 110, (.mv (.t 12)), none⟩,
 ⟨some 111, (.bin .add (.t 110) (.c (.int .i64 (1)))), none⟩,
 ⟨some 12, (.mv (.t 111)), none⟩]
 [] [110, 111]))))))
 .skip))))))))
 (.ops [⟨some 17, (.mv (.t 10)), none⟩,
 ⟨some 18, (.bin .add (.t 17) (.c (.int .i64 (1)))), none⟩,
 ⟨some 10, (.mv (.t 18)), none⟩]
 [] [12, 17, 18, 104, 109, 124]))))))
 (.seq
 (.ops [⟨some 8, (.mv (.c (.bool false))), none⟩]
 [] [0, 1, 2, 3, 9, 10, 16])
 .ret))))⟩
def loc101 : List Nat := []
def fg101 : List (Nat × List Nat) := [(24, [0, 1, 2, 3, 9, 10, 16]), (4, [12, 17, 18, 104, 109, 124]), (21, [110, 111]), (23, [124, 125, 126, 127, 128, 129, 130, 131, 132, 133, 134, 135, 136, 137, 138, 139, 140]), (22, [109, 112, 113, 114, 115, 116, 117, 118, 119, 120, 121, 122, 123]), (20, [107, 108]), (19, [104, 105, 106]), (18, [11, 65, 69, 84, 101, 102, 103]), (15, [70, 71]), (17, [84, 85, 86, 87, 88, 89, 90, 91, 92, 93, 94, 95, 96, 97, 98, 99, 100]), (16, [69, 72, 73, 74, 75, 76, 77, 78, 79, 80, 81, 82, 83]), (14, [68]), (13, [65, 66, 67]), (12, [62, 63, 64]), (11, [45, 46, 47, 48, 49, 50, 51, 52, 53, 54, 55, 56, 57, 58, 59, 60, 61]), (10, [0, 1, 2, 3, 9, 10, 45]), (9, [41, 42, 43, 44]), (8, [0, 1, 2, 3, 9, 10, 41]), (7, [36, 39, 40]), (6, [36, 37, 38]), (5, [16, 19, 20, 21, 22, 23, 24, 25, 26, 27, 28, 29, 30, 31, 32, 33, 34, 35]), (3, [15]), (1, [13, 14]), (0, [8])]
theorem comp101 : compFn Try.prog loc101 (fun i => (fg101.lookup i).getD []) Try.f101 = some lit101 := by kernel_rfl

-- math/bits.Len64
def lit105 : AFn := ⟨1, [.tmp 2],
 (.seq
 (.ops [⟨some 2, (.mv (.c (.int .i64 (0)))), none⟩]
 [] [])
 (.seq
 (.seq
 (.ops [⟨some 3, (.mv (.t 0)), none⟩,
 ⟨some 4, (.bin .geq (.t 3) (.c (.int .u64 (4294967296)))), none⟩]
 [] [3])
 (.cond (.t 4)
 (.seq
 (.ops [⟨some 5, (.mv (.t 0)), none⟩,
 ⟨some 6, (.bin .shr (.t 5) (.c (.int .u64 (32)))), none⟩,
 ⟨some 0, (.mv (.t 6)), none⟩]
 [] [2, 4, 5, 6])
 (.ops [⟨some 2, (.mv (.c (.int .i64 (32)))), none⟩]
 [] []))
 .skip))
 (.seq
 (.seq
 (.ops [⟨some 7, (.mv (.t 0)), none⟩,
 ⟨some 8, (.bin .geq (.t 7) (.c (.int .u64 (65536)))), none⟩]
 [] [4, 7])
 (.cond (.t 8)
 (.seq
 (.ops [⟨some 9, (.mv (.t 0)), none⟩,
 ⟨some 10, (.bin .shr (.t 9) (.c (.int .u64 (16)))), none⟩,
 ⟨some 0, (.mv (.t 10)), none⟩]
 [] [8, 9, 10])
 (.ops [⟨some 11, (.mv (.t 2)), none⟩,
 ⟨some 12, (.bin .add (.t 11) (.c (.int .i64 (16)))), none⟩,
 ⟨some 2, (.mv (.t 12)), none⟩]
 [] [11, 12]))
 .skip))
 (.seq
 (.seq
 (.ops [⟨some 13, (.mv (.t 0)), none⟩,
 ⟨some 14, (.bin .geq (.t 13) (.c (.int .u64 (256)))), none⟩]
 [] [8, 13])
 (.cond (.t 14)
 (.seq
 (.ops [⟨some 15, (.mv (.t 0)), none⟩,
 ⟨some 16, (.bin .shr (.t 15) (.c (.int .u64 (8)))), none⟩,
 ⟨some 0, (.mv (.t 16)), none⟩]
 [] [14, 15, 16])
 (.ops [⟨some 17, (.mv (.t 2)), none⟩,
 ⟨some 18, (.bin .add (.t 17) (.c (.int .i64 (8)))), none⟩,
 ⟨some 2, (.mv (.t 18)), none⟩]
 [] [17, 18]))
 .skip))
 (.seq
 (.ops [⟨some 19, (.mv (.t 2)), none⟩,
 ⟨some 20, (.mv (.t 0)), none⟩,
 ⟨some 21, (.conv .u8 (.t 20)), none⟩,
 ⟨some 22, (.idx false 256 1 (.c (.agg [(.int .u8 (0)), (.int .u8 (1)), (.int .u8 (2)), (.int .u8 (2)), (.int .u8 (3)), (.int .u8 (3)), (.int .u8 (3)), (.int .u8 (3)), (.int .u8 (4)), (.int .u8 (4)), (.int .u8 (4)), (.int .u8 (4)), (.int .u8 (4)), (.int .u8 (4)), (.int .u8 (4)), (.int .u8 (4)), (.int .u8 (5)), (.int .u8 (5)), (.int .u8 (5)), (.int .u8 (5)), (.int .u8 (5)), (.int .u8 (5)), (.int .u8 (5)), (.int .u8 (5)), (.int .u8 (5)), (.int .u8 (5)), (.int .u8 (5)), (.int .u8 (5)), (.int .u8 (5)), (.int .u8 (5)), (.int .u8 (5)), (.int .u8 (5)), (.int .u8 (6)), (.int .u8 (6)), (.int .u8 (6)), (.int .u8 (6)), (.int .u8 (6)), (.int .u8 (6)), (.int .u8 (6)), (.int .u8 (6)), (.int .u8 (6)), (.int .u8 (6)), (.int .u8 (6)), (.int .u8 (6)), (.int .u8 (6)), (.int .u8 (6)), (.int .u8 (6)), (.int .u8 (6)), (.int .u8 (6)), (.int .u8 (6)), (.int .u8 (6)), (.int .u8 (6)), (.int .u8 (6)), (.int .u8 (6)), (.int .u8 (6)), (.int .u8 (6)), (.int .u8 (6)), (.int .u8 (6)), (.int .u8 (6)), (.int .u8 (6)), (.int .u8 (6)), (.int .u8 (6)), (.int .u8 (6)), (.int .u8 (6)), (.int .u8 (7)), (.int .u8 (7)), (.int .u8 (7)), (.int .u8 (7)), (.int .u8 (7)), (.int .u8 (7)), (.int .u8 (7)), (.int .u8 (7)), (.int .u8 (7)), (.int .u8 (7)), (.int .u8 (7)), (.int .u8 (7)), (.int .u8 (7)), (.int .u8 (7)), (.int .u8 (7)), (.int .u8 (7)), (.int .u8 (7)), (.int .u8 (7)), (.int .u8 (7)), (.int .u8 (7)), (.int .u8 (7)), (.int .u8 (7)), (.int .u8 (7)), (.int .u8 (7)), (.int .u8 (7)), (.int .u8 (7)), (.int .u8 (7)), (.int .u8 (7)), (.int .u8 (7)), (.int .u8 (7)), (.int .u8 (7)), (.int .u8 (7)), (.int .u8 (7)), (.int .u8 (7)), (.int .u8 (7)), (.int .u8 (7)), (.int .u8 (7)), (.int .u8 (7)), (.int .u8 (7)), (.int .u8 (7)), (.int .u8 (7)), (.int .u8 (7)), (.int .u8 (7)), (.int .u8 (7)), (.int .u8 (7)), (.int .u8 (7)), (.int .u8 (7)), (.int .u8 (7)), (.int .u8 (7)), (.int .u8 (7)), (.int .u8 (7)), (.int .u8 (7)), (.int .u8 (7)), (.int .u8 (7)), (.int .u8 (7)), (.int .u8 (7)), (.int .u8 (7)), (.int .u8 (7)), (.int .u8 (7)), (.int .u8 (7)), (.int .u8 (7)), (.int .u8 (7)), (.int .u8 (7)), (.int .u8 (7)), (.int .u8 (8)), (.int .u8 (8)), (.int .u8 (8)), (.int .u8 (8)), (.int .u8 (8)), (.int .u8 (8)), (.int .u8 (8)), (.int .u8 (8)), (.int .u8 (8)), (.int .u8 (8)), (.int .u8 (8)), (.int .u8 (8)), (.int .u8 (8)), (.int .u8 (8)), (.int .u8 (8)), (.int .u8 (8)), (.int .u8 (8)), (.int .u8 (8)), (.int .u8 (8)), (.int .u8 (8)), (.int .u8 (8)), (.int .u8 (8)), (.int .u8 (8)), (.int .u8 (8)), (.int .u8 (8)), (.int .u8 (8)), (.int .u8 (8)), (.int .u8 (8)), (.int .u8 (8)), (.int .u8 (8)), (.int .u8 (8)), (.int .u8 (8)), (.int .u8 (8)), (.int .u8 (8)), (.int .u8 (8)), (.int .u8 (8)), (.int .u8 (8)), (.int .u8 (8)), (.int .u8 (8)), (.int .u8 (8)), (.int .u8 (8)), (.int .u8 (8)), (.int .u8 (8)), (.int .u8 (8)), (.int .u8 (8)), (.int .u8 (8)), (.int .u8 (8)), (.int .u8 (8)), (.int .u8 (8)), (.int .u8 (8)), (.int .u8 (8)), (.int .u8 (8)), (.int .u8 (8)), (.int .u8 (8)), (.int .u8 (8)), (.int .u8 (8)), (.int .u8 (8)), (.int .u8 (8)), (.int .u8 (8)), (.int .u8 (8)), (.int .u8 (8)), (.int .u8 (8)), (.int .u8 (8)), (.int .u8 (8)), (.int .u8 (8)), (.int .u8 (8)), (.int .u8 (8)), (.int .u8 (8)), (.int .u8 (8)), (.int .u8 (8)), (.int .u8 (8)), (.int .u8 (8)), (.int .u8 (8)), (.int .u8 (8)), (.int .u8 (8)), (.int .u8 (8)), (.int .u8 (8)), (.int .u8 (8)), (.int .u8 (8)), (.int .u8 (8)), (.int .u8 (8)), (.int .u8 (8)), (.int .u8 (8)), (.int .u8 (8)), (.int .u8 (8)), (.int .u8 (8)), (.int .u8 (8)), (.int .u8 (8)), (.int .u8 (8)), (.int .u8 (8)), (.int .u8 (8)), (.int .u8 (8)), (.int .u8 (8)), (.int .u8 (8)), (.int .u8 (8)), (.int .u8 (8)), (.int .u8 (8)), (.int .u8 (8)), (.int .u8 (8)), (.int .u8 (8)), (.int .u8 (8)), (.int .u8 (8)), (.int .u8 (8)), (.int .u8 (8)), (.int .u8 (8)), (.int .u8 (8)), (.int .u8 (8)), (.int .u8 (8)), (.int .u8 (8)), (.int .u8 (8)), (.int .u8 (8)), (.int .u8 (8)), (.int .u8 (8)), (.int .u8 (8)), (.int .u8 (8)), (.int .u8 (8)), (.int .u8 (8)), (.int .u8 (8)), (.int .u8 (8)), (.int .u8 (8)), (.int .u8 (8)), (.int .u8 (8)), (.int .u8 (8)), (.int .u8 (8)), (.int .u8 (8)), (.int .u8 (8)), (.int .u8 (8)), (.int .u8 (8))])) (.t 21)), none⟩,
 ⟨some 23, (.conv .i64 (.t 22)), none⟩,
 ⟨some 24, (.bin .add (.t 19) (.t 23)), none⟩,
 ⟨some 2, (.mv (.t 24)), none⟩]
 [] [0, 14, 19, 20, 21, 22, 23, 24])
 .ret)))))⟩
def loc105 : List Nat := []
def fg105 : List (Nat × List Nat) := [(10, [0, 14, 19, 20, 21, 22, 23, 24]), (9, [17, 18]), (8, [14, 15, 16]), (7, [8, 13]), (6, [11, 12]), (5, [8, 9, 10]), (4, [4, 7]), (2, [2, 4, 5, 6]), (1, [3])]
theorem comp105 : compFn Try.prog loc105 (fun i => (fg105.lookup i).getD []) Try.f105 = some lit105 := by kernel_rfl

-- cmp.isNaN[int64]
def lit107 : AFn := ⟨1, [.tmp 2],
 (.seq
 (.ops [⟨some 2, (.mv (.c (.bool false))), none⟩]
 [] [2])
 (.seq
 (.ops [⟨some 3, (.mv (.t 0)), none⟩,
 ⟨some 4, (.mv (.t 0)), none⟩,
 ⟨some 5, (.bin .neq (.t 3) (.t 4)), none⟩,
 ⟨some 2, (.mv (.t 5)), none⟩]
 [] [0, 3, 4, 5])
 .ret))⟩
def loc107 : List Nat := []
def fg107 : List (Nat × List Nat) := [(1, [0, 3, 4, 5]), (0, [2])]
theorem comp107 : compFn Try.prog loc107 (fun i => (fg107.lookup i).getD []) Try.f107 = some lit107 := by kernel_rfl

-- cmp.isNaN[uint64]
def lit108 : AFn := ⟨1, [.tmp 2],
 (.seq
 (.ops [⟨some 2, (.mv (.c (.bool false))), none⟩]
 [] [2])
 (.seq
 (.ops [⟨some 3, (.mv (.t 0)), none⟩,
 ⟨some 4, (.mv (.t 0)), none⟩,
 ⟨some 5, (.bin .neq (.t 3) (.t 4)), none⟩,
 ⟨some 2, (.mv (.t 5)), none⟩]
 [] [0, 3, 4, 5])
 .ret))⟩
def loc108 : List Nat := []
def fg108 : List (Nat × List Nat) := [(1, [0, 3, 4, 5]), (0, [2])]
theorem comp108 : compFn Try.prog loc108 (fun i => (fg108.lookup i).getD []) Try.f108 = some lit108 := by kernel_rfl

-- slices.medianAdjacentCmpFunc[parcener/api.Span]
def lit112 : AFn := ⟨4, [.tmp 8],
 (.seq
 (.ops [⟨some 8, (.mv (.c (.int .i64 (0)))), none⟩]
 [] [8])
 (.seq
 (.ops [⟨some 9, (.mv (.t 0)), none⟩,
 ⟨some 10, (.mv (.t 1)), none⟩,
 ⟨some 11, (.bin .sub (.t 10) (.c (.int .i64 (1)))), none⟩,
 ⟨some 12, (.mv (.t 1)), none⟩,
 ⟨some 13, (.mv (.t 1)), none⟩,
 ⟨some 14, (.bin .add (.t 13) (.c (.int .i64 (1)))), none⟩,
 ⟨some 15, (.mv (.t 2)), none⟩,
 ⟨some 16, (.mv (.t 3)), none⟩,
 ⟨some 17, (.call (.f 113) [(.t 9), (.t 11), (.t 12), (.t 14), (.t 15), (.t 16)]), none⟩,
 ⟨some 8, (.mv (.t 17)), none⟩]
 [] [0, 1, 2, 3, 9, 10, 11, 12, 13, 14, 15, 16, 17])
 .ret))⟩
def loc112 : List Nat := []
def fg112 : List (Nat × List Nat) := [(1, [0, 1, 2, 3, 9, 10, 11, 12, 13, 14, 15, 16, 17]), (0, [8])]
theorem comp112 : compFn Try.prog loc112 (fun i => (fg112.lookup i).getD []) Try.f112 = some lit112 := by kernel_rfl

-- slices.medianCmpFunc[parcener/api.Span]
def lit113 : AFn := ⟨6, [.tmp 12],
 (.seq
 (.ops [⟨some 12, (.mv (.c (.int .i64 (0)))), none⟩]
 [] [12])
 (.seq
 (.ops [⟨some 14, (.mv (.t 0)), none⟩,
 ⟨some 15, (.mv (.t 1)), none⟩,
 ⟨some 16, (.mv (.t 2)), none⟩,
 ⟨some 17, (.mv (.t 4)), none⟩,
 ⟨some 18, (.mv (.t 5)), none⟩,
 ⟨some 19, (.call (.f 114) [(.t 14), (.t 15), (.t 16), (.t 17), (.t 18)]), none⟩,
 ⟨some 13, (.mv (.t 19)), none⟩,
 ⟨some 20, (.ext (.t 13) 0), none⟩,
 ⟨some 21, (.ext (.t 13) 1), none⟩,
 ⟨some 1, (.mv (.t 20)), none⟩,
 ⟨some 2, (.mv (.t 21)), none⟩]
 [] [13, 14, 15, 16, 17, 18, 19, 20, 21])
 (.seq
 (.ops [⟨some 23, (.mv (.t 0)), none⟩,
 ⟨some 24, (.mv (.t 2)), none⟩,
 ⟨some 25, (.mv (.t 3)), none⟩,
 ⟨some 26, (.mv (.t 4)), none⟩,
 ⟨some 27, (.mv (.t 5)), none⟩,
 ⟨some 28, (.call (.f 114) [(.t 23), (.t 24), (.t 25), (.t 26), (.t 27)]), none⟩,
 ⟨some 22, (.mv (.t 28)), none⟩,
 ⟨some 29, (.ext (.t 22) 0), none⟩,
 ⟨some 30, (.ext (.t 22) 1), none⟩,
 ⟨some 2, (.mv (.t 29)), none⟩,
 ⟨some 3, (.mv (.t 30)), none⟩]
 [] [3, 22, 23, 24, 25, 26, 27, 28, 29, 30])
 (.seq
 (.ops [⟨some 32, (.mv (.t 0)), none⟩,
 ⟨some 33, (.mv (.t 1)), none⟩,
 ⟨some 34, (.mv (.t 2)), none⟩,
 ⟨some 35, (.mv (.t 4)), none⟩,
 ⟨some 36, (.mv (.t 5)), none⟩,
 ⟨some 37, (.call (.f 114) [(.t 32), (.t 33), (.t 34), (.t 35), (.t 36)]), none⟩,
 ⟨some 31, (.mv (.t 37)), none⟩,
 ⟨some 38, (.ext (.t 31) 0), none⟩,
 ⟨some 39, (.ext (.t 31) 1), none⟩,
 ⟨some 1, (.mv (.t 38)), none⟩,
 ⟨some 2, (.mv (.t 39)), none⟩]
 [] [0, 1, 4, 5, 31, 32, 33, 34, 35, 36, 37, 38, 39])
 (.seq
 (.ops [⟨some 40, (.mv (.t 2)), none⟩,
 ⟨some 12, (.mv (.t 40)), none⟩]
 [] [2, 40])
 .ret)))))⟩
def loc113 : List Nat := []
def fg113 : List (Nat × List Nat) := [(4, [2, 40]), (3, [0, 1, 4, 5, 31, 32, 33, 34, 35, 36, 37, 38, 39]), (2, [3, 22, 23, 24, 25, 26, 27, 28, 29, 30]), (1, [13, 14, 15, 16, 17, 18, 19, 20, 21]), (0, [12])]
theorem comp113 : compFn Try.prog loc113 (fun i => (fg113.lookup i).getD []) Try.f113 = some lit113 := by kernel_rfl

-- slices.order2CmpFunc[parcener/api.Span]
def lit114 : AFn := ⟨5, [.tmp 10, .tmp 11],
 (.seq
 (.ops [⟨some 10, (.mv (.c (.int .i64 (0)))), none⟩,
 ⟨some 11, (.mv (.c (.int .i64 (0)))), none⟩]
 [] [10, 11])
 (.seq
 (.seq
 (.ops [⟨some 12, (.mv (.t 4)), none⟩,
 ⟨some 13, (.mv (.t 0)), none⟩,
 ⟨some 14, (.mv (.t 2)), none⟩,
 ⟨some 15, (.iad 4 (.t 13) (.t 14)), none⟩,
 ⟨some 16, (.load true 4 (.t 15)), none⟩,
 ⟨some 17, (.mv (.t 0)), none⟩,
 ⟨some 18, (.mv (.t 1)), none⟩,
 ⟨some 19, (.iad 4 (.t 17) (.t 18)), none⟩,
 ⟨some 20, (.load true 4 (.t 19)), none⟩,
 ⟨some 21, (.call (.t 12) [(.t 16), (.t 20)]), none⟩,
 ⟨some 22, (.bin .lss (.t 21) (.c (.int .i64 (0)))), none⟩]
 [(0, 1), (0, 2), (1, 2), (0, 3), (0, 4), (0, 5), (1, 5), (2, 5), (3, 5), (4, 5), (0, 6), (1, 6), (2, 6), (3, 6), (4, 6), (5, 6), (0, 7), (1, 7), (2, 7), (3, 7), (4, 7), (0, 8), (1, 8), (2, 8), (3, 8), (4, 8)] [0, 4, 12, 13, 14, 15, 16, 17, 18, 19, 20, 21])
 (.cond (.t 22)
 (.seq
 (.ops [⟨some 23, (.mv (.t 3)), none⟩,
 ⟨some 24, (.nilchk (.t 23)), none⟩,
 ⟨some 25, (.load false 1 (.t 24)), none⟩,
 ⟨some 26, (.bin .add (.t 25) (.c (.int .i64 (1)))), none⟩,
 ⟨some 27, (.nilchk (.t 23)), none⟩,
 ⟨none, (.store 1 (.t 27) (.t 26)), none⟩]
 [] [3, 22, 23, 24, 25, 26, 27])
 (.seq
 (.ops [⟨some 28, (.mv (.t 2)), none⟩,
 ⟨some 29, (.mv (.t 1)), none⟩,
 ⟨some 10, (.mv (.t 28)), none⟩,
 ⟨some 11, (.mv (.t 29)), none⟩]
 [] [1, 2, 28, 29])
 .ret))
 .skip))
 (.seq
 (.ops [⟨some 30, (.mv (.t 1)), none⟩,
 ⟨some 31, (.mv (.t 2)), none⟩,
 ⟨some 10, (.mv (.t 30)), none⟩,
 ⟨some 11, (.mv (.t 31)), none⟩]
 [] [1, 2, 3, 22, 30, 31])
 .ret)))⟩
def loc114 : List Nat := []
def fg114 : List (Nat × List Nat) := [(4, [1, 2, 3, 22, 30, 31]), (3, [1, 2, 28, 29]), (2, [3, 22, 23, 24, 25, 26, 27]), (1, [0, 4, 12, 13, 14, 15, 16, 17, 18, 19, 20, 21]), (0, [10, 11])]
theorem comp114 : compFn Try.prog loc114 (fun i => (fg114.lookup i).getD []) Try.f114 = some lit114 := by kernel_rfl

def tab1 : List (Nat × AFn) := [(84, lit84), (85, lit85), (87, lit87), (88, lit88), (91, lit91), (92, lit92), (93, lit93), (94, lit94), (96, lit96), (99, lit99), (101, lit101), (105, lit105), (107, lit107), (108, lit108), (112, lit112), (113, lit113), (114, lit114)]
theorem tabOk1 : AllOk Try.prog tab1 := ⟨⟨_, _, _, Try.func84, comp84⟩, ⟨_, _, _, Try.func85, comp85⟩, ⟨_, _, _, Try.func87, comp87⟩, ⟨_, _, _, Try.func88, comp88⟩, ⟨_, _, _, Try.func91, comp91⟩, ⟨_, _, _, Try.func92, comp92⟩, ⟨_, _, _, Try.func93, comp93⟩, ⟨_, _, _, Try.func94, comp94⟩, ⟨_, _, _, Try.func96, comp96⟩, ⟨_, _, _, Try.func99, comp99⟩, ⟨_, _, _, Try.func101, comp101⟩, ⟨_, _, _, Try.func105, comp105⟩, ⟨_, _, _, Try.func107, comp107⟩, ⟨_, _, _, Try.func108, comp108⟩, ⟨_, _, _, Try.func112, comp112⟩, ⟨_, _, _, Try.func113, comp113⟩, ⟨_, _, _, Try.func114, comp114⟩, trivial⟩
end Go.Proofs.Ytnbebjhmfpchcaa.Pn
