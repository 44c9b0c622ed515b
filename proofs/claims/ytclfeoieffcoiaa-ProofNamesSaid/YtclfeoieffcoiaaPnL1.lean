/- The functions that the statement ProofNames runs, in the small code (part 1); each is what the framework makes of the program. -/
import Derived.Test.YtclfeoieffcoiaaFw27
import Derived.Test.YtclfeoieffcoiaaRows
namespace Go.Proofs.Ytclfeoieffcoiaa.Pn
open Go Go.Pf
-- math/bits.Div64
def lit78 : AFn := ⟨3, [.tmp 6, .tmp 7],
 (.seq
 (.ops [⟨some 6, (.mv (.c (.int .u64 (0)))), none⟩,
 ⟨some 7, (.mv (.c (.int .u64 (0)))), none⟩]
 [] [6, 7])
 (.seq
 (.seq
 (.ops [⟨some 19, (.mv (.t 2)), none⟩,
 ⟨some 20, (.bin .eql (.t 19) (.c (.int .u64 (0)))), none⟩]
 [] [19])
 (.cond (.t 20)
 (.ops [⟨some 21, (.load false 1 (.g 0)), none⟩,
 ⟨none, .bad, none⟩]
 [] [20, 21])
 .skip))
 (.seq
 (.seq
 (.ops [⟨some 22, (.mv (.t 2)), none⟩,
 ⟨some 23, (.mv (.t 0)), none⟩,
 ⟨some 24, (.bin .leq (.t 22) (.t 23)), none⟩]
 [] [20, 22, 23])
 (.cond (.t 24)
 (.ops [⟨some 25, (.load false 1 (.g 1)), none⟩,
 ⟨none, .bad, none⟩]
 [] [24, 25])
 .skip))
 (.seq
 (.seq
 (.ops [⟨some 26, (.mv (.t 0)), none⟩,
 ⟨some 27, (.bin .eql (.t 26) (.c (.int .u64 (0)))), none⟩]
 [] [24, 26])
 (.cond (.t 27)
 (.seq
 (.ops [⟨some 28, (.mv (.t 1)), none⟩,
 ⟨some 29, (.mv (.t 2)), none⟩,
 ⟨some 30, (.bin .quo (.t 28) (.t 29)), none⟩,
 ⟨some 31, (.mv (.t 1)), none⟩,
 ⟨some 32, (.mv (.t 2)), none⟩,
 ⟨some 33, (.bin .rem (.t 31) (.t 32)), none⟩,
 ⟨some 6, (.mv (.t 30)), none⟩,
 ⟨some 7, (.mv (.t 33)), none⟩]
 [(0, 1), (0, 3), (1, 3), (2, 3), (0, 4), (1, 4), (2, 4), (3, 4), (0, 5), (1, 5), (2, 5), (3, 6), (4, 6), (5, 6)] [0, 1, 2, 27, 28, 29, 30, 31, 32, 33])
 .ret)
 .skip))
 (.seq
 (.ops [⟨some 34, (.mv (.t 2)), none⟩,
 ⟨some 35, (.call (.f 119) [(.t 34)]), none⟩,
 ⟨some 36, (.conv .u64 (.t 35)), none⟩,
 ⟨some 8, (.mv (.t 36)), none⟩]
 [] [27, 34, 35, 36])
 (.seq
 (.ops [⟨some 37, (.mv (.t 2)), none⟩,
 ⟨some 38, (.mv (.t 8)), none⟩,
 ⟨some 39, (.bin .shl (.t 37) (.t 38)), none⟩,
 ⟨some 2, (.mv (.t 39)), none⟩]
 [] [37, 38, 39])
 (.seq
 (.ops [⟨some 40, (.mv (.t 2)), none⟩,
 ⟨some 41, (.bin .shr (.t 40) (.c (.int .u64 (32)))), none⟩,
 ⟨some 9, (.mv (.t 41)), none⟩]
 [] [40, 41])
 (.seq
 (.ops [⟨some 42, (.mv (.t 2)), none⟩,
 ⟨some 43, (.bin .and (.t 42) (.c (.int .u64 (4294967295)))), none⟩,
 ⟨some 10, (.mv (.t 43)), none⟩]
 [] [42, 43])
 (.seq
 (.ops [⟨some 44, (.mv (.t 0)), none⟩,
 ⟨some 45, (.mv (.t 8)), none⟩,
 ⟨some 46, (.bin .shl (.t 44) (.t 45)), none⟩,
 ⟨some 47, (.mv (.t 1)), none⟩,
 ⟨some 48, (.mv (.t 8)), none⟩,
 ⟨some 49, (.bin .sub (.c (.int .u64 (64))) (.t 48)), none⟩,
 ⟨some 50, (.bin .shr (.t 47) (.t 49)), none⟩,
 ⟨some 51, (.bin .or (.t 46) (.t 50)), none⟩,
 ⟨some 11, (.mv (.t 51)), none⟩]
 [] [0, 44, 45, 46, 47, 48, 49, 50, 51])
 (.seq
 (.ops [⟨some 52, (.mv (.t 1)), none⟩,
 ⟨some 53, (.mv (.t 8)), none⟩,
 ⟨some 54, (.bin .shl (.t 52) (.t 53)), none⟩,
 ⟨some 12, (.mv (.t 54)), none⟩]
 [] [1, 52, 53, 54])
 (.seq
 (.ops [⟨some 55, (.mv (.t 12)), none⟩,
 ⟨some 56, (.bin .shr (.t 55) (.c (.int .u64 (32)))), none⟩,
 ⟨some 13, (.mv (.t 56)), none⟩]
 [] [55, 56])
 (.seq
 (.ops [⟨some 57, (.mv (.t 12)), none⟩,
 ⟨some 58, (.bin .and (.t 57) (.c (.int .u64 (4294967295)))), none⟩,
 ⟨some 14, (.mv (.t 58)), none⟩]
 [] [12, 57, 58])
 (.seq
 (.ops [⟨some 59, (.mv (.t 11)), none⟩,
 ⟨some 60, (.mv (.t 9)), none⟩,
 ⟨some 61, (.bin .quo (.t 59) (.t 60)), none⟩,
 ⟨some 15, (.mv (.t 61)), none⟩]
 [] [59, 60, 61])
 (.seq
 (.ops [⟨some 62, (.mv (.t 11)), none⟩,
 ⟨some 63, (.mv (.t 15)), none⟩,
 ⟨some 64, (.mv (.t 9)), none⟩,
 ⟨some 65, (.bin .mul (.t 63) (.t 64)), none⟩,
 ⟨some 66, (.bin .sub (.t 62) (.t 65)), none⟩,
 ⟨some 16, (.mv (.t 66)), none⟩]
 [] [62, 63, 64, 65, 66])
 (.seq
 (.block 0
 (.loop
 (.seq
 (.seq
 (.ops [⟨some 67, (.mv (.t 15)), none⟩,
 ⟨some 68, (.bin .geq (.t 67) (.c (.int .u64 (4294967296)))), none⟩,
 ⟨some 69, (.mv (.t 68)), none⟩,
 ⟨some 70, (.mv (.t 15)), some (69, false)⟩,
 ⟨some 71, (.mv (.t 10)), some (69, false)⟩,
 ⟨some 72, (.bin .mul (.t 70) (.t 71)), some (69, false)⟩,
 ⟨some 73, (.mv (.t 16)), some (69, false)⟩,
 ⟨some 74, (.bin .mul (.c (.int .u64 (4294967296))) (.t 73)), some (69, false)⟩,
 ⟨some 75, (.mv (.t 13)), some (69, false)⟩,
 ⟨some 76, (.bin .add (.t 74) (.t 75)), some (69, false)⟩,
 ⟨some 77, (.bin .gtr (.t 72) (.t 76)), some (69, false)⟩,
 ⟨some 78, (.pick (.t 69) (.c (.bool true)) (.t 77)), none⟩]
 [] [67, 68, 69, 70, 71, 72, 73, 74, 75, 76, 77, 85])
 (.cond (.t 78)
 .skip
 (.exit 0)))
 (.block 1
 (.seq
 (.ops [⟨some 79, (.mv (.t 15)), none⟩,
 ⟨some 80, (.bin .sub (.t 79) (.c (.int .u64 (1)))), none⟩,
 ⟨some 15, (.mv (.t 80)), none⟩]
 [] [78, 79, 80])
 (.seq
 (.ops [⟨some 81, (.mv (.t 16)), none⟩,
 ⟨some 82, (.mv (.t 9)), none⟩,
 ⟨some 83, (.bin .add (.t 81) (.t 82)), none⟩,
 ⟨some 16, (.mv (.t 83)), none⟩]
 [] [81, 82, 83])
 (.seq
 (.ops [⟨some 84, (.mv (.t 16)), none⟩,
 ⟨some 85, (.bin .geq (.t 84) (.c (.int .u64 (4294967296)))), none⟩]
 [] [84])
 (.cond (.t 85)
 (.exit 0)
 .skip))))))))
 (.seq
 (.ops [⟨some 86, (.mv (.t 11)), none⟩,
 ⟨some 87, (.bin .mul (.t 86) (.c (.int .u64 (4294967296)))), none⟩,
 ⟨some 88, (.mv (.t 13)), none⟩,
 ⟨some 89, (.bin .add (.t 87) (.t 88)), none⟩,
 ⟨some 90, (.mv (.t 15)), none⟩,
 ⟨some 91, (.mv (.t 2)), none⟩,
 ⟨some 92, (.bin .mul (.t 90) (.t 91)), none⟩,
 ⟨some 93, (.bin .sub (.t 89) (.t 92)), none⟩,
 ⟨some 17, (.mv (.t 93)), none⟩]
 [] [11, 13, 16, 78, 85, 86, 87, 88, 89, 90, 91, 92, 93])
 (.seq
 (.ops [⟨some 94, (.mv (.t 17)), none⟩,
 ⟨some 95, (.mv (.t 9)), none⟩,
 ⟨some 96, (.bin .quo (.t 94) (.t 95)), none⟩,
 ⟨some 18, (.mv (.t 96)), none⟩]
 [] [94, 95, 96])
 (.seq
 (.ops [⟨some 97, (.mv (.t 17)), none⟩,
 ⟨some 98, (.mv (.t 18)), none⟩,
 ⟨some 99, (.mv (.t 9)), none⟩,
 ⟨some 100, (.bin .mul (.t 98) (.t 99)), none⟩,
 ⟨some 101, (.bin .sub (.t 97) (.t 100)), none⟩,
 ⟨some 16, (.mv (.t 101)), none⟩]
 [] [97, 98, 99, 100, 101])
 (.seq
 (.block 2
 (.loop
 (.seq
 (.seq
 (.ops [⟨some 102, (.mv (.t 18)), none⟩,
 ⟨some 103, (.bin .geq (.t 102) (.c (.int .u64 (4294967296)))), none⟩,
 ⟨some 104, (.mv (.t 103)), none⟩,
 ⟨some 105, (.mv (.t 18)), some (104, false)⟩,
 ⟨some 106, (.mv (.t 10)), some (104, false)⟩,
 ⟨some 107, (.bin .mul (.t 105) (.t 106)), some (104, false)⟩,
 ⟨some 108, (.mv (.t 16)), some (104, false)⟩,
 ⟨some 109, (.bin .mul (.c (.int .u64 (4294967296))) (.t 108)), some (104, false)⟩,
 ⟨some 110, (.mv (.t 14)), some (104, false)⟩,
 ⟨some 111, (.bin .add (.t 109) (.t 110)), some (104, false)⟩,
 ⟨some 112, (.bin .gtr (.t 107) (.t 111)), some (104, false)⟩,
 ⟨some 113, (.pick (.t 104) (.c (.bool true)) (.t 112)), none⟩]
 [] [102, 103, 104, 105, 106, 107, 108, 109, 110, 111, 112, 120])
 (.cond (.t 113)
 .skip
 (.exit 2)))
 (.block 3
 (.seq
 (.ops [⟨some 114, (.mv (.t 18)), none⟩,
 ⟨some 115, (.bin .sub (.t 114) (.c (.int .u64 (1)))), none⟩,
 ⟨some 18, (.mv (.t 115)), none⟩]
 [] [113, 114, 115])
 (.seq
 (.ops [⟨some 116, (.mv (.t 16)), none⟩,
 ⟨some 117, (.mv (.t 9)), none⟩,
 ⟨some 118, (.bin .add (.t 116) (.t 117)), none⟩,
 ⟨some 16, (.mv (.t 118)), none⟩]
 [] [116, 117, 118])
 (.seq
 (.ops [⟨some 119, (.mv (.t 16)), none⟩,
 ⟨some 120, (.bin .geq (.t 119) (.c (.int .u64 (4294967296)))), none⟩]
 [] [119])
 (.cond (.t 120)
 (.exit 2)
 .skip))))))))
 (.seq
 (.ops [⟨some 121, (.mv (.t 15)), none⟩,
 ⟨some 122, (.bin .mul (.t 121) (.c (.int .u64 (4294967296)))), none⟩,
 ⟨some 123, (.mv (.t 18)), none⟩,
 ⟨some 124, (.bin .add (.t 122) (.t 123)), none⟩,
 ⟨some 125, (.mv (.t 17)), none⟩,
 ⟨some 126, (.bin .mul (.t 125) (.c (.int .u64 (4294967296)))), none⟩,
 ⟨some 127, (.mv (.t 14)), none⟩,
 ⟨some 128, (.bin .add (.t 126) (.t 127)), none⟩,
 ⟨some 129, (.mv (.t 18)), none⟩,
 ⟨some 130, (.mv (.t 2)), none⟩,
 ⟨some 131, (.bin .mul (.t 129) (.t 130)), none⟩,
 ⟨some 132, (.bin .sub (.t 128) (.t 131)), none⟩,
 ⟨some 133, (.mv (.t 8)), none⟩,
 ⟨some 134, (.bin .shr (.t 132) (.t 133)), none⟩,
 ⟨some 6, (.mv (.t 124)), none⟩,
 ⟨some 7, (.mv (.t 134)), none⟩]
 [] [2, 8, 9, 10, 14, 15, 16, 17, 18, 113, 120, 121, 122, 123, 124, 125, 126, 127, 128, 129, 130, 131, 132, 133, 134])
 .ret))))))))))))))))))))⟩
def loc78 : List Nat := []
def fg78 : List (Nat × List Nat) := [(28, [2, 8, 9, 10, 14, 15, 16, 17, 18, 113, 120, 121, 122, 123, 124, 125, 126, 127, 128, 129, 130, 131, 132, 133, 134]), (27, [119]), (26, [116, 117, 118]), (25, [113, 114, 115]), (24, [102, 103, 104, 105, 106, 107, 108, 109, 110, 111, 112, 120]), (23, [97, 98, 99, 100, 101]), (22, [94, 95, 96]), (21, [11, 13, 16, 78, 85, 86, 87, 88, 89, 90, 91, 92, 93]), (20, [84]), (19, [81, 82, 83]), (18, [78, 79, 80]), (17, [67, 68, 69, 70, 71, 72, 73, 74, 75, 76, 77, 85]), (16, [62, 63, 64, 65, 66]), (15, [59, 60, 61]), (14, [12, 57, 58]), (13, [55, 56]), (12, [1, 52, 53, 54]), (11, [0, 44, 45, 46, 47, 48, 49, 50, 51]), (10, [42, 43]), (9, [40, 41]), (8, [37, 38, 39]), (7, [27, 34, 35, 36]), (6, [0, 1, 2, 27, 28, 29, 30, 31, 32, 33]), (5, [24, 26]), (4, [24, 25]), (3, [20, 22, 23]), (2, [20, 21]), (1, [19]), (0, [6, 7])]
theorem comp78 : compFn Try.prog loc78 (fun i => (fg78.lookup i).getD []) Try.f78 = some lit78 := by kernel_rfl

-- slices.Min[[]int,int]
def lit80 : AFn := ⟨1, [.tmp 2],
 (.seq
 (.ops [⟨some 2, (.mv (.c (.int .i64 (0)))), none⟩]
 [] [2])
 (.seq
 (.seq
 (.ops [⟨some 5, (.mv (.t 0)), none⟩,
 ⟨some 6, (.len (.t 5)), none⟩,
 ⟨some 7, (.bin .lss (.t 6) (.c (.int .i64 (1)))), none⟩]
 [] [5, 6])
 (.cond (.t 7)
 (.ops [⟨some 8, .bad, none⟩,
 ⟨none, .bad, none⟩]
 [] [7, 8])
 .skip))
 (.seq
 (.ops [⟨some 9, (.mv (.t 0)), none⟩,
 ⟨some 10, (.iad 1 (.t 9) (.c (.int .i64 (0)))), none⟩,
 ⟨some 11, (.load false 1 (.t 10)), none⟩,
 ⟨some 3, (.mv (.t 11)), none⟩]
 [] [7, 9, 10, 11])
 (.seq
 (.seq
 (.ops [⟨some 4, (.mv (.c (.int .i64 (1)))), none⟩]
 [] [])
 (.block 0
 (.loop
 (.seq
 (.seq
 (.ops [⟨some 12, (.mv (.t 4)), none⟩,
 ⟨some 13, (.mv (.t 0)), none⟩,
 ⟨some 14, (.len (.t 13)), none⟩,
 ⟨some 15, (.bin .lss (.t 12) (.t 14)), none⟩]
 [] [12, 13, 14])
 (.cond (.t 15)
 .skip
 (.exit 0)))
 (.seq
 (.block 1
 (.ops [⟨some 18, (.mv (.t 3)), none⟩,
 ⟨some 19, (.mv (.t 0)), none⟩,
 ⟨some 20, (.mv (.t 4)), none⟩,
 ⟨some 21, (.iad 1 (.t 19) (.t 20)), none⟩,
 ⟨some 22, (.load false 1 (.t 21)), none⟩,
 ⟨some 23, (.minmax false [(.t 18), (.t 22)]), none⟩,
 ⟨some 3, (.mv (.t 23)), none⟩]
 [] [15, 18, 19, 20, 21, 22, 23]))
 (.ops [⟨some 16, (.mv (.t 4)), none⟩,
 ⟨some 17, (.bin .add (.t 16) (.c (.int .i64 (1)))), none⟩,
 ⟨some 4, (.mv (.t 17)), none⟩]
 [] [16, 17]))))))
 (.seq
 (.ops [⟨some 24, (.mv (.t 3)), none⟩,
 ⟨some 2, (.mv (.t 24)), none⟩]
 [] [0, 3, 4, 15, 24])
 .ret)))))⟩
def loc80 : List Nat := []
def fg80 : List (Nat × List Nat) := [(8, [0, 3, 4, 15, 24]), (6, [16, 17]), (7, [15, 18, 19, 20, 21, 22, 23]), (5, [12, 13, 14]), (3, [7, 9, 10, 11]), (2, [7, 8]), (1, [5, 6]), (0, [2])]
theorem comp80 : compFn Try.prog loc80 (fun i => (fg80.lookup i).getD []) Try.f80 = some lit80 := by kernel_rfl

-- slices.Max[[]int,int]
def lit81 : AFn := ⟨1, [.tmp 2],
 (.seq
 (.ops [⟨some 2, (.mv (.c (.int .i64 (0)))), none⟩]
 [] [2])
 (.seq
 (.seq
 (.ops [⟨some 5, (.mv (.t 0)), none⟩,
 ⟨some 6, (.len (.t 5)), none⟩,
 ⟨some 7, (.bin .lss (.t 6) (.c (.int .i64 (1)))), none⟩]
 [] [5, 6])
 (.cond (.t 7)
 (.ops [⟨some 8, .bad, none⟩,
 ⟨none, .bad, none⟩]
 [] [7, 8])
 .skip))
 (.seq
 (.ops [⟨some 9, (.mv (.t 0)), none⟩,
 ⟨some 10, (.iad 1 (.t 9) (.c (.int .i64 (0)))), none⟩,
 ⟨some 11, (.load false 1 (.t 10)), none⟩,
 ⟨some 3, (.mv (.t 11)), none⟩]
 [] [7, 9, 10, 11])
 (.seq
 (.seq
 (.ops [⟨some 4, (.mv (.c (.int .i64 (1)))), none⟩]
 [] [])
 (.block 0
 (.loop
 (.seq
 (.seq
 (.ops [⟨some 12, (.mv (.t 4)), none⟩,
 ⟨some 13, (.mv (.t 0)), none⟩,
 ⟨some 14, (.len (.t 13)), none⟩,
 ⟨some 15, (.bin .lss (.t 12) (.t 14)), none⟩]
 [] [12, 13, 14])
 (.cond (.t 15)
 .skip
 (.exit 0)))
 (.seq
 (.block 1
 (.ops [⟨some 18, (.mv (.t 3)), none⟩,
 ⟨some 19, (.mv (.t 0)), none⟩,
 ⟨some 20, (.mv (.t 4)), none⟩,
 ⟨some 21, (.iad 1 (.t 19) (.t 20)), none⟩,
 ⟨some 22, (.load false 1 (.t 21)), none⟩,
 ⟨some 23, (.minmax true [(.t 18), (.t 22)]), none⟩,
 ⟨some 3, (.mv (.t 23)), none⟩]
 [] [15, 18, 19, 20, 21, 22, 23]))
 (.ops [⟨some 16, (.mv (.t 4)), none⟩,
 ⟨some 17, (.bin .add (.t 16) (.c (.int .i64 (1)))), none⟩,
 ⟨some 4, (.mv (.t 17)), none⟩]
 [] [16, 17]))))))
 (.seq
 (.ops [⟨some 24, (.mv (.t 3)), none⟩,
 ⟨some 2, (.mv (.t 24)), none⟩]
 [] [0, 3, 4, 15, 24])
 .ret)))))⟩
def loc81 : List Nat := []
def fg81 : List (Nat × List Nat) := [(8, [0, 3, 4, 15, 24]), (6, [16, 17]), (7, [15, 18, 19, 20, 21, 22, 23]), (5, [12, 13, 14]), (3, [7, 9, 10, 11]), (2, [7, 8]), (1, [5, 6]), (0, [2])]
theorem comp81 : compFn Try.prog loc81 (fun i => (fg81.lookup i).getD []) Try.f81 = some lit81 := by kernel_rfl

-- parcener/cake.point
def lit82 : AFn := ⟨2, [.tmp 4],
 (.seq
 (.ops [⟨some 2, (.boxL (.t 0)), none⟩,
 ⟨some 3, (.boxL (.t 1)), none⟩,
 ⟨some 4, (.mv (.c (.bool false))), none⟩]
 [] [0, 1, 4])
 (.seq
 (.ops [⟨some 5, (.load true 2 (.t 3)), none⟩,
 ⟨some 6, (.call (.f 83) [(.t 5)]), none⟩,
 ⟨some 7, (.bin .eql (.t 6) (.c (.int .i64 (0)))), none⟩,
 ⟨some 8, (.mv (.t 7)), none⟩,
 ⟨some 9, (.fad 0 (.t 3)), some (8, true)⟩,
 ⟨some 10, (.load false 1 (.t 9)), some (8, true)⟩,
 ⟨some 11, (.bin .geq (.t 10) (.c (.int .i64 (0)))), some (8, true)⟩,
 ⟨some 12, (.pick (.t 8) (.t 11) (.c (.bool false))), none⟩,
 ⟨some 13, (.mv (.t 12)), none⟩,
 ⟨some 14, (.fad 0 (.t 2)), some (13, true)⟩,
 ⟨some 15, (.load false 1 (.t 14)), some (13, true)⟩,
 ⟨some 16, (.call (.f 87) [(.t 15)]), some (13, true)⟩,
 ⟨some 17, (.load true 2 (.t 3)), some (13, true)⟩,
 ⟨some 18, (.call (.f 86) [(.t 16), (.t 17)]), some (13, true)⟩,
 ⟨some 19, (.un .not (.t 18)), some (13, true)⟩,
 ⟨some 20, (.pick (.t 13) (.t 19) (.c (.bool false))), none⟩,
 ⟨some 4, (.mv (.t 20)), none⟩]
 [(9, 12), (10, 12), (11, 12)] [2, 3, 5, 6, 7, 8, 9, 10, 11, 12, 13, 14, 15, 16, 17, 18, 19, 20])
 .ret))⟩
def loc82 : List Nat := [2, 3]
def fg82 : List (Nat × List Nat) := [(1, [2, 3, 5, 6, 7, 8, 9, 10, 11, 12, 13, 14, 15, 16, 17, 18, 19, 20]), (0, [0, 1, 4])]
theorem comp82 : compFn Try.prog loc82 (fun i => (fg82.lookup i).getD []) Try.f82 = some lit82 := by kernel_rfl

-- parcener/ratio.Check
def lit83 : AFn := ⟨1, [.tmp 2],
 (.seq
 (.ops [⟨some 1, (.boxL (.t 0)), none⟩,
 ⟨some 2, (.mv (.c (.int .i64 (0)))), none⟩]
 [] [0, 2])
 (.seq
 (.seq
 (.ops [⟨some 3, (.fad 1 (.t 1)), none⟩,
 ⟨some 4, (.load false 1 (.t 3)), none⟩,
 ⟨some 5, (.bin .lss (.t 4) (.c (.int .i64 (1)))), none⟩,
 ⟨some 6, (.mv (.t 5)), none⟩,
 ⟨some 7, (.fad 0 (.t 1)), some (6, false)⟩,
 ⟨some 8, (.load false 1 (.t 7)), some (6, false)⟩,
 ⟨some 9, (.call (.f 71) [(.t 8)]), some (6, false)⟩,
 ⟨some 10, (.fad 1 (.t 1)), some (6, false)⟩,
 ⟨some 11, (.load false 1 (.t 10)), some (6, false)⟩,
 ⟨some 12, (.conv .u64 (.t 11)), some (6, false)⟩,
 ⟨some 13, (.minmax true [(.t 9), (.t 12)]), some (6, false)⟩,
 ⟨some 14, (.bin .gtr (.t 13) (.c (.int .u64 (1000000000000000000)))), some (6, false)⟩,
 ⟨some 15, (.pick (.t 6) (.c (.bool true)) (.t 14)), none⟩,
 ⟨some 16, (.mv (.t 15)), none⟩,
 ⟨some 17, (.fad 0 (.t 1)), some (16, false)⟩,
 ⟨some 18, (.load false 1 (.t 17)), some (16, false)⟩,
 ⟨some 19, (.call (.f 71) [(.t 18)]), some (16, false)⟩,
 ⟨some 20, (.fad 1 (.t 1)), some (16, false)⟩,
 ⟨some 21, (.load false 1 (.t 20)), some (16, false)⟩,
 ⟨some 22, (.conv .u64 (.t 21)), some (16, false)⟩,
 ⟨some 23, (.call (.f 72) [(.t 19), (.t 22)]), some (16, false)⟩,
 ⟨some 24, (.bin .gtr (.t 23) (.c (.int .u64 (1)))), some (16, false)⟩,
 ⟨some 25, (.pick (.t 16) (.c (.bool true)) (.t 24)), none⟩]
 [(4, 7), (5, 7), (6, 7), (4, 8), (5, 8), (6, 8), (4, 9), (5, 9), (6, 9), (14, 17), (15, 17), (16, 17), (14, 18), (15, 18), (16, 18), (14, 19), (15, 19), (16, 19)] [1, 3, 4, 5, 6, 7, 8, 9, 10, 11, 12, 13, 14, 15, 16, 17, 18, 19, 20, 21, 22, 23, 24])
 (.cond (.t 25)
 (.seq
 (.ops [⟨some 2, (.mv (.c (.int .i64 (8)))), none⟩]
 [] [25])
 .ret)
 .skip))
 (.seq
 (.ops [⟨some 2, (.mv (.c (.int .i64 (0)))), none⟩]
 [] [25])
 .ret)))⟩
def loc83 : List Nat := [1]
def fg83 : List (Nat × List Nat) := [(3, [25]), (2, [25]), (1, [1, 3, 4, 5, 6, 7, 8, 9, 10, 11, 12, 13, 14, 15, 16, 17, 18, 19, 20, 21, 22, 23, 24]), (0, [0, 2])]
theorem comp83 : compFn Try.prog loc83 (fun i => (fg83.lookup i).getD []) Try.f83 = some lit83 := by kernel_rfl

-- parcener/cake.less
def lit86 : AFn := ⟨2, [.tmp 4],
 (.seq
 (.ops [⟨some 2, (.boxL (.t 0)), none⟩,
 ⟨some 3, (.boxL (.t 1)), none⟩,
 ⟨some 4, (.mv (.c (.bool false))), none⟩]
 [] [0, 1, 4])
 (.seq
 (.ops [⟨some 8, (.load true 2 (.t 2)), none⟩,
 ⟨some 9, (.load true 2 (.t 3)), none⟩,
 ⟨some 10, (.call (.f 117) [(.t 8), (.t 9)]), none⟩,
 ⟨some 7, (.mv (.t 10)), none⟩,
 ⟨some 11, (.ext (.t 7) 0), none⟩,
 ⟨some 12, (.ext (.t 7) 1), none⟩,
 ⟨some 5, (.mv (.t 11)), none⟩,
 ⟨some 6, (.mv (.t 12)), none⟩]
 [] [2, 3, 6, 7, 8, 9, 10, 11, 12])
 (.seq
 (.ops [⟨some 13, (.mv (.t 5)), none⟩,
 ⟨some 14, (.bin .lss (.t 13) (.c (.int .i64 (0)))), none⟩,
 ⟨some 4, (.mv (.t 14)), none⟩]
 [] [5, 13, 14])
 .ret)))⟩
def loc86 : List Nat := [2, 3]
def fg86 : List (Nat × List Nat) := [(2, [5, 13, 14]), (1, [2, 3, 6, 7, 8, 9, 10, 11, 12]), (0, [0, 1, 4])]
theorem comp86 : compFn Try.prog loc86 (fun i => (fg86.lookup i).getD []) Try.f86 = some lit86 := by kernel_rfl

-- parcener/cake.whole
def lit87 : AFn := ⟨1, [.cell 2 true 2],
 (.seq
 (.ops [⟨some 2, (.allocL (.agg [(.int .i64 (0)), (.int .i64 (0))])), none⟩]
 [] [])
 (.seq
 (.ops [⟨some 3, (.mv (.t 0)), none⟩,
 ⟨some 4, (.build [(.int .i64 (0)), (.int .i64 (0))] [(0, 1, (.t 3)), (1, 1, (.c (.int .i64 (1))))]), none⟩,
 ⟨none, (.store 2 (.t 2) (.t 4)), none⟩]
 [] [0, 3, 4])
 .ret))⟩
def loc87 : List Nat := [2]
def fg87 : List (Nat × List Nat) := [(1, [0, 3, 4])]
theorem comp87 : compFn Try.prog loc87 (fun i => (fg87.lookup i).getD []) Try.f87 = some lit87 := by kernel_rfl

-- parcener/cake.Total
def lit88 : AFn := ⟨1, [.tmp 2, .tmp 3],
 (.seq
 (.ops [⟨some 1, (.boxL (.t 0)), none⟩,
 ⟨some 2, (.mv (.c (.int .i64 (0)))), none⟩,
 ⟨some 3, (.mv (.c (.int .i64 (0)))), none⟩]
 [] [0, 2, 3])
 (.seq
 (.seq
 (.ops [⟨some 8, (.load true 3 (.t 1)), none⟩,
 ⟨some 9, (.call (.f 43) [(.t 8)]), none⟩,
 ⟨some 4, (.mv (.t 9)), none⟩]
 [] [8, 9])
 (.seq
 (.ops [⟨some 10, (.mv (.t 4)), none⟩,
 ⟨some 11, (.bin .neq (.t 10) (.c (.int .i64 (0)))), none⟩]
 [] [10])
 (.cond (.t 11)
 (.seq
 (.ops [⟨some 12, (.mv (.t 4)), none⟩,
 ⟨some 2, (.mv (.c (.int .i64 (0)))), none⟩,
 ⟨some 3, (.mv (.t 12)), none⟩]
 [] [1, 4, 11, 12])
 .ret)
 .skip)))
 (.seq
 (.ops [⟨some 5, (.mv (.c (.int .i64 (0)))), none⟩]
 [] [4, 11])
 (.seq
 (.seq
 (.ops [⟨some 13, (.fad 2 (.t 1)), none⟩,
 ⟨some 14, (.load false 1 (.t 13)), none⟩,
 ⟨some 15, (.len (.t 14)), none⟩,
 ⟨some 16, (.mv (.c (.int .i64 (0)))), none⟩]
 [] [13])
 (.block 0
 (.loop
 (.seq
 (.ops [⟨some 17, (.bin .lss (.t 16) (.t 15)), none⟩]
 [] [])
 (.seq
 (.cond (.t 17)
 .skip
 (.exit 0))
 (.seq
 (.block 1
 (.seq
 (.ops [⟨some 18, (.mv (.t 16)), none⟩,
 ⟨some 19, (.iad 1 (.t 14) (.t 16)), none⟩,
 ⟨some 20, (.load false 1 (.t 19)), none⟩,
 ⟨some 6, (.mv (.t 18)), none⟩,
 ⟨some 7, (.mv (.t 20)), none⟩]
 [] [17, 18, 19, 20])
 (.ops [⟨some 21, (.mv (.t 5)), none⟩,
 ⟨some 22, (.mv (.t 7)), none⟩,
 ⟨some 23, (.fad 1 (.t 1)), none⟩,
 ⟨some 24, (.load false 1 (.t 23)), none⟩,
 ⟨some 25, (.mv (.t 6)), none⟩,
 ⟨some 26, (.bin .add (.t 25) (.c (.int .i64 (1)))), none⟩,
 ⟨some 27, (.iad 1 (.t 24) (.t 26)), none⟩,
 ⟨some 28, (.load false 1 (.t 27)), none⟩,
 ⟨some 29, (.fad 1 (.t 1)), none⟩,
 ⟨some 30, (.load false 1 (.t 29)), none⟩,
 ⟨some 31, (.mv (.t 6)), none⟩,
 ⟨some 32, (.iad 1 (.t 30) (.t 31)), none⟩,
 ⟨some 33, (.load false 1 (.t 32)), none⟩,
 ⟨some 34, (.bin .sub (.t 28) (.t 33)), none⟩,
 ⟨some 35, (.bin .mul (.t 22) (.t 34)), none⟩,
 ⟨some 36, (.bin .add (.t 21) (.t 35)), none⟩,
 ⟨some 5, (.mv (.t 36)), none⟩]
 [(0, 1), (0, 2), (1, 2), (0, 3), (1, 3), (0, 4), (1, 4), (2, 4), (3, 4), (0, 5), (1, 5), (2, 5), (3, 5), (0, 6), (1, 6), (0, 7), (1, 7), (0, 8), (1, 8), (2, 8), (3, 8), (4, 8), (5, 8), (6, 8), (7, 8), (0, 9), (1, 9), (2, 9), (3, 9), (4, 9), (5, 9), (6, 9), (7, 9), (0, 10), (1, 10), (2, 10), (3, 10), (4, 10), (5, 10), (6, 10), (7, 10), (8, 10), (9, 10), (0, 11), (1, 11), (2, 11), (3, 11), (4, 11), (5, 11), (6, 11), (7, 11), (0, 12), (1, 12), (2, 12), (3, 12), (4, 12), (5, 12), (6, 12), (7, 12), (0, 13), (1, 13), (0, 14)] [6, 7, 21, 22, 23, 24, 25, 26, 27, 28, 29, 30, 31, 32, 33, 34, 35, 36])))
 (.ops [⟨some 37, (.bin .add (.t 16) (.c (.int .i64 (1)))), none⟩,
 ⟨some 16, (.mv (.t 37)), none⟩]
 [] [37])))))))
 (.seq
 (.ops [⟨some 38, (.mv (.t 5)), none⟩,
 ⟨some 2, (.mv (.t 38)), none⟩,
 ⟨some 3, (.mv (.c (.int .i64 (0)))), none⟩]
 [] [1, 5, 14, 15, 16, 17, 38])
 .ret)))))⟩
def loc88 : List Nat := [1]
def fg88 : List (Nat × List Nat) := [(10, [1, 5, 14, 15, 16, 17, 38]), (9, [37]), (8, [6, 7, 21, 22, 23, 24, 25, 26, 27, 28, 29, 30, 31, 32, 33, 34, 35, 36]), (7, [17, 18, 19, 20]), (5, [13]), (4, [4, 11]), (3, [1, 4, 11, 12]), (2, [10]), (1, [8, 9]), (0, [0, 2, 3])]
theorem comp88 : compFn Try.prog loc88 (fun i => (fg88.lookup i).getD []) Try.f88 = some lit88 := by kernel_rfl

-- parcener/ratio.Make
def lit89 : AFn := ⟨2, [.cell 4 true 2, .tmp 5],
 (.seq
 (.ops [⟨some 4, (.allocL (.agg [(.int .i64 (0)), (.int .i64 (0))])), none⟩,
 ⟨some 5, (.mv (.c (.int .i64 (0)))), none⟩]
 [] [5])
 (.seq
 (.seq
 (.ops [⟨some 9, (.mv (.t 1)), none⟩,
 ⟨some 10, (.bin .eql (.t 9) (.c (.int .i64 (0)))), none⟩]
 [] [9])
 (.cond (.t 10)
 (.seq
 (.ops [⟨some 11, (.build [(.int .i64 (0)), (.int .i64 (0))] []), none⟩,
 ⟨none, (.store 2 (.t 4) (.t 11)), none⟩,
 ⟨some 5, (.mv (.c (.int .i64 (18)))), none⟩]
 [] [0, 1, 10, 11])
 .ret)
 .skip))
 (.seq
 (.ops [⟨some 12, (.mv (.t 0)), none⟩,
 ⟨some 13, (.call (.f 71) [(.t 12)]), none⟩,
 ⟨some 14, (.mv (.t 1)), none⟩,
 ⟨some 15, (.call (.f 71) [(.t 14)]), none⟩,
 ⟨some 6, (.mv (.t 13)), none⟩,
 ⟨some 7, (.mv (.t 15)), none⟩]
 [] [10, 12, 13, 14, 15])
 (.seq
 (.ops [⟨some 16, (.mv (.t 6)), none⟩,
 ⟨some 17, (.mv (.t 7)), none⟩,
 ⟨some 18, (.call (.f 72) [(.t 16), (.t 17)]), none⟩,
 ⟨some 8, (.mv (.t 18)), none⟩]
 [] [16, 17, 18])
 (.seq
 (.ops [⟨some 19, (.mv (.t 0)), none⟩,
 ⟨some 20, (.bin .lss (.t 19) (.c (.int .i64 (0)))), none⟩,
 ⟨some 21, (.mv (.t 1)), none⟩,
 ⟨some 22, (.bin .lss (.t 21) (.c (.int .i64 (0)))), none⟩,
 ⟨some 23, (.eqB true (.t 20) (.t 22)), none⟩,
 ⟨some 24, (.mv (.t 6)), none⟩,
 ⟨some 25, (.mv (.t 8)), none⟩,
 ⟨some 26, (.bin .quo (.t 24) (.t 25)), none⟩,
 ⟨some 27, (.mv (.t 7)), none⟩,
 ⟨some 28, (.mv (.t 8)), none⟩,
 ⟨some 29, (.bin .quo (.t 27) (.t 28)), none⟩,
 ⟨some 30, (.call (.f 74) [(.t 23), (.t 26), (.t 29)]), none⟩,
 ⟨some 31, (.ext (.t 30) 0), none⟩,
 ⟨some 32, (.ext (.t 30) 1), none⟩,
 ⟨none, (.store 2 (.t 4) (.t 31)), none⟩,
 ⟨some 5, (.mv (.t 32)), none⟩]
 [(0, 2), (1, 2), (0, 3), (1, 3), (0, 5), (1, 5), (2, 5), (3, 5), (4, 5), (0, 6), (1, 6), (2, 6), (3, 6), (4, 6), (5, 6), (0, 7), (1, 7), (2, 7), (3, 7), (4, 7), (0, 8), (1, 8), (2, 8), (3, 8), (4, 8), (5, 8), (6, 8), (7, 8), (0, 9), (1, 9), (2, 9), (3, 9), (4, 9), (5, 9), (6, 9), (7, 9), (8, 9), (0, 10), (1, 10), (2, 10), (3, 10), (4, 10), (5, 10), (6, 10), (7, 10), (12, 13)] [0, 1, 6, 7, 8, 19, 20, 21, 22, 23, 24, 25, 26, 27, 28, 29, 30, 31, 32])
 .ret)))))⟩
def loc89 : List Nat := [4]
def fg89 : List (Nat × List Nat) := [(5, [0, 1, 6, 7, 8, 19, 20, 21, 22, 23, 24, 25, 26, 27, 28, 29, 30, 31, 32]), (4, [16, 17, 18]), (3, [10, 12, 13, 14, 15]), (2, [0, 1, 10, 11]), (1, [9]), (0, [5])]
theorem comp89 : compFn Try.prog loc89 (fun i => (fg89.lookup i).getD []) Try.f89 = some lit89 := by kernel_rfl

-- parcener/proof.whole
def lit99 : AFn := ⟨1, [.cell 2 true 2],
 (.seq
 (.ops [⟨some 2, (.allocL (.agg [(.int .i64 (0)), (.int .i64 (0))])), none⟩]
 [] [])
 (.seq
 (.ops [⟨some 3, (.mv (.t 0)), none⟩,
 ⟨some 4, (.build [(.int .i64 (0)), (.int .i64 (0))] [(0, 1, (.t 3)), (1, 1, (.c (.int .i64 (1))))]), none⟩,
 ⟨none, (.store 2 (.t 2) (.t 4)), none⟩]
 [] [0, 3, 4])
 .ret))⟩
def loc99 : List Nat := [2, 1000002]
def fg99 : List (Nat × List Nat) := [(1, [0, 3, 4])]
theorem comp99 : compFn Try.prog loc99 (fun i => (fg99.lookup i).getD []) Try.f99 = some lit99 := by kernel_rfl

-- (*parcener/proof.judge).first
def lit100 : AFn := ⟨2, [.tmp 4, .tmp 5, .tmp 6],
 (.seq
 (.ops [⟨some 4, (.mv (.c (.int .i64 (0)))), none⟩,
 ⟨some 5, (.mv (.c (.int .i64 (0)))), none⟩,
 ⟨some 6, (.mv (.c (.bool false))), none⟩]
 [] [4, 5, 6])
 (.seq
 (.seq
 (.ops [⟨some 9, (.mv (.t 0)), none⟩,
 ⟨some 10, (.nilchk (.t 9)), none⟩,
 ⟨some 11, (.fad 0 (.t 10)), none⟩,
 ⟨some 12, (.load false 1 (.t 11)), none⟩,
 ⟨some 13, (.len (.t 12)), none⟩,
 ⟨some 14, (.mv (.c (.int .i64 (0)))), none⟩]
 [] [9, 10, 11, 12])
 (.block 0
 (.loop
 (.seq
 (.ops [⟨some 15, (.bin .lss (.t 14) (.t 13)), none⟩]
 [] [])
 (.seq
 (.cond (.t 15)
 .skip
 (.exit 0))
 (.seq
 (.block 1
 (.seq
 (.ops [⟨some 16, (.mv (.t 14)), none⟩,
 ⟨some 7, (.mv (.t 16)), none⟩]
 [] [15, 16])
 (.seq
 (.ops [⟨some 17, (.mv (.t 0)), none⟩,
 ⟨some 18, (.nilchk (.t 17)), none⟩,
 ⟨some 19, (.fad 0 (.t 18)), none⟩,
 ⟨some 20, (.load false 1 (.t 19)), none⟩,
 ⟨some 21, (.len (.t 20)), none⟩,
 ⟨some 22, (.mv (.c (.int .i64 (0)))), none⟩]
 [] [17, 18, 19, 20])
 (.block 2
 (.loop
 (.seq
 (.ops [⟨some 23, (.bin .lss (.t 22) (.t 21)), none⟩]
 [] [])
 (.seq
 (.cond (.t 23)
 .skip
 (.exit 2))
 (.seq
 (.block 3
 (.seq
 (.ops [⟨some 24, (.mv (.t 22)), none⟩,
 ⟨some 8, (.mv (.t 24)), none⟩]
 [] [23, 24])
 (.seq
 (.ops [⟨some 25, (.mv (.t 1)), none⟩,
 ⟨some 26, (.mv (.t 7)), none⟩,
 ⟨some 27, (.mv (.t 8)), none⟩,
 ⟨some 28, (.call (.t 25) [(.t 26), (.t 27)]), none⟩]
 [] [25, 26, 27])
 (.cond (.t 28)
 (.seq
 (.ops [⟨some 29, (.mv (.t 7)), none⟩,
 ⟨some 30, (.mv (.t 8)), none⟩,
 ⟨some 4, (.mv (.t 29)), none⟩,
 ⟨some 5, (.mv (.t 30)), none⟩,
 ⟨some 6, (.mv (.c (.bool true))), none⟩]
 [] [0, 1, 7, 8, 13, 14, 21, 22, 28, 29, 30])
 .ret)
 .skip))))
 (.ops [⟨some 31, (.bin .add (.t 22) (.c (.int .i64 (1)))), none⟩,
 ⟨some 22, (.mv (.t 31)), none⟩]
 [] [8, 28, 31])))))))))
 (.ops [⟨some 32, (.bin .add (.t 14) (.c (.int .i64 (1)))), none⟩,
 ⟨some 14, (.mv (.t 32)), none⟩]
 [] [7, 21, 22, 23, 32])))))))
 (.seq
 (.ops [⟨some 4, (.mv (.c (.int .i64 (0)))), none⟩,
 ⟨some 5, (.mv (.c (.int .i64 (0)))), none⟩,
 ⟨some 6, (.mv (.c (.bool false))), none⟩]
 [] [0, 1, 13, 14, 15])
 .ret)))⟩
def loc100 : List Nat := []
def fg100 : List (Nat × List Nat) := [(11, [0, 1, 13, 14, 15]), (10, [7, 21, 22, 23, 32]), (9, [8, 28, 31]), (8, [0, 1, 7, 8, 13, 14, 21, 22, 28, 29, 30]), (7, [25, 26, 27]), (6, [23, 24]), (4, [17, 18, 19, 20]), (3, [15, 16]), (1, [9, 10, 11, 12]), (0, [4, 5, 6])]
theorem comp100 : compFn Try.prog loc100 (fun i => (fg100.lookup i).getD []) Try.f100 = some lit100 := by kernel_rfl

-- (*parcener/proof.judge).broken$1
def lit101 : AFn := ⟨3, [.tmp 5],
 (.seq
 (.ops [⟨some 5, (.mv (.c (.bool false))), none⟩]
 [] [5])
 (.seq
 (.ops [⟨some 6, (.mv (.t 0)), none⟩,
 ⟨some 7, (.mv (.t 1)), none⟩,
 ⟨some 8, (.bin .lss (.t 6) (.t 7)), none⟩,
 ⟨some 9, (.mv (.t 8)), none⟩,
 ⟨some 10, (.load false 1 (.t 2)), some (9, true)⟩,
 ⟨some 11, (.nilchk (.t 10)), some (9, true)⟩,
 ⟨some 12, (.fad 1 (.t 11)), some (9, true)⟩,
 ⟨some 13, (.load false 1 (.t 12)), some (9, true)⟩,
 ⟨some 14, (.mv (.t 0)), some (9, true)⟩,
 ⟨some 15, (.iad 1 (.t 13) (.t 14)), some (9, true)⟩,
 ⟨some 16, (.load false 1 (.t 15)), some (9, true)⟩,
 ⟨some 17, (.load false 1 (.t 2)), some (9, true)⟩,
 ⟨some 18, (.nilchk (.t 17)), some (9, true)⟩,
 ⟨some 19, (.fad 1 (.t 18)), some (9, true)⟩,
 ⟨some 20, (.load false 1 (.t 19)), some (9, true)⟩,
 ⟨some 21, (.mv (.t 1)), some (9, true)⟩,
 ⟨some 22, (.iad 1 (.t 20) (.t 21)), some (9, true)⟩,
 ⟨some 23, (.load false 1 (.t 22)), some (9, true)⟩,
 ⟨some 24, (.call (.f 102) [(.t 16), (.t 23)]), some (9, true)⟩,
 ⟨some 25, (.pick (.t 9) (.t 24) (.c (.bool false))), none⟩,
 ⟨some 5, (.mv (.t 25)), none⟩]
 [(0, 1), (4, 8), (5, 8), (6, 8), (7, 8), (4, 11), (5, 11), (6, 11), (7, 11), (8, 11), (9, 11), (10, 11), (4, 12), (5, 12), (6, 12), (7, 12), (8, 12), (9, 12), (10, 12), (4, 13), (5, 13), (6, 13), (7, 13), (8, 13), (9, 13), (10, 13), (4, 14), (5, 14), (6, 14), (7, 14), (8, 14), (9, 14), (10, 14), (4, 15), (5, 15), (6, 15), (7, 15), (8, 15), (9, 15), (10, 15), (11, 15), (12, 15), (13, 15), (14, 15), (4, 16), (5, 16), (6, 16), (7, 16), (8, 16), (9, 16), (10, 16), (4, 17), (5, 17), (6, 17), (7, 17), (8, 17), (9, 17), (10, 17)] [0, 1, 2, 6, 7, 8, 9, 10, 11, 12, 13, 14, 15, 16, 17, 18, 19, 20, 21, 22, 23, 24, 25])
 .ret))⟩
def loc101 : List Nat := []
def fg101 : List (Nat × List Nat) := [(1, [0, 1, 2, 6, 7, 8, 9, 10, 11, 12, 13, 14, 15, 16, 17, 18, 19, 20, 21, 22, 23, 24, 25]), (0, [5])]
theorem comp101 : compFn Try.prog loc101 (fun i => (fg101.lookup i).getD []) Try.f101 = some lit101 := by kernel_rfl

-- parcener/proof.touch
def lit102 : AFn := ⟨2, [.tmp 4],
 (.seq
 (.ops [⟨some 3, (.boxH false 1 (.t 1)), none⟩,
 ⟨some 4, (.mv (.c (.bool false))), none⟩]
 [] [1, 4])
 (.seq
 (.ops [⟨some 5, (.mv (.t 0)), none⟩,
 ⟨some 6, (.mkFn (.func 122) [] [(.t 3)]), none⟩,
 ⟨some 7, (.call (.f 121) [(.t 5), (.t 6)]), none⟩,
 ⟨some 4, (.mv (.t 7)), none⟩]
 [] [0, 3, 5, 6, 7])
 .ret))⟩
def loc102 : List Nat := [1000003]
def fg102 : List (Nat × List Nat) := [(1, [0, 3, 5, 6, 7]), (0, [1, 4])]
theorem comp102 : compFn Try.prog loc102 (fun i => (fg102.lookup i).getD []) Try.f102 = some lit102 := by kernel_rfl

-- (*parcener/proof.judge).gap
def lit103 : AFn := ⟨1, [.tmp 2],
 (.seq
 (.ops [⟨some 2, (.mv (.c (.bool false))), none⟩]
 [] [2])
 (.seq
 (.ops [⟨some 7, (.mv (.t 0)), none⟩,
 ⟨some 8, (.nilchk (.t 7)), none⟩,
 ⟨some 9, (.fad 1 (.t 8)), none⟩,
 ⟨some 10, (.load false 1 (.t 9)), none⟩,
 ⟨some 11, (.call (.f 124) [(.t 10)]), none⟩,
 ⟨some 3, (.mv (.t 11)), none⟩]
 [] [7, 8, 9, 10, 11])
 (.seq
 (.ops [⟨some 12, (.mv (.t 3)), none⟩,
 ⟨some 13, (.call (.f 125) [(.t 12), (.f 126)]), none⟩]
 [] [12, 13])
 (.seq
 (.ops [⟨some 14, (.call (.f 99) [(.c (.int .i64 (0)))]), none⟩,
 ⟨some 4, (.allocL (.agg [(.int .i64 (0)), (.int .i64 (0))])), none⟩,
 ⟨none, (.store 2 (.t 4) (.t 14)), none⟩]
 [] [14])
 (.seq
 (.seq
 (.ops [⟨some 15, (.mv (.t 3)), none⟩,
 ⟨some 16, (.len (.t 15)), none⟩,
 ⟨some 17, (.mv (.c (.int .i64 (0)))), none⟩]
 [] [3])
 (.block 0
 (.loop
 (.seq
 (.ops [⟨some 18, (.bin .lss (.t 17) (.t 16)), none⟩]
 [] [])
 (.seq
 (.cond (.t 18)
 .skip
 (.exit 0))
 (.seq
 (.block 1
 (.seq
 (.ops [⟨some 19, (.iad 4 (.t 15) (.t 17)), none⟩,
 ⟨some 20, (.load true 4 (.t 19)), none⟩,
 ⟨some 6, (.allocL (.agg [(.int .i64 (0)), (.int .i64 (0)), (.int .i64 (0)), (.int .i64 (0))])), none⟩,
 ⟨none, (.store 4 (.t 6) (.t 20)), none⟩]
 [] [18, 19, 20])
 (.seq
 (.seq
 (.ops [⟨some 21, (.load true 2 (.t 4)), none⟩,
 ⟨some 22, (.fad 0 (.t 6)), none⟩,
 ⟨some 23, (.load true 2 (.t 22)), none⟩,
 ⟨some 24, (.call (.f 105) [(.t 21), (.t 23)]), none⟩]
 [] [21, 22, 23])
 (.cond (.t 24)
 (.seq
 (.ops [⟨some 2, (.mv (.c (.bool true))), none⟩]
 [] [0, 4, 6, 15, 16, 17, 24])
 .ret)
 .skip))
 (.seq
 (.ops [⟨some 25, (.load true 2 (.t 4)), none⟩,
 ⟨some 26, (.fad 2 (.t 6)), none⟩,
 ⟨some 27, (.load true 2 (.t 26)), none⟩,
 ⟨some 28, (.call (.f 105) [(.t 25), (.t 27)]), none⟩]
 [] [24, 25, 26, 27])
 (.cond (.t 28)
 (.ops [⟨some 29, (.fad 2 (.t 6)), none⟩,
 ⟨some 30, (.load true 2 (.t 29)), none⟩,
 ⟨none, (.store 2 (.t 4) (.t 30)), none⟩]
 [] [6, 28, 29, 30])
 .skip)))))
 (.ops [⟨some 31, (.bin .add (.t 17) (.c (.int .i64 (1)))), none⟩,
 ⟨some 17, (.mv (.t 31)), none⟩]
 [] [6, 28, 31])))))))
 (.seq
 (.ops [⟨some 32, (.load true 2 (.t 4)), none⟩,
 ⟨some 33, (.mv (.t 0)), none⟩,
 ⟨some 34, (.nilchk (.t 33)), none⟩,
 ⟨some 35, (.fad 0 (.t 34)), none⟩,
 ⟨some 36, (.load false 1 (.t 35)), none⟩,
 ⟨some 37, (.iad 3 (.t 36) (.c (.int .i64 (0)))), none⟩,
 ⟨some 38, (.fad 0 (.t 37)), none⟩,
 ⟨some 39, (.load false 1 (.t 38)), none⟩,
 ⟨some 40, (.call (.f 99) [(.t 39)]), none⟩,
 ⟨some 41, (.call (.f 105) [(.t 32), (.t 40)]), none⟩,
 ⟨some 2, (.mv (.t 41)), none⟩]
 [(0, 1), (0, 2), (0, 3), (0, 4), (0, 5), (0, 6), (0, 7), (0, 8)] [0, 4, 15, 16, 17, 18, 32, 33, 34, 35, 36, 37, 38, 39, 40, 41])
 .ret))))))⟩
def loc103 : List Nat := [4, 6]
def fg103 : List (Nat × List Nat) := [(12, [0, 4, 15, 16, 17, 18, 32, 33, 34, 35, 36, 37, 38, 39, 40, 41]), (11, [6, 28, 31]), (10, [6, 28, 29, 30]), (9, [24, 25, 26, 27]), (8, [0, 4, 6, 15, 16, 17, 24]), (7, [21, 22, 23]), (6, [18, 19, 20]), (4, [3]), (3, [14]), (2, [12, 13]), (1, [7, 8, 9, 10, 11]), (0, [2])]
theorem comp103 : compFn Try.prog loc103 (fun i => (fg103.lookup i).getD []) Try.f103 = some lit103 := by kernel_rfl

-- (*parcener/proof.judge).broken$2
def lit104 : AFn := ⟨3, [.tmp 5],
 (.seq
 (.ops [⟨some 5, (.mv (.c (.bool false))), none⟩]
 [] [5])
 (.seq
 (.ops [⟨some 11, (.load false 1 (.t 2)), none⟩,
 ⟨some 12, (.nilchk (.t 11)), none⟩,
 ⟨some 13, (.fad 0 (.t 12)), none⟩,
 ⟨some 14, (.load false 1 (.t 13)), none⟩,
 ⟨some 15, (.mv (.t 0)), none⟩,
 ⟨some 16, (.iad 3 (.t 14) (.t 15)), none⟩,
 ⟨some 17, (.load true 3 (.t 16)), none⟩,
 ⟨some 18, (.call (.f 88) [(.t 17)]), none⟩,
 ⟨some 10, (.mv (.t 18)), none⟩,
 ⟨some 19, (.ext (.t 10) 0), none⟩,
 ⟨some 20, (.ext (.t 10) 1), none⟩,
 ⟨some 6, (.mv (.t 19)), none⟩,
 ⟨some 7, (.mv (.t 20)), none⟩]
 [] [7, 10, 11, 12, 13, 14, 15, 16, 17, 18, 19, 20])
 (.seq
 (.ops [⟨some 22, (.mv (.t 6)), none⟩,
 ⟨some 23, (.load false 1 (.t 2)), none⟩,
 ⟨some 24, (.nilchk (.t 23)), none⟩,
 ⟨some 25, (.fad 0 (.t 24)), none⟩,
 ⟨some 26, (.load false 1 (.t 25)), none⟩,
 ⟨some 27, (.len (.t 26)), none⟩,
 ⟨some 28, (.call (.f 89) [(.t 22), (.t 27)]), none⟩,
 ⟨some 21, (.mv (.t 28)), none⟩,
 ⟨some 29, (.ext (.t 21) 0), none⟩,
 ⟨some 30, (.ext (.t 21) 1), none⟩,
 ⟨some 8, (.allocL (.agg [(.int .i64 (0)), (.int .i64 (0))])), none⟩,
 ⟨none, (.store 2 (.t 8) (.t 29)), none⟩,
 ⟨some 9, (.mv (.t 30)), none⟩]
 [] [6, 9, 21, 22, 23, 24, 25, 26, 27, 28, 29, 30])
 (.seq
 (.ops [⟨some 31, (.mv (.t 0)), none⟩,
 ⟨some 32, (.mv (.t 1)), none⟩,
 ⟨some 33, (.bin .eql (.t 31) (.t 32)), none⟩,
 ⟨some 34, (.mv (.t 33)), none⟩,
 ⟨some 35, (.load false 1 (.t 2)), some (34, true)⟩,
 ⟨some 36, (.nilchk (.t 35)), some (34, true)⟩,
 ⟨some 37, (.fad 2 (.t 36)), some (34, true)⟩,
 ⟨some 38, (.load false 1 (.t 37)), some (34, true)⟩,
 ⟨some 39, (.mv (.t 0)), some (34, true)⟩,
 ⟨some 40, (.iad 1 (.t 38) (.t 39)), some (34, true)⟩,
 ⟨some 41, (.load false 1 (.t 40)), some (34, true)⟩,
 ⟨some 42, (.mv (.t 0)), some (34, true)⟩,
 ⟨some 43, (.iad 2 (.t 41) (.t 42)), some (34, true)⟩,
 ⟨some 44, (.load true 2 (.t 43)), some (34, true)⟩,
 ⟨some 45, (.load true 2 (.t 8)), some (34, true)⟩,
 ⟨some 46, (.call (.f 105) [(.t 44), (.t 45)]), some (34, true)⟩,
 ⟨some 47, (.pick (.t 34) (.t 46) (.c (.bool false))), none⟩,
 ⟨some 5, (.mv (.t 47)), none⟩]
 [(0, 1), (4, 8), (5, 8), (6, 8), (7, 8), (4, 11), (5, 11), (6, 11), (7, 11), (8, 11), (9, 11), (10, 11), (4, 14), (5, 14), (6, 14), (7, 14), (8, 14), (9, 14), (10, 14), (11, 14), (12, 14), (13, 14)] [0, 1, 2, 8, 31, 32, 33, 34, 35, 36, 37, 38, 39, 40, 41, 42, 43, 44, 45, 46, 47])
 .ret))))⟩
def loc104 : List Nat := [8]
def fg104 : List (Nat × List Nat) := [(3, [0, 1, 2, 8, 31, 32, 33, 34, 35, 36, 37, 38, 39, 40, 41, 42, 43, 44, 45, 46, 47]), (2, [6, 9, 21, 22, 23, 24, 25, 26, 27, 28, 29, 30]), (1, [7, 10, 11, 12, 13, 14, 15, 16, 17, 18, 19, 20]), (0, [5])]
theorem comp104 : compFn Try.prog loc104 (fun i => (fg104.lookup i).getD []) Try.f104 = some lit104 := by kernel_rfl

-- parcener/proof.less
def lit105 : AFn := ⟨2, [.tmp 4],
 (.seq
 (.ops [⟨some 2, (.boxL (.t 0)), none⟩,
 ⟨some 3, (.boxL (.t 1)), none⟩,
 ⟨some 4, (.mv (.c (.bool false))), none⟩]
 [] [0, 1, 4])
 (.seq
 (.ops [⟨some 8, (.load true 2 (.t 2)), none⟩,
 ⟨some 9, (.load true 2 (.t 3)), none⟩,
 ⟨some 10, (.call (.f 117) [(.t 8), (.t 9)]), none⟩,
 ⟨some 7, (.mv (.t 10)), none⟩,
 ⟨some 11, (.ext (.t 7) 0), none⟩,
 ⟨some 12, (.ext (.t 7) 1), none⟩,
 ⟨some 5, (.mv (.t 11)), none⟩,
 ⟨some 6, (.mv (.t 12)), none⟩]
 [] [2, 3, 6, 7, 8, 9, 10, 11, 12])
 (.seq
 (.ops [⟨some 13, (.mv (.t 5)), none⟩,
 ⟨some 14, (.bin .lss (.t 13) (.c (.int .i64 (0)))), none⟩,
 ⟨some 4, (.mv (.t 14)), none⟩]
 [] [5, 13, 14])
 .ret)))⟩
def loc105 : List Nat := [2, 3, 1000002, 1000003]
def fg105 : List (Nat × List Nat) := [(2, [5, 13, 14]), (1, [2, 3, 6, 7, 8, 9, 10, 11, 12]), (0, [0, 1, 4])]
theorem comp105 : compFn Try.prog loc105 (fun i => (fg105.lookup i).getD []) Try.f105 = some lit105 := by kernel_rfl

-- (*parcener/proof.judge).broken$3
def lit106 : AFn := ⟨3, [.tmp 5],
 (.seq
 (.ops [⟨some 5, (.mv (.c (.bool false))), none⟩]
 [] [5])
 (.seq
 (.ops [⟨some 6, (.load false 1 (.t 2)), none⟩,
 ⟨some 7, (.nilchk (.t 6)), none⟩,
 ⟨some 8, (.fad 2 (.t 7)), none⟩,
 ⟨some 9, (.load false 1 (.t 8)), none⟩,
 ⟨some 10, (.mv (.t 0)), none⟩,
 ⟨some 11, (.iad 1 (.t 9) (.t 10)), none⟩,
 ⟨some 12, (.load false 1 (.t 11)), none⟩,
 ⟨some 13, (.mv (.t 0)), none⟩,
 ⟨some 14, (.iad 2 (.t 12) (.t 13)), none⟩,
 ⟨some 15, (.load true 2 (.t 14)), none⟩,
 ⟨some 16, (.load false 1 (.t 2)), none⟩,
 ⟨some 17, (.nilchk (.t 16)), none⟩,
 ⟨some 18, (.fad 2 (.t 17)), none⟩,
 ⟨some 19, (.load false 1 (.t 18)), none⟩,
 ⟨some 20, (.mv (.t 0)), none⟩,
 ⟨some 21, (.iad 1 (.t 19) (.t 20)), none⟩,
 ⟨some 22, (.load false 1 (.t 21)), none⟩,
 ⟨some 23, (.mv (.t 1)), none⟩,
 ⟨some 24, (.iad 2 (.t 22) (.t 23)), none⟩,
 ⟨some 25, (.load true 2 (.t 24)), none⟩,
 ⟨some 26, (.call (.f 105) [(.t 15), (.t 25)]), none⟩,
 ⟨some 5, (.mv (.t 26)), none⟩]
 [(0, 4), (1, 4), (2, 4), (3, 4), (0, 7), (1, 7), (2, 7), (3, 7), (4, 7), (5, 7), (6, 7), (0, 10), (1, 10), (2, 10), (3, 10), (4, 10), (5, 10), (6, 10), (7, 10), (8, 10), (9, 10), (0, 11), (1, 11), (2, 11), (3, 11), (4, 11), (5, 11), (6, 11), (7, 11), (8, 11), (9, 11), (0, 12), (1, 12), (2, 12), (3, 12), (4, 12), (5, 12), (6, 12), (7, 12), (8, 12), (9, 12), (0, 13), (1, 13), (2, 13), (3, 13), (4, 13), (5, 13), (6, 13), (7, 13), (8, 13), (9, 13), (0, 14), (1, 14), (2, 14), (3, 14), (4, 14), (5, 14), (6, 14), (7, 14), (8, 14), (9, 14), (10, 14), (11, 14), (12, 14), (13, 14), (0, 15), (1, 15), (2, 15), (3, 15), (4, 15), (5, 15), (6, 15), (7, 15), (8, 15), (9, 15), (0, 16), (1, 16), (2, 16), (3, 16), (4, 16), (5, 16), (6, 16), (7, 16), (8, 16), (9, 16), (0, 17), (1, 17), (2, 17), (3, 17), (4, 17), (5, 17), (6, 17), (7, 17), (8, 17), (9, 17), (10, 17), (11, 17), (12, 17), (13, 17), (14, 17), (15, 17), (16, 17), (0, 18), (1, 18), (2, 18), (3, 18), (4, 18), (5, 18), (6, 18), (7, 18), (8, 18), (9, 18), (0, 19), (1, 19), (2, 19), (3, 19), (4, 19), (5, 19), (6, 19), (7, 19), (8, 19), (9, 19)] [0, 1, 2, 6, 7, 8, 9, 10, 11, 12, 13, 14, 15, 16, 17, 18, 19, 20, 21, 22, 23, 24, 25, 26])
 .ret))⟩
def loc106 : List Nat := []
def fg106 : List (Nat × List Nat) := [(1, [0, 1, 2, 6, 7, 8, 9, 10, 11, 12, 13, 14, 15, 16, 17, 18, 19, 20, 21, 22, 23, 24, 25, 26]), (0, [5])]
theorem comp106 : compFn Try.prog loc106 (fun i => (fg106.lookup i).getD []) Try.f106 = some lit106 := by kernel_rfl

-- (*parcener/proof.judge).broken$4
def lit107 : AFn := ⟨3, [.tmp 5],
 (.seq
 (.ops [⟨some 5, (.mv (.c (.bool false))), none⟩]
 [] [5])
 (.seq
 (.ops [⟨some 6, (.mv (.t 1)), none⟩,
 ⟨some 7, (.bin .eql (.t 6) (.c (.int .i64 (0)))), none⟩,
 ⟨some 8, (.mv (.t 7)), none⟩,
 ⟨some 9, (.load false 1 (.t 2)), some (8, true)⟩,
 ⟨some 10, (.nilchk (.t 9)), some (8, true)⟩,
 ⟨some 11, (.fad 3 (.t 10)), some (8, true)⟩,
 ⟨some 12, (.load false 1 (.t 11)), some (8, true)⟩,
 ⟨some 13, (.mv (.t 0)), some (8, true)⟩,
 ⟨some 14, (.iad 2 (.t 12) (.t 13)), some (8, true)⟩,
 ⟨some 15, (.load true 2 (.t 14)), some (8, true)⟩,
 ⟨some 16, (.load false 1 (.t 2)), some (8, true)⟩,
 ⟨some 17, (.nilchk (.t 16)), some (8, true)⟩,
 ⟨some 18, (.fad 3 (.t 17)), some (8, true)⟩,
 ⟨some 19, (.load false 1 (.t 18)), some (8, true)⟩,
 ⟨some 20, (.iad 2 (.t 19) (.c (.int .i64 (0)))), some (8, true)⟩,
 ⟨some 21, (.load true 2 (.t 20)), some (8, true)⟩,
 ⟨some 22, (.eqA true 2 [(0, (some .i64)), (1, (some .i64))] (.t 15) (.t 21)), some (8, true)⟩,
 ⟨some 23, (.pick (.t 8) (.t 22) (.c (.bool false))), none⟩,
 ⟨some 5, (.mv (.t 23)), none⟩]
 [(3, 7), (4, 7), (5, 7), (6, 7), (3, 10), (4, 10), (5, 10), (6, 10), (7, 10), (8, 10), (9, 10), (3, 11), (4, 11), (5, 11), (6, 11), (7, 11), (8, 11), (9, 11), (3, 12), (4, 12), (5, 12), (6, 12), (7, 12), (8, 12), (9, 12), (3, 13), (4, 13), (5, 13), (6, 13), (7, 13), (8, 13), (9, 13), (3, 14), (4, 14), (5, 14), (6, 14), (7, 14), (8, 14), (9, 14), (3, 15), (4, 15), (5, 15), (6, 15), (7, 15), (8, 15), (9, 15)] [0, 1, 2, 6, 7, 8, 9, 10, 11, 12, 13, 14, 15, 16, 17, 18, 19, 20, 21, 22, 23])
 .ret))⟩
def loc107 : List Nat := []
def fg107 : List (Nat × List Nat) := [(1, [0, 1, 2, 6, 7, 8, 9, 10, 11, 12, 13, 14, 15, 16, 17, 18, 19, 20, 21, 22, 23]), (0, [5])]
theorem comp107 : compFn Try.prog loc107 (fun i => (fg107.lookup i).getD []) Try.f107 = some lit107 := by kernel_rfl

-- (*parcener/proof.judge).broken$5
def lit108 : AFn := ⟨3, [.tmp 5],
 (.seq
 (.ops [⟨some 5, (.mv (.c (.bool false))), none⟩]
 [] [5])
 (.seq
 (.ops [⟨some 6, (.mv (.t 0)), none⟩,
 ⟨some 7, (.mv (.t 1)), none⟩,
 ⟨some 8, (.bin .eql (.t 6) (.t 7)), none⟩,
 ⟨some 9, (.mv (.t 8)), none⟩,
 ⟨some 10, (.load false 1 (.t 2)), some (9, true)⟩,
 ⟨some 11, (.nilchk (.t 10)), some (9, true)⟩,
 ⟨some 12, (.fad 1 (.t 11)), some (9, true)⟩,
 ⟨some 13, (.load false 1 (.t 12)), some (9, true)⟩,
 ⟨some 14, (.mv (.t 0)), some (9, true)⟩,
 ⟨some 15, (.iad 1 (.t 13) (.t 14)), some (9, true)⟩,
 ⟨some 16, (.load false 1 (.t 15)), some (9, true)⟩,
 ⟨some 17, (.len (.t 16)), some (9, true)⟩,
 ⟨some 18, (.bin .neq (.t 17) (.c (.int .i64 (1)))), some (9, true)⟩,
 ⟨some 19, (.pick (.t 9) (.t 18) (.c (.bool false))), none⟩,
 ⟨some 5, (.mv (.t 19)), none⟩]
 [] [0, 1, 2, 6, 7, 8, 9, 10, 11, 12, 13, 14, 15, 16, 17, 18, 19])
 .ret))⟩
def loc108 : List Nat := []
def fg108 : List (Nat × List Nat) := [(1, [0, 1, 2, 6, 7, 8, 9, 10, 11, 12, 13, 14, 15, 16, 17, 18, 19]), (0, [5])]
theorem comp108 : compFn Try.prog loc108 (fun i => (fg108.lookup i).getD []) Try.f108 = some lit108 := by kernel_rfl

-- parcener/piece.Check
def lit109 : AFn := ⟨1, [.tmp 2],
 (.seq
 (.ops [⟨some 2, (.mv (.c (.int .i64 (0)))), none⟩]
 [] [2])
 (.seq
 (.seq
 (.ops [⟨some 5, (.mv (.t 0)), none⟩,
 ⟨some 6, (.call (.f 127) [(.t 5)]), none⟩,
 ⟨some 3, (.mv (.t 6)), none⟩]
 [] [5, 6])
 (.seq
 (.ops [⟨some 7, (.mv (.t 3)), none⟩,
 ⟨some 8, (.bin .neq (.t 7) (.c (.int .i64 (0)))), none⟩]
 [] [7])
 (.cond (.t 8)
 (.seq
 (.ops [⟨some 9, (.mv (.t 3)), none⟩,
 ⟨some 2, (.mv (.t 9)), none⟩]
 [] [0, 3, 8, 9])
 .ret)
 .skip)))
 (.seq
 (.seq
 (.ops [⟨some 4, (.mv (.c (.int .i64 (1)))), none⟩]
 [] [3, 8])
 (.block 0
 (.loop
 (.seq
 (.seq
 (.ops [⟨some 10, (.mv (.t 4)), none⟩,
 ⟨some 11, (.mv (.t 0)), none⟩,
 ⟨some 12, (.len (.t 11)), none⟩,
 ⟨some 13, (.bin .lss (.t 10) (.t 12)), none⟩]
 [] [10, 11, 12])
 (.cond (.t 13)
 .skip
 (.exit 0)))
 (.seq
 (.block 1
 (.seq
 (.ops [⟨some 16, (.mv (.t 0)), none⟩,
 ⟨some 17, (.mv (.t 4)), none⟩,
 ⟨some 18, (.bin .sub (.t 17) (.c (.int .i64 (1)))), none⟩,
 ⟨some 19, (.iad 4 (.t 16) (.t 18)), none⟩,
 ⟨some 20, (.fad 2 (.t 19)), none⟩,
 ⟨some 21, (.load true 2 (.t 20)), none⟩,
 ⟨some 22, (.mv (.t 0)), none⟩,
 ⟨some 23, (.mv (.t 4)), none⟩,
 ⟨some 24, (.iad 4 (.t 22) (.t 23)), none⟩,
 ⟨some 25, (.fad 0 (.t 24)), none⟩,
 ⟨some 26, (.load true 2 (.t 25)), none⟩,
 ⟨some 27, (.call (.f 110) [(.t 21), (.t 26)]), none⟩,
 ⟨some 28, (.bin .geq (.t 27) (.c (.int .i64 (0)))), none⟩]
 [(0, 1), (0, 2), (0, 6), (1, 6), (2, 6), (3, 6), (4, 6), (5, 6), (0, 7), (1, 7), (2, 7), (3, 7), (4, 7), (5, 7), (6, 7), (0, 8), (1, 8), (2, 8), (3, 8), (4, 8), (5, 8), (0, 9), (1, 9), (2, 9), (3, 9), (4, 9), (5, 9), (0, 10), (1, 10), (2, 10), (3, 10), (4, 10), (5, 10)] [13, 16, 17, 18, 19, 20, 21, 22, 23, 24, 25, 26, 27])
 (.cond (.t 28)
 (.seq
 (.ops [⟨some 2, (.mv (.c (.int .i64 (8)))), none⟩]
 [] [0, 4, 28])
 .ret)
 .skip)))
 (.ops [⟨some 14, (.mv (.t 4)), none⟩,
 ⟨some 15, (.bin .add (.t 14) (.c (.int .i64 (1)))), none⟩,
 ⟨some 4, (.mv (.t 15)), none⟩]
 [] [14, 15, 28]))))))
 (.seq
 (.ops [⟨some 2, (.mv (.c (.int .i64 (0)))), none⟩]
 [] [0, 4, 13])
 .ret))))⟩
def loc109 : List Nat := []
def fg109 : List (Nat × List Nat) := [(9, [0, 4, 13]), (6, [14, 15, 28]), (8, [0, 4, 28]), (7, [13, 16, 17, 18, 19, 20, 21, 22, 23, 24, 25, 26, 27]), (5, [10, 11, 12]), (4, [3, 8]), (3, [0, 3, 8, 9]), (2, [7]), (1, [5, 6]), (0, [2])]
theorem comp109 : compFn Try.prog loc109 (fun i => (fg109.lookup i).getD []) Try.f109 = some lit109 := by kernel_rfl

-- parcener/piece.order
def lit110 : AFn := ⟨2, [.tmp 4],
 (.seq
 (.ops [⟨some 2, (.boxL (.t 0)), none⟩,
 ⟨some 3, (.boxL (.t 1)), none⟩,
 ⟨some 4, (.mv (.c (.int .i64 (0)))), none⟩]
 [] [0, 1, 4])
 (.seq
 (.ops [⟨some 8, (.load true 2 (.t 2)), none⟩,
 ⟨some 9, (.load true 2 (.t 3)), none⟩,
 ⟨some 10, (.call (.f 117) [(.t 8), (.t 9)]), none⟩,
 ⟨some 7, (.mv (.t 10)), none⟩,
 ⟨some 11, (.ext (.t 7) 0), none⟩,
 ⟨some 12, (.ext (.t 7) 1), none⟩,
 ⟨some 5, (.mv (.t 11)), none⟩,
 ⟨some 6, (.mv (.t 12)), none⟩]
 [] [2, 3, 6, 7, 8, 9, 10, 11, 12])
 (.seq
 (.ops [⟨some 13, (.mv (.t 5)), none⟩,
 ⟨some 4, (.mv (.t 13)), none⟩]
 [] [5, 13])
 .ret)))⟩
def loc110 : List Nat := [2, 3]
def fg110 : List (Nat × List Nat) := [(2, [5, 13]), (1, [2, 3, 6, 7, 8, 9, 10, 11, 12]), (0, [0, 1, 4])]
theorem comp110 : compFn Try.prog loc110 (fun i => (fg110.lookup i).getD []) Try.f110 = some lit110 := by kernel_rfl

-- parcener/piece.sum
def lit111 : AFn := ⟨2, [.cell 4 true 2, .tmp 5],
 (.seq
 (.ops [⟨some 4, (.allocL (.agg [(.int .i64 (0)), (.int .i64 (0))])), none⟩,
 ⟨some 5, (.mv (.c (.int .i64 (0)))), none⟩]
 [] [5])
 (.seq
 (.ops [⟨some 11, (.build [(.int .i64 (0)), (.int .i64 (0))] [(1, 1, (.c (.int .i64 (1))))]), none⟩,
 ⟨some 6, (.allocL (.agg [(.int .i64 (0)), (.int .i64 (0))])), none⟩,
 ⟨none, (.store 2 (.t 6) (.t 11)), none⟩]
 [] [11])
 (.seq
 (.seq
 (.ops [⟨some 12, (.mv (.t 0)), none⟩,
 ⟨some 13, (.len (.t 12)), none⟩,
 ⟨some 14, (.mv (.c (.int .i64 (0)))), none⟩]
 [] [0])
 (.block 0
 (.loop
 (.seq
 (.ops [⟨some 15, (.bin .lss (.t 14) (.t 13)), none⟩]
 [] [])
 (.seq
 (.cond (.t 15)
 .skip
 (.exit 0))
 (.seq
 (.block 1
 (.seq
 (.ops [⟨some 16, (.iad 4 (.t 12) (.t 14)), none⟩,
 ⟨some 17, (.load true 4 (.t 16)), none⟩,
 ⟨some 8, (.allocL (.agg [(.int .i64 (0)), (.int .i64 (0)), (.int .i64 (0)), (.int .i64 (0))])), none⟩,
 ⟨none, (.store 4 (.t 8) (.t 17)), none⟩]
 [] [15, 16, 17])
 (.seq
 (.ops [⟨some 19, (.mv (.t 1)), none⟩,
 ⟨some 20, (.load true 4 (.t 8)), none⟩,
 ⟨some 21, (.call (.t 19) [(.t 20)]), none⟩,
 ⟨some 18, (.mv (.t 21)), none⟩,
 ⟨some 22, (.ext (.t 18) 0), none⟩,
 ⟨some 23, (.ext (.t 18) 1), none⟩,
 ⟨some 9, (.allocL (.agg [(.int .i64 (0)), (.int .i64 (0))])), none⟩,
 ⟨none, (.store 2 (.t 9) (.t 22)), none⟩,
 ⟨some 10, (.mv (.t 23)), none⟩]
 [] [8, 18, 19, 20, 21, 22, 23])
 (.seq
 (.seq
 (.ops [⟨some 24, (.mv (.t 10)), none⟩,
 ⟨some 25, (.bin .neq (.t 24) (.c (.int .i64 (0)))), none⟩]
 [] [24])
 (.cond (.t 25)
 (.seq
 (.ops [⟨some 26, (.build [(.int .i64 (0)), (.int .i64 (0))] []), none⟩,
 ⟨some 27, (.mv (.t 10)), none⟩,
 ⟨none, (.store 2 (.t 4) (.t 26)), none⟩,
 ⟨some 5, (.mv (.t 27)), none⟩]
 [] [1, 6, 9, 10, 12, 13, 14, 25, 26, 27])
 .ret)
 .skip))
 (.seq
 (.ops [⟨some 29, (.load true 2 (.t 6)), none⟩,
 ⟨some 30, (.load true 2 (.t 9)), none⟩,
 ⟨some 31, (.call (.f 41) [(.t 29), (.t 30)]), none⟩,
 ⟨some 28, (.mv (.t 31)), none⟩,
 ⟨some 32, (.ext (.t 28) 0), none⟩,
 ⟨some 33, (.ext (.t 28) 1), none⟩,
 ⟨none, (.store 2 (.t 6) (.t 32)), none⟩,
 ⟨some 10, (.mv (.t 33)), none⟩]
 [] [9, 25, 28, 29, 30, 31, 32, 33])
 (.seq
 (.ops [⟨some 34, (.mv (.t 10)), none⟩,
 ⟨some 35, (.bin .neq (.t 34) (.c (.int .i64 (0)))), none⟩]
 [] [34])
 (.cond (.t 35)
 (.seq
 (.ops [⟨some 36, (.build [(.int .i64 (0)), (.int .i64 (0))] []), none⟩,
 ⟨some 37, (.mv (.t 10)), none⟩,
 ⟨none, (.store 2 (.t 4) (.t 36)), none⟩,
 ⟨some 5, (.mv (.t 37)), none⟩]
 [] [1, 6, 10, 12, 13, 14, 35, 36, 37])
 .ret)
 .skip)))))))
 (.ops [⟨some 38, (.bin .add (.t 14) (.c (.int .i64 (1)))), none⟩,
 ⟨some 14, (.mv (.t 38)), none⟩]
 [] [10, 35, 38])))))))
 (.seq
 (.ops [⟨some 39, (.load true 2 (.t 6)), none⟩,
 ⟨none, (.store 2 (.t 4) (.t 39)), none⟩,
 ⟨some 5, (.mv (.c (.int .i64 (0)))), none⟩]
 [] [1, 6, 12, 13, 14, 15, 39])
 .ret))))⟩
def loc111 : List Nat := [4, 6, 8, 9]
def fg111 : List (Nat × List Nat) := [(12, [1, 6, 12, 13, 14, 15, 39]), (11, [10, 35, 38]), (10, [1, 6, 10, 12, 13, 14, 35, 36, 37]), (9, [34]), (8, [9, 25, 28, 29, 30, 31, 32, 33]), (7, [1, 6, 9, 10, 12, 13, 14, 25, 26, 27]), (6, [24]), (5, [8, 18, 19, 20, 21, 22, 23]), (4, [15, 16, 17]), (2, [0]), (1, [11]), (0, [5])]
theorem comp111 : compFn Try.prog loc111 (fun i => (fg111.lookup i).getD []) Try.f111 = some lit111 := by kernel_rfl

-- parcener/piece.Worth$1
def lit112 : AFn := ⟨2, [.cell 3 true 2, .tmp 4],
 (.seq
 (.ops [⟨some 2, (.boxL (.t 0)), none⟩,
 ⟨some 3, (.allocL (.agg [(.int .i64 (0)), (.int .i64 (0))])), none⟩,
 ⟨some 4, (.mv (.c (.int .i64 (0)))), none⟩]
 [] [0, 4])
 (.seq
 (.ops [⟨some 5, (.load true 3 (.t 1)), none⟩,
 ⟨some 6, (.fad 0 (.t 2)), none⟩,
 ⟨some 7, (.load true 2 (.t 6)), none⟩,
 ⟨some 8, (.fad 2 (.t 2)), none⟩,
 ⟨some 9, (.load true 2 (.t 8)), none⟩,
 ⟨some 10, (.call (.f 54) [(.t 5), (.t 7), (.t 9)]), none⟩,
 ⟨some 11, (.ext (.t 10) 0), none⟩,
 ⟨some 12, (.ext (.t 10) 1), none⟩,
 ⟨none, (.store 2 (.t 3) (.t 11)), none⟩,
 ⟨some 4, (.mv (.t 12)), none⟩]
 [] [1, 2, 5, 6, 7, 8, 9, 10, 11, 12])
 .ret))⟩
def loc112 : List Nat := [2, 3]
def fg112 : List (Nat × List Nat) := [(1, [1, 2, 5, 6, 7, 8, 9, 10, 11, 12]), (0, [0, 4])]
theorem comp112 : compFn Try.prog loc112 (fun i => (fg112.lookup i).getD []) Try.f112 = some lit112 := by kernel_rfl

-- parcener/ratio.Cmp
def lit117 : AFn := ⟨2, [.tmp 4, .tmp 5],
 (.seq
 (.ops [⟨some 2, (.boxL (.t 0)), none⟩,
 ⟨some 3, (.boxL (.t 1)), none⟩,
 ⟨some 4, (.mv (.c (.int .i64 (0)))), none⟩,
 ⟨some 5, (.mv (.c (.int .i64 (0)))), none⟩]
 [] [0, 1, 4, 5])
 (.seq
 (.seq
 (.ops [⟨some 12, (.load true 2 (.t 2)), none⟩,
 ⟨some 13, (.load true 2 (.t 3)), none⟩,
 ⟨some 14, (.call (.f 70) [(.t 12), (.t 13)]), none⟩,
 ⟨some 6, (.mv (.t 14)), none⟩]
 [] [12, 13, 14])
 (.seq
 (.ops [⟨some 15, (.mv (.t 6)), none⟩,
 ⟨some 16, (.bin .neq (.t 15) (.c (.int .i64 (0)))), none⟩]
 [] [15])
 (.cond (.t 16)
 (.seq
 (.ops [⟨some 17, (.mv (.t 6)), none⟩,
 ⟨some 4, (.mv (.c (.int .i64 (0)))), none⟩,
 ⟨some 5, (.mv (.t 17)), none⟩]
 [] [2, 3, 6, 16, 17])
 .ret)
 .skip)))
 (.seq
 (.seq
 (.ops [⟨some 18, (.fad 0 (.t 2)), none⟩,
 ⟨some 19, (.load false 1 (.t 18)), none⟩,
 ⟨some 20, (.bin .lss (.t 19) (.c (.int .i64 (0)))), none⟩,
 ⟨some 21, (.fad 0 (.t 3)), none⟩,
 ⟨some 22, (.load false 1 (.t 21)), none⟩,
 ⟨some 23, (.bin .lss (.t 22) (.c (.int .i64 (0)))), none⟩,
 ⟨some 24, (.eqB true (.t 20) (.t 23)), none⟩]
 [] [6, 16, 18, 19, 20, 21, 22, 23])
 (.cond (.t 24)
 (.seq
 (.ops [⟨some 25, (.fad 0 (.t 2)), none⟩,
 ⟨some 26, (.load false 1 (.t 25)), none⟩,
 ⟨some 27, (.fad 0 (.t 3)), none⟩,
 ⟨some 28, (.load false 1 (.t 27)), none⟩,
 ⟨some 29, (.call (.f 130) [(.t 26), (.t 28)]), none⟩,
 ⟨some 4, (.mv (.t 29)), none⟩,
 ⟨some 5, (.mv (.c (.int .i64 (0)))), none⟩]
 [] [2, 3, 24, 25, 26, 27, 28, 29])
 .ret)
 .skip))
 (.seq
 (.ops [⟨some 31, (.fad 0 (.t 2)), none⟩,
 ⟨some 32, (.load false 1 (.t 31)), none⟩,
 ⟨some 33, (.call (.f 71) [(.t 32)]), none⟩,
 ⟨some 34, (.fad 1 (.t 3)), none⟩,
 ⟨some 35, (.load false 1 (.t 34)), none⟩,
 ⟨some 36, (.conv .u64 (.t 35)), none⟩,
 ⟨some 37, (.call (.f 73) [(.t 33), (.t 36)]), none⟩,
 ⟨some 30, (.mv (.t 37)), none⟩,
 ⟨some 38, (.ext (.t 30) 0), none⟩,
 ⟨some 39, (.ext (.t 30) 1), none⟩,
 ⟨some 7, (.mv (.t 38)), none⟩,
 ⟨some 8, (.mv (.t 39)), none⟩]
 [(0, 3), (1, 3), (2, 3), (0, 4), (1, 4), (2, 4), (0, 5), (1, 5), (2, 5), (8, 9), (9, 10)] [24, 30, 31, 32, 33, 34, 35, 36, 37, 38, 39])
 (.seq
 (.ops [⟨some 41, (.fad 0 (.t 3)), none⟩,
 ⟨some 42, (.load false 1 (.t 41)), none⟩,
 ⟨some 43, (.call (.f 71) [(.t 42)]), none⟩,
 ⟨some 44, (.fad 1 (.t 2)), none⟩,
 ⟨some 45, (.load false 1 (.t 44)), none⟩,
 ⟨some 46, (.conv .u64 (.t 45)), none⟩,
 ⟨some 47, (.call (.f 73) [(.t 43), (.t 46)]), none⟩,
 ⟨some 40, (.mv (.t 47)), none⟩,
 ⟨some 48, (.ext (.t 40) 0), none⟩,
 ⟨some 49, (.ext (.t 40) 1), none⟩,
 ⟨some 9, (.mv (.t 48)), none⟩,
 ⟨some 10, (.mv (.t 49)), none⟩]
 [(0, 3), (1, 3), (2, 3), (0, 4), (1, 4), (2, 4), (0, 5), (1, 5), (2, 5), (8, 9), (9, 10)] [3, 40, 41, 42, 43, 44, 45, 46, 47, 48, 49])
 (.seq
 (.ops [⟨some 50, (.mv (.t 7)), none⟩,
 ⟨some 51, (.mv (.t 9)), none⟩,
 ⟨some 52, (.call (.f 132) [(.t 50), (.t 51)]), none⟩,
 ⟨some 53, (.mv (.t 8)), none⟩,
 ⟨some 54, (.mv (.t 10)), none⟩,
 ⟨some 55, (.call (.f 132) [(.t 53), (.t 54)]), none⟩,
 ⟨some 56, (.buildD 1 (.int .i64 (0)) 2 [(0, (.t 52)), (1, (.t 55))]), none⟩,
 ⟨some 57, (.call (.f 131) [(.t 56)]), none⟩,
 ⟨some 11, (.mv (.t 57)), none⟩]
 [] [7, 8, 9, 10, 50, 51, 52, 53, 54, 55, 56, 57])
 (.seq
 (.seq
 (.ops [⟨some 58, (.fad 0 (.t 2)), none⟩,
 ⟨some 59, (.load false 1 (.t 58)), none⟩,
 ⟨some 60, (.bin .lss (.t 59) (.c (.int .i64 (0)))), none⟩]
 [] [2, 58, 59])
 (.cond (.t 60)
 (.ops [⟨some 61, (.mv (.t 11)), none⟩,
 ⟨some 62, (.un .neg (.t 61)), none⟩,
 ⟨some 11, (.mv (.t 62)), none⟩]
 [] [60, 61, 62])
 .skip))
 (.seq
 (.ops [⟨some 63, (.mv (.t 11)), none⟩,
 ⟨some 4, (.mv (.t 63)), none⟩,
 ⟨some 5, (.mv (.c (.int .i64 (0)))), none⟩]
 [] [11, 60, 63])
 .ret))))))))⟩
def loc117 : List Nat := [56, 2, 3]
def fg117 : List (Nat × List Nat) := [(11, [11, 60, 63]), (10, [60, 61, 62]), (9, [2, 58, 59]), (8, [7, 8, 9, 10, 50, 51, 52, 53, 54, 55, 56, 57]), (7, [3, 40, 41, 42, 43, 44, 45, 46, 47, 48, 49]), (6, [24, 30, 31, 32, 33, 34, 35, 36, 37, 38, 39]), (5, [2, 3, 24, 25, 26, 27, 28, 29]), (4, [6, 16, 18, 19, 20, 21, 22, 23]), (3, [2, 3, 6, 16, 17]), (2, [15]), (1, [12, 13, 14]), (0, [0, 1, 4, 5])]
theorem comp117 : compFn Try.prog loc117 (fun i => (fg117.lookup i).getD []) Try.f117 = some lit117 := by kernel_rfl

-- cmp.Or[parcener/api.Errno]
def lit118 : AFn := ⟨1, [.tmp 2],
 (.seq
 (.ops [⟨some 2, (.mv (.c (.int .i64 (0)))), none⟩]
 [] [2])
 (.seq
 (.ops [⟨some 3, (.mv (.c (.int .i64 (0)))), none⟩]
 [] [])
 (.seq
 (.seq
 (.ops [⟨some 6, (.mv (.t 0)), none⟩,
 ⟨some 7, (.len (.t 6)), none⟩,
 ⟨some 8, (.mv (.c (.int .i64 (0)))), none⟩]
 [] [0])
 (.block 0
 (.loop
 (.seq
 (.ops [⟨some 9, (.bin .lss (.t 8) (.t 7)), none⟩]
 [] [])
 (.seq
 (.cond (.t 9)
 .skip
 (.exit 0))
 (.seq
 (.block 1
 (.seq
 (.ops [⟨some 10, (.iad 1 (.t 6) (.t 8)), none⟩,
 ⟨some 11, (.load false 1 (.t 10)), none⟩,
 ⟨some 5, (.mv (.t 11)), none⟩]
 [] [9, 10, 11])
 (.seq
 (.ops [⟨some 12, (.mv (.t 5)), none⟩,
 ⟨some 13, (.mv (.t 3)), none⟩,
 ⟨some 14, (.bin .neq (.t 12) (.t 13)), none⟩]
 [] [12, 13])
 (.cond (.t 14)
 (.seq
 (.ops [⟨some 15, (.mv (.t 5)), none⟩,
 ⟨some 2, (.mv (.t 15)), none⟩]
 [] [3, 5, 6, 7, 8, 14, 15])
 .ret)
 .skip))))
 (.ops [⟨some 16, (.bin .add (.t 8) (.c (.int .i64 (1)))), none⟩,
 ⟨some 8, (.mv (.t 16)), none⟩]
 [] [5, 14, 16])))))))
 (.seq
 (.ops [⟨some 17, (.mv (.t 3)), none⟩,
 ⟨some 2, (.mv (.t 17)), none⟩]
 [] [3, 6, 7, 8, 9, 17])
 .ret))))⟩
def loc118 : List Nat := []
def fg118 : List (Nat × List Nat) := [(8, [3, 6, 7, 8, 9, 17]), (7, [5, 14, 16]), (6, [3, 5, 6, 7, 8, 14, 15]), (5, [12, 13]), (4, [9, 10, 11]), (2, [0]), (0, [2])]
theorem comp118 : compFn Try.prog loc118 (fun i => (fg118.lookup i).getD []) Try.f118 = some lit118 := by kernel_rfl

-- slices.ContainsFunc[[]parcener/api.Span,parcener/api.Span]
def lit121 : AFn := ⟨2, [.tmp 4],
 (.seq
 (.ops [⟨some 4, (.mv (.c (.bool false))), none⟩]
 [] [4])
 (.seq
 (.ops [⟨some 5, (.mv (.t 0)), none⟩,
 ⟨some 6, (.mv (.t 1)), none⟩,
 ⟨some 7, (.call (.f 134) [(.t 5), (.t 6)]), none⟩,
 ⟨some 8, (.bin .geq (.t 7) (.c (.int .i64 (0)))), none⟩,
 ⟨some 4, (.mv (.t 8)), none⟩]
 [] [0, 1, 5, 6, 7, 8])
 .ret))⟩
def loc121 : List Nat := []
def fg121 : List (Nat × List Nat) := [(1, [0, 1, 5, 6, 7, 8]), (0, [4])]
theorem comp121 : compFn Try.prog loc121 (fun i => (fg121.lookup i).getD []) Try.f121 = some lit121 := by kernel_rfl

-- parcener/proof.touch$1
def lit122 : AFn := ⟨2, [.tmp 3],
 (.seq
 (.ops [⟨some 2, (.boxH false 4 (.t 0)), none⟩,
 ⟨some 3, (.mv (.c (.bool false))), none⟩]
 [] [0, 3])
 (.seq
 (.ops [⟨some 4, (.load false 1 (.t 1)), none⟩,
 ⟨some 5, (.mkFn (.func 123) [] [(.t 2)]), none⟩,
 ⟨some 6, (.call (.f 121) [(.t 4), (.t 5)]), none⟩,
 ⟨some 3, (.mv (.t 6)), none⟩]
 [] [1, 2, 4, 5, 6])
 .ret))⟩
def loc122 : List Nat := [1000002]
def fg122 : List (Nat × List Nat) := [(1, [1, 2, 4, 5, 6]), (0, [0, 3])]
theorem comp122 : compFn Try.prog loc122 (fun i => (fg122.lookup i).getD []) Try.f122 = some lit122 := by kernel_rfl

-- parcener/proof.touch$1$1
def lit123 : AFn := ⟨2, [.tmp 3],
 (.seq
 (.ops [⟨some 2, (.boxL (.t 0)), none⟩,
 ⟨some 3, (.mv (.c (.bool false))), none⟩]
 [] [0, 3])
 (.seq
 (.ops [⟨some 4, (.fad 0 (.t 1)), none⟩,
 ⟨some 5, (.load true 2 (.t 4)), none⟩,
 ⟨some 6, (.fad 2 (.t 2)), none⟩,
 ⟨some 7, (.load true 2 (.t 6)), none⟩,
 ⟨some 8, (.call (.f 105) [(.t 5), (.t 7)]), none⟩,
 ⟨some 9, (.mv (.t 8)), none⟩,
 ⟨some 10, (.fad 0 (.t 2)), some (9, true)⟩,
 ⟨some 11, (.load true 2 (.t 10)), some (9, true)⟩,
 ⟨some 12, (.fad 2 (.t 1)), some (9, true)⟩,
 ⟨some 13, (.load true 2 (.t 12)), some (9, true)⟩,
 ⟨some 14, (.call (.f 105) [(.t 11), (.t 13)]), some (9, true)⟩,
 ⟨some 15, (.pick (.t 9) (.t 14) (.c (.bool false))), none⟩,
 ⟨some 3, (.mv (.t 15)), none⟩]
 [] [1, 2, 4, 5, 6, 7, 8, 9, 10, 11, 12, 13, 14, 15])
 .ret))⟩
def loc123 : List Nat := [2, 1000002]
def fg123 : List (Nat × List Nat) := [(1, [1, 2, 4, 5, 6, 7, 8, 9, 10, 11, 12, 13, 14, 15]), (0, [0, 3])]
theorem comp123 : compFn Try.prog loc123 (fun i => (fg123.lookup i).getD []) Try.f123 = some lit123 := by kernel_rfl

-- slices.Concat[[]parcener/api.Span,parcener/api.Span]
def lit124 : AFn := ⟨1, [.tmp 2],
 (.seq
 (.ops [⟨some 2, (.mv (.c .nils)), none⟩]
 [] [2])
 (.seq
 (.ops [⟨some 3, (.mv (.c (.int .i64 (0)))), none⟩]
 [] [])
 (.seq
 (.seq
 (.ops [⟨some 9, (.mv (.t 0)), none⟩,
 ⟨some 10, (.len (.t 9)), none⟩,
 ⟨some 11, (.mv (.c (.int .i64 (0)))), none⟩]
 [] [])
 (.block 0
 (.loop
 (.seq
 (.ops [⟨some 12, (.bin .lss (.t 11) (.t 10)), none⟩]
 [] [])
 (.seq
 (.cond (.t 12)
 .skip
 (.exit 0))
 (.seq
 (.block 1
 (.seq
 (.ops [⟨some 13, (.iad 1 (.t 9) (.t 11)), none⟩,
 ⟨some 14, (.load false 1 (.t 13)), none⟩,
 ⟨some 5, (.mv (.t 14)), none⟩]
 [] [12, 13, 14])
 (.seq
 (.ops [⟨some 15, (.mv (.t 3)), none⟩,
 ⟨some 16, (.mv (.t 5)), none⟩,
 ⟨some 17, (.len (.t 16)), none⟩,
 ⟨some 18, (.bin .add (.t 15) (.t 17)), none⟩,
 ⟨some 3, (.mv (.t 18)), none⟩]
 [] [5, 15, 16, 17, 18])
 (.seq
 (.ops [⟨some 19, (.mv (.t 3)), none⟩,
 ⟨some 20, (.bin .lss (.t 19) (.c (.int .i64 (0)))), none⟩]
 [] [19])
 (.cond (.t 20)
 (.ops [⟨some 21, .bad, none⟩,
 ⟨none, .bad, none⟩]
 [] [20, 21])
 .skip)))))
 (.ops [⟨some 22, (.bin .add (.t 11) (.c (.int .i64 (1)))), none⟩,
 ⟨some 11, (.mv (.t 22)), none⟩]
 [] [20, 22])))))))
 (.seq
 (.ops [⟨some 23, (.mv (.t 3)), none⟩,
 ⟨some 24, (.call (.f 135) [(.c .nils), (.t 23)]), none⟩,
 ⟨some 6, (.mv (.t 24)), none⟩]
 [] [3, 9, 10, 11, 12, 23, 24])
 (.seq
 (.seq
 (.ops [⟨some 25, (.mv (.t 0)), none⟩,
 ⟨some 26, (.len (.t 25)), none⟩,
 ⟨some 27, (.mv (.c (.int .i64 (0)))), none⟩]
 [] [0])
 (.block 2
 (.loop
 (.seq
 (.ops [⟨some 28, (.bin .lss (.t 27) (.t 26)), none⟩]
 [] [])
 (.seq
 (.cond (.t 28)
 .skip
 (.exit 2))
 (.seq
 (.block 3
 (.seq
 (.ops [⟨some 29, (.iad 1 (.t 25) (.t 27)), none⟩,
 ⟨some 30, (.load false 1 (.t 29)), none⟩,
 ⟨some 8, (.mv (.t 30)), none⟩]
 [] [28, 29, 30])
 (.ops [⟨some 31, (.mv (.t 6)), none⟩,
 ⟨some 32, (.mv (.t 8)), none⟩,
 ⟨some 33, (.app true 4 32 (.t 31) (.t 32)), none⟩,
 ⟨some 6, (.mv (.t 33)), none⟩]
 [] [8, 31, 32, 33])))
 (.ops [⟨some 34, (.bin .add (.t 27) (.c (.int .i64 (1)))), none⟩,
 ⟨some 27, (.mv (.t 34)), none⟩]
 [] [34])))))))
 (.seq
 (.ops [⟨some 35, (.mv (.t 6)), none⟩,
 ⟨some 2, (.mv (.t 35)), none⟩]
 [] [6, 25, 26, 27, 28, 35])
 .ret))))))⟩
def loc124 : List Nat := []
def fg124 : List (Nat × List Nat) := [(15, [6, 25, 26, 27, 28, 35]), (14, [34]), (13, [8, 31, 32, 33]), (12, [28, 29, 30]), (10, [0]), (9, [3, 9, 10, 11, 12, 23, 24]), (8, [20, 22]), (7, [20, 21]), (6, [19]), (5, [5, 15, 16, 17, 18]), (4, [12, 13, 14]), (0, [2])]
theorem comp124 : compFn Try.prog loc124 (fun i => (fg124.lookup i).getD []) Try.f124 = some lit124 := by kernel_rfl

-- slices.SortFunc[[]parcener/api.Span,parcener/api.Span]
def lit125 : AFn := ⟨2, [],
 (.seq
 (.ops [⟨some 5, (.mv (.t 0)), none⟩,
 ⟨some 6, (.len (.t 5)), none⟩,
 ⟨some 4, (.mv (.t 6)), none⟩]
 [] [5, 6])
 (.ops [⟨some 7, (.mv (.t 0)), none⟩,
 ⟨some 8, (.mv (.t 4)), none⟩,
 ⟨some 9, (.mv (.t 4)), none⟩,
 ⟨some 10, (.conv .u64 (.t 9)), none⟩,
 ⟨some 11, (.call (.f 137) [(.t 10)]), none⟩,
 ⟨some 12, (.mv (.t 1)), none⟩,
 ⟨some 13, (.call (.f 136) [(.t 7), (.c (.int .i64 (0))), (.t 8), (.t 11), (.t 12)]), none⟩]
 [] [0, 1, 4, 7, 8, 9, 10, 11, 12, 13]))⟩
def loc125 : List Nat := []
def fg125 : List (Nat × List Nat) := [(1, [0, 1, 4, 7, 8, 9, 10, 11, 12, 13]), (0, [5, 6])]
theorem comp125 : compFn Try.prog loc125 (fun i => (fg125.lookup i).getD []) Try.f125 = some lit125 := by kernel_rfl

-- (*parcener/proof.judge).gap$1
def lit126 : AFn := ⟨2, [.tmp 4],
 (.seq
 (.ops [⟨some 2, (.boxL (.t 0)), none⟩,
 ⟨some 3, (.boxL (.t 1)), none⟩,
 ⟨some 4, (.mv (.c (.int .i64 (0)))), none⟩]
 [] [0, 1, 4])
 (.seq
 (.ops [⟨some 8, (.fad 0 (.t 2)), none⟩,
 ⟨some 9, (.load true 2 (.t 8)), none⟩,
 ⟨some 10, (.fad 0 (.t 3)), none⟩,
 ⟨some 11, (.load true 2 (.t 10)), none⟩,
 ⟨some 12, (.call (.f 117) [(.t 9), (.t 11)]), none⟩,
 ⟨some 7, (.mv (.t 12)), none⟩,
 ⟨some 13, (.ext (.t 7) 0), none⟩,
 ⟨some 14, (.ext (.t 7) 1), none⟩,
 ⟨some 5, (.mv (.t 13)), none⟩,
 ⟨some 6, (.mv (.t 14)), none⟩]
 [] [2, 3, 6, 7, 8, 9, 10, 11, 12, 13, 14])
 (.seq
 (.ops [⟨some 15, (.mv (.t 5)), none⟩,
 ⟨some 4, (.mv (.t 15)), none⟩]
 [] [5, 15])
 .ret)))⟩
def loc126 : List Nat := [2, 3]
def fg126 : List (Nat × List Nat) := [(2, [5, 15]), (1, [2, 3, 6, 7, 8, 9, 10, 11, 12, 13, 14]), (0, [0, 1, 4])]
theorem comp126 : compFn Try.prog loc126 (fun i => (fg126.lookup i).getD []) Try.f126 = some lit126 := by kernel_rfl

-- parcener/piece.all
def lit127 : AFn := ⟨1, [.tmp 2],
 (.seq
 (.ops [⟨some 2, (.mv (.c (.int .i64 (0)))), none⟩]
 [] [2])
 (.seq
 (.seq
 (.ops [⟨some 5, (.mv (.t 0)), none⟩,
 ⟨some 6, (.len (.t 5)), none⟩,
 ⟨some 7, (.bin .gtr (.t 6) (.c (.int .i64 (60)))), none⟩]
 [] [5, 6])
 (.cond (.t 7)
 (.seq
 (.ops [⟨some 2, (.mv (.c (.int .i64 (4)))), none⟩]
 [] [0, 7])
 .ret)
 .skip))
 (.seq
 (.seq
 (.ops [⟨some 8, (.mv (.t 0)), none⟩,
 ⟨some 9, (.len (.t 8)), none⟩,
 ⟨some 10, (.mv (.c (.int .i64 (0)))), none⟩]
 [] [0, 7])
 (.block 0
 (.loop
 (.seq
 (.ops [⟨some 11, (.bin .lss (.t 10) (.t 9)), none⟩]
 [] [])
 (.seq
 (.cond (.t 11)
 .skip
 (.exit 0))
 (.seq
 (.block 1
 (.seq
 (.ops [⟨some 12, (.iad 4 (.t 8) (.t 10)), none⟩,
 ⟨some 13, (.load true 4 (.t 12)), none⟩,
 ⟨some 4, (.allocL (.agg [(.int .i64 (0)), (.int .i64 (0)), (.int .i64 (0)), (.int .i64 (0))])), none⟩,
 ⟨none, (.store 4 (.t 4) (.t 13)), none⟩]
 [] [11, 12, 13])
 (.seq
 (.ops [⟨some 14, (.load true 4 (.t 4)), none⟩,
 ⟨some 15, (.call (.f 138) [(.t 14)]), none⟩,
 ⟨some 16, (.un .not (.t 15)), none⟩]
 [] [4, 14, 15])
 (.cond (.t 16)
 (.seq
 (.ops [⟨some 2, (.mv (.c (.int .i64 (8)))), none⟩]
 [] [8, 9, 10, 16])
 .ret)
 .skip))))
 (.ops [⟨some 17, (.bin .add (.t 10) (.c (.int .i64 (1)))), none⟩,
 ⟨some 10, (.mv (.t 17)), none⟩]
 [] [16, 17])))))))
 (.seq
 (.ops [⟨some 2, (.mv (.c (.int .i64 (0)))), none⟩]
 [] [8, 9, 10, 11])
 .ret))))⟩
def loc127 : List Nat := [4]
def fg127 : List (Nat × List Nat) := [(9, [8, 9, 10, 11]), (8, [16, 17]), (7, [8, 9, 10, 16]), (6, [4, 14, 15]), (5, [11, 12, 13]), (3, [0, 7]), (2, [0, 7]), (1, [5, 6]), (0, [2])]
theorem comp127 : compFn Try.prog loc127 (fun i => (fg127.lookup i).getD []) Try.f127 = some lit127 := by kernel_rfl

-- cmp.Or[int]
def lit131 : AFn := ⟨1, [.tmp 2],
 (.seq
 (.ops [⟨some 2, (.mv (.c (.int .i64 (0)))), none⟩]
 [] [2])
 (.seq
 (.ops [⟨some 3, (.mv (.c (.int .i64 (0)))), none⟩]
 [] [])
 (.seq
 (.seq
 (.ops [⟨some 6, (.mv (.t 0)), none⟩,
 ⟨some 7, (.len (.t 6)), none⟩,
 ⟨some 8, (.mv (.c (.int .i64 (0)))), none⟩]
 [] [0])
 (.block 0
 (.loop
 (.seq
 (.ops [⟨some 9, (.bin .lss (.t 8) (.t 7)), none⟩]
 [] [])
 (.seq
 (.cond (.t 9)
 .skip
 (.exit 0))
 (.seq
 (.block 1
 (.seq
 (.ops [⟨some 10, (.iad 1 (.t 6) (.t 8)), none⟩,
 ⟨some 11, (.load false 1 (.t 10)), none⟩,
 ⟨some 5, (.mv (.t 11)), none⟩]
 [] [9, 10, 11])
 (.seq
 (.ops [⟨some 12, (.mv (.t 5)), none⟩,
 ⟨some 13, (.mv (.t 3)), none⟩,
 ⟨some 14, (.bin .neq (.t 12) (.t 13)), none⟩]
 [] [12, 13])
 (.cond (.t 14)
 (.seq
 (.ops [⟨some 15, (.mv (.t 5)), none⟩,
 ⟨some 2, (.mv (.t 15)), none⟩]
 [] [3, 5, 6, 7, 8, 14, 15])
 .ret)
 .skip))))
 (.ops [⟨some 16, (.bin .add (.t 8) (.c (.int .i64 (1)))), none⟩,
 ⟨some 8, (.mv (.t 16)), none⟩]
 [] [5, 14, 16])))))))
 (.seq
 (.ops [⟨some 17, (.mv (.t 3)), none⟩,
 ⟨some 2, (.mv (.t 17)), none⟩]
 [] [3, 6, 7, 8, 9, 17])
 .ret))))⟩
def loc131 : List Nat := []
def fg131 : List (Nat × List Nat) := [(8, [3, 6, 7, 8, 9, 17]), (7, [5, 14, 16]), (6, [3, 5, 6, 7, 8, 14, 15]), (5, [12, 13]), (4, [9, 10, 11]), (2, [0]), (0, [2])]
theorem comp131 : compFn Try.prog loc131 (fun i => (fg131.lookup i).getD []) Try.f131 = some lit131 := by kernel_rfl

-- cmp.Compare[uint64]
def lit132 : AFn := ⟨2, [.tmp 4],
 (.seq
 (.ops [⟨some 4, (.mv (.c (.int .i64 (0)))), none⟩]
 [] [4])
 (.seq
 (.ops [⟨some 7, (.mv (.t 0)), none⟩,
 ⟨some 8, (.call (.f 140) [(.t 7)]), none⟩,
 ⟨some 5, (.mv (.t 8)), none⟩]
 [] [7, 8])
 (.seq
 (.ops [⟨some 9, (.mv (.t 1)), none⟩,
 ⟨some 10, (.call (.f 140) [(.t 9)]), none⟩,
 ⟨some 6, (.mv (.t 10)), none⟩]
 [] [9, 10])
 (.seq
 (.seq
 (.ops [⟨some 11, (.mv (.t 5)), none⟩]
 [] [5])
 (.cond (.t 11)
 (.seq
 (.seq
 (.ops [⟨some 12, (.mv (.t 6)), none⟩]
 [] [0, 1, 6, 11])
 (.cond (.t 12)
 (.seq
 (.ops [⟨some 4, (.mv (.c (.int .i64 (0)))), none⟩]
 [] [12])
 .ret)
 .skip))
 (.seq
 (.ops [⟨some 4, (.mv (.c (.int .i64 (-1)))), none⟩]
 [] [12])
 .ret))
 .skip))
 (.seq
 (.seq
 (.ops [⟨some 13, (.mv (.t 6)), none⟩]
 [] [6, 11])
 (.cond (.t 13)
 (.seq
 (.ops [⟨some 4, (.mv (.c (.int .i64 (1)))), none⟩]
 [] [0, 1, 13])
 .ret)
 .skip))
 (.seq
 (.seq
 (.ops [⟨some 14, (.mv (.t 0)), none⟩,
 ⟨some 15, (.mv (.t 1)), none⟩,
 ⟨some 16, (.bin .lss (.t 14) (.t 15)), none⟩]
 [] [13, 14, 15])
 (.cond (.t 16)
 (.seq
 (.ops [⟨some 4, (.mv (.c (.int .i64 (-1)))), none⟩]
 [] [0, 1, 16])
 .ret)
 .skip))
 (.seq
 (.seq
 (.ops [⟨some 17, (.mv (.t 0)), none⟩,
 ⟨some 18, (.mv (.t 1)), none⟩,
 ⟨some 19, (.bin .gtr (.t 17) (.t 18)), none⟩]
 [] [0, 1, 16, 17, 18])
 (.cond (.t 19)
 (.seq
 (.ops [⟨some 4, (.mv (.c (.int .i64 (1)))), none⟩]
 [] [19])
 .ret)
 .skip))
 (.seq
 (.ops [⟨some 4, (.mv (.c (.int .i64 (0)))), none⟩]
 [] [19])
 .ret))))))))⟩
def loc132 : List Nat := []
def fg132 : List (Nat × List Nat) := [(13, [19]), (12, [19]), (11, [0, 1, 16, 17, 18]), (10, [0, 1, 16]), (9, [13, 14, 15]), (8, [0, 1, 13]), (7, [6, 11]), (6, [12]), (5, [12]), (4, [0, 1, 6, 11]), (3, [5]), (2, [9, 10]), (1, [7, 8]), (0, [4])]
theorem comp132 : compFn Try.prog loc132 (fun i => (fg132.lookup i).getD []) Try.f132 = some lit132 := by kernel_rfl

-- math/bits.Len64
def lit133 : AFn := ⟨1, [.tmp 2],
 (.seq
 (.ops [⟨some 2, (.mv (.c (.int .i64 (0)))), none⟩]
 [] [])
 (.seq
 (.seq
 (.ops [⟨some 3, (.mv (.t 0)), none⟩,
 ⟨some 4, (.bin .geq (.t 3) (.c (.int .u64 (4294967296)))), none⟩]
 [] [3])
 (.cond (.t 4)
 (.seq
 (.ops [⟨some 5, (.mv (.t 0)), none⟩,
 ⟨some 6, (.bin .shr (.t 5) (.c (.int .u64 (32)))), none⟩,
 ⟨some 0, (.mv (.t 6)), none⟩]
 [] [2, 4, 5, 6])
 (.ops [⟨some 2, (.mv (.c (.int .i64 (32)))), none⟩]
 [] []))
 .skip))
 (.seq
 (.seq
 (.ops [⟨some 7, (.mv (.t 0)), none⟩,
 ⟨some 8, (.bin .geq (.t 7) (.c (.int .u64 (65536)))), none⟩]
 [] [4, 7])
 (.cond (.t 8)
 (.seq
 (.ops [⟨some 9, (.mv (.t 0)), none⟩,
 ⟨some 10, (.bin .shr (.t 9) (.c (.int .u64 (16)))), none⟩,
 ⟨some 0, (.mv (.t 10)), none⟩]
 [] [8, 9, 10])
 (.ops [⟨some 11, (.mv (.t 2)), none⟩,
 ⟨some 12, (.bin .add (.t 11) (.c (.int .i64 (16)))), none⟩,
 ⟨some 2, (.mv (.t 12)), none⟩]
 [] [11, 12]))
 .skip))
 (.seq
 (.seq
 (.ops [⟨some 13, (.mv (.t 0)), none⟩,
 ⟨some 14, (.bin .geq (.t 13) (.c (.int .u64 (256)))), none⟩]
 [] [8, 13])
 (.cond (.t 14)
 (.seq
 (.ops [⟨some 15, (.mv (.t 0)), none⟩,
 ⟨some 16, (.bin .shr (.t 15) (.c (.int .u64 (8)))), none⟩,
 ⟨some 0, (.mv (.t 16)), none⟩]
 [] [14, 15, 16])
 (.ops [⟨some 17, (.mv (.t 2)), none⟩,
 ⟨some 18, (.bin .add (.t 17) (.c (.int .i64 (8)))), none⟩,
 ⟨some 2, (.mv (.t 18)), none⟩]
 [] [17, 18]))
 .skip))
 (.seq
 (.ops [⟨some 19, (.mv (.t 2)), none⟩,
 ⟨some 20, (.mv (.t 0)), none⟩,
 ⟨some 21, (.conv .u8 (.t 20)), none⟩,
 ⟨some 22, (.idx false 256 1 (.c (.agg [(.int .u8 (0)), (.int .u8 (1)), (.int .u8 (2)), (.int .u8 (2)), (.int .u8 (3)), (.int .u8 (3)), (.int .u8 (3)), (.int .u8 (3)), (.int .u8 (4)), (.int .u8 (4)), (.int .u8 (4)), (.int .u8 (4)), (.int .u8 (4)), (.int .u8 (4)), (.int .u8 (4)), (.int .u8 (4)), (.int .u8 (5)), (.int .u8 (5)), (.int .u8 (5)), (.int .u8 (5)), (.int .u8 (5)), (.int .u8 (5)), (.int .u8 (5)), (.int .u8 (5)), (.int .u8 (5)), (.int .u8 (5)), (.int .u8 (5)), (.int .u8 (5)), (.int .u8 (5)), (.int .u8 (5)), (.int .u8 (5)), (.int .u8 (5)), (.int .u8 (6)), (.int .u8 (6)), (.int .u8 (6)), (.int .u8 (6)), (.int .u8 (6)), (.int .u8 (6)), (.int .u8 (6)), (.int .u8 (6)), (.int .u8 (6)), (.int .u8 (6)), (.int .u8 (6)), (.int .u8 (6)), (.int .u8 (6)), (.int .u8 (6)), (.int .u8 (6)), (.int .u8 (6)), (.int .u8 (6)), (.int .u8 (6)), (.int .u8 (6)), (.int .u8 (6)), (.int .u8 (6)), (.int .u8 (6)), (.int .u8 (6)), (.int .u8 (6)), (.int .u8 (6)), (.int .u8 (6)), (.int .u8 (6)), (.int .u8 (6)), (.int .u8 (6)), (.int .u8 (6)), (.int .u8 (6)), (.int .u8 (6)), (.int .u8 (7)), (.int .u8 (7)), (.int .u8 (7)), (.int .u8 (7)), (.int .u8 (7)), (.int .u8 (7)), (.int .u8 (7)), (.int .u8 (7)), (.int .u8 (7)), (.int .u8 (7)), (.int .u8 (7)), (.int .u8 (7)), (.int .u8 (7)), (.int .u8 (7)), (.int .u8 (7)), (.int .u8 (7)), (.int .u8 (7)), (.int .u8 (7)), (.int .u8 (7)), (.int .u8 (7)), (.int .u8 (7)), (.int .u8 (7)), (.int .u8 (7)), (.int .u8 (7)), (.int .u8 (7)), (.int .u8 (7)), (.int .u8 (7)), (.int .u8 (7)), (.int .u8 (7)), (.int .u8 (7)), (.int .u8 (7)), (.int .u8 (7)), (.int .u8 (7)), (.int .u8 (7)), (.int .u8 (7)), (.int .u8 (7)), (.int .u8 (7)), (.int .u8 (7)), (.int .u8 (7)), (.int .u8 (7)), (.int .u8 (7)), (.int .u8 (7)), (.int .u8 (7)), (.int .u8 (7)), (.int .u8 (7)), (.int .u8 (7)), (.int .u8 (7)), (.int .u8 (7)), (.int .u8 (7)), (.int .u8 (7)), (.int .u8 (7)), (.int .u8 (7)), (.int .u8 (7)), (.int .u8 (7)), (.int .u8 (7)), (.int .u8 (7)), (.int .u8 (7)), (.int .u8 (7)), (.int .u8 (7)), (.int .u8 (7)), (.int .u8 (7)), (.int .u8 (7)), (.int .u8 (7)), (.int .u8 (7)), (.int .u8 (8)), (.int .u8 (8)), (.int .u8 (8)), (.int .u8 (8)), (.int .u8 (8)), (.int .u8 (8)), (.int .u8 (8)), (.int .u8 (8)), (.int .u8 (8)), (.int .u8 (8)), (.int .u8 (8)), (.int .u8 (8)), (.int .u8 (8)), (.int .u8 (8)), (.int .u8 (8)), (.int .u8 (8)), (.int .u8 (8)), (.int .u8 (8)), (.int .u8 (8)), (.int .u8 (8)), (.int .u8 (8)), (.int .u8 (8)), (.int .u8 (8)), (.int .u8 (8)), (.int .u8 (8)), (.int .u8 (8)), (.int .u8 (8)), (.int .u8 (8)), (.int .u8 (8)), (.int .u8 (8)), (.int .u8 (8)), (.int .u8 (8)), (.int .u8 (8)), (.int .u8 (8)), (.int .u8 (8)), (.int .u8 (8)), (.int .u8 (8)), (.int .u8 (8)), (.int .u8 (8)), (.int .u8 (8)), (.int .u8 (8)), (.int .u8 (8)), (.int .u8 (8)), (.int .u8 (8)), (.int .u8 (8)), (.int .u8 (8)), (.int .u8 (8)), (.int .u8 (8)), (.int .u8 (8)), (.int .u8 (8)), (.int .u8 (8)), (.int .u8 (8)), (.int .u8 (8)), (.int .u8 (8)), (.int .u8 (8)), (.int .u8 (8)), (.int .u8 (8)), (.int .u8 (8)), (.int .u8 (8)), (.int .u8 (8)), (.int .u8 (8)), (.int .u8 (8)), (.int .u8 (8)), (.int .u8 (8)), (.int .u8 (8)), (.int .u8 (8)), (.int .u8 (8)), (.int .u8 (8)), (.int .u8 (8)), (.int .u8 (8)), (.int .u8 (8)), (.int .u8 (8)), (.int .u8 (8)), (.int .u8 (8)), (.int .u8 (8)), (.int .u8 (8)), (.int .u8 (8)), (.int .u8 (8)), (.int .u8 (8)), (.int .u8 (8)), (.int .u8 (8)), (.int .u8 (8)), (.int .u8 (8)), (.int .u8 (8)), (.int .u8 (8)), (.int .u8 (8)), (.int .u8 (8)), (.int .u8 (8)), (.int .u8 (8)), (.int .u8 (8)), (.int .u8 (8)), (.int .u8 (8)), (.int .u8 (8)), (.int .u8 (8)), (.int .u8 (8)), (.int .u8 (8)), (.int .u8 (8)), (.int .u8 (8)), (.int .u8 (8)), (.int .u8 (8)), (.int .u8 (8)), (.int .u8 (8)), (.int .u8 (8)), (.int .u8 (8)), (.int .u8 (8)), (.int .u8 (8)), (.int .u8 (8)), (.int .u8 (8)), (.int .u8 (8)), (.int .u8 (8)), (.int .u8 (8)), (.int .u8 (8)), (.int .u8 (8)), (.int .u8 (8)), (.int .u8 (8)), (.int .u8 (8)), (.int .u8 (8)), (.int .u8 (8)), (.int .u8 (8)), (.int .u8 (8)), (.int .u8 (8)), (.int .u8 (8)), (.int .u8 (8)), (.int .u8 (8)), (.int .u8 (8)), (.int .u8 (8)), (.int .u8 (8)), (.int .u8 (8))])) (.t 21)), none⟩,
 ⟨some 23, (.conv .i64 (.t 22)), none⟩,
 ⟨some 24, (.bin .add (.t 19) (.t 23)), none⟩,
 ⟨some 2, (.mv (.t 24)), none⟩]
 [] [0, 14, 19, 20, 21, 22, 23, 24])
 .ret)))))⟩
def loc133 : List Nat := []
def fg133 : List (Nat × List Nat) := [(10, [0, 14, 19, 20, 21, 22, 23, 24]), (9, [17, 18]), (8, [14, 15, 16]), (7, [8, 13]), (6, [11, 12]), (5, [8, 9, 10]), (4, [4, 7]), (2, [2, 4, 5, 6]), (1, [3])]
theorem comp133 : compFn Try.prog loc133 (fun i => (fg133.lookup i).getD []) Try.f133 = some lit133 := by kernel_rfl

-- slices.IndexFunc[[]parcener/api.Span,parcener/api.Span]
def lit134 : AFn := ⟨2, [.tmp 4],
 (.seq
 (.ops [⟨some 4, (.mv (.c (.int .i64 (0)))), none⟩]
 [] [4])
 (.seq
 (.seq
 (.ops [⟨some 6, (.mv (.t 0)), none⟩,
 ⟨some 7, (.len (.t 6)), none⟩,
 ⟨some 8, (.mv (.c (.int .i64 (0)))), none⟩]
 [] [6])
 (.block 0
 (.loop
 (.seq
 (.ops [⟨some 9, (.bin .lss (.t 8) (.t 7)), none⟩]
 [] [])
 (.seq
 (.cond (.t 9)
 .skip
 (.exit 0))
 (.seq
 (.block 1
 (.seq
 (.ops [⟨some 10, (.mv (.t 8)), none⟩,
 ⟨some 5, (.mv (.t 10)), none⟩]
 [] [9, 10])
 (.seq
 (.ops [⟨some 11, (.mv (.t 1)), none⟩,
 ⟨some 12, (.mv (.t 0)), none⟩,
 ⟨some 13, (.mv (.t 5)), none⟩,
 ⟨some 14, (.iad 4 (.t 12) (.t 13)), none⟩,
 ⟨some 15, (.load true 4 (.t 14)), none⟩,
 ⟨some 16, (.call (.t 11) [(.t 15)]), none⟩]
 [] [11, 12, 13, 14, 15])
 (.cond (.t 16)
 (.seq
 (.ops [⟨some 17, (.mv (.t 5)), none⟩,
 ⟨some 4, (.mv (.t 17)), none⟩]
 [] [0, 1, 5, 7, 8, 16, 17])
 .ret)
 .skip))))
 (.ops [⟨some 18, (.bin .add (.t 8) (.c (.int .i64 (1)))), none⟩,
 ⟨some 8, (.mv (.t 18)), none⟩]
 [] [5, 16, 18])))))))
 (.seq
 (.ops [⟨some 4, (.mv (.c (.int .i64 (-1)))), none⟩]
 [] [0, 1, 7, 8, 9])
 .ret)))⟩
def loc134 : List Nat := []
def fg134 : List (Nat × List Nat) := [(7, [0, 1, 7, 8, 9]), (6, [5, 16, 18]), (5, [0, 1, 5, 7, 8, 16, 17]), (4, [11, 12, 13, 14, 15]), (3, [9, 10]), (1, [6]), (0, [4])]
theorem comp134 : compFn Try.prog loc134 (fun i => (fg134.lookup i).getD []) Try.f134 = some lit134 := by kernel_rfl

-- slices.Grow[[]parcener/api.Span,parcener/api.Span]
def lit135 : AFn := ⟨2, [.tmp 4],
 (.seq
 (.ops [⟨some 4, (.mv (.c .nils)), none⟩]
 [] [4])
 (.seq
 (.seq
 (.ops [⟨some 5, (.mv (.t 1)), none⟩,
 ⟨some 6, (.bin .lss (.t 5) (.c (.int .i64 (0)))), none⟩]
 [] [5])
 (.cond (.t 6)
 (.ops [⟨some 7, .bad, none⟩,
 ⟨none, .bad, none⟩]
 [] [6, 7])
 .skip))
 (.seq
 (.seq
 (.ops [⟨some 8, (.mv (.t 1)), none⟩,
 ⟨some 9, (.mv (.t 0)), none⟩,
 ⟨some 10, (.cap (.t 9)), none⟩,
 ⟨some 11, (.mv (.t 0)), none⟩,
 ⟨some 12, (.len (.t 11)), none⟩,
 ⟨some 13, (.bin .sub (.t 10) (.t 12)), none⟩,
 ⟨some 14, (.bin .sub (.t 8) (.t 13)), none⟩,
 ⟨some 1, (.mv (.t 14)), none⟩]
 [] [6, 8, 9, 10, 11, 12, 13, 14])
 (.seq
 (.ops [⟨some 15, (.mv (.t 1)), none⟩,
 ⟨some 16, (.bin .gtr (.t 15) (.c (.int .i64 (0)))), none⟩]
 [] [15])
 (.cond (.t 16)
 (.ops [⟨some 17, (.mv (.t 0)), none⟩,
 ⟨some 18, (.mv (.t 0)), none⟩,
 ⟨some 19, (.cap (.t 18)), none⟩,
 ⟨some 20, (.slc 4 (.t 17) none (some (.t 19)) none), none⟩,
 ⟨some 21, (.mv (.t 1)), none⟩,
 ⟨some 22, (.appZ true 4 32 (.agg [(.int .i64 (0)), (.int .i64 (0)), (.int .i64 (0)), (.int .i64 (0))]) (.t 20) (.t 21)), none⟩,
 ⟨some 23, (.mv (.t 0)), none⟩,
 ⟨some 24, (.len (.t 23)), none⟩,
 ⟨some 25, (.slc 4 (.t 22) none (some (.t 24)) none), none⟩,
 ⟨some 0, (.mv (.t 25)), none⟩]
 [] [1, 16, 17, 18, 19, 20, 21, 22, 23, 24, 25])
 .skip)))
 (.seq
 (.ops [⟨some 26, (.mv (.t 0)), none⟩,
 ⟨some 4, (.mv (.t 26)), none⟩]
 [] [0, 1, 16, 26])
 .ret))))⟩
def loc135 : List Nat := []
def fg135 : List (Nat × List Nat) := [(6, [0, 1, 16, 26]), (5, [1, 16, 17, 18, 19, 20, 21, 22, 23, 24, 25]), (4, [15]), (3, [6, 8, 9, 10, 11, 12, 13, 14]), (2, [6, 7]), (1, [5]), (0, [4])]
theorem comp135 : compFn Try.prog loc135 (fun i => (fg135.lookup i).getD []) Try.f135 = some lit135 := by kernel_rfl

-- slices.pdqsortCmpFunc[parcener/api.Span]
def lit136 : AFn := ⟨5, [],
 (.seq
 (.ops [⟨some 10, (.mv (.c (.bool true))), none⟩]
 [] [])
 (.seq
 (.ops [⟨some 11, (.mv (.c (.bool true))), none⟩]
 [] [])
 (.block 0
 (.loop
 (.block 1
 (.seq
 (.ops [⟨some 21, (.mv (.t 2)), none⟩,
 ⟨some 22, (.mv (.t 1)), none⟩,
 ⟨some 23, (.bin .sub (.t 21) (.t 22)), none⟩,
 ⟨some 12, (.mv (.t 23)), none⟩]
 [] [21, 22, 23])
 (.seq
 (.seq
 (.ops [⟨some 24, (.mv (.t 12)), none⟩,
 ⟨some 25, (.bin .leq (.t 24) (.c (.int .i64 (12)))), none⟩]
 [] [24])
 (.cond (.t 25)
 (.seq
 (.ops [⟨some 26, (.mv (.t 0)), none⟩,
 ⟨some 27, (.mv (.t 1)), none⟩,
 ⟨some 28, (.mv (.t 2)), none⟩,
 ⟨some 29, (.mv (.t 4)), none⟩,
 ⟨some 30, (.call (.f 141) [(.t 26), (.t 27), (.t 28), (.t 29)]), none⟩]
 [] [0, 1, 2, 3, 4, 10, 11, 12, 25, 26, 27, 28, 29, 30])
 .ret)
 .skip))
 (.seq
 (.seq
 (.ops [⟨some 31, (.mv (.t 3)), none⟩,
 ⟨some 32, (.bin .eql (.t 31) (.c (.int .i64 (0)))), none⟩]
 [] [25, 31])
 (.cond (.t 32)
 (.seq
 (.ops [⟨some 33, (.mv (.t 0)), none⟩,
 ⟨some 34, (.mv (.t 1)), none⟩,
 ⟨some 35, (.mv (.t 2)), none⟩,
 ⟨some 36, (.mv (.t 4)), none⟩,
 ⟨some 37, (.call (.f 142) [(.t 33), (.t 34), (.t 35), (.t 36)]), none⟩]
 [] [0, 1, 2, 3, 4, 10, 11, 12, 32, 33, 34, 35, 36, 37])
 .ret)
 .skip))
 (.seq
 (.seq
 (.ops [⟨some 38, (.mv (.t 10)), none⟩,
 ⟨some 39, (.un .not (.t 38)), none⟩]
 [] [32, 38])
 (.cond (.t 39)
 (.seq
 (.ops [⟨some 40, (.mv (.t 0)), none⟩,
 ⟨some 41, (.mv (.t 1)), none⟩,
 ⟨some 42, (.mv (.t 2)), none⟩,
 ⟨some 43, (.mv (.t 4)), none⟩,
 ⟨some 44, (.call (.f 143) [(.t 40), (.t 41), (.t 42), (.t 43)]), none⟩]
 [] [39, 40, 41, 42, 43, 44])
 (.ops [⟨some 45, (.mv (.t 3)), none⟩,
 ⟨some 46, (.bin .sub (.t 45) (.c (.int .i64 (1)))), none⟩,
 ⟨some 3, (.mv (.t 46)), none⟩]
 [] [45, 46]))
 .skip))
 (.seq
 (.ops [⟨some 48, (.mv (.t 0)), none⟩,
 ⟨some 49, (.mv (.t 1)), none⟩,
 ⟨some 50, (.mv (.t 2)), none⟩,
 ⟨some 51, (.mv (.t 4)), none⟩,
 ⟨some 52, (.call (.f 144) [(.t 48), (.t 49), (.t 50), (.t 51)]), none⟩,
 ⟨some 47, (.mv (.t 52)), none⟩,
 ⟨some 53, (.ext (.t 47) 0), none⟩,
 ⟨some 54, (.ext (.t 47) 1), none⟩,
 ⟨some 13, (.mv (.t 53)), none⟩,
 ⟨some 14, (.mv (.t 54)), none⟩]
 [] [39, 47, 48, 49, 50, 51, 52, 53, 54])
 (.seq
 (.seq
 (.ops [⟨some 55, (.mv (.t 14)), none⟩,
 ⟨some 56, (.bin .eql (.t 55) (.c (.int .i64 (2)))), none⟩]
 [] [55])
 (.cond (.t 56)
 (.seq
 (.ops [⟨some 57, (.mv (.t 0)), none⟩,
 ⟨some 58, (.mv (.t 1)), none⟩,
 ⟨some 59, (.mv (.t 2)), none⟩,
 ⟨some 60, (.mv (.t 4)), none⟩,
 ⟨some 61, (.call (.f 145) [(.t 57), (.t 58), (.t 59), (.t 60)]), none⟩]
 [] [14, 56, 57, 58, 59, 60, 61])
 (.seq
 (.ops [⟨some 62, (.mv (.t 2)), none⟩,
 ⟨some 63, (.bin .sub (.t 62) (.c (.int .i64 (1)))), none⟩,
 ⟨some 64, (.mv (.t 13)), none⟩,
 ⟨some 65, (.mv (.t 1)), none⟩,
 ⟨some 66, (.bin .sub (.t 64) (.t 65)), none⟩,
 ⟨some 67, (.bin .sub (.t 63) (.t 66)), none⟩,
 ⟨some 13, (.mv (.t 67)), none⟩]
 [] [62, 63, 64, 65, 66, 67])
 (.ops [⟨some 14, (.mv (.c (.int .i64 (1)))), none⟩]
 [] [])))
 .skip))
 (.seq
 (.seq
 (.ops [⟨some 68, (.mv (.t 10)), none⟩,
 ⟨some 69, (.mv (.t 68)), none⟩,
 ⟨some 70, (.mv (.t 11)), some (69, true)⟩,
 ⟨some 71, (.pick (.t 69) (.t 70) (.c (.bool false))), none⟩,
 ⟨some 72, (.mv (.t 71)), none⟩,
 ⟨some 73, (.mv (.t 14)), some (72, true)⟩,
 ⟨some 74, (.bin .eql (.t 73) (.c (.int .i64 (1)))), some (72, true)⟩,
 ⟨some 75, (.pick (.t 72) (.t 74) (.c (.bool false))), none⟩]
 [] [14, 56, 68, 69, 70, 71, 72, 73, 74])
 (.cond (.t 75)
 (.seq
 (.ops [⟨some 76, (.mv (.t 0)), none⟩,
 ⟨some 77, (.mv (.t 1)), none⟩,
 ⟨some 78, (.mv (.t 2)), none⟩,
 ⟨some 79, (.mv (.t 4)), none⟩,
 ⟨some 80, (.call (.f 146) [(.t 76), (.t 77), (.t 78), (.t 79)]), none⟩]
 [] [75, 76, 77, 78, 79])
 (.cond (.t 80)
 .ret
 .skip))
 .skip))
 (.seq
 (.seq
 (.ops [⟨some 81, (.mv (.t 1)), none⟩,
 ⟨some 82, (.bin .gtr (.t 81) (.c (.int .i64 (0)))), none⟩,
 ⟨some 83, (.mv (.t 82)), none⟩,
 ⟨some 84, (.mv (.t 4)), some (83, true)⟩,
 ⟨some 85, (.mv (.t 0)), some (83, true)⟩,
 ⟨some 86, (.mv (.t 1)), some (83, true)⟩,
 ⟨some 87, (.bin .sub (.t 86) (.c (.int .i64 (1)))), some (83, true)⟩,
 ⟨some 88, (.iad 4 (.t 85) (.t 87)), some (83, true)⟩,
 ⟨some 89, (.load true 4 (.t 88)), some (83, true)⟩,
 ⟨some 90, (.mv (.t 0)), some (83, true)⟩,
 ⟨some 91, (.mv (.t 13)), some (83, true)⟩,
 ⟨some 92, (.iad 4 (.t 90) (.t 91)), some (83, true)⟩,
 ⟨some 93, (.load true 4 (.t 92)), some (83, true)⟩,
 ⟨some 94, (.call (.t 84) [(.t 89), (.t 93)]), some (83, true)⟩,
 ⟨some 95, (.bin .lss (.t 94) (.c (.int .i64 (0)))), some (83, true)⟩,
 ⟨some 96, (.un .not (.t 95)), some (83, true)⟩,
 ⟨some 97, (.pick (.t 83) (.t 96) (.c (.bool false))), none⟩]
 [(3, 4), (3, 5), (4, 5), (3, 6), (4, 6), (3, 7), (3, 8), (3, 9), (4, 9), (5, 9), (6, 9), (7, 9), (8, 9), (3, 10), (4, 10), (5, 10), (6, 10), (7, 10), (8, 10), (9, 10), (3, 11), (4, 11), (5, 11), (6, 11), (7, 11), (8, 11), (3, 12), (4, 12), (5, 12), (6, 12), (7, 12), (8, 12)] [75, 80, 81, 82, 83, 84, 85, 86, 87, 88, 89, 90, 91, 92, 93, 94, 95, 96])
 (.cond (.t 97)
 (.seq
 (.ops [⟨some 98, (.mv (.t 0)), none⟩,
 ⟨some 99, (.mv (.t 1)), none⟩,
 ⟨some 100, (.mv (.t 2)), none⟩,
 ⟨some 101, (.mv (.t 13)), none⟩,
 ⟨some 102, (.mv (.t 4)), none⟩,
 ⟨some 103, (.call (.f 147) [(.t 98), (.t 99), (.t 100), (.t 101), (.t 102)]), none⟩,
 ⟨some 15, (.mv (.t 103)), none⟩]
 [] [1, 12, 13, 97, 98, 99, 100, 101, 102, 103])
 (.seq
 (.ops [⟨some 104, (.mv (.t 15)), none⟩,
 ⟨some 1, (.mv (.t 104)), none⟩]
 [] [15, 104])
 (.exit 1)))
 .skip))
 (.seq
 (.ops [⟨some 106, (.mv (.t 0)), none⟩,
 ⟨some 107, (.mv (.t 1)), none⟩,
 ⟨some 108, (.mv (.t 2)), none⟩,
 ⟨some 109, (.mv (.t 13)), none⟩,
 ⟨some 110, (.mv (.t 4)), none⟩,
 ⟨some 111, (.call (.f 148) [(.t 106), (.t 107), (.t 108), (.t 109), (.t 110)]), none⟩,
 ⟨some 105, (.mv (.t 111)), none⟩,
 ⟨some 112, (.ext (.t 105) 0), none⟩,
 ⟨some 113, (.ext (.t 105) 1), none⟩,
 ⟨some 16, (.mv (.t 112)), none⟩,
 ⟨some 17, (.mv (.t 113)), none⟩]
 [] [10, 11, 13, 97, 105, 106, 107, 108, 109, 110, 111, 112, 113])
 (.seq
 (.ops [⟨some 114, (.mv (.t 17)), none⟩,
 ⟨some 11, (.mv (.t 114)), none⟩]
 [] [17, 114])
 (.seq
 (.ops [⟨some 115, (.mv (.t 16)), none⟩,
 ⟨some 116, (.mv (.t 1)), none⟩,
 ⟨some 117, (.bin .sub (.t 115) (.t 116)), none⟩,
 ⟨some 118, (.mv (.t 2)), none⟩,
 ⟨some 119, (.mv (.t 16)), none⟩,
 ⟨some 120, (.bin .sub (.t 118) (.t 119)), none⟩,
 ⟨some 18, (.mv (.t 117)), none⟩,
 ⟨some 19, (.mv (.t 120)), none⟩]
 [] [115, 116, 117, 118, 119, 120])
 (.seq
 (.ops [⟨some 121, (.mv (.t 12)), none⟩,
 ⟨some 122, (.bin .quo (.t 121) (.c (.int .i64 (8)))), none⟩,
 ⟨some 20, (.mv (.t 122)), none⟩]
 [] [12, 121, 122])
 (.seq
 (.ops [⟨some 123, (.mv (.t 18)), none⟩,
 ⟨some 124, (.mv (.t 19)), none⟩,
 ⟨some 125, (.bin .lss (.t 123) (.t 124)), none⟩]
 [] [123, 124])
 (.cond (.t 125)
 (.seq
 (.ops [⟨some 126, (.mv (.t 18)), none⟩,
 ⟨some 127, (.mv (.t 20)), none⟩,
 ⟨some 128, (.bin .geq (.t 126) (.t 127)), none⟩,
 ⟨some 10, (.mv (.t 128)), none⟩]
 [] [18, 19, 20, 125, 126, 127, 128])
 (.seq
 (.ops [⟨some 129, (.mv (.t 0)), none⟩,
 ⟨some 130, (.mv (.t 1)), none⟩,
 ⟨some 131, (.mv (.t 16)), none⟩,
 ⟨some 132, (.mv (.t 3)), none⟩,
 ⟨some 133, (.mv (.t 4)), none⟩,
 ⟨some 134, (.call (.f 136) [(.t 129), (.t 130), (.t 131), (.t 132), (.t 133)]), none⟩]
 [] [1, 129, 130, 131, 132, 133, 134])
 (.ops [⟨some 135, (.mv (.t 16)), none⟩,
 ⟨some 136, (.bin .add (.t 135) (.c (.int .i64 (1)))), none⟩,
 ⟨some 1, (.mv (.t 136)), none⟩]
 [] [16, 135, 136])))
 (.seq
 (.ops [⟨some 137, (.mv (.t 19)), none⟩,
 ⟨some 138, (.mv (.t 20)), none⟩,
 ⟨some 139, (.bin .geq (.t 137) (.t 138)), none⟩,
 ⟨some 10, (.mv (.t 139)), none⟩]
 [] [18, 19, 20, 125, 137, 138, 139])
 (.seq
 (.ops [⟨some 140, (.mv (.t 0)), none⟩,
 ⟨some 141, (.mv (.t 16)), none⟩,
 ⟨some 142, (.bin .add (.t 141) (.c (.int .i64 (1)))), none⟩,
 ⟨some 143, (.mv (.t 2)), none⟩,
 ⟨some 144, (.mv (.t 3)), none⟩,
 ⟨some 145, (.mv (.t 4)), none⟩,
 ⟨some 146, (.call (.f 136) [(.t 140), (.t 142), (.t 143), (.t 144), (.t 145)]), none⟩]
 [] [2, 140, 141, 142, 143, 144, 145, 146])
 (.ops [⟨some 147, (.mv (.t 16)), none⟩,
 ⟨some 2, (.mv (.t 147)), none⟩]
 [] [16, 147]))))))))))))))))))))))⟩
def loc136 : List Nat := []
def fg136 : List (Nat × List Nat) := [(30, [16, 147]), (29, [2, 140, 141, 142, 143, 144, 145, 146]), (28, [18, 19, 20, 125, 137, 138, 139]), (27, [16, 135, 136]), (26, [1, 129, 130, 131, 132, 133, 134]), (25, [18, 19, 20, 125, 126, 127, 128]), (24, [123, 124]), (23, [12, 121, 122]), (22, [115, 116, 117, 118, 119, 120]), (21, [17, 114]), (20, [10, 11, 13, 97, 105, 106, 107, 108, 109, 110, 111, 112, 113]), (19, [15, 104]), (18, [1, 12, 13, 97, 98, 99, 100, 101, 102, 103]), (17, [75, 80, 81, 82, 83, 84, 85, 86, 87, 88, 89, 90, 91, 92, 93, 94, 95, 96]), (16, [75, 76, 77, 78, 79]), (15, [14, 56, 68, 69, 70, 71, 72, 73, 74]), (13, [62, 63, 64, 65, 66, 67]), (12, [14, 56, 57, 58, 59, 60, 61]), (11, [55]), (10, [39, 47, 48, 49, 50, 51, 52, 53, 54]), (9, [45, 46]), (8, [39, 40, 41, 42, 43, 44]), (7, [32, 38]), (6, [0, 1, 2, 3, 4, 10, 11, 12, 32, 33, 34, 35, 36, 37]), (5, [25, 31]), (4, [0, 1, 2, 3, 4, 10, 11, 12, 25, 26, 27, 28, 29, 30]), (3, [24]), (2, [21, 22, 23])]
theorem comp136 : compFn Try.prog loc136 (fun i => (fg136.lookup i).getD []) Try.f136 = some lit136 := by kernel_rfl

-- math/bits.Len
def lit137 : AFn := ⟨1, [.tmp 2],
 (.seq
 (.ops [⟨some 2, (.mv (.c (.int .i64 (0)))), none⟩]
 [] [2])
 (.seq
 (.cond (.c (.bool false))
 (.seq
 (.ops [⟨some 3, (.mv (.t 0)), none⟩,
 ⟨some 4, (.conv .u32 (.t 3)), none⟩,
 ⟨some 5, (.call (.f 149) [(.t 4)]), none⟩,
 ⟨some 2, (.mv (.t 5)), none⟩]
 [] [0, 3, 4, 5])
 .ret)
 .skip)
 (.seq
 (.ops [⟨some 6, (.mv (.t 0)), none⟩,
 ⟨some 7, (.call (.f 133) [(.t 6)]), none⟩,
 ⟨some 2, (.mv (.t 7)), none⟩]
 [] [0, 6, 7])
 .ret)))⟩
def loc137 : List Nat := []
def fg137 : List (Nat × List Nat) := [(2, [0, 6, 7]), (1, [0, 3, 4, 5]), (0, [2])]
theorem comp137 : compFn Try.prog loc137 (fun i => (fg137.lookup i).getD []) Try.f137 = some lit137 := by kernel_rfl

-- parcener/piece.valid
def lit138 : AFn := ⟨1, [.tmp 2],
 (.seq
 (.ops [⟨some 1, (.boxL (.t 0)), none⟩,
 ⟨some 2, (.mv (.c (.bool false))), none⟩]
 [] [0, 2])
 (.seq
 (.ops [⟨some 6, (.fad 0 (.t 1)), none⟩,
 ⟨some 7, (.load true 2 (.t 6)), none⟩,
 ⟨some 8, (.fad 2 (.t 1)), none⟩,
 ⟨some 9, (.load true 2 (.t 8)), none⟩,
 ⟨some 10, (.call (.f 117) [(.t 7), (.t 9)]), none⟩,
 ⟨some 5, (.mv (.t 10)), none⟩,
 ⟨some 11, (.ext (.t 5) 0), none⟩,
 ⟨some 12, (.ext (.t 5) 1), none⟩,
 ⟨some 3, (.mv (.t 11)), none⟩,
 ⟨some 4, (.mv (.t 12)), none⟩]
 [] [1, 5, 6, 7, 8, 9, 10, 11, 12])
 (.seq
 (.ops [⟨some 13, (.mv (.t 4)), none⟩,
 ⟨some 14, (.bin .eql (.t 13) (.c (.int .i64 (0)))), none⟩,
 ⟨some 15, (.mv (.t 14)), none⟩,
 ⟨some 16, (.mv (.t 3)), some (15, true)⟩,
 ⟨some 17, (.bin .lss (.t 16) (.c (.int .i64 (0)))), some (15, true)⟩,
 ⟨some 18, (.pick (.t 15) (.t 17) (.c (.bool false))), none⟩,
 ⟨some 2, (.mv (.t 18)), none⟩]
 [] [3, 4, 13, 14, 15, 16, 17, 18])
 .ret)))⟩
def loc138 : List Nat := [1]
def fg138 : List (Nat × List Nat) := [(2, [3, 4, 13, 14, 15, 16, 17, 18]), (1, [1, 5, 6, 7, 8, 9, 10, 11, 12]), (0, [0, 2])]
theorem comp138 : compFn Try.prog loc138 (fun i => (fg138.lookup i).getD []) Try.f138 = some lit138 := by kernel_rfl

-- cmp.isNaN[uint64]
def lit140 : AFn := ⟨1, [.tmp 2],
 (.seq
 (.ops [⟨some 2, (.mv (.c (.bool false))), none⟩]
 [] [2])
 (.seq
 (.ops [⟨some 3, (.mv (.t 0)), none⟩,
 ⟨some 4, (.mv (.t 0)), none⟩,
 ⟨some 5, (.bin .neq (.t 3) (.t 4)), none⟩,
 ⟨some 2, (.mv (.t 5)), none⟩]
 [] [0, 3, 4, 5])
 .ret))⟩
def loc140 : List Nat := []
def fg140 : List (Nat × List Nat) := [(1, [0, 3, 4, 5]), (0, [2])]
theorem comp140 : compFn Try.prog loc140 (fun i => (fg140.lookup i).getD []) Try.f140 = some lit140 := by kernel_rfl

-- slices.insertionSortCmpFunc[parcener/api.Span]
def lit141 : AFn := ⟨4, [],
 (.seq
 (.ops [⟨some 10, (.mv (.t 1)), none⟩,
 ⟨some 11, (.bin .add (.t 10) (.c (.int .i64 (1)))), none⟩,
 ⟨some 8, (.mv (.t 11)), none⟩]
 [] [10, 11])
 (.block 0
 (.loop
 (.seq
 (.seq
 (.ops [⟨some 12, (.mv (.t 8)), none⟩,
 ⟨some 13, (.mv (.t 2)), none⟩,
 ⟨some 14, (.bin .lss (.t 12) (.t 13)), none⟩]
 [] [12, 13])
 (.cond (.t 14)
 .skip
 (.exit 0)))
 (.seq
 (.block 1
 (.seq
 (.ops [⟨some 17, (.mv (.t 8)), none⟩,
 ⟨some 9, (.mv (.t 17)), none⟩]
 [] [14, 17])
 (.block 2
 (.loop
 (.seq
 (.seq
 (.ops [⟨some 18, (.mv (.t 9)), none⟩,
 ⟨some 19, (.mv (.t 1)), none⟩,
 ⟨some 20, (.bin .gtr (.t 18) (.t 19)), none⟩,
 ⟨some 21, (.mv (.t 20)), none⟩,
 ⟨some 22, (.mv (.t 3)), some (21, true)⟩,
 ⟨some 23, (.mv (.t 0)), some (21, true)⟩,
 ⟨some 24, (.mv (.t 9)), some (21, true)⟩,
 ⟨some 25, (.iad 4 (.t 23) (.t 24)), some (21, true)⟩,
 ⟨some 26, (.load true 4 (.t 25)), some (21, true)⟩,
 ⟨some 27, (.mv (.t 0)), some (21, true)⟩,
 ⟨some 28, (.mv (.t 9)), some (21, true)⟩,
 ⟨some 29, (.bin .sub (.t 28) (.c (.int .i64 (1)))), some (21, true)⟩,
 ⟨some 30, (.iad 4 (.t 27) (.t 29)), some (21, true)⟩,
 ⟨some 31, (.load true 4 (.t 30)), some (21, true)⟩,
 ⟨some 32, (.call (.t 22) [(.t 26), (.t 31)]), some (21, true)⟩,
 ⟨some 33, (.bin .lss (.t 32) (.c (.int .i64 (0)))), some (21, true)⟩,
 ⟨some 34, (.pick (.t 21) (.t 33) (.c (.bool false))), none⟩]
 [(0, 1), (4, 5), (4, 6), (5, 6), (4, 7), (4, 8), (4, 9), (5, 9), (6, 9), (7, 9), (8, 9), (4, 10), (5, 10), (6, 10), (7, 10), (8, 10), (9, 10), (4, 11), (5, 11), (6, 11), (7, 11), (8, 11), (9, 11), (4, 12), (5, 12), (6, 12), (7, 12), (8, 12), (4, 13), (5, 13), (6, 13), (7, 13), (8, 13)] [18, 19, 20, 21, 22, 23, 24, 25, 26, 27, 28, 29, 30, 31, 32, 33])
 (.cond (.t 34)
 .skip
 (.exit 2)))
 (.seq
 (.block 3
 (.ops [⟨some 37, (.mv (.t 0)), none⟩,
 ⟨some 38, (.mv (.t 9)), none⟩,
 ⟨some 39, (.mv (.t 0)), none⟩,
 ⟨some 40, (.mv (.t 9)), none⟩,
 ⟨some 41, (.bin .sub (.t 40) (.c (.int .i64 (1)))), none⟩,
 ⟨some 42, (.mv (.t 0)), none⟩,
 ⟨some 43, (.mv (.t 9)), none⟩,
 ⟨some 44, (.bin .sub (.t 43) (.c (.int .i64 (1)))), none⟩,
 ⟨some 45, (.iad 4 (.t 42) (.t 44)), none⟩,
 ⟨some 46, (.load true 4 (.t 45)), none⟩,
 ⟨some 47, (.mv (.t 0)), none⟩,
 ⟨some 48, (.mv (.t 9)), none⟩,
 ⟨some 49, (.iad 4 (.t 47) (.t 48)), none⟩,
 ⟨some 50, (.load true 4 (.t 49)), none⟩,
 ⟨some 51, (.iad 4 (.t 37) (.t 38)), none⟩,
 ⟨none, (.store 4 (.t 51) (.t 46)), none⟩,
 ⟨some 52, (.iad 4 (.t 39) (.t 41)), none⟩,
 ⟨none, (.store 4 (.t 52) (.t 50)), none⟩]
 [(0, 1), (0, 2), (1, 2), (0, 3), (1, 3), (2, 3), (0, 4), (1, 4), (2, 4), (0, 5), (1, 5), (2, 5), (3, 5), (4, 5), (0, 6), (1, 6), (2, 6), (3, 6), (4, 6), (5, 6), (0, 7), (1, 7), (2, 7), (3, 7), (4, 7), (5, 7), (0, 8), (1, 8), (2, 8), (3, 8), (4, 8), (0, 9), (1, 9), (2, 9), (3, 9), (4, 9), (0, 10), (1, 10), (2, 10), (3, 10), (4, 10), (5, 10), (6, 10), (7, 10), (8, 10), (9, 10), (0, 11), (1, 11), (2, 11), (3, 11), (4, 11), (5, 11), (6, 11), (7, 11), (8, 11), (9, 11), (10, 11), (0, 12), (1, 12), (2, 12), (3, 12), (4, 12), (5, 12), (6, 12), (7, 12), (8, 12), (9, 12), (0, 13), (1, 13), (2, 13), (3, 13), (4, 13), (5, 13), (6, 13), (7, 13), (8, 13), (9, 13), (2, 14), (3, 14), (4, 14), (2, 15), (3, 15), (4, 15)] [34, 37, 38, 39, 40, 41, 42, 43, 44, 45, 46, 47, 48, 49, 50, 51, 52]))
 (.ops [⟨some 35, (.mv (.t 9)), none⟩,
 ⟨some 36, (.bin .sub (.t 35) (.c (.int .i64 (1)))), none⟩,
 ⟨some 9, (.mv (.t 36)), none⟩]
 [] [35, 36])))))))
 (.ops [⟨some 15, (.mv (.t 8)), none⟩,
 ⟨some 16, (.bin .add (.t 15) (.c (.int .i64 (1)))), none⟩,
 ⟨some 8, (.mv (.t 16)), none⟩]
 [] [9, 15, 16, 34]))))))⟩
def loc141 : List Nat := []
def fg141 : List (Nat × List Nat) := [(2, [9, 15, 16, 34]), (5, [35, 36]), (6, [34, 37, 38, 39, 40, 41, 42, 43, 44, 45, 46, 47, 48, 49, 50, 51, 52]), (4, [18, 19, 20, 21, 22, 23, 24, 25, 26, 27, 28, 29, 30, 31, 32, 33]), (3, [14, 17]), (1, [12, 13]), (0, [10, 11])]
theorem comp141 : compFn Try.prog loc141 (fun i => (fg141.lookup i).getD []) Try.f141 = some lit141 := by kernel_rfl

def tab1 : List (Nat × AFn) := [(78, lit78), (80, lit80), (81, lit81), (82, lit82), (83, lit83), (86, lit86), (87, lit87), (88, lit88), (89, lit89), (99, lit99), (100, lit100), (101, lit101), (102, lit102), (103, lit103), (104, lit104), (105, lit105), (106, lit106), (107, lit107), (108, lit108), (109, lit109), (110, lit110), (111, lit111), (112, lit112), (117, lit117), (118, lit118), (121, lit121), (122, lit122), (123, lit123), (124, lit124), (125, lit125), (126, lit126), (127, lit127), (131, lit131), (132, lit132), (133, lit133), (134, lit134), (135, lit135), (136, lit136), (137, lit137), (138, lit138), (140, lit140), (141, lit141)]
theorem tabOk1 : AllOk Try.prog tab1 := ⟨⟨_, _, _, Try.func78, comp78⟩, ⟨_, _, _, Try.func80, comp80⟩, ⟨_, _, _, Try.func81, comp81⟩, ⟨_, _, _, Try.func82, comp82⟩, ⟨_, _, _, Try.func83, comp83⟩, ⟨_, _, _, Try.func86, comp86⟩, ⟨_, _, _, Try.func87, comp87⟩, ⟨_, _, _, Try.func88, comp88⟩, ⟨_, _, _, Try.func89, comp89⟩, ⟨_, _, _, Try.func99, comp99⟩, ⟨_, _, _, Try.func100, comp100⟩, ⟨_, _, _, Try.func101, comp101⟩, ⟨_, _, _, Try.func102, comp102⟩, ⟨_, _, _, Try.func103, comp103⟩, ⟨_, _, _, Try.func104, comp104⟩, ⟨_, _, _, Try.func105, comp105⟩, ⟨_, _, _, Try.func106, comp106⟩, ⟨_, _, _, Try.func107, comp107⟩, ⟨_, _, _, Try.func108, comp108⟩, ⟨_, _, _, Try.func109, comp109⟩, ⟨_, _, _, Try.func110, comp110⟩, ⟨_, _, _, Try.func111, comp111⟩, ⟨_, _, _, Try.func112, comp112⟩, ⟨_, _, _, Try.func117, comp117⟩, ⟨_, _, _, Try.func118, comp118⟩, ⟨_, _, _, Try.func121, comp121⟩, ⟨_, _, _, Try.func122, comp122⟩, ⟨_, _, _, Try.func123, comp123⟩, ⟨_, _, _, Try.func124, comp124⟩, ⟨_, _, _, Try.func125, comp125⟩, ⟨_, _, _, Try.func126, comp126⟩, ⟨_, _, _, Try.func127, comp127⟩, ⟨_, _, _, Try.func131, comp131⟩, ⟨_, _, _, Try.func132, comp132⟩, ⟨_, _, _, Try.func133, comp133⟩, ⟨_, _, _, Try.func134, comp134⟩, ⟨_, _, _, Try.func135, comp135⟩, ⟨_, _, _, Try.func136, comp136⟩, ⟨_, _, _, Try.func137, comp137⟩, ⟨_, _, _, Try.func138, comp138⟩, ⟨_, _, _, Try.func140, comp140⟩, ⟨_, _, _, Try.func141, comp141⟩, trivial⟩
end Go.Proofs.Ytclfeoieffcoiaa.Pn
