/- The functions that the statement AuditNames runs, in the small code (part 1); each is what the framework makes of the program. -/
import Derived.Test.YtdikcadindibcaaFw27
import Derived.Test.YtdikcadindibcaaRows
namespace Go.Proofs.Ytdikcadindibcaa.An
open Go Go.Pf
-- math/bits.Div64
def lit97 : AFn := ⟨3, [.tmp 6, .tmp 7],
 (.seq
 (.ops [⟨some 6, (.mv (.c (.int .u64 (0)))), none⟩,
 ⟨some 7, (.mv (.c (.int .u64 (0)))), none⟩]
 [] [6, 7])
 (.seq
 (.seq
 (.ops [⟨some 19, (.mv (.t 2)), none⟩,
 ⟨some 20, (.bin .eql (.t 19) (.c (.int .u64 (0)))), none⟩]
 [] [19])
 (.cond (.t 20)
 (.ops [⟨some 21, (.load false 1 (.g 0)), none⟩,
 ⟨none, .bad, none⟩]
 [] [20, 21])
 .skip))
 (.seq
 (.seq
 (.ops [⟨some 22, (.mv (.t 2)), none⟩,
 ⟨some 23, (.mv (.t 0)), none⟩,
 ⟨some 24, (.bin .leq (.t 22) (.t 23)), none⟩]
 [] [20, 22, 23])
 (.cond (.t 24)
 (.ops [⟨some 25, (.load false 1 (.g 1)), none⟩,
 ⟨none, .bad, none⟩]
 [] [24, 25])
 .skip))
 (.seq
 (.seq
 (.ops [⟨some 26, (.mv (.t 0)), none⟩,
 ⟨some 27, (.bin .eql (.t 26) (.c (.int .u64 (0)))), none⟩]
 [] [24, 26])
 (.cond (.t 27)
 (.seq
 (.ops [⟨some 28, (.mv (.t 1)), none⟩,
 ⟨some 29, (.mv (.t 2)), none⟩,
 ⟨some 30, (.bin .quo (.t 28) (.t 29)), none⟩,
 ⟨some 31, (.mv (.t 1)), none⟩,
 ⟨some 32, (.mv (.t 2)), none⟩,
 ⟨some 33, (.bin .rem (.t 31) (.t 32)), none⟩,
 ⟨some 6, (.mv (.t 30)), none⟩,
 ⟨some 7, (.mv (.t 33)), none⟩]
 [(0, 1), (0, 3), (1, 3), (2, 3), (0, 4), (1, 4), (2, 4), (3, 4), (0, 5), (1, 5), (2, 5), (3, 6), (4, 6), (5, 6)] [0, 1, 2, 27, 28, 29, 30, 31, 32, 33])
 .ret)
 .skip))
 (.seq
 (.ops [⟨some 34, (.mv (.t 2)), none⟩,
 ⟨some 35, (.call (.f 112) [(.t 34)]), none⟩,
 ⟨some 36, (.conv .u64 (.t 35)), none⟩,
 ⟨some 8, (.mv (.t 36)), none⟩]
 [] [27, 34, 35, 36])
 (.seq
 (.ops [⟨some 37, (.mv (.t 2)), none⟩,
 ⟨some 38, (.mv (.t 8)), none⟩,
 ⟨some 39, (.bin .shl (.t 37) (.t 38)), none⟩,
 ⟨some 2, (.mv (.t 39)), none⟩]
 [] [37, 38, 39])
 (.seq
 (.ops [⟨some 40, (.mv (.t 2)), none⟩,
 ⟨some 41, (.bin .shr (.t 40) (.c (.int .u64 (32)))), none⟩,
 ⟨some 9, (.mv (.t 41)), none⟩]
 [] [40, 41])
 (.seq
 (.ops [⟨some 42, (.mv (.t 2)), none⟩,
 ⟨some 43, (.bin .and (.t 42) (.c (.int .u64 (4294967295)))), none⟩,
 ⟨some 10, (.mv (.t 43)), none⟩]
 [] [42, 43])
 (.seq
 (.ops [⟨some 44, (.mv (.t 0)), none⟩,
 ⟨some 45, (.mv (.t 8)), none⟩,
 ⟨some 46, (.bin .shl (.t 44) (.t 45)), none⟩,
 ⟨some 47, (.mv (.t 1)), none⟩,
 ⟨some 48, (.mv (.t 8)), none⟩,
 ⟨some 49, (.bin .sub (.c (.int .u64 (64))) (.t 48)), none⟩,
 ⟨some 50, (.bin .shr (.t 47) (.t 49)), none⟩,
 ⟨some 51, (.bin .or (.t 46) (.t 50)), none⟩,
 ⟨some 11, (.mv (.t 51)), none⟩]
 [] [0, 44, 45, 46, 47, 48, 49, 50, 51])
 (.seq
 (.ops [⟨some 52, (.mv (.t 1)), none⟩,
 ⟨some 53, (.mv (.t 8)), none⟩,
 ⟨some 54, (.bin .shl (.t 52) (.t 53)), none⟩,
 ⟨some 12, (.mv (.t 54)), none⟩]
 [] [1, 52, 53, 54])
 (.seq
 (.ops [⟨some 55, (.mv (.t 12)), none⟩,
 ⟨some 56, (.bin .shr (.t 55) (.c (.int .u64 (32)))), none⟩,
 ⟨some 13, (.mv (.t 56)), none⟩]
 [] [55, 56])
 (.seq
 (.ops [⟨some 57, (.mv (.t 12)), none⟩,
 ⟨some 58, (.bin .and (.t 57) (.c (.int .u64 (4294967295)))), none⟩,
 ⟨some 14, (.mv (.t 58)), none⟩]
 [] [12, 57, 58])
 (.seq
 (.ops [⟨some 59, (.mv (.t 11)), none⟩,
 ⟨some 60, (.mv (.t 9)), none⟩,
 ⟨some 61, (.bin .quo (.t 59) (.t 60)), none⟩,
 ⟨some 15, (.mv (.t 61)), none⟩]
 [] [59, 60, 61])
 (.seq
 (.ops [⟨some 62, (.mv (.t 11)), none⟩,
 ⟨some 63, (.mv (.t 15)), none⟩,
 ⟨some 64, (.mv (.t 9)), none⟩,
 ⟨some 65, (.bin .mul (.t 63) (.t 64)), none⟩,
 ⟨some 66, (.bin .sub (.t 62) (.t 65)), none⟩,
 ⟨some 16, (.mv (.t 66)), none⟩]
 [] [62, 63, 64, 65, 66])
 (.seq
 (.block 0
 (.loop
 (.seq
 (.seq
 (.ops [⟨some 67, (.mv (.t 15)), none⟩,
 ⟨some 68, (.bin .geq (.t 67) (.c (.int .u64 (4294967296)))), none⟩,
 ⟨some 69, (.mv (.t 68)), none⟩,
 ⟨some 70, (.mv (.t 15)), some (69, false)⟩,
 ⟨some 71, (.mv (.t 10)), some (69, false)⟩,
 ⟨some 72, (.bin .mul (.t 70) (.t 71)), some (69, false)⟩,
 ⟨some 73, (.mv (.t 16)), some (69, false)⟩,
 ⟨some 74, (.bin .mul (.c (.int .u64 (4294967296))) (.t 73)), some (69, false)⟩,
 ⟨some 75, (.mv (.t 13)), some (69, false)⟩,
 ⟨some 76, (.bin .add (.t 74) (.t 75)), some (69, false)⟩,
 ⟨some 77, (.bin .gtr (.t 72) (.t 76)), some (69, false)⟩,
 ⟨some 78, (.pick (.t 69) (.c (.bool true)) (.t 77)), none⟩]
 [] [67, 68, 69, 70, 71, 72, 73, 74, 75, 76, 77, 85])
 (.cond (.t 78)
 .skip
 (.exit 0)))
 (.block 1
 (.seq
 (.ops [⟨some 79, (.mv (.t 15)), none⟩,
 ⟨some 80, (.bin .sub (.t 79) (.c (.int .u64 (1)))), none⟩,
 ⟨some 15, (.mv (.t 80)), none⟩]
 [] [78, 79, 80])
 (.seq
 (.ops [⟨some 81, (.mv (.t 16)), none⟩,
 ⟨some 82, (.mv (.t 9)), none⟩,
 ⟨some 83, (.bin .add (.t 81) (.t 82)), none⟩,
 ⟨some 16, (.mv (.t 83)), none⟩]
 [] [81, 82, 83])
 (.seq
 (.ops [⟨some 84, (.mv (.t 16)), none⟩,
 ⟨some 85, (.bin .geq (.t 84) (.c (.int .u64 (4294967296)))), none⟩]
 [] [84])
 (.cond (.t 85)
 (.exit 0)
 .skip))))))))
 (.seq
 (.ops [⟨some 86, (.mv (.t 11)), none⟩,
 ⟨some 87, (.bin .mul (.t 86) (.c (.int .u64 (4294967296)))), none⟩,
 ⟨some 88, (.mv (.t 13)), none⟩,
 ⟨some 89, (.bin .add (.t 87) (.t 88)), none⟩,
 ⟨some 90, (.mv (.t 15)), none⟩,
 ⟨some 91, (.mv (.t 2)), none⟩,
 ⟨some 92, (.bin .mul (.t 90) (.t 91)), none⟩,
 ⟨some 93, (.bin .sub (.t 89) (.t 92)), none⟩,
 ⟨some 17, (.mv (.t 93)), none⟩]
 [] [11, 13, 16, 78, 85, 86, 87, 88, 89, 90, 91, 92, 93])
 (.seq
 (.ops [⟨some 94, (.mv (.t 17)), none⟩,
 ⟨some 95, (.mv (.t 9)), none⟩,
 ⟨some 96, (.bin .quo (.t 94) (.t 95)), none⟩,
 ⟨some 18, (.mv (.t 96)), none⟩]
 [] [94, 95, 96])
 (.seq
 (.ops [⟨some 97, (.mv (.t 17)), none⟩,
 ⟨some 98, (.mv (.t 18)), none⟩,
 ⟨some 99, (.mv (.t 9)), none⟩,
 ⟨some 100, (.bin .mul (.t 98) (.t 99)), none⟩,
 ⟨some 101, (.bin .sub (.t 97) (.t 100)), none⟩,
 ⟨some 16, (.mv (.t 101)), none⟩]
 [] [97, 98, 99, 100, 101])
 (.seq
 (.block 2
 (.loop
 (.seq
 (.seq
 (.ops [⟨some 102, (.mv (.t 18)), none⟩,
 ⟨some 103, (.bin .geq (.t 102) (.c (.int .u64 (4294967296)))), none⟩,
 ⟨some 104, (.mv (.t 103)), none⟩,
 ⟨some 105, (.mv (.t 18)), some (104, false)⟩,
 ⟨some 106, (.mv (.t 10)), some (104, false)⟩,
 ⟨some 107, (.bin .mul (.t 105) (.t 106)), some (104, false)⟩,
 ⟨some 108, (.mv (.t 16)), some (104, false)⟩,
 ⟨some 109, (.bin .mul (.c (.int .u64 (4294967296))) (.t 108)), some (104, false)⟩,
 ⟨some 110, (.mv (.t 14)), some (104, false)⟩,
 ⟨some 111, (.bin .add (.t 109) (.t 110)), some (104, false)⟩,
 ⟨some 112, (.bin .gtr (.t 107) (.t 111)), some (104, false)⟩,
 ⟨some 113, (.pick (.t 104) (.c (.bool true)) (.t 112)), none⟩]
 [] [102, 103, 104, 105, 106, 107, 108, 109, 110, 111, 112, 120])
 (.cond (.t 113)
 .skip
 (.exit 2)))
 (.block 3
 (.seq
 (.ops [⟨some 114, (.mv (.t 18)), none⟩,
 ⟨some 115, (.bin .sub (.t 114) (.c (.int .u64 (1)))), none⟩,
 ⟨some 18, (.mv (.t 115)), none⟩]
 [] [113, 114, 115])
 (.seq
 (.ops [⟨some 116, (.mv (.t 16)), none⟩,
 ⟨some 117, (.mv (.t 9)), none⟩,
 ⟨some 118, (.bin .add (.t 116) (.t 117)), none⟩,
 ⟨some 16, (.mv (.t 118)), none⟩]
 [] [116, 117, 118])
 (.seq
 (.ops [⟨some 119, (.mv (.t 16)), none⟩,
 ⟨some 120, (.bin .geq (.t 119) (.c (.int .u64 (4294967296)))), none⟩]
 [] [119])
 (.cond (.t 120)
 (.exit 2)
 .skip))))))))
 (.seq
 (.ops [⟨some 121, (.mv (.t 15)), none⟩,
 ⟨some 122, (.bin .mul (.t 121) (.c (.int .u64 (4294967296)))), none⟩,
 ⟨some 123, (.mv (.t 18)), none⟩,
 ⟨some 124, (.bin .add (.t 122) (.t 123)), none⟩,
 ⟨some 125, (.mv (.t 17)), none⟩,
 ⟨some 126, (.bin .mul (.t 125) (.c (.int .u64 (4294967296)))), none⟩,
 ⟨some 127, (.mv (.t 14)), none⟩,
 ⟨some 128, (.bin .add (.t 126) (.t 127)), none⟩,
 ⟨some 129, (.mv (.t 18)), none⟩,
 ⟨some 130, (.mv (.t 2)), none⟩,
 ⟨some 131, (.bin .mul (.t 129) (.t 130)), none⟩,
 ⟨some 132, (.bin .sub (.t 128) (.t 131)), none⟩,
 ⟨some 133, (.mv (.t 8)), none⟩,
 ⟨some 134, (.bin .shr (.t 132) (.t 133)), none⟩,
 ⟨some 6, (.mv (.t 124)), none⟩,
 ⟨some 7, (.mv (.t 134)), none⟩]
 [] [2, 8, 9, 10, 14, 15, 16, 17, 18, 113, 120, 121, 122, 123, 124, 125, 126, 127, 128, 129, 130, 131, 132, 133, 134])
 .ret))))))))))))))))))))⟩
def loc97 : List Nat := []
def fg97 : List (Nat × List Nat) := [(28, [2, 8, 9, 10, 14, 15, 16, 17, 18, 113, 120, 121, 122, 123, 124, 125, 126, 127, 128, 129, 130, 131, 132, 133, 134]), (27, [119]), (26, [116, 117, 118]), (25, [113, 114, 115]), (24, [102, 103, 104, 105, 106, 107, 108, 109, 110, 111, 112, 120]), (23, [97, 98, 99, 100, 101]), (22, [94, 95, 96]), (21, [11, 13, 16, 78, 85, 86, 87, 88, 89, 90, 91, 92, 93]), (20, [84]), (19, [81, 82, 83]), (18, [78, 79, 80]), (17, [67, 68, 69, 70, 71, 72, 73, 74, 75, 76, 77, 85]), (16, [62, 63, 64, 65, 66]), (15, [59, 60, 61]), (14, [12, 57, 58]), (13, [55, 56]), (12, [1, 52, 53, 54]), (11, [0, 44, 45, 46, 47, 48, 49, 50, 51]), (10, [42, 43]), (9, [40, 41]), (8, [37, 38, 39]), (7, [27, 34, 35, 36]), (6, [0, 1, 2, 27, 28, 29, 30, 31, 32, 33]), (5, [24, 26]), (4, [24, 25]), (3, [20, 22, 23]), (2, [20, 21]), (1, [19]), (0, [6, 7])]
theorem comp97 : compFn Try.prog loc97 (fun i => (fg97.lookup i).getD []) Try.f97 = some lit97 := by kernel_rfl

-- parcener/ratio.Cmp
def lit101 : AFn := ⟨2, [.tmp 4, .tmp 5],
 (.seq
 (.ops [⟨some 2, (.boxL (.t 0)), none⟩,
 ⟨some 3, (.boxL (.t 1)), none⟩,
 ⟨some 4, (.mv (.c (.int .i64 (0)))), none⟩,
 ⟨some 5, (.mv (.c (.int .i64 (0)))), none⟩]
 [] [0, 1, 4, 5])
 (.seq
 (.seq
 (.ops [⟨some 12, (.load true 2 (.t 2)), none⟩,
 ⟨some 13, (.load true 2 (.t 3)), none⟩,
 ⟨some 14, (.call (.f 92) [(.t 12), (.t 13)]), none⟩,
 ⟨some 6, (.mv (.t 14)), none⟩]
 [] [12, 13, 14])
 (.seq
 (.ops [⟨some 15, (.mv (.t 6)), none⟩,
 ⟨some 16, (.bin .neq (.t 15) (.c (.int .i64 (0)))), none⟩]
 [] [15])
 (.cond (.t 16)
 (.seq
 (.ops [⟨some 17, (.mv (.t 6)), none⟩,
 ⟨some 4, (.mv (.c (.int .i64 (0)))), none⟩,
 ⟨some 5, (.mv (.t 17)), none⟩]
 [] [2, 3, 6, 16, 17])
 .ret)
 .skip)))
 (.seq
 (.seq
 (.ops [⟨some 18, (.fad 0 (.t 2)), none⟩,
 ⟨some 19, (.load false 1 (.t 18)), none⟩,
 ⟨some 20, (.bin .lss (.t 19) (.c (.int .i64 (0)))), none⟩,
 ⟨some 21, (.fad 0 (.t 3)), none⟩,
 ⟨some 22, (.load false 1 (.t 21)), none⟩,
 ⟨some 23, (.bin .lss (.t 22) (.c (.int .i64 (0)))), none⟩,
 ⟨some 24, (.eqB true (.t 20) (.t 23)), none⟩]
 [] [6, 16, 18, 19, 20, 21, 22, 23])
 (.cond (.t 24)
 (.seq
 (.ops [⟨some 25, (.fad 0 (.t 2)), none⟩,
 ⟨some 26, (.load false 1 (.t 25)), none⟩,
 ⟨some 27, (.fad 0 (.t 3)), none⟩,
 ⟨some 28, (.load false 1 (.t 27)), none⟩,
 ⟨some 29, (.call (.f 117) [(.t 26), (.t 28)]), none⟩,
 ⟨some 4, (.mv (.t 29)), none⟩,
 ⟨some 5, (.mv (.c (.int .i64 (0)))), none⟩]
 [] [2, 3, 24, 25, 26, 27, 28, 29])
 .ret)
 .skip))
 (.seq
 (.ops [⟨some 31, (.fad 0 (.t 2)), none⟩,
 ⟨some 32, (.load false 1 (.t 31)), none⟩,
 ⟨some 33, (.call (.f 85) [(.t 32)]), none⟩,
 ⟨some 34, (.fad 1 (.t 3)), none⟩,
 ⟨some 35, (.load false 1 (.t 34)), none⟩,
 ⟨some 36, (.conv .u64 (.t 35)), none⟩,
 ⟨some 37, (.call (.f 93) [(.t 33), (.t 36)]), none⟩,
 ⟨some 30, (.mv (.t 37)), none⟩,
 ⟨some 38, (.ext (.t 30) 0), none⟩,
 ⟨some 39, (.ext (.t 30) 1), none⟩,
 ⟨some 7, (.mv (.t 38)), none⟩,
 ⟨some 8, (.mv (.t 39)), none⟩]
 [(0, 3), (1, 3), (2, 3), (0, 4), (1, 4), (2, 4), (0, 5), (1, 5), (2, 5), (8, 9), (9, 10)] [24, 30, 31, 32, 33, 34, 35, 36, 37, 38, 39])
 (.seq
 (.ops [⟨some 41, (.fad 0 (.t 3)), none⟩,
 ⟨some 42, (.load false 1 (.t 41)), none⟩,
 ⟨some 43, (.call (.f 85) [(.t 42)]), none⟩,
 ⟨some 44, (.fad 1 (.t 2)), none⟩,
 ⟨some 45, (.load false 1 (.t 44)), none⟩,
 ⟨some 46, (.conv .u64 (.t 45)), none⟩,
 ⟨some 47, (.call (.f 93) [(.t 43), (.t 46)]), none⟩,
 ⟨some 40, (.mv (.t 47)), none⟩,
 ⟨some 48, (.ext (.t 40) 0), none⟩,
 ⟨some 49, (.ext (.t 40) 1), none⟩,
 ⟨some 9, (.mv (.t 48)), none⟩,
 ⟨some 10, (.mv (.t 49)), none⟩]
 [(0, 3), (1, 3), (2, 3), (0, 4), (1, 4), (2, 4), (0, 5), (1, 5), (2, 5), (8, 9), (9, 10)] [3, 40, 41, 42, 43, 44, 45, 46, 47, 48, 49])
 (.seq
 (.ops [⟨some 50, (.mv (.t 7)), none⟩,
 ⟨some 51, (.mv (.t 9)), none⟩,
 ⟨some 52, (.call (.f 119) [(.t 50), (.t 51)]), none⟩,
 ⟨some 53, (.mv (.t 8)), none⟩,
 ⟨some 54, (.mv (.t 10)), none⟩,
 ⟨some 55, (.call (.f 119) [(.t 53), (.t 54)]), none⟩,
 ⟨some 56, (.buildD 1 (.int .i64 (0)) 2 [(0, (.t 52)), (1, (.t 55))]), none⟩,
 ⟨some 57, (.call (.f 118) [(.t 56)]), none⟩,
 ⟨some 11, (.mv (.t 57)), none⟩]
 [] [7, 8, 9, 10, 50, 51, 52, 53, 54, 55, 56, 57])
 (.seq
 (.seq
 (.ops [⟨some 58, (.fad 0 (.t 2)), none⟩,
 ⟨some 59, (.load false 1 (.t 58)), none⟩,
 ⟨some 60, (.bin .lss (.t 59) (.c (.int .i64 (0)))), none⟩]
 [] [2, 58, 59])
 (.cond (.t 60)
 (.ops [⟨some 61, (.mv (.t 11)), none⟩,
 ⟨some 62, (.un .neg (.t 61)), none⟩,
 ⟨some 11, (.mv (.t 62)), none⟩]
 [] [60, 61, 62])
 .skip))
 (.seq
 (.ops [⟨some 63, (.mv (.t 11)), none⟩,
 ⟨some 4, (.mv (.t 63)), none⟩,
 ⟨some 5, (.mv (.c (.int .i64 (0)))), none⟩]
 [] [11, 60, 63])
 .ret))))))))⟩
def loc101 : List Nat := [56, 2, 3]
def fg101 : List (Nat × List Nat) := [(11, [11, 60, 63]), (10, [60, 61, 62]), (9, [2, 58, 59]), (8, [7, 8, 9, 10, 50, 51, 52, 53, 54, 55, 56, 57]), (7, [3, 40, 41, 42, 43, 44, 45, 46, 47, 48, 49]), (6, [24, 30, 31, 32, 33, 34, 35, 36, 37, 38, 39]), (5, [2, 3, 24, 25, 26, 27, 28, 29]), (4, [6, 16, 18, 19, 20, 21, 22, 23]), (3, [2, 3, 6, 16, 17]), (2, [15]), (1, [12, 13, 14]), (0, [0, 1, 4, 5])]
theorem comp101 : compFn Try.prog loc101 (fun i => (fg101.lookup i).getD []) Try.f101 = some lit101 := by kernel_rfl

-- math/bits.Len
def lit107 : AFn := ⟨1, [.tmp 2],
 (.seq
 (.ops [⟨some 2, (.mv (.c (.int .i64 (0)))), none⟩]
 [] [2])
 (.seq
 (.cond (.c (.bool false))
 (.seq
 (.ops [⟨some 3, (.mv (.t 0)), none⟩,
 ⟨some 4, (.conv .u32 (.t 3)), none⟩,
 ⟨some 5, (.call (.f 126) [(.t 4)]), none⟩,
 ⟨some 2, (.mv (.t 5)), none⟩]
 [] [0, 3, 4, 5])
 .ret)
 .skip)
 (.seq
 (.ops [⟨some 6, (.mv (.t 0)), none⟩,
 ⟨some 7, (.call (.f 127) [(.t 6)]), none⟩,
 ⟨some 2, (.mv (.t 7)), none⟩]
 [] [0, 6, 7])
 .ret)))⟩
def loc107 : List Nat := []
def fg107 : List (Nat × List Nat) := [(2, [0, 6, 7]), (1, [0, 3, 4, 5]), (0, [2])]
theorem comp107 : compFn Try.prog loc107 (fun i => (fg107.lookup i).getD []) Try.f107 = some lit107 := by kernel_rfl

-- slices.pdqsortCmpFunc[parcener/api.Ratio]
def lit109 : AFn := ⟨5, [],
 (.seq
 (.ops [⟨some 10, (.mv (.c (.bool true))), none⟩]
 [] [])
 (.seq
 (.ops [⟨some 11, (.mv (.c (.bool true))), none⟩]
 [] [])
 (.block 0
 (.loop
 (.block 1
 (.seq
 (.ops [⟨some 21, (.mv (.t 2)), none⟩,
 ⟨some 22, (.mv (.t 1)), none⟩,
 ⟨some 23, (.bin .sub (.t 21) (.t 22)), none⟩,
 ⟨some 12, (.mv (.t 23)), none⟩]
 [] [21, 22, 23])
 (.seq
 (.seq
 (.ops [⟨some 24, (.mv (.t 12)), none⟩,
 ⟨some 25, (.bin .leq (.t 24) (.c (.int .i64 (12)))), none⟩]
 [] [24])
 (.cond (.t 25)
 (.seq
 (.ops [⟨some 26, (.mv (.t 0)), none⟩,
 ⟨some 27, (.mv (.t 1)), none⟩,
 ⟨some 28, (.mv (.t 2)), none⟩,
 ⟨some 29, (.mv (.t 4)), none⟩,
 ⟨some 30, (.call (.f 129) [(.t 26), (.t 27), (.t 28), (.t 29)]), none⟩]
 [] [0, 1, 2, 3, 4, 10, 11, 12, 25, 26, 27, 28, 29, 30])
 .ret)
 .skip))
 (.seq
 (.seq
 (.ops [⟨some 31, (.mv (.t 3)), none⟩,
 ⟨some 32, (.bin .eql (.t 31) (.c (.int .i64 (0)))), none⟩]
 [] [25, 31])
 (.cond (.t 32)
 (.seq
 (.ops [⟨some 33, (.mv (.t 0)), none⟩,
 ⟨some 34, (.mv (.t 1)), none⟩,
 ⟨some 35, (.mv (.t 2)), none⟩,
 ⟨some 36, (.mv (.t 4)), none⟩,
 ⟨some 37, (.call (.f 130) [(.t 33), (.t 34), (.t 35), (.t 36)]), none⟩]
 [] [0, 1, 2, 3, 4, 10, 11, 12, 32, 33, 34, 35, 36, 37])
 .ret)
 .skip))
 (.seq
 (.seq
 (.ops [⟨some 38, (.mv (.t 10)), none⟩,
 ⟨some 39, (.un .not (.t 38)), none⟩]
 [] [32, 38])
 (.cond (.t 39)
 (.seq
 (.ops [⟨some 40, (.mv (.t 0)), none⟩,
 ⟨some 41, (.mv (.t 1)), none⟩,
 ⟨some 42, (.mv (.t 2)), none⟩,
 ⟨some 43, (.mv (.t 4)), none⟩,
 ⟨some 44, (.call (.f 131) [(.t 40), (.t 41), (.t 42), (.t 43)]), none⟩]
 [] [39, 40, 41, 42, 43, 44])
 (.ops [⟨some 45, (.mv (.t 3)), none⟩,
 ⟨some 46, (.bin .sub (.t 45) (.c (.int .i64 (1)))), none⟩,
 ⟨some 3, (.mv (.t 46)), none⟩]
 [] [45, 46]))
 .skip))
 (.seq
 (.ops [⟨some 48, (.mv (.t 0)), none⟩,
 ⟨some 49, (.mv (.t 1)), none⟩,
 ⟨some 50, (.mv (.t 2)), none⟩,
 ⟨some 51, (.mv (.t 4)), none⟩,
 ⟨some 52, (.call (.f 132) [(.t 48), (.t 49), (.t 50), (.t 51)]), none⟩,
 ⟨some 47, (.mv (.t 52)), none⟩,
 ⟨some 53, (.ext (.t 47) 0), none⟩,
 ⟨some 54, (.ext (.t 47) 1), none⟩,
 ⟨some 13, (.mv (.t 53)), none⟩,
 ⟨some 14, (.mv (.t 54)), none⟩]
 [] [39, 47, 48, 49, 50, 51, 52, 53, 54])
 (.seq
 (.seq
 (.ops [⟨some 55, (.mv (.t 14)), none⟩,
 ⟨some 56, (.bin .eql (.t 55) (.c (.int .i64 (2)))), none⟩]
 [] [55])
 (.cond (.t 56)
 (.seq
 (.ops [⟨some 57, (.mv (.t 0)), none⟩,
 ⟨some 58, (.mv (.t 1)), none⟩,
 ⟨some 59, (.mv (.t 2)), none⟩,
 ⟨some 60, (.mv (.t 4)), none⟩,
 ⟨some 61, (.call (.f 133) [(.t 57), (.t 58), (.t 59), (.t 60)]), none⟩]
 [] [14, 56, 57, 58, 59, 60, 61])
 (.seq
 (.ops [⟨some 62, (.mv (.t 2)), none⟩,
 ⟨some 63, (.bin .sub (.t 62) (.c (.int .i64 (1)))), none⟩,
 ⟨some 64, (.mv (.t 13)), none⟩,
 ⟨some 65, (.mv (.t 1)), none⟩,
 ⟨some 66, (.bin .sub (.t 64) (.t 65)), none⟩,
 ⟨some 67, (.bin .sub (.t 63) (.t 66)), none⟩,
 ⟨some 13, (.mv (.t 67)), none⟩]
 [] [62, 63, 64, 65, 66, 67])
 (.ops [⟨some 14, (.mv (.c (.int .i64 (1)))), none⟩]
 [] [])))
 .skip))
 (.seq
 (.seq
 (.ops [⟨some 68, (.mv (.t 10)), none⟩,
 ⟨some 69, (.mv (.t 68)), none⟩,
 ⟨some 70, (.mv (.t 11)), some (69, true)⟩,
 ⟨some 71, (.pick (.t 69) (.t 70) (.c (.bool false))), none⟩,
 ⟨some 72, (.mv (.t 71)), none⟩,
 ⟨some 73, (.mv (.t 14)), some (72, true)⟩,
 ⟨some 74, (.bin .eql (.t 73) (.c (.int .i64 (1)))), some (72, true)⟩,
 ⟨some 75, (.pick (.t 72) (.t 74) (.c (.bool false))), none⟩]
 [] [14, 56, 68, 69, 70, 71, 72, 73, 74])
 (.cond (.t 75)
 (.seq
 (.ops [⟨some 76, (.mv (.t 0)), none⟩,
 ⟨some 77, (.mv (.t 1)), none⟩,
 ⟨some 78, (.mv (.t 2)), none⟩,
 ⟨some 79, (.mv (.t 4)), none⟩,
 ⟨some 80, (.call (.f 134) [(.t 76), (.t 77), (.t 78), (.t 79)]), none⟩]
 [] [75, 76, 77, 78, 79])
 (.cond (.t 80)
 .ret
 .skip))
 .skip))
 (.seq
 (.seq
 (.ops [⟨some 81, (.mv (.t 1)), none⟩,
 ⟨some 82, (.bin .gtr (.t 81) (.c (.int .i64 (0)))), none⟩,
 ⟨some 83, (.mv (.t 82)), none⟩,
 ⟨some 84, (.mv (.t 4)), some (83, true)⟩,
 ⟨some 85, (.mv (.t 0)), some (83, true)⟩,
 ⟨some 86, (.mv (.t 1)), some (83, true)⟩,
 ⟨some 87, (.bin .sub (.t 86) (.c (.int .i64 (1)))), some (83, true)⟩,
 ⟨some 88, (.iad 2 (.t 85) (.t 87)), some (83, true)⟩,
 ⟨some 89, (.load true 2 (.t 88)), some (83, true)⟩,
 ⟨some 90, (.mv (.t 0)), some (83, true)⟩,
 ⟨some 91, (.mv (.t 13)), some (83, true)⟩,
 ⟨some 92, (.iad 2 (.t 90) (.t 91)), some (83, true)⟩,
 ⟨some 93, (.load true 2 (.t 92)), some (83, true)⟩,
 ⟨some 94, (.call (.t 84) [(.t 89), (.t 93)]), some (83, true)⟩,
 ⟨some 95, (.bin .lss (.t 94) (.c (.int .i64 (0)))), some (83, true)⟩,
 ⟨some 96, (.un .not (.t 95)), some (83, true)⟩,
 ⟨some 97, (.pick (.t 83) (.t 96) (.c (.bool false))), none⟩]
 [(3, 4), (3, 5), (4, 5), (3, 6), (4, 6), (3, 7), (3, 8), (3, 9), (4, 9), (5, 9), (6, 9), (7, 9), (8, 9), (3, 10), (4, 10), (5, 10), (6, 10), (7, 10), (8, 10), (9, 10), (3, 11), (4, 11), (5, 11), (6, 11), (7, 11), (8, 11), (3, 12), (4, 12), (5, 12), (6, 12), (7, 12), (8, 12)] [75, 80, 81, 82, 83, 84, 85, 86, 87, 88, 89, 90, 91, 92, 93, 94, 95, 96])
 (.cond (.t 97)
 (.seq
 (.ops [⟨some 98, (.mv (.t 0)), none⟩,
 ⟨some 99, (.mv (.t 1)), none⟩,
 ⟨some 100, (.mv (.t 2)), none⟩,
 ⟨some 101, (.mv (.t 13)), none⟩,
 ⟨some 102, (.mv (.t 4)), none⟩,
 ⟨some 103, (.call (.f 135) [(.t 98), (.t 99), (.t 100), (.t 101), (.t 102)]), none⟩,
 ⟨some 15, (.mv (.t 103)), none⟩]
 [] [1, 12, 13, 97, 98, 99, 100, 101, 102, 103])
 (.seq
 (.ops [⟨some 104, (.mv (.t 15)), none⟩,
 ⟨some 1, (.mv (.t 104)), none⟩]
 [] [15, 104])
 (.exit 1)))
 .skip))
 (.seq
 (.ops [⟨some 106, (.mv (.t 0)), none⟩,
 ⟨some 107, (.mv (.t 1)), none⟩,
 ⟨some 108, (.mv (.t 2)), none⟩,
 ⟨some 109, (.mv (.t 13)), none⟩,
 ⟨some 110, (.mv (.t 4)), none⟩,
 ⟨some 111, (.call (.f 136) [(.t 106), (.t 107), (.t 108), (.t 109), (.t 110)]), none⟩,
 ⟨some 105, (.mv (.t 111)), none⟩,
 ⟨some 112, (.ext (.t 105) 0), none⟩,
 ⟨some 113, (.ext (.t 105) 1), none⟩,
 ⟨some 16, (.mv (.t 112)), none⟩,
 ⟨some 17, (.mv (.t 113)), none⟩]
 [] [10, 11, 13, 97, 105, 106, 107, 108, 109, 110, 111, 112, 113])
 (.seq
 (.ops [⟨some 114, (.mv (.t 17)), none⟩,
 ⟨some 11, (.mv (.t 114)), none⟩]
 [] [17, 114])
 (.seq
 (.ops [⟨some 115, (.mv (.t 16)), none⟩,
 ⟨some 116, (.mv (.t 1)), none⟩,
 ⟨some 117, (.bin .sub (.t 115) (.t 116)), none⟩,
 ⟨some 118, (.mv (.t 2)), none⟩,
 ⟨some 119, (.mv (.t 16)), none⟩,
 ⟨some 120, (.bin .sub (.t 118) (.t 119)), none⟩,
 ⟨some 18, (.mv (.t 117)), none⟩,
 ⟨some 19, (.mv (.t 120)), none⟩]
 [] [115, 116, 117, 118, 119, 120])
 (.seq
 (.ops [⟨some 121, (.mv (.t 12)), none⟩,
 ⟨some 122, (.bin .quo (.t 121) (.c (.int .i64 (8)))), none⟩,
 ⟨some 20, (.mv (.t 122)), none⟩]
 [] [12, 121, 122])
 (.seq
 (.ops [⟨some 123, (.mv (.t 18)), none⟩,
 ⟨some 124, (.mv (.t 19)), none⟩,
 ⟨some 125, (.bin .lss (.t 123) (.t 124)), none⟩]
 [] [123, 124])
 (.cond (.t 125)
 (.seq
 (.ops [⟨some 126, (.mv (.t 18)), none⟩,
 ⟨some 127, (.mv (.t 20)), none⟩,
 ⟨some 128, (.bin .geq (.t 126) (.t 127)), none⟩,
 ⟨some 10, (.mv (.t 128)), none⟩]
 [] [18, 19, 20, 125, 126, 127, 128])
 (.seq
 (.ops [⟨some 129, (.mv (.t 0)), none⟩,
 ⟨some 130, (.mv (.t 1)), none⟩,
 ⟨some 131, (.mv (.t 16)), none⟩,
 ⟨some 132, (.mv (.t 3)), none⟩,
 ⟨some 133, (.mv (.t 4)), none⟩,
 ⟨some 134, (.call (.f 109) [(.t 129), (.t 130), (.t 131), (.t 132), (.t 133)]), none⟩]
 [] [1, 129, 130, 131, 132, 133, 134])
 (.ops [⟨some 135, (.mv (.t 16)), none⟩,
 ⟨some 136, (.bin .add (.t 135) (.c (.int .i64 (1)))), none⟩,
 ⟨some 1, (.mv (.t 136)), none⟩]
 [] [16, 135, 136])))
 (.seq
 (.ops [⟨some 137, (.mv (.t 19)), none⟩,
 ⟨some 138, (.mv (.t 20)), none⟩,
 ⟨some 139, (.bin .geq (.t 137) (.t 138)), none⟩,
 ⟨some 10, (.mv (.t 139)), none⟩]
 [] [18, 19, 20, 125, 137, 138, 139])
 (.seq
 (.ops [⟨some 140, (.mv (.t 0)), none⟩,
 ⟨some 141, (.mv (.t 16)), none⟩,
 ⟨some 142, (.bin .add (.t 141) (.c (.int .i64 (1)))), none⟩,
 ⟨some 143, (.mv (.t 2)), none⟩,
 ⟨some 144, (.mv (.t 3)), none⟩,
 ⟨some 145, (.mv (.t 4)), none⟩,
 ⟨some 146, (.call (.f 109) [(.t 140), (.t 142), (.t 143), (.t 144), (.t 145)]), none⟩]
 [] [2, 140, 141, 142, 143, 144, 145, 146])
 (.ops [⟨some 147, (.mv (.t 16)), none⟩,
 ⟨some 2, (.mv (.t 147)), none⟩]
 [] [16, 147]))))))))))))))))))))))⟩
def loc109 : List Nat := []
def fg109 : List (Nat × List Nat) := [(30, [16, 147]), (29, [2, 140, 141, 142, 143, 144, 145, 146]), (28, [18, 19, 20, 125, 137, 138, 139]), (27, [16, 135, 136]), (26, [1, 129, 130, 131, 132, 133, 134]), (25, [18, 19, 20, 125, 126, 127, 128]), (24, [123, 124]), (23, [12, 121, 122]), (22, [115, 116, 117, 118, 119, 120]), (21, [17, 114]), (20, [10, 11, 13, 97, 105, 106, 107, 108, 109, 110, 111, 112, 113]), (19, [15, 104]), (18, [1, 12, 13, 97, 98, 99, 100, 101, 102, 103]), (17, [75, 80, 81, 82, 83, 84, 85, 86, 87, 88, 89, 90, 91, 92, 93, 94, 95, 96]), (16, [75, 76, 77, 78, 79]), (15, [14, 56, 68, 69, 70, 71, 72, 73, 74]), (13, [62, 63, 64, 65, 66, 67]), (12, [14, 56, 57, 58, 59, 60, 61]), (11, [55]), (10, [39, 47, 48, 49, 50, 51, 52, 53, 54]), (9, [45, 46]), (8, [39, 40, 41, 42, 43, 44]), (7, [32, 38]), (6, [0, 1, 2, 3, 4, 10, 11, 12, 32, 33, 34, 35, 36, 37]), (5, [25, 31]), (4, [0, 1, 2, 3, 4, 10, 11, 12, 25, 26, 27, 28, 29, 30]), (3, [24]), (2, [21, 22, 23])]
theorem comp109 : compFn Try.prog loc109 (fun i => (fg109.lookup i).getD []) Try.f109 = some lit109 := by kernel_rfl

-- cmp.Or[parcener/api.Errno]
def lit111 : AFn := ⟨1, [.tmp 2],
 (.seq
 (.ops [⟨some 2, (.mv (.c (.int .i64 (0)))), none⟩]
 [] [2])
 (.seq
 (.ops [⟨some 3, (.mv (.c (.int .i64 (0)))), none⟩]
 [] [])
 (.seq
 (.seq
 (.ops [⟨some 6, (.mv (.t 0)), none⟩,
 ⟨some 7, (.len (.t 6)), none⟩,
 ⟨some 8, (.mv (.c (.int .i64 (0)))), none⟩]
 [] [0])
 (.block 0
 (.loop
 (.seq
 (.ops [⟨some 9, (.bin .lss (.t 8) (.t 7)), none⟩]
 [] [])
 (.seq
 (.cond (.t 9)
 .skip
 (.exit 0))
 (.seq
 (.block 1
 (.seq
 (.ops [⟨some 10, (.iad 1 (.t 6) (.t 8)), none⟩,
 ⟨some 11, (.load false 1 (.t 10)), none⟩,
 ⟨some 5, (.mv (.t 11)), none⟩]
 [] [9, 10, 11])
 (.seq
 (.ops [⟨some 12, (.mv (.t 5)), none⟩,
 ⟨some 13, (.mv (.t 3)), none⟩,
 ⟨some 14, (.bin .neq (.t 12) (.t 13)), none⟩]
 [] [12, 13])
 (.cond (.t 14)
 (.seq
 (.ops [⟨some 15, (.mv (.t 5)), none⟩,
 ⟨some 2, (.mv (.t 15)), none⟩]
 [] [3, 5, 6, 7, 8, 14, 15])
 .ret)
 .skip))))
 (.ops [⟨some 16, (.bin .add (.t 8) (.c (.int .i64 (1)))), none⟩,
 ⟨some 8, (.mv (.t 16)), none⟩]
 [] [5, 14, 16])))))))
 (.seq
 (.ops [⟨some 17, (.mv (.t 3)), none⟩,
 ⟨some 2, (.mv (.t 17)), none⟩]
 [] [3, 6, 7, 8, 9, 17])
 .ret))))⟩
def loc111 : List Nat := []
def fg111 : List (Nat × List Nat) := [(8, [3, 6, 7, 8, 9, 17]), (7, [5, 14, 16]), (6, [3, 5, 6, 7, 8, 14, 15]), (5, [12, 13]), (4, [9, 10, 11]), (2, [0]), (0, [2])]
theorem comp111 : compFn Try.prog loc111 (fun i => (fg111.lookup i).getD []) Try.f111 = some lit111 := by kernel_rfl

-- cmp.Or[int]
def lit118 : AFn := ⟨1, [.tmp 2],
 (.seq
 (.ops [⟨some 2, (.mv (.c (.int .i64 (0)))), none⟩]
 [] [2])
 (.seq
 (.ops [⟨some 3, (.mv (.c (.int .i64 (0)))), none⟩]
 [] [])
 (.seq
 (.seq
 (.ops [⟨some 6, (.mv (.t 0)), none⟩,
 ⟨some 7, (.len (.t 6)), none⟩,
 ⟨some 8, (.mv (.c (.int .i64 (0)))), none⟩]
 [] [0])
 (.block 0
 (.loop
 (.seq
 (.ops [⟨some 9, (.bin .lss (.t 8) (.t 7)), none⟩]
 [] [])
 (.seq
 (.cond (.t 9)
 .skip
 (.exit 0))
 (.seq
 (.block 1
 (.seq
 (.ops [⟨some 10, (.iad 1 (.t 6) (.t 8)), none⟩,
 ⟨some 11, (.load false 1 (.t 10)), none⟩,
 ⟨some 5, (.mv (.t 11)), none⟩]
 [] [9, 10, 11])
 (.seq
 (.ops [⟨some 12, (.mv (.t 5)), none⟩,
 ⟨some 13, (.mv (.t 3)), none⟩,
 ⟨some 14, (.bin .neq (.t 12) (.t 13)), none⟩]
 [] [12, 13])
 (.cond (.t 14)
 (.seq
 (.ops [⟨some 15, (.mv (.t 5)), none⟩,
 ⟨some 2, (.mv (.t 15)), none⟩]
 [] [3, 5, 6, 7, 8, 14, 15])
 .ret)
 .skip))))
 (.ops [⟨some 16, (.bin .add (.t 8) (.c (.int .i64 (1)))), none⟩,
 ⟨some 8, (.mv (.t 16)), none⟩]
 [] [5, 14, 16])))))))
 (.seq
 (.ops [⟨some 17, (.mv (.t 3)), none⟩,
 ⟨some 2, (.mv (.t 17)), none⟩]
 [] [3, 6, 7, 8, 9, 17])
 .ret))))⟩
def loc118 : List Nat := []
def fg118 : List (Nat × List Nat) := [(8, [3, 6, 7, 8, 9, 17]), (7, [5, 14, 16]), (6, [3, 5, 6, 7, 8, 14, 15]), (5, [12, 13]), (4, [9, 10, 11]), (2, [0]), (0, [2])]
theorem comp118 : compFn Try.prog loc118 (fun i => (fg118.lookup i).getD []) Try.f118 = some lit118 := by kernel_rfl

-- cmp.Compare[uint64]
def lit119 : AFn := ⟨2, [.tmp 4],
 (.seq
 (.ops [⟨some 4, (.mv (.c (.int .i64 (0)))), none⟩]
 [] [4])
 (.seq
 (.ops [⟨some 7, (.mv (.t 0)), none⟩,
 ⟨some 8, (.call (.f 140) [(.t 7)]), none⟩,
 ⟨some 5, (.mv (.t 8)), none⟩]
 [] [7, 8])
 (.seq
 (.ops [⟨some 9, (.mv (.t 1)), none⟩,
 ⟨some 10, (.call (.f 140) [(.t 9)]), none⟩,
 ⟨some 6, (.mv (.t 10)), none⟩]
 [] [9, 10])
 (.seq
 (.seq
 (.ops [⟨some 11, (.mv (.t 5)), none⟩]
 [] [5])
 (.cond (.t 11)
 (.seq
 (.seq
 (.ops [⟨some 12, (.mv (.t 6)), none⟩]
 [] [0, 1, 6, 11])
 (.cond (.t 12)
 (.seq
 (.ops [⟨some 4, (.mv (.c (.int .i64 (0)))), none⟩]
 [] [12])
 .ret)
 .skip))
 (.seq
 (.ops [⟨some 4, (.mv (.c (.int .i64 (-1)))), none⟩]
 [] [12])
 .ret))
 .skip))
 (.seq
 (.seq
 (.ops [⟨some 13, (.mv (.t 6)), none⟩]
 [] [6, 11])
 (.cond (.t 13)
 (.seq
 (.ops [⟨some 4, (.mv (.c (.int .i64 (1)))), none⟩]
 [] [0, 1, 13])
 .ret)
 .skip))
 (.seq
 (.seq
 (.ops [⟨some 14, (.mv (.t 0)), none⟩,
 ⟨some 15, (.mv (.t 1)), none⟩,
 ⟨some 16, (.bin .lss (.t 14) (.t 15)), none⟩]
 [] [13, 14, 15])
 (.cond (.t 16)
 (.seq
 (.ops [⟨some 4, (.mv (.c (.int .i64 (-1)))), none⟩]
 [] [0, 1, 16])
 .ret)
 .skip))
 (.seq
 (.seq
 (.ops [⟨some 17, (.mv (.t 0)), none⟩,
 ⟨some 18, (.mv (.t 1)), none⟩,
 ⟨some 19, (.bin .gtr (.t 17) (.t 18)), none⟩]
 [] [0, 1, 16, 17, 18])
 (.cond (.t 19)
 (.seq
 (.ops [⟨some 4, (.mv (.c (.int .i64 (1)))), none⟩]
 [] [19])
 .ret)
 .skip))
 (.seq
 (.ops [⟨some 4, (.mv (.c (.int .i64 (0)))), none⟩]
 [] [19])
 .ret))))))))⟩
def loc119 : List Nat := []
def fg119 : List (Nat × List Nat) := [(13, [19]), (12, [19]), (11, [0, 1, 16, 17, 18]), (10, [0, 1, 16]), (9, [13, 14, 15]), (8, [0, 1, 13]), (7, [6, 11]), (6, [12]), (5, [12]), (4, [0, 1, 6, 11]), (3, [5]), (2, [9, 10]), (1, [7, 8]), (0, [4])]
theorem comp119 : compFn Try.prog loc119 (fun i => (fg119.lookup i).getD []) Try.f119 = some lit119 := by kernel_rfl

-- math/bits.Len64
def lit127 : AFn := ⟨1, [.tmp 2],
 (.seq
 (.ops [⟨some 2, (.mv (.c (.int .i64 (0)))), none⟩]
 [] [])
 (.seq
 (.seq
 (.ops [⟨some 3, (.mv (.t 0)), none⟩,
 ⟨some 4, (.bin .geq (.t 3) (.c (.int .u64 (4294967296)))), none⟩]
 [] [3])
 (.cond (.t 4)
 (.seq
 (.ops [⟨some 5, (.mv (.t 0)), none⟩,
 ⟨some 6, (.bin .shr (.t 5) (.c (.int .u64 (32)))), none⟩,
 ⟨some 0, (.mv (.t 6)), none⟩]
 [] [2, 4, 5, 6])
 (.ops [⟨some 2, (.mv (.c (.int .i64 (32)))), none⟩]
 [] []))
 .skip))
 (.seq
 (.seq
 (.ops [⟨some 7, (.mv (.t 0)), none⟩,
 ⟨some 8, (.bin .geq (.t 7) (.c (.int .u64 (65536)))), none⟩]
 [] [4, 7])
 (.cond (.t 8)
 (.seq
 (.ops [⟨some 9, (.mv (.t 0)), none⟩,
 ⟨some 10, (.bin .shr (.t 9) (.c (.int .u64 (16)))), none⟩,
 ⟨some 0, (.mv (.t 10)), none⟩]
 [] [8, 9, 10])
 (.ops [⟨some 11, (.mv (.t 2)), none⟩,
 ⟨some 12, (.bin .add (.t 11) (.c (.int .i64 (16)))), none⟩,
 ⟨some 2, (.mv (.t 12)), none⟩]
 [] [11, 12]))
 .skip))
 (.seq
 (.seq
 (.ops [⟨some 13, (.mv (.t 0)), none⟩,
 ⟨some 14, (.bin .geq (.t 13) (.c (.int .u64 (256)))), none⟩]
 [] [8, 13])
 (.cond (.t 14)
 (.seq
 (.ops [⟨some 15, (.mv (.t 0)), none⟩,
 ⟨some 16, (.bin .shr (.t 15) (.c (.int .u64 (8)))), none⟩,
 ⟨some 0, (.mv (.t 16)), none⟩]
 [] [14, 15, 16])
 (.ops [⟨some 17, (.mv (.t 2)), none⟩,
 ⟨some 18, (.bin .add (.t 17) (.c (.int .i64 (8)))), none⟩,
 ⟨some 2, (.mv (.t 18)), none⟩]
 [] [17, 18]))
 .skip))
 (.seq
 (.ops [⟨some 19, (.mv (.t 2)), none⟩,
 ⟨some 20, (.mv (.t 0)), none⟩,
 ⟨some 21, (.conv .u8 (.t 20)), none⟩,
 ⟨some 22, (.idx false 256 1 (.c (.agg [(.int .u8 (0)), (.int .u8 (1)), (.int .u8 (2)), (.int .u8 (2)), (.int .u8 (3)), (.int .u8 (3)), (.int .u8 (3)), (.int .u8 (3)), (.int .u8 (4)), (.int .u8 (4)), (.int .u8 (4)), (.int .u8 (4)), (.int .u8 (4)), (.int .u8 (4)), (.int .u8 (4)), (.int .u8 (4)), (.int .u8 (5)), (.int .u8 (5)), (.int .u8 (5)), (.int .u8 (5)), (.int .u8 (5)), (.int .u8 (5)), (.int .u8 (5)), (.int .u8 (5)), (.int .u8 (5)), (.int .u8 (5)), (.int .u8 (5)), (.int .u8 (5)), (.int .u8 (5)), (.int .u8 (5)), (.int .u8 (5)), (.int .u8 (5)), (.int .u8 (6)), (.int .u8 (6)), (.int .u8 (6)), (.int .u8 (6)), (.int .u8 (6)), (.int .u8 (6)), (.int .u8 (6)), (.int .u8 (6)), (.int .u8 (6)), (.int .u8 (6)), (.int .u8 (6)), (.int .u8 (6)), (.int .u8 (6)), (.int .u8 (6)), (.int .u8 (6)), (.int .u8 (6)), (.int .u8 (6)), (.int .u8 (6)), (.int .u8 (6)), (.int .u8 (6)), (.int .u8 (6)), (.int .u8 (6)), (.int .u8 (6)), (.int .u8 (6)), (.int .u8 (6)), (.int .u8 (6)), (.int .u8 (6)), (.int .u8 (6)), (.int .u8 (6)), (.int .u8 (6)), (.int .u8 (6)), (.int .u8 (6)), (.int .u8 (7)), (.int .u8 (7)), (.int .u8 (7)), (.int .u8 (7)), (.int .u8 (7)), (.int .u8 (7)), (.int .u8 (7)), (.int .u8 (7)), (.int .u8 (7)), (.int .u8 (7)), (.int .u8 (7)), (.int .u8 (7)), (.int .u8 (7)), (.int .u8 (7)), (.int .u8 (7)), (.int .u8 (7)), (.int .u8 (7)), (.int .u8 (7)), (.int .u8 (7)), (.int .u8 (7)), (.int .u8 (7)), (.int .u8 (7)), (.int .u8 (7)), (.int .u8 (7)), (.int .u8 (7)), (.int .u8 (7)), (.int .u8 (7)), (.int .u8 (7)), (.int .u8 (7)), (.int .u8 (7)), (.int .u8 (7)), (.int .u8 (7)), (.int .u8 (7)), (.int .u8 (7)), (.int .u8 (7)), (.int .u8 (7)), (.int .u8 (7)), (.int .u8 (7)), (.int .u8 (7)), (.int .u8 (7)), (.int .u8 (7)), (.int .u8 (7)), (.int .u8 (7)), (.int .u8 (7)), (.int .u8 (7)), (.int .u8 (7)), (.int .u8 (7)), (.int .u8 (7)), (.int .u8 (7)), (.int .u8 (7)), (.int .u8 (7)), (.int .u8 (7)), (.int .u8 (7)), (.int .u8 (7)), (.int .u8 (7)), (.int .u8 (7)), (.int .u8 (7)), (.int .u8 (7)), (.int .u8 (7)), (.int .u8 (7)), (.int .u8 (7)), (.int .u8 (7)), (.int .u8 (7)), (.int .u8 (7)), (.int .u8 (8)), (.int .u8 (8)), (.int .u8 (8)), (.int .u8 (8)), (.int .u8 (8)), (.int .u8 (8)), (.int .u8 (8)), (.int .u8 (8)), (.int .u8 (8)), (.int .u8 (8)), (.int .u8 (8)), (.int .u8 (8)), (.int .u8 (8)), (.int .u8 (8)), (.int .u8 (8)), (.int .u8 (8)), (.int .u8 (8)), (.int .u8 (8)), (.int .u8 (8)), (.int .u8 (8)), (.int .u8 (8)), (.int .u8 (8)), (.int .u8 (8)), (.int .u8 (8)), (.int .u8 (8)), (.int .u8 (8)), (.int .u8 (8)), (.int .u8 (8)), (.int .u8 (8)), (.int .u8 (8)), (.int .u8 (8)), (.int .u8 (8)), (.int .u8 (8)), (.int .u8 (8)), (.int .u8 (8)), (.int .u8 (8)), (.int .u8 (8)), (.int .u8 (8)), (.int .u8 (8)), (.int .u8 (8)), (.int .u8 (8)), (.int .u8 (8)), (.int .u8 (8)), (.int .u8 (8)), (.int .u8 (8)), (.int .u8 (8)), (.int .u8 (8)), (.int .u8 (8)), (.int .u8 (8)), (.int .u8 (8)), (.int .u8 (8)), (.int .u8 (8)), (.int .u8 (8)), (.int .u8 (8)), (.int .u8 (8)), (.int .u8 (8)), (.int .u8 (8)), (.int .u8 (8)), (.int .u8 (8)), (.int .u8 (8)), (.int .u8 (8)), (.int .u8 (8)), (.int .u8 (8)), (.int .u8 (8)), (.int .u8 (8)), (.int .u8 (8)), (.int .u8 (8)), (.int .u8 (8)), (.int .u8 (8)), (.int .u8 (8)), (.int .u8 (8)), (.int .u8 (8)), (.int .u8 (8)), (.int .u8 (8)), (.int .u8 (8)), (.int .u8 (8)), (.int .u8 (8)), (.int .u8 (8)), (.int .u8 (8)), (.int .u8 (8)), (.int .u8 (8)), (.int .u8 (8)), (.int .u8 (8)), (.int .u8 (8)), (.int .u8 (8)), (.int .u8 (8)), (.int .u8 (8)), (.int .u8 (8)), (.int .u8 (8)), (.int .u8 (8)), (.int .u8 (8)), (.int .u8 (8)), (.int .u8 (8)), (.int .u8 (8)), (.int .u8 (8)), (.int .u8 (8)), (.int .u8 (8)), (.int .u8 (8)), (.int .u8 (8)), (.int .u8 (8)), (.int .u8 (8)), (.int .u8 (8)), (.int .u8 (8)), (.int .u8 (8)), (.int .u8 (8)), (.int .u8 (8)), (.int .u8 (8)), (.int .u8 (8)), (.int .u8 (8)), (.int .u8 (8)), (.int .u8 (8)), (.int .u8 (8)), (.int .u8 (8)), (.int .u8 (8)), (.int .u8 (8)), (.int .u8 (8)), (.int .u8 (8)), (.int .u8 (8)), (.int .u8 (8)), (.int .u8 (8)), (.int .u8 (8)), (.int .u8 (8)), (.int .u8 (8)), (.int .u8 (8)), (.int .u8 (8)), (.int .u8 (8)), (.int .u8 (8)), (.int .u8 (8))])) (.t 21)), none⟩,
 ⟨some 23, (.conv .i64 (.t 22)), none⟩,
 ⟨some 24, (.bin .add (.t 19) (.t 23)), none⟩,
 ⟨some 2, (.mv (.t 24)), none⟩]
 [] [0, 14, 19, 20, 21, 22, 23, 24])
 .ret)))))⟩
def loc127 : List Nat := []
def fg127 : List (Nat × List Nat) := [(10, [0, 14, 19, 20, 21, 22, 23, 24]), (9, [17, 18]), (8, [14, 15, 16]), (7, [8, 13]), (6, [11, 12]), (5, [8, 9, 10]), (4, [4, 7]), (2, [2, 4, 5, 6]), (1, [3])]
theorem comp127 : compFn Try.prog loc127 (fun i => (fg127.lookup i).getD []) Try.f127 = some lit127 := by kernel_rfl

-- slices.insertionSortCmpFunc[parcener/api.Ratio]
def lit129 : AFn := ⟨4, [],
 (.seq
 (.ops [⟨some 10, (.mv (.t 1)), none⟩,
 ⟨some 11, (.bin .add (.t 10) (.c (.int .i64 (1)))), none⟩,
 ⟨some 8, (.mv (.t 11)), none⟩]
 [] [10, 11])
 (.block 0
 (.loop
 (.seq
 (.seq
 (.ops [⟨some 12, (.mv (.t 8)), none⟩,
 ⟨some 13, (.mv (.t 2)), none⟩,
 ⟨some 14, (.bin .lss (.t 12) (.t 13)), none⟩]
 [] [12, 13])
 (.cond (.t 14)
 .skip
 (.exit 0)))
 (.seq
 (.block 1
 (.seq
 (.ops [⟨some 17, (.mv (.t 8)), none⟩,
 ⟨some 9, (.mv (.t 17)), none⟩]
 [] [14, 17])
 (.block 2
 (.loop
 (.seq
 (.seq
 (.ops [⟨some 18, (.mv (.t 9)), none⟩,
 ⟨some 19, (.mv (.t 1)), none⟩,
 ⟨some 20, (.bin .gtr (.t 18) (.t 19)), none⟩,
 ⟨some 21, (.mv (.t 20)), none⟩,
 ⟨some 22, (.mv (.t 3)), some (21, true)⟩,
 ⟨some 23, (.mv (.t 0)), some (21, true)⟩,
 ⟨some 24, (.mv (.t 9)), some (21, true)⟩,
 ⟨some 25, (.iad 2 (.t 23) (.t 24)), some (21, true)⟩,
 ⟨some 26, (.load true 2 (.t 25)), some (21, true)⟩,
 ⟨some 27, (.mv (.t 0)), some (21, true)⟩,
 ⟨some 28, (.mv (.t 9)), some (21, true)⟩,
 ⟨some 29, (.bin .sub (.t 28) (.c (.int .i64 (1)))), some (21, true)⟩,
 ⟨some 30, (.iad 2 (.t 27) (.t 29)), some (21, true)⟩,
 ⟨some 31, (.load true 2 (.t 30)), some (21, true)⟩,
 ⟨some 32, (.call (.t 22) [(.t 26), (.t 31)]), some (21, true)⟩,
 ⟨some 33, (.bin .lss (.t 32) (.c (.int .i64 (0)))), some (21, true)⟩,
 ⟨some 34, (.pick (.t 21) (.t 33) (.c (.bool false))), none⟩]
 [(0, 1), (4, 5), (4, 6), (5, 6), (4, 7), (4, 8), (4, 9), (5, 9), (6, 9), (7, 9), (8, 9), (4, 10), (5, 10), (6, 10), (7, 10), (8, 10), (9, 10), (4, 11), (5, 11), (6, 11), (7, 11), (8, 11), (9, 11), (4, 12), (5, 12), (6, 12), (7, 12), (8, 12), (4, 13), (5, 13), (6, 13), (7, 13), (8, 13)] [18, 19, 20, 21, 22, 23, 24, 25, 26, 27, 28, 29, 30, 31, 32, 33])
 (.cond (.t 34)
 .skip
 (.exit 2)))
 (.seq
 (.block 3
 (.ops [⟨some 37, (.mv (.t 0)), none⟩,
 ⟨some 38, (.mv (.t 9)), none⟩,
 ⟨some 39, (.mv (.t 0)), none⟩,
 ⟨some 40, (.mv (.t 9)), none⟩,
 ⟨some 41, (.bin .sub (.t 40) (.c (.int .i64 (1)))), none⟩,
 ⟨some 42, (.mv (.t 0)), none⟩,
 ⟨some 43, (.mv (.t 9)), none⟩,
 ⟨some 44, (.bin .sub (.t 43) (.c (.int .i64 (1)))), none⟩,
 ⟨some 45, (.iad 2 (.t 42) (.t 44)), none⟩,
 ⟨some 46, (.load true 2 (.t 45)), none⟩,
 ⟨some 47, (.mv (.t 0)), none⟩,
 ⟨some 48, (.mv (.t 9)), none⟩,
 ⟨some 49, (.iad 2 (.t 47) (.t 48)), none⟩,
 ⟨some 50, (.load true 2 (.t 49)), none⟩,
 ⟨some 51, (.iad 2 (.t 37) (.t 38)), none⟩,
 ⟨none, (.store 2 (.t 51) (.t 46)), none⟩,
 ⟨some 52, (.iad 2 (.t 39) (.t 41)), none⟩,
 ⟨none, (.store 2 (.t 52) (.t 50)), none⟩]
 [(0, 1), (0, 2), (1, 2), (0, 3), (1, 3), (2, 3), (0, 4), (1, 4), (2, 4), (0, 5), (1, 5), (2, 5), (3, 5), (4, 5), (0, 6), (1, 6), (2, 6), (3, 6), (4, 6), (5, 6), (0, 7), (1, 7), (2, 7), (3, 7), (4, 7), (5, 7), (0, 8), (1, 8), (2, 8), (3, 8), (4, 8), (0, 9), (1, 9), (2, 9), (3, 9), (4, 9), (0, 10), (1, 10), (2, 10), (3, 10), (4, 10), (5, 10), (6, 10), (7, 10), (8, 10), (9, 10), (0, 11), (1, 11), (2, 11), (3, 11), (4, 11), (5, 11), (6, 11), (7, 11), (8, 11), (9, 11), (10, 11), (0, 12), (1, 12), (2, 12), (3, 12), (4, 12), (5, 12), (6, 12), (7, 12), (8, 12), (9, 12), (0, 13), (1, 13), (2, 13), (3, 13), (4, 13), (5, 13), (6, 13), (7, 13), (8, 13), (9, 13), (2, 14), (3, 14), (4, 14), (2, 15), (3, 15), (4, 15)] [34, 37, 38, 39, 40, 41, 42, 43, 44, 45, 46, 47, 48, 49, 50, 51, 52]))
 (.ops [⟨some 35, (.mv (.t 9)), none⟩,
 ⟨some 36, (.bin .sub (.t 35) (.c (.int .i64 (1)))), none⟩,
 ⟨some 9, (.mv (.t 36)), none⟩]
 [] [35, 36])))))))
 (.ops [⟨some 15, (.mv (.t 8)), none⟩,
 ⟨some 16, (.bin .add (.t 15) (.c (.int .i64 (1)))), none⟩,
 ⟨some 8, (.mv (.t 16)), none⟩]
 [] [9, 15, 16, 34]))))))⟩
def loc129 : List Nat := []
def fg129 : List (Nat × List Nat) := [(2, [9, 15, 16, 34]), (5, [35, 36]), (6, [34, 37, 38, 39, 40, 41, 42, 43, 44, 45, 46, 47, 48, 49, 50, 51, 52]), (4, [18, 19, 20, 21, 22, 23, 24, 25, 26, 27, 28, 29, 30, 31, 32, 33]), (3, [14, 17]), (1, [12, 13]), (0, [10, 11])]
theorem comp129 : compFn Try.prog loc129 (fun i => (fg129.lookup i).getD []) Try.f129 = some lit129 := by kernel_rfl

-- cmp.isNaN[uint64]
def lit140 : AFn := ⟨1, [.tmp 2],
 (.seq
 (.ops [⟨some 2, (.mv (.c (.bool false))), none⟩]
 [] [2])
 (.seq
 (.ops [⟨some 3, (.mv (.t 0)), none⟩,
 ⟨some 4, (.mv (.t 0)), none⟩,
 ⟨some 5, (.bin .neq (.t 3) (.t 4)), none⟩,
 ⟨some 2, (.mv (.t 5)), none⟩]
 [] [0, 3, 4, 5])
 .ret))⟩
def loc140 : List Nat := []
def fg140 : List (Nat × List Nat) := [(1, [0, 3, 4, 5]), (0, [2])]
theorem comp140 : compFn Try.prog loc140 (fun i => (fg140.lookup i).getD []) Try.f140 = some lit140 := by kernel_rfl

def tab1 : List (Nat × AFn) := [(97, lit97), (101, lit101), (107, lit107), (109, lit109), (111, lit111), (118, lit118), (119, lit119), (127, lit127), (129, lit129), (140, lit140)]
theorem tabOk1 : AllOk Try.prog tab1 := ⟨⟨_, _, _, Try.func97, comp97⟩, ⟨_, _, _, Try.func101, comp101⟩, ⟨_, _, _, Try.func107, comp107⟩, ⟨_, _, _, Try.func109, comp109⟩, ⟨_, _, _, Try.func111, comp111⟩, ⟨_, _, _, Try.func118, comp118⟩, ⟨_, _, _, Try.func119, comp119⟩, ⟨_, _, _, Try.func127, comp127⟩, ⟨_, _, _, Try.func129, comp129⟩, ⟨_, _, _, Try.func140, comp140⟩, trivial⟩
end Go.Proofs.Ytdikcadindibcaa.An
