/- The functions that the statement KnifeNames runs, in the small code (part 1); each is what the framework makes of the program. -/
import Derived.Test.YtfkfmlifhdcolaaFw27
import Derived.Test.YtfkfmlifhdcolaaRows
namespace Go.Proofs.Ytfkfmlifhdcolaa.Kn
open Go Go.Pf
-- math/bits.Mul64
def lit160 : AFn := ⟨2, [.tmp 4, .tmp 5],
 (.seq
 (.ops [⟨some 4, (.mv (.c (.int .u64 (0)))), none⟩,
 ⟨some 5, (.mv (.c (.int .u64 (0)))), none⟩]
 [] [4, 5])
 (.seq
 (.ops [⟨some 14, (.mv (.t 0)), none⟩,
 ⟨some 15, (.bin .and (.t 14) (.c (.int .u64 (4294967295)))), none⟩,
 ⟨some 6, (.mv (.t 15)), none⟩]
 [] [14, 15])
 (.seq
 (.ops [⟨some 16, (.mv (.t 0)), none⟩,
 ⟨some 17, (.bin .shr (.t 16) (.c (.int .u64 (32)))), none⟩,
 ⟨some 7, (.mv (.t 17)), none⟩]
 [] [16, 17])
 (.seq
 (.ops [⟨some 18, (.mv (.t 1)), none⟩,
 ⟨some 19, (.bin .and (.t 18) (.c (.int .u64 (4294967295)))), none⟩,
 ⟨some 8, (.mv (.t 19)), none⟩]
 [] [18, 19])
 (.seq
 (.ops [⟨some 20, (.mv (.t 1)), none⟩,
 ⟨some 21, (.bin .shr (.t 20) (.c (.int .u64 (32)))), none⟩,
 ⟨some 9, (.mv (.t 21)), none⟩]
 [] [20, 21])
 (.seq
 (.ops [⟨some 22, (.mv (.t 6)), none⟩,
 ⟨some 23, (.mv (.t 8)), none⟩,
 ⟨some 24, (.bin .mul (.t 22) (.t 23)), none⟩,
 ⟨some 10, (.mv (.t 24)), none⟩]
 [] [22, 23, 24])
 (.seq
 (.ops [⟨some 25, (.mv (.t 7)), none⟩,
 ⟨some 26, (.mv (.t 8)), none⟩,
 ⟨some 27, (.bin .mul (.t 25) (.t 26)), none⟩,
 ⟨some 28, (.mv (.t 10)), none⟩,
 ⟨some 29, (.bin .shr (.t 28) (.c (.int .u64 (32)))), none⟩,
 ⟨some 30, (.bin .add (.t 27) (.t 29)), none⟩,
 ⟨some 11, (.mv (.t 30)), none⟩]
 [] [8, 10, 25, 26, 27, 28, 29, 30])
 (.seq
 (.ops [⟨some 31, (.mv (.t 11)), none⟩,
 ⟨some 32, (.bin .and (.t 31) (.c (.int .u64 (4294967295)))), none⟩,
 ⟨some 12, (.mv (.t 32)), none⟩]
 [] [31, 32])
 (.seq
 (.ops [⟨some 33, (.mv (.t 11)), none⟩,
 ⟨some 34, (.bin .shr (.t 33) (.c (.int .u64 (32)))), none⟩,
 ⟨some 13, (.mv (.t 34)), none⟩]
 [] [11, 33, 34])
 (.seq
 (.ops [⟨some 35, (.mv (.t 12)), none⟩,
 ⟨some 36, (.mv (.t 6)), none⟩,
 ⟨some 37, (.mv (.t 9)), none⟩,
 ⟨some 38, (.bin .mul (.t 36) (.t 37)), none⟩,
 ⟨some 39, (.bin .add (.t 35) (.t 38)), none⟩,
 ⟨some 12, (.mv (.t 39)), none⟩]
 [] [6, 35, 36, 37, 38, 39])
 (.seq
 (.ops [⟨some 40, (.mv (.t 7)), none⟩,
 ⟨some 41, (.mv (.t 9)), none⟩,
 ⟨some 42, (.bin .mul (.t 40) (.t 41)), none⟩,
 ⟨some 43, (.mv (.t 13)), none⟩,
 ⟨some 44, (.bin .add (.t 42) (.t 43)), none⟩,
 ⟨some 45, (.mv (.t 12)), none⟩,
 ⟨some 46, (.bin .shr (.t 45) (.c (.int .u64 (32)))), none⟩,
 ⟨some 47, (.bin .add (.t 44) (.t 46)), none⟩,
 ⟨some 4, (.mv (.t 47)), none⟩]
 [] [7, 9, 12, 13, 40, 41, 42, 43, 44, 45, 46, 47])
 (.seq
 (.ops [⟨some 48, (.mv (.t 0)), none⟩,
 ⟨some 49, (.mv (.t 1)), none⟩,
 ⟨some 50, (.bin .mul (.t 48) (.t 49)), none⟩,
 ⟨some 5, (.mv (.t 50)), none⟩]
 [] [0, 1, 48, 49, 50])
 .ret))))))))))))⟩
def loc160 : List Nat := []
def fg160 : List (Nat × List Nat) := [(11, [0, 1, 48, 49, 50]), (10, [7, 9, 12, 13, 40, 41, 42, 43, 44, 45, 46, 47]), (9, [6, 35, 36, 37, 38, 39]), (8, [11, 33, 34]), (7, [31, 32]), (6, [8, 10, 25, 26, 27, 28, 29, 30]), (5, [22, 23, 24]), (4, [20, 21]), (3, [18, 19]), (2, [16, 17]), (1, [14, 15]), (0, [4, 5])]
theorem comp160 : compFn Try.prog loc160 (fun i => (fg160.lookup i).getD []) Try.f160 = some lit160 := by kernel_rfl

-- parcener/ratio.signed
def lit161 : AFn := ⟨3, [.cell 6 true 2, .tmp 7],
 (.seq
 (.ops [⟨some 6, (.allocL (.agg [(.int .i64 (0)), (.int .i64 (0))])), none⟩,
 ⟨some 7, (.mv (.c (.int .i64 (0)))), none⟩]
 [] [7])
 (.seq
 (.seq
 (.ops [⟨some 8, (.mv (.t 1)), none⟩,
 ⟨some 9, (.mv (.t 2)), none⟩,
 ⟨some 10, (.minmax true [(.t 8), (.t 9)]), none⟩,
 ⟨some 11, (.bin .gtr (.t 10) (.c (.int .u64 (1000000000000000000)))), none⟩]
 [] [8, 9, 10])
 (.cond (.t 11)
 (.seq
 (.ops [⟨some 12, (.build [(.int .i64 (0)), (.int .i64 (0))] []), none⟩,
 ⟨none, (.store 2 (.t 6) (.t 12)), none⟩,
 ⟨some 7, (.mv (.c (.int .i64 (16)))), none⟩]
 [] [0, 1, 2, 11, 12])
 .ret)
 .skip))
 (.seq
 (.seq
 (.ops [⟨some 13, (.mv (.t 0)), none⟩]
 [] [0, 11])
 (.cond (.t 13)
 (.seq
 (.ops [⟨some 14, (.mv (.t 1)), none⟩,
 ⟨some 15, (.conv .i64 (.t 14)), none⟩,
 ⟨some 16, (.un .neg (.t 15)), none⟩,
 ⟨some 17, (.mv (.t 2)), none⟩,
 ⟨some 18, (.conv .i64 (.t 17)), none⟩,
 ⟨some 19, (.build [(.int .i64 (0)), (.int .i64 (0))] [(0, 1, (.t 16)), (1, 1, (.t 18))]), none⟩,
 ⟨none, (.store 2 (.t 6) (.t 19)), none⟩,
 ⟨some 7, (.mv (.c (.int .i64 (0)))), none⟩]
 [] [1, 2, 13, 14, 15, 16, 17, 18, 19])
 .ret)
 .skip))
 (.seq
 (.ops [⟨some 20, (.mv (.t 1)), none⟩,
 ⟨some 21, (.conv .i64 (.t 20)), none⟩,
 ⟨some 22, (.mv (.t 2)), none⟩,
 ⟨some 23, (.conv .i64 (.t 22)), none⟩,
 ⟨some 24, (.build [(.int .i64 (0)), (.int .i64 (0))] [(0, 1, (.t 21)), (1, 1, (.t 23))]), none⟩,
 ⟨none, (.store 2 (.t 6) (.t 24)), none⟩,
 ⟨some 7, (.mv (.c (.int .i64 (0)))), none⟩]
 [] [1, 2, 13, 20, 21, 22, 23, 24])
 .ret))))⟩
def loc161 : List Nat := [6]
def fg161 : List (Nat × List Nat) := [(5, [1, 2, 13, 20, 21, 22, 23, 24]), (4, [1, 2, 13, 14, 15, 16, 17, 18, 19]), (3, [0, 11]), (2, [0, 1, 2, 11, 12]), (1, [8, 9, 10]), (0, [7])]
theorem comp161 : compFn Try.prog loc161 (fun i => (fg161.lookup i).getD []) Try.f161 = some lit161 := by kernel_rfl

-- math/bits.Rem64
def lit164 : AFn := ⟨3, [.tmp 6],
 (.seq
 (.ops [⟨some 6, (.mv (.c (.int .u64 (0)))), none⟩]
 [] [6])
 (.seq
 (.ops [⟨some 10, (.mv (.t 0)), none⟩,
 ⟨some 11, (.mv (.t 2)), none⟩,
 ⟨some 12, (.bin .rem (.t 10) (.t 11)), none⟩,
 ⟨some 13, (.mv (.t 1)), none⟩,
 ⟨some 14, (.mv (.t 2)), none⟩,
 ⟨some 15, (.call (.f 165) [(.t 12), (.t 13), (.t 14)]), none⟩,
 ⟨some 9, (.mv (.t 15)), none⟩,
 ⟨some 16, (.ext (.t 9) 0), none⟩,
 ⟨some 17, (.ext (.t 9) 1), none⟩,
 ⟨some 7, (.mv (.t 16)), none⟩,
 ⟨some 8, (.mv (.t 17)), none⟩]
 [] [0, 1, 2, 7, 9, 10, 11, 12, 13, 14, 15, 16, 17])
 (.seq
 (.ops [⟨some 18, (.mv (.t 8)), none⟩,
 ⟨some 6, (.mv (.t 18)), none⟩]
 [] [8, 18])
 .ret)))⟩
def loc164 : List Nat := []
def fg164 : List (Nat × List Nat) := [(2, [8, 18]), (1, [0, 1, 2, 7, 9, 10, 11, 12, 13, 14, 15, 16, 17]), (0, [6])]
theorem comp164 : compFn Try.prog loc164 (fun i => (fg164.lookup i).getD []) Try.f164 = some lit164 := by kernel_rfl

-- math/bits.Div64
def lit165 : AFn := ⟨3, [.tmp 6, .tmp 7],
 (.seq
 (.ops [⟨some 6, (.mv (.c (.int .u64 (0)))), none⟩,
 ⟨some 7, (.mv (.c (.int .u64 (0)))), none⟩]
 [] [6, 7])
 (.seq
 (.seq
 (.ops [⟨some 19, (.mv (.t 2)), none⟩,
 ⟨some 20, (.bin .eql (.t 19) (.c (.int .u64 (0)))), none⟩]
 [] [19])
 (.cond (.t 20)
 (.ops [⟨some 21, (.load false 1 (.g 0)), none⟩,
 ⟨none, .bad, none⟩]
 [] [20, 21])
 .skip))
 (.seq
 (.seq
 (.ops [⟨some 22, (.mv (.t 2)), none⟩,
 ⟨some 23, (.mv (.t 0)), none⟩,
 ⟨some 24, (.bin .leq (.t 22) (.t 23)), none⟩]
 [] [20, 22, 23])
 (.cond (.t 24)
 (.ops [⟨some 25, (.load false 1 (.g 1)), none⟩,
 ⟨none, .bad, none⟩]
 [] [24, 25])
 .skip))
 (.seq
 (.seq
 (.ops [⟨some 26, (.mv (.t 0)), none⟩,
 ⟨some 27, (.bin .eql (.t 26) (.c (.int .u64 (0)))), none⟩]
 [] [24, 26])
 (.cond (.t 27)
 (.seq
 (.ops [⟨some 28, (.mv (.t 1)), none⟩,
 ⟨some 29, (.mv (.t 2)), none⟩,
 ⟨some 30, (.bin .quo (.t 28) (.t 29)), none⟩,
 ⟨some 31, (.mv (.t 1)), none⟩,
 ⟨some 32, (.mv (.t 2)), none⟩,
 ⟨some 33, (.bin .rem (.t 31) (.t 32)), none⟩,
 ⟨some 6, (.mv (.t 30)), none⟩,
 ⟨some 7, (.mv (.t 33)), none⟩]
 [(0, 1), (0, 3), (1, 3), (2, 3), (0, 4), (1, 4), (2, 4), (3, 4), (0, 5), (1, 5), (2, 5), (3, 6), (4, 6), (5, 6)] [0, 1, 2, 27, 28, 29, 30, 31, 32, 33])
 .ret)
 .skip))
 (.seq
 (.ops [⟨some 34, (.mv (.t 2)), none⟩,
 ⟨some 35, (.call (.f 235) [(.t 34)]), none⟩,
 ⟨some 36, (.conv .u64 (.t 35)), none⟩,
 ⟨some 8, (.mv (.t 36)), none⟩]
 [] [27, 34, 35, 36])
 (.seq
 (.ops [⟨some 37, (.mv (.t 2)), none⟩,
 ⟨some 38, (.mv (.t 8)), none⟩,
 ⟨some 39, (.bin .shl (.t 37) (.t 38)), none⟩,
 ⟨some 2, (.mv (.t 39)), none⟩]
 [] [37, 38, 39])
 (.seq
 (.ops [⟨some 40, (.mv (.t 2)), none⟩,
 ⟨some 41, (.bin .shr (.t 40) (.c (.int .u64 (32)))), none⟩,
 ⟨some 9, (.mv (.t 41)), none⟩]
 [] [40, 41])
 (.seq
 (.ops [⟨some 42, (.mv (.t 2)), none⟩,
 ⟨some 43, (.bin .and (.t 42) (.c (.int .u64 (4294967295)))), none⟩,
 ⟨some 10, (.mv (.t 43)), none⟩]
 [] [42, 43])
 (.seq
 (.ops [⟨some 44, (.mv (.t 0)), none⟩,
 ⟨some 45, (.mv (.t 8)), none⟩,
 ⟨some 46, (.bin .shl (.t 44) (.t 45)), none⟩,
 ⟨some 47, (.mv (.t 1)), none⟩,
 ⟨some 48, (.mv (.t 8)), none⟩,
 ⟨some 49, (.bin .sub (.c (.int .u64 (64))) (.t 48)), none⟩,
 ⟨some 50, (.bin .shr (.t 47) (.t 49)), none⟩,
 ⟨some 51, (.bin .or (.t 46) (.t 50)), none⟩,
 ⟨some 11, (.mv (.t 51)), none⟩]
 [] [0, 44, 45, 46, 47, 48, 49, 50, 51])
 (.seq
 (.ops [⟨some 52, (.mv (.t 1)), none⟩,
 ⟨some 53, (.mv (.t 8)), none⟩,
 ⟨some 54, (.bin .shl (.t 52) (.t 53)), none⟩,
 ⟨some 12, (.mv (.t 54)), none⟩]
 [] [1, 52, 53, 54])
 (.seq
 (.ops [⟨some 55, (.mv (.t 12)), none⟩,
 ⟨some 56, (.bin .shr (.t 55) (.c (.int .u64 (32)))), none⟩,
 ⟨some 13, (.mv (.t 56)), none⟩]
 [] [55, 56])
 (.seq
 (.ops [⟨some 57, (.mv (.t 12)), none⟩,
 ⟨some 58, (.bin .and (.t 57) (.c (.int .u64 (4294967295)))), none⟩,
 ⟨some 14, (.mv (.t 58)), none⟩]
 [] [12, 57, 58])
 (.seq
 (.ops [⟨some 59, (.mv (.t 11)), none⟩,
 ⟨some 60, (.mv (.t 9)), none⟩,
 ⟨some 61, (.bin .quo (.t 59) (.t 60)), none⟩,
 ⟨some 15, (.mv (.t 61)), none⟩]
 [] [59, 60, 61])
 (.seq
 (.ops [⟨some 62, (.mv (.t 11)), none⟩,
 ⟨some 63, (.mv (.t 15)), none⟩,
 ⟨some 64, (.mv (.t 9)), none⟩,
 ⟨some 65, (.bin .mul (.t 63) (.t 64)), none⟩,
 ⟨some 66, (.bin .sub (.t 62) (.t 65)), none⟩,
 ⟨some 16, (.mv (.t 66)), none⟩]
 [] [62, 63, 64, 65, 66])
 (.seq
 (.block 0
 (.loop
 (.seq
 (.seq
 (.ops [⟨some 67, (.mv (.t 15)), none⟩,
 ⟨some 68, (.bin .geq (.t 67) (.c (.int .u64 (4294967296)))), none⟩,
 ⟨some 69, (.mv (.t 68)), none⟩,
 ⟨some 70, (.mv (.t 15)), some (69, false)⟩,
 ⟨some 71, (.mv (.t 10)), some (69, false)⟩,
 ⟨some 72, (.bin .mul (.t 70) (.t 71)), some (69, false)⟩,
 ⟨some 73, (.mv (.t 16)), some (69, false)⟩,
 ⟨some 74, (.bin .mul (.c (.int .u64 (4294967296))) (.t 73)), some (69, false)⟩,
 ⟨some 75, (.mv (.t 13)), some (69, false)⟩,
 ⟨some 76, (.bin .add (.t 74) (.t 75)), some (69, false)⟩,
 ⟨some 77, (.bin .gtr (.t 72) (.t 76)), some (69, false)⟩,
 ⟨some 78, (.pick (.t 69) (.c (.bool true)) (.t 77)), none⟩]
 [] [85])
 (.cond (.t 78)
 .skip
 (.exit 0)))
 (.block 1
 (.seq
 (.ops [⟨some 79, (.mv (.t 15)), none⟩,
 ⟨some 80, (.bin .sub (.t 79) (.c (.int .u64 (1)))), none⟩,
 ⟨some 15, (.mv (.t 80)), none⟩]
 [] [78])
 (.seq
 (.ops [⟨some 81, (.mv (.t 16)), none⟩,
 ⟨some 82, (.mv (.t 9)), none⟩,
 ⟨some 83, (.bin .add (.t 81) (.t 82)), none⟩,
 ⟨some 16, (.mv (.t 83)), none⟩]
 [] [])
 (.seq
 (.ops [⟨some 84, (.mv (.t 16)), none⟩,
 ⟨some 85, (.bin .geq (.t 84) (.c (.int .u64 (4294967296)))), none⟩]
 [] [])
 (.cond (.t 85)
 (.exit 0)
 .skip))))))))
 (.seq
 (.ops [⟨some 86, (.mv (.t 11)), none⟩,
 ⟨some 87, (.bin .mul (.t 86) (.c (.int .u64 (4294967296)))), none⟩,
 ⟨some 88, (.mv (.t 13)), none⟩,
 ⟨some 89, (.bin .add (.t 87) (.t 88)), none⟩,
 ⟨some 90, (.mv (.t 15)), none⟩,
 ⟨some 91, (.mv (.t 2)), none⟩,
 ⟨some 92, (.bin .mul (.t 90) (.t 91)), none⟩,
 ⟨some 93, (.bin .sub (.t 89) (.t 92)), none⟩,
 ⟨some 17, (.mv (.t 93)), none⟩]
 [] [11, 13, 16, 67, 68, 69, 70, 71, 72, 73, 74, 75, 76, 77, 78, 79, 80, 81, 82, 83, 84, 85, 86, 87, 88, 89, 90, 91, 92, 93])
 (.seq
 (.ops [⟨some 94, (.mv (.t 17)), none⟩,
 ⟨some 95, (.mv (.t 9)), none⟩,
 ⟨some 96, (.bin .quo (.t 94) (.t 95)), none⟩,
 ⟨some 18, (.mv (.t 96)), none⟩]
 [] [94, 95, 96])
 (.seq
 (.ops [⟨some 97, (.mv (.t 17)), none⟩,
 ⟨some 98, (.mv (.t 18)), none⟩,
 ⟨some 99, (.mv (.t 9)), none⟩,
 ⟨some 100, (.bin .mul (.t 98) (.t 99)), none⟩,
 ⟨some 101, (.bin .sub (.t 97) (.t 100)), none⟩,
 ⟨some 16, (.mv (.t 101)), none⟩]
 [] [97, 98, 99, 100, 101])
 (.seq
 (.block 2
 (.loop
 (.seq
 (.seq
 (.ops [⟨some 102, (.mv (.t 18)), none⟩,
 ⟨some 103, (.bin .geq (.t 102) (.c (.int .u64 (4294967296)))), none⟩,
 ⟨some 104, (.mv (.t 103)), none⟩,
 ⟨some 105, (.mv (.t 18)), some (104, false)⟩,
 ⟨some 106, (.mv (.t 10)), some (104, false)⟩,
 ⟨some 107, (.bin .mul (.t 105) (.t 106)), some (104, false)⟩,
 ⟨some 108, (.mv (.t 16)), some (104, false)⟩,
 ⟨some 109, (.bin .mul (.c (.int .u64 (4294967296))) (.t 108)), some (104, false)⟩,
 ⟨some 110, (.mv (.t 14)), some (104, false)⟩,
 ⟨some 111, (.bin .add (.t 109) (.t 110)), some (104, false)⟩,
 ⟨some 112, (.bin .gtr (.t 107) (.t 111)), some (104, false)⟩,
 ⟨some 113, (.pick (.t 104) (.c (.bool true)) (.t 112)), none⟩]
 [] [120])
 (.cond (.t 113)
 .skip
 (.exit 2)))
 (.block 3
 (.seq
 (.ops [⟨some 114, (.mv (.t 18)), none⟩,
 ⟨some 115, (.bin .sub (.t 114) (.c (.int .u64 (1)))), none⟩,
 ⟨some 18, (.mv (.t 115)), none⟩]
 [] [113])
 (.seq
 (.ops [⟨some 116, (.mv (.t 16)), none⟩,
 ⟨some 117, (.mv (.t 9)), none⟩,
 ⟨some 118, (.bin .add (.t 116) (.t 117)), none⟩,
 ⟨some 16, (.mv (.t 118)), none⟩]
 [] [])
 (.seq
 (.ops [⟨some 119, (.mv (.t 16)), none⟩,
 ⟨some 120, (.bin .geq (.t 119) (.c (.int .u64 (4294967296)))), none⟩]
 [] [])
 (.cond (.t 120)
 (.exit 2)
 .skip))))))))
 (.seq
 (.ops [⟨some 121, (.mv (.t 15)), none⟩,
 ⟨some 122, (.bin .mul (.t 121) (.c (.int .u64 (4294967296)))), none⟩,
 ⟨some 123, (.mv (.t 18)), none⟩,
 ⟨some 124, (.bin .add (.t 122) (.t 123)), none⟩,
 ⟨some 125, (.mv (.t 17)), none⟩,
 ⟨some 126, (.bin .mul (.t 125) (.c (.int .u64 (4294967296)))), none⟩,
 ⟨some 127, (.mv (.t 14)), none⟩,
 ⟨some 128, (.bin .add (.t 126) (.t 127)), none⟩,
 ⟨some 129, (.mv (.t 18)), none⟩,
 ⟨some 130, (.mv (.t 2)), none⟩,
 ⟨some 131, (.bin .mul (.t 129) (.t 130)), none⟩,
 ⟨some 132, (.bin .sub (.t 128) (.t 131)), none⟩,
 ⟨some 133, (.mv (.t 8)), none⟩,
 ⟨some 134, (.bin .shr (.t 132) (.t 133)), none⟩,
 ⟨some 6, (.mv (.t 124)), none⟩,
 ⟨some 7, (.mv (.t 134)), none⟩]
 [] [2, 8, 9, 10, 14, 15, 16, 17, 18, 102, 103, 104, 105, 106, 107, 108, 109, 110, 111, 112, 113, 114, 115, 116, 117, 118, 119, 120, 121, 122, 123, 124, 125, 126, 127, 128, 129, 130, 131, 132, 133, 134])
 .ret))))))))))))))))))))⟩
def loc165 : List Nat := []
def fg165 : List (Nat × List Nat) := [(28, [2, 8, 9, 10, 14, 15, 16, 17, 18, 102, 103, 104, 105, 106, 107, 108, 109, 110, 111, 112, 113, 114, 115, 116, 117, 118, 119, 120, 121, 122, 123, 124, 125, 126, 127, 128, 129, 130, 131, 132, 133, 134]), (25, [113]), (24, [120]), (23, [97, 98, 99, 100, 101]), (22, [94, 95, 96]), (21, [11, 13, 16, 67, 68, 69, 70, 71, 72, 73, 74, 75, 76, 77, 78, 79, 80, 81, 82, 83, 84, 85, 86, 87, 88, 89, 90, 91, 92, 93]), (18, [78]), (17, [85]), (16, [62, 63, 64, 65, 66]), (15, [59, 60, 61]), (14, [12, 57, 58]), (13, [55, 56]), (12, [1, 52, 53, 54]), (11, [0, 44, 45, 46, 47, 48, 49, 50, 51]), (10, [42, 43]), (9, [40, 41]), (8, [37, 38, 39]), (7, [27, 34, 35, 36]), (6, [0, 1, 2, 27, 28, 29, 30, 31, 32, 33]), (5, [24, 26]), (4, [24, 25]), (3, [20, 22, 23]), (2, [20, 21]), (1, [19]), (0, [6, 7])]
theorem comp165 : compFn Try.prog loc165 (fun i => (fg165.lookup i).getD []) Try.f165 = some lit165 := by kernel_rfl

-- parcener/ask.copied
def lit166 : AFn := ⟨1, [.tmp 2],
 (.seq
 (.ops [⟨some 2, (.mv (.c .nils)), none⟩]
 [] [2])
 (.seq
 (.ops [⟨some 3, (.mv (.c .nils)), none⟩]
 [] [])
 (.seq
 (.seq
 (.ops [⟨some 6, (.mv (.t 0)), none⟩,
 ⟨some 7, (.len (.t 6)), none⟩,
 ⟨some 8, (.mv (.c (.int .i64 (0)))), none⟩]
 [] [0])
 (.block 0
 (.loop
 (.seq
 (.ops [⟨some 9, (.bin .lss (.t 8) (.t 7)), none⟩]
 [] [])
 (.seq
 (.cond (.t 9)
 .skip
 (.exit 0))
 (.seq
 (.block 1
 (.seq
 (.ops [⟨some 10, (.iad 3 (.t 6) (.t 8)), none⟩,
 ⟨some 11, (.load true 3 (.t 10)), none⟩,
 ⟨some 5, (.allocL (.agg [(.int .i64 (0)), .nils, .nils])), none⟩,
 ⟨none, (.store 3 (.t 5) (.t 11)), none⟩]
 [] [9])
 (.ops [⟨some 12, (.mv (.t 3)), none⟩,
 ⟨some 13, (.fad 0 (.t 5)), none⟩,
 ⟨some 14, (.load false 1 (.t 13)), none⟩,
 ⟨some 15, (.fad 1 (.t 5)), none⟩,
 ⟨some 16, (.load false 1 (.t 15)), none⟩,
 ⟨some 17, (.call (.f 236) [(.t 16)]), none⟩,
 ⟨some 18, (.fad 2 (.t 5)), none⟩,
 ⟨some 19, (.load false 1 (.t 18)), none⟩,
 ⟨some 20, (.call (.f 236) [(.t 19)]), none⟩,
 ⟨some 21, (.build [(.int .i64 (0)), .nils, .nils] [(0, 1, (.t 14)), (1, 1, (.t 17)), (2, 1, (.t 20))]), none⟩,
 ⟨some 22, (.buildD 3 (.agg [(.int .i64 (0)), (.data []), (.data [])]) 1 [(0, (.t 21))]), none⟩,
 ⟨some 23, (.app true 3 56 (.t 12) (.t 22)), none⟩,
 ⟨some 3, (.mv (.t 23)), none⟩]
 [(0, 1), (0, 2), (0, 3), (1, 3), (2, 3), (0, 4), (1, 4), (2, 4), (0, 5), (1, 5), (2, 5), (0, 6), (1, 6), (2, 6), (3, 6), (4, 6), (5, 6), (0, 7), (1, 7), (2, 7), (3, 7), (4, 7), (5, 7), (0, 8), (1, 8), (2, 8), (0, 9), (0, 10)] [])))
 (.ops [⟨some 24, (.bin .add (.t 8) (.c (.int .i64 (1)))), none⟩,
 ⟨some 8, (.mv (.t 24)), none⟩]
 [] [])))))))
 (.seq
 (.ops [⟨some 25, (.mv (.t 3)), none⟩,
 ⟨some 2, (.mv (.t 25)), none⟩]
 [] [3, 5, 6, 7, 8, 9, 10, 11, 12, 13, 14, 15, 16, 17, 18, 19, 20, 21, 22, 23, 24, 25])
 .ret))))⟩
def loc166 : List Nat := [22, 5]
def fg166 : List (Nat × List Nat) := [(7, [3, 5, 6, 7, 8, 9, 10, 11, 12, 13, 14, 15, 16, 17, 18, 19, 20, 21, 22, 23, 24, 25]), (4, [9]), (2, [0]), (0, [2])]
theorem comp166 : compFn Try.prog loc166 (fun i => (fg166.lookup i).getD []) Try.f166 = some lit166 := by kernel_rfl

-- (parcener/ask.office).ask
def lit167 : AFn := ⟨3, [.cell 6 true 2, .cell 7 true 2, .tmp 8],
 (.seq
 (.ops [⟨some 3, (.boxL (.t 0)), none⟩,
 ⟨some 4, (.boxL (.t 1)), none⟩,
 ⟨some 6, (.allocL (.agg [.nils, .nils])), none⟩,
 ⟨some 7, (.allocL (.agg [(.int .i64 (0)), (.int .i64 (0))])), none⟩,
 ⟨some 8, (.mv (.c (.int .i64 (0)))), none⟩]
 [] [0, 1, 8])
 (.seq
 (.seq
 (.ops [⟨some 13, (.fad 0 (.t 3)), none⟩,
 ⟨some 14, (.load true 2 (.t 13)), none⟩,
 ⟨some 15, (.call (.f 79) [(.t 14)]), none⟩,
 ⟨some 9, (.mv (.t 15)), none⟩]
 [] [13, 14, 15])
 (.seq
 (.ops [⟨some 16, (.mv (.t 9)), none⟩,
 ⟨some 17, (.bin .neq (.t 16) (.c (.int .i64 (0)))), none⟩]
 [] [16])
 (.cond (.t 17)
 (.seq
 (.ops [⟨some 18, (.build [.nils, .nils] []), none⟩,
 ⟨some 19, (.build [(.int .i64 (0)), (.int .i64 (0))] []), none⟩,
 ⟨some 20, (.mv (.t 9)), none⟩,
 ⟨none, (.store 2 (.t 6) (.t 18)), none⟩,
 ⟨none, (.store 2 (.t 7) (.t 19)), none⟩,
 ⟨some 8, (.mv (.t 20)), none⟩]
 [] [2, 3, 4, 9, 17, 18, 19, 20])
 .ret)
 .skip)))
 (.seq
 (.seq
 (.ops [⟨some 21, (.load true 2 (.t 3)), none⟩,
 ⟨some 22, (.fad 0 (.t 4)), none⟩,
 ⟨some 23, (.load false 1 (.t 22)), none⟩,
 ⟨some 24, (.call (.f 237) [(.t 21), (.t 23)]), none⟩,
 ⟨some 25, (.un .not (.t 24)), none⟩]
 [] [9, 17, 21, 22, 23, 24])
 (.cond (.t 25)
 (.seq
 (.ops [⟨some 26, (.build [.nils, .nils] []), none⟩,
 ⟨some 27, (.build [(.int .i64 (0)), (.int .i64 (0))] []), none⟩,
 ⟨none, (.store 2 (.t 6) (.t 26)), none⟩,
 ⟨none, (.store 2 (.t 7) (.t 27)), none⟩,
 ⟨some 8, (.mv (.c (.int .i64 (2)))), none⟩]
 [] [2, 3, 4, 25, 26, 27])
 .ret)
 .skip))
 (.seq
 (.ops [⟨some 29, (.mv (.t 2)), none⟩,
 ⟨some 30, (.fad 0 (.t 4)), none⟩,
 ⟨some 31, (.load false 1 (.t 30)), none⟩,
 ⟨some 32, (.fad 2 (.t 4)), none⟩,
 ⟨some 33, (.load true 2 (.t 32)), none⟩,
 ⟨some 34, (.fad 4 (.t 4)), none⟩,
 ⟨some 35, (.load true 2 (.t 34)), none⟩,
 ⟨some 36, (.call (.t 29) [(.t 31), (.t 33), (.t 35)]), none⟩,
 ⟨some 28, (.mv (.t 36)), none⟩,
 ⟨some 37, (.ext (.t 28) 0), none⟩,
 ⟨some 38, (.ext (.t 28) 1), none⟩,
 ⟨some 10, (.allocL (.agg [(.int .i64 (0)), (.int .i64 (0))])), none⟩,
 ⟨none, (.store 2 (.t 10) (.t 37)), none⟩,
 ⟨some 11, (.mv (.t 38)), none⟩]
 [] [2, 25, 28, 29, 30, 31, 32, 33, 34, 35, 36, 37, 38])
 (.seq
 (.seq
 (.ops [⟨some 39, (.mv (.t 11)), none⟩,
 ⟨some 40, (.bin .neq (.t 39) (.c (.int .i64 (0)))), none⟩]
 [] [39])
 (.cond (.t 40)
 (.seq
 (.ops [⟨some 41, (.build [.nils, .nils] []), none⟩,
 ⟨some 42, (.build [(.int .i64 (0)), (.int .i64 (0))] []), none⟩,
 ⟨some 43, (.mv (.t 11)), none⟩,
 ⟨none, (.store 2 (.t 6) (.t 41)), none⟩,
 ⟨none, (.store 2 (.t 7) (.t 42)), none⟩,
 ⟨some 8, (.mv (.t 43)), none⟩]
 [] [3, 4, 10, 11, 40, 41, 42, 43])
 .ret)
 .skip))
 (.seq
 (.seq
 (.ops [⟨some 44, (.fad 0 (.t 3)), none⟩,
 ⟨some 45, (.fad 1 (.t 44)), none⟩,
 ⟨some 46, (.load false 1 (.t 45)), none⟩,
 ⟨some 47, (.len (.t 46)), none⟩,
 ⟨some 48, (.bin .geq (.t 47) (.c (.int .i64 (2000)))), none⟩]
 [] [11, 40, 44, 45, 46, 47])
 (.cond (.t 48)
 (.seq
 (.ops [⟨some 49, (.build [.nils, .nils] []), none⟩,
 ⟨some 50, (.build [(.int .i64 (0)), (.int .i64 (0))] []), none⟩,
 ⟨none, (.store 2 (.t 6) (.t 49)), none⟩,
 ⟨none, (.store 2 (.t 7) (.t 50)), none⟩,
 ⟨some 8, (.mv (.c (.int .i64 (4)))), none⟩]
 [] [3, 4, 10, 48, 49, 50])
 .ret)
 .skip))
 (.seq
 (.ops [⟨some 51, (.load true 2 (.t 10)), none⟩,
 ⟨some 52, (.fad 6 (.t 4)), none⟩,
 ⟨none, (.store 2 (.t 52) (.t 51)), none⟩]
 [] [48, 51, 52])
 (.seq
 (.ops [⟨some 53, (.fad 0 (.t 3)), none⟩,
 ⟨some 54, (.fad 1 (.t 53)), none⟩,
 ⟨some 55, (.load false 1 (.t 54)), none⟩,
 ⟨some 56, (.len (.t 55)), none⟩,
 ⟨some 57, (.bin .add (.t 56) (.c (.int .i64 (1)))), none⟩,
 ⟨some 58, (.mkSl true 8 64 (.agg [(.int .i64 (0)), (.int .u8 (0)), (.int .i64 (0)), (.int .i64 (0)), (.int .i64 (0)), (.int .i64 (0)), (.int .i64 (0)), (.int .i64 (0))]) (.c (.int .i64 (0))) (.t 57)), none⟩,
 ⟨some 12, (.mv (.t 58)), none⟩]
 [] [53, 54, 55, 56, 57, 58])
 (.seq
 (.ops [⟨some 59, (.fad 0 (.t 3)), none⟩,
 ⟨some 60, (.fad 0 (.t 59)), none⟩,
 ⟨some 61, (.load false 1 (.t 60)), none⟩,
 ⟨some 62, (.call (.f 166) [(.t 61)]), none⟩,
 ⟨some 63, (.mv (.t 12)), none⟩,
 ⟨some 64, (.fad 0 (.t 3)), none⟩,
 ⟨some 65, (.fad 1 (.t 64)), none⟩,
 ⟨some 66, (.load false 1 (.t 65)), none⟩,
 ⟨some 67, (.app true 8 64 (.t 63) (.t 66)), none⟩,
 ⟨some 68, (.load true 8 (.t 4)), none⟩,
 ⟨some 69, (.buildD 8 (.agg [(.int .i64 (0)), (.int .u8 (0)), (.int .i64 (0)), (.int .i64 (0)), (.int .i64 (0)), (.int .i64 (0)), (.int .i64 (0)), (.int .i64 (0))]) 1 [(0, (.t 68))]), none⟩,
 ⟨some 70, (.app true 8 64 (.t 67) (.t 69)), none⟩,
 ⟨some 71, (.build [.nils, .nils] [(0, 1, (.t 62)), (1, 1, (.t 70))]), none⟩,
 ⟨some 72, (.load true 2 (.t 10)), none⟩,
 ⟨none, (.store 2 (.t 6) (.t 71)), none⟩,
 ⟨none, (.store 2 (.t 7) (.t 72)), none⟩,
 ⟨some 8, (.mv (.c (.int .i64 (0)))), none⟩]
 [(0, 4), (1, 4), (2, 4), (3, 4), (0, 5), (1, 5), (2, 5), (3, 5), (4, 5), (0, 6), (1, 6), (2, 6), (3, 6), (4, 6), (0, 7), (1, 7), (2, 7), (3, 7), (4, 7), (0, 9), (1, 9), (2, 9), (3, 9), (4, 9), (5, 9), (6, 9), (7, 9), (8, 9), (0, 10), (1, 10), (2, 10), (3, 10), (4, 10), (5, 10), (6, 10), (7, 10), (8, 10), (0, 13), (1, 13), (2, 13), (3, 13), (4, 13), (5, 13), (6, 13), (7, 13), (8, 13), (9, 13), (10, 13), (11, 13), (12, 13), (13, 14)] [3, 4, 10, 12, 59, 60, 61, 62, 63, 64, 65, 66, 67, 68, 69, 70, 71, 72])
 .ret)))))))))⟩
def loc167 : List Nat := [69, 3, 4, 6, 7, 10]
def fg167 : List (Nat × List Nat) := [(13, [3, 4, 10, 12, 59, 60, 61, 62, 63, 64, 65, 66, 67, 68, 69, 70, 71, 72]), (12, [53, 54, 55, 56, 57, 58]), (11, [48, 51, 52]), (10, [3, 4, 10, 48, 49, 50]), (9, [11, 40, 44, 45, 46, 47]), (8, [3, 4, 10, 11, 40, 41, 42, 43]), (7, [39]), (6, [2, 25, 28, 29, 30, 31, 32, 33, 34, 35, 36, 37, 38]), (5, [2, 3, 4, 25, 26, 27]), (4, [9, 17, 21, 22, 23, 24]), (3, [2, 3, 4, 9, 17, 18, 19, 20]), (2, [16]), (1, [13, 14, 15]), (0, [0, 1, 8])]
theorem comp167 : compFn Try.prog loc167 (fun i => (fg167.lookup i).getD []) Try.f167 = some lit167 := by kernel_rfl

-- (parcener/ask.office).mark
def lit168 : AFn := ⟨4, [.cell 8 true 2, .tmp 9],
 (.seq
 (.ops [⟨some 4, (.boxL (.t 0)), none⟩,
 ⟨some 6, (.boxL (.t 2)), none⟩,
 ⟨some 7, (.boxL (.t 3)), none⟩,
 ⟨some 8, (.allocL (.agg [(.int .i64 (0)), (.int .i64 (0))])), none⟩,
 ⟨some 9, (.mv (.c (.int .i64 (0)))), none⟩]
 [] [0, 2, 3, 9])
 (.seq
 (.ops [⟨some 10, (.fad 0 (.t 4)), none⟩,
 ⟨some 11, (.fad 0 (.t 10)), none⟩,
 ⟨some 12, (.load false 1 (.t 11)), none⟩,
 ⟨some 13, (.mv (.t 1)), none⟩,
 ⟨some 14, (.iad 3 (.t 12) (.t 13)), none⟩,
 ⟨some 15, (.load true 3 (.t 14)), none⟩,
 ⟨some 16, (.load true 2 (.t 6)), none⟩,
 ⟨some 17, (.load true 2 (.t 7)), none⟩,
 ⟨some 18, (.call (.f 93) [(.t 15), (.t 16), (.t 17)]), none⟩,
 ⟨some 19, (.ext (.t 18) 0), none⟩,
 ⟨some 20, (.ext (.t 18) 1), none⟩,
 ⟨none, (.store 2 (.t 8) (.t 19)), none⟩,
 ⟨some 9, (.mv (.t 20)), none⟩]
 [(0, 3), (1, 3), (2, 3), (0, 6), (1, 6), (2, 6), (3, 6), (4, 6), (5, 6), (0, 7), (1, 7), (2, 7), (3, 7), (4, 7), (5, 7), (6, 7), (9, 10)] [1, 4, 6, 7, 10, 11, 12, 13, 14, 15, 16, 17, 18, 19, 20])
 .ret))⟩
def loc168 : List Nat := [4, 6, 7, 8]
def fg168 : List (Nat × List Nat) := [(1, [1, 4, 6, 7, 10, 11, 12, 13, 14, 15, 16, 17, 18, 19, 20]), (0, [0, 2, 3, 9])]
theorem comp168 : compFn Try.prog loc168 (fun i => (fg168.lookup i).getD []) Try.f168 = some lit168 := by kernel_rfl

-- slices.Min[[]int,int]
def lit169 : AFn := ⟨1, [.tmp 2],
 (.seq
 (.ops [⟨some 2, (.mv (.c (.int .i64 (0)))), none⟩]
 [] [2])
 (.seq
 (.seq
 (.ops [⟨some 5, (.mv (.t 0)), none⟩,
 ⟨some 6, (.len (.t 5)), none⟩,
 ⟨some 7, (.bin .lss (.t 6) (.c (.int .i64 (1)))), none⟩]
 [] [5, 6])
 (.cond (.t 7)
 (.ops [⟨some 8, .bad, none⟩,
 ⟨none, .bad, none⟩]
 [] [7, 8])
 .skip))
 (.seq
 (.ops [⟨some 9, (.mv (.t 0)), none⟩,
 ⟨some 10, (.iad 1 (.t 9) (.c (.int .i64 (0)))), none⟩,
 ⟨some 11, (.load false 1 (.t 10)), none⟩,
 ⟨some 3, (.mv (.t 11)), none⟩]
 [] [7, 9, 10, 11])
 (.seq
 (.seq
 (.ops [⟨some 4, (.mv (.c (.int .i64 (1)))), none⟩]
 [] [])
 (.block 0
 (.loop
 (.seq
 (.seq
 (.ops [⟨some 12, (.mv (.t 4)), none⟩,
 ⟨some 13, (.mv (.t 0)), none⟩,
 ⟨some 14, (.len (.t 13)), none⟩,
 ⟨some 15, (.bin .lss (.t 12) (.t 14)), none⟩]
 [] [])
 (.cond (.t 15)
 .skip
 (.exit 0)))
 (.seq
 (.block 1
 (.ops [⟨some 18, (.mv (.t 3)), none⟩,
 ⟨some 19, (.mv (.t 0)), none⟩,
 ⟨some 20, (.mv (.t 4)), none⟩,
 ⟨some 21, (.iad 1 (.t 19) (.t 20)), none⟩,
 ⟨some 22, (.load false 1 (.t 21)), none⟩,
 ⟨some 23, (.minmax false [(.t 18), (.t 22)]), none⟩,
 ⟨some 3, (.mv (.t 23)), none⟩]
 [] [15]))
 (.ops [⟨some 16, (.mv (.t 4)), none⟩,
 ⟨some 17, (.bin .add (.t 16) (.c (.int .i64 (1)))), none⟩,
 ⟨some 4, (.mv (.t 17)), none⟩]
 [] []))))))
 (.seq
 (.ops [⟨some 24, (.mv (.t 3)), none⟩,
 ⟨some 2, (.mv (.t 24)), none⟩]
 [] [0, 3, 4, 12, 13, 14, 15, 16, 17, 18, 19, 20, 21, 22, 23, 24])
 .ret)))))⟩
def loc169 : List Nat := []
def fg169 : List (Nat × List Nat) := [(8, [0, 3, 4, 12, 13, 14, 15, 16, 17, 18, 19, 20, 21, 22, 23, 24]), (7, [15]), (3, [7, 9, 10, 11]), (2, [7, 8]), (1, [5, 6]), (0, [2])]
theorem comp169 : compFn Try.prog loc169 (fun i => (fg169.lookup i).getD []) Try.f169 = some lit169 := by kernel_rfl

-- slices.Max[[]int,int]
def lit170 : AFn := ⟨1, [.tmp 2],
 (.seq
 (.ops [⟨some 2, (.mv (.c (.int .i64 (0)))), none⟩]
 [] [2])
 (.seq
 (.seq
 (.ops [⟨some 5, (.mv (.t 0)), none⟩,
 ⟨some 6, (.len (.t 5)), none⟩,
 ⟨some 7, (.bin .lss (.t 6) (.c (.int .i64 (1)))), none⟩]
 [] [5, 6])
 (.cond (.t 7)
 (.ops [⟨some 8, .bad, none⟩,
 ⟨none, .bad, none⟩]
 [] [7, 8])
 .skip))
 (.seq
 (.ops [⟨some 9, (.mv (.t 0)), none⟩,
 ⟨some 10, (.iad 1 (.t 9) (.c (.int .i64 (0)))), none⟩,
 ⟨some 11, (.load false 1 (.t 10)), none⟩,
 ⟨some 3, (.mv (.t 11)), none⟩]
 [] [7, 9, 10, 11])
 (.seq
 (.seq
 (.ops [⟨some 4, (.mv (.c (.int .i64 (1)))), none⟩]
 [] [])
 (.block 0
 (.loop
 (.seq
 (.seq
 (.ops [⟨some 12, (.mv (.t 4)), none⟩,
 ⟨some 13, (.mv (.t 0)), none⟩,
 ⟨some 14, (.len (.t 13)), none⟩,
 ⟨some 15, (.bin .lss (.t 12) (.t 14)), none⟩]
 [] [])
 (.cond (.t 15)
 .skip
 (.exit 0)))
 (.seq
 (.block 1
 (.ops [⟨some 18, (.mv (.t 3)), none⟩,
 ⟨some 19, (.mv (.t 0)), none⟩,
 ⟨some 20, (.mv (.t 4)), none⟩,
 ⟨some 21, (.iad 1 (.t 19) (.t 20)), none⟩,
 ⟨some 22, (.load false 1 (.t 21)), none⟩,
 ⟨some 23, (.minmax true [(.t 18), (.t 22)]), none⟩,
 ⟨some 3, (.mv (.t 23)), none⟩]
 [] [15]))
 (.ops [⟨some 16, (.mv (.t 4)), none⟩,
 ⟨some 17, (.bin .add (.t 16) (.c (.int .i64 (1)))), none⟩,
 ⟨some 4, (.mv (.t 17)), none⟩]
 [] []))))))
 (.seq
 (.ops [⟨some 24, (.mv (.t 3)), none⟩,
 ⟨some 2, (.mv (.t 24)), none⟩]
 [] [0, 3, 4, 12, 13, 14, 15, 16, 17, 18, 19, 20, 21, 22, 23, 24])
 .ret)))))⟩
def loc170 : List Nat := []
def fg170 : List (Nat × List Nat) := [(8, [0, 3, 4, 12, 13, 14, 15, 16, 17, 18, 19, 20, 21, 22, 23, 24]), (7, [15]), (3, [7, 9, 10, 11]), (2, [7, 8]), (1, [5, 6]), (0, [2])]
theorem comp170 : compFn Try.prog loc170 (fun i => (fg170.lookup i).getD []) Try.f170 = some lit170 := by kernel_rfl

-- parcener/cake.point
def lit171 : AFn := ⟨2, [.tmp 4],
 (.seq
 (.ops [⟨some 2, (.boxL (.t 0)), none⟩,
 ⟨some 3, (.boxL (.t 1)), none⟩,
 ⟨some 4, (.mv (.c (.bool false))), none⟩]
 [] [0, 1, 4])
 (.seq
 (.ops [⟨some 5, (.load true 2 (.t 3)), none⟩,
 ⟨some 6, (.call (.f 95) [(.t 5)]), none⟩,
 ⟨some 7, (.bin .eql (.t 6) (.c (.int .i64 (0)))), none⟩,
 ⟨some 8, (.mv (.t 7)), none⟩,
 ⟨some 9, (.fad 0 (.t 3)), some (8, true)⟩,
 ⟨some 10, (.load false 1 (.t 9)), some (8, true)⟩,
 ⟨some 11, (.bin .geq (.t 10) (.c (.int .i64 (0)))), some (8, true)⟩,
 ⟨some 12, (.pick (.t 8) (.t 11) (.c (.bool false))), none⟩,
 ⟨some 13, (.mv (.t 12)), none⟩,
 ⟨some 14, (.fad 0 (.t 2)), some (13, true)⟩,
 ⟨some 15, (.load false 1 (.t 14)), some (13, true)⟩,
 ⟨some 16, (.call (.f 175) [(.t 15)]), some (13, true)⟩,
 ⟨some 17, (.load true 2 (.t 3)), some (13, true)⟩,
 ⟨some 18, (.call (.f 174) [(.t 16), (.t 17)]), some (13, true)⟩,
 ⟨some 19, (.un .not (.t 18)), some (13, true)⟩,
 ⟨some 20, (.pick (.t 13) (.t 19) (.c (.bool false))), none⟩,
 ⟨some 4, (.mv (.t 20)), none⟩]
 [(9, 12), (10, 12), (11, 12)] [2, 3, 5, 6, 7, 8, 9, 10, 11, 12, 13, 14, 15, 16, 17, 18, 19, 20])
 .ret))⟩
def loc171 : List Nat := [2, 3]
def fg171 : List (Nat × List Nat) := [(1, [2, 3, 5, 6, 7, 8, 9, 10, 11, 12, 13, 14, 15, 16, 17, 18, 19, 20]), (0, [0, 1, 4])]
theorem comp171 : compFn Try.prog loc171 (fun i => (fg171.lookup i).getD []) Try.f171 = some lit171 := by kernel_rfl

-- parcener/cake.walk
def lit172 : AFn := ⟨3, [.tmp 6],
 (.seq
 (.ops [⟨some 3, (.boxL (.t 0)), none⟩,
 ⟨some 4, (.boxL (.t 1)), none⟩,
 ⟨some 6, (.mv (.c (.int .i64 (0)))), none⟩]
 [] [0, 1, 6])
 (.seq
 (.seq
 (.ops [⟨some 13, (.fad 2 (.t 3)), none⟩,
 ⟨some 14, (.load false 1 (.t 13)), none⟩,
 ⟨some 15, (.len (.t 14)), none⟩,
 ⟨some 16, (.mv (.c (.int .i64 (0)))), none⟩]
 [] [13])
 (.block 0
 (.loop
 (.seq
 (.ops [⟨some 17, (.bin .lss (.t 16) (.t 15)), none⟩]
 [] [])
 (.seq
 (.cond (.t 17)
 .skip
 (.exit 0))
 (.seq
 (.block 1
 (.seq
 (.ops [⟨some 18, (.mv (.t 16)), none⟩,
 ⟨some 19, (.iad 1 (.t 14) (.t 16)), none⟩,
 ⟨some 20, (.load false 1 (.t 19)), none⟩,
 ⟨some 7, (.mv (.t 18)), none⟩,
 ⟨some 8, (.mv (.t 20)), none⟩]
 [] [17])
 (.seq
 (.ops [⟨some 21, (.fad 1 (.t 3)), none⟩,
 ⟨some 22, (.load false 1 (.t 21)), none⟩,
 ⟨some 23, (.mv (.t 7)), none⟩,
 ⟨some 24, (.bin .add (.t 23) (.c (.int .i64 (1)))), none⟩,
 ⟨some 25, (.iad 1 (.t 22) (.t 24)), none⟩,
 ⟨some 26, (.load false 1 (.t 25)), none⟩,
 ⟨some 27, (.call (.f 175) [(.t 26)]), none⟩,
 ⟨some 9, (.allocL (.agg [(.int .i64 (0)), (.int .i64 (0))])), none⟩,
 ⟨none, (.store 2 (.t 9) (.t 27)), none⟩]
 [] [7])
 (.seq
 (.seq
 (.ops [⟨some 28, (.load true 2 (.t 4)), none⟩,
 ⟨some 29, (.load true 2 (.t 9)), none⟩,
 ⟨some 30, (.call (.f 174) [(.t 28), (.t 29)]), none⟩,
 ⟨some 31, (.un .not (.t 30)), none⟩]
 [] [])
 (.cond (.t 31)
 (.exit 1)
 .skip))
 (.seq
 (.ops [⟨some 32, (.call (.f 175) [(.c (.int .i64 (0)))]), none⟩,
 ⟨some 10, (.allocL (.agg [(.int .i64 (0)), (.int .i64 (0))])), none⟩,
 ⟨none, (.store 2 (.t 10) (.t 32)), none⟩]
 [] [31])
 (.seq
 (.seq
 (.ops [⟨some 33, (.mv (.t 8)), none⟩,
 ⟨some 34, (.bin .gtr (.t 33) (.c (.int .i64 (0)))), none⟩]
 [] [])
 (.cond (.t 34)
 (.seq
 (.ops [⟨some 36, (.load true 2 (.t 9)), none⟩,
 ⟨some 37, (.load true 2 (.t 4)), none⟩,
 ⟨some 38, (.call (.f 84) [(.t 36), (.t 37)]), none⟩,
 ⟨some 35, (.mv (.t 38)), none⟩,
 ⟨some 39, (.ext (.t 35) 0), none⟩,
 ⟨some 40, (.ext (.t 35) 1), none⟩,
 ⟨some 11, (.allocL (.agg [(.int .i64 (0)), (.int .i64 (0))])), none⟩,
 ⟨none, (.store 2 (.t 11) (.t 39)), none⟩,
 ⟨some 12, (.mv (.t 40)), none⟩]
 [] [34])
 (.seq
 (.seq
 (.ops [⟨some 41, (.mv (.t 12)), none⟩,
 ⟨some 42, (.bin .neq (.t 41) (.c (.int .i64 (0)))), none⟩]
 [] [])
 (.cond (.t 42)
 (.seq
 (.ops [⟨some 43, (.mv (.t 12)), none⟩,
 ⟨some 6, (.mv (.t 43)), none⟩]
 [] [2, 3, 4, 8, 9, 10, 11, 12, 14, 15, 16, 18, 19, 20, 21, 22, 23, 24, 25, 26, 27, 28, 29, 30, 32, 33, 35, 36, 37, 38, 39, 40, 41, 42, 43, 44, 45, 46, 47, 48, 49, 50, 51, 54, 55, 56, 57, 58, 60, 61])
 .ret)
 .skip))
 (.seq
 (.ops [⟨some 45, (.load true 2 (.t 11)), none⟩,
 ⟨some 46, (.mv (.t 8)), none⟩,
 ⟨some 47, (.call (.f 175) [(.t 46)]), none⟩,
 ⟨some 48, (.call (.f 86) [(.t 45), (.t 47)]), none⟩,
 ⟨some 44, (.mv (.t 48)), none⟩,
 ⟨some 49, (.ext (.t 44) 0), none⟩,
 ⟨some 50, (.ext (.t 44) 1), none⟩,
 ⟨none, (.store 2 (.t 10) (.t 49)), none⟩,
 ⟨some 12, (.mv (.t 50)), none⟩]
 [(0, 1), (0, 2), (5, 6), (6, 7)] [42])
 (.seq
 (.ops [⟨some 51, (.mv (.t 12)), none⟩,
 ⟨some 52, (.bin .neq (.t 51) (.c (.int .i64 (0)))), none⟩]
 [] [])
 (.cond (.t 52)
 (.seq
 (.ops [⟨some 53, (.mv (.t 12)), none⟩,
 ⟨some 6, (.mv (.t 53)), none⟩]
 [] [2, 3, 4, 8, 9, 10, 11, 12, 14, 15, 16, 18, 19, 20, 21, 22, 23, 24, 25, 26, 27, 28, 29, 30, 32, 33, 35, 36, 37, 38, 39, 40, 41, 44, 45, 46, 47, 48, 49, 50, 51, 52, 53, 54, 55, 56, 57, 58, 60, 61])
 .ret)
 .skip)))))
 .skip))
 (.seq
 (.seq
 (.ops [⟨some 54, (.mv (.t 2)), none⟩,
 ⟨some 55, (.load true 2 (.t 4)), none⟩,
 ⟨some 56, (.load true 2 (.t 9)), none⟩,
 ⟨some 57, (.load true 2 (.t 10)), none⟩,
 ⟨some 58, (.mv (.t 8)), none⟩,
 ⟨some 59, (.call (.t 54) [(.t 55), (.t 56), (.t 57), (.t 58)]), none⟩]
 [] [8, 12, 34, 52])
 (.cond (.t 59)
 (.seq
 (.ops [⟨some 6, (.mv (.c (.int .i64 (0)))), none⟩]
 [] [2, 3, 4, 9, 10, 11, 14, 15, 16, 18, 19, 20, 21, 22, 23, 24, 25, 26, 27, 28, 29, 30, 32, 33, 35, 36, 37, 38, 39, 40, 41, 44, 45, 46, 47, 48, 49, 50, 51, 54, 55, 56, 57, 58, 59, 60, 61])
 .ret)
 .skip))
 (.ops [⟨some 60, (.load true 2 (.t 9)), none⟩,
 ⟨none, (.store 2 (.t 4) (.t 60)), none⟩]
 [] [59]))))))))
 (.ops [⟨some 61, (.bin .add (.t 16) (.c (.int .i64 (1)))), none⟩,
 ⟨some 16, (.mv (.t 61)), none⟩]
 [] [8, 31])))))))
 (.seq
 (.ops [⟨some 6, (.mv (.c (.int .i64 (0)))), none⟩]
 [] [2, 3, 4, 9, 10, 11, 14, 15, 16, 17, 18, 19, 20, 21, 22, 23, 24, 25, 26, 27, 28, 29, 30, 32, 33, 35, 36, 37, 38, 39, 40, 41, 44, 45, 46, 47, 48, 49, 50, 51, 54, 55, 56, 57, 58, 60, 61])
 .ret)))⟩
def loc172 : List Nat := [3, 4, 9, 10, 11]
def fg172 : List (Nat × List Nat) := [(18, [2, 3, 4, 9, 10, 11, 14, 15, 16, 17, 18, 19, 20, 21, 22, 23, 24, 25, 26, 27, 28, 29, 30, 32, 33, 35, 36, 37, 38, 39, 40, 41, 44, 45, 46, 47, 48, 49, 50, 51, 54, 55, 56, 57, 58, 60, 61]), (17, [8, 31]), (16, [59]), (15, [2, 3, 4, 9, 10, 11, 14, 15, 16, 18, 19, 20, 21, 22, 23, 24, 25, 26, 27, 28, 29, 30, 32, 33, 35, 36, 37, 38, 39, 40, 41, 44, 45, 46, 47, 48, 49, 50, 51, 54, 55, 56, 57, 58, 59, 60, 61]), (14, [8, 12, 34, 52]), (13, [2, 3, 4, 8, 9, 10, 11, 12, 14, 15, 16, 18, 19, 20, 21, 22, 23, 24, 25, 26, 27, 28, 29, 30, 32, 33, 35, 36, 37, 38, 39, 40, 41, 44, 45, 46, 47, 48, 49, 50, 51, 52, 53, 54, 55, 56, 57, 58, 60, 61]), (11, [42]), (10, [2, 3, 4, 8, 9, 10, 11, 12, 14, 15, 16, 18, 19, 20, 21, 22, 23, 24, 25, 26, 27, 28, 29, 30, 32, 33, 35, 36, 37, 38, 39, 40, 41, 42, 43, 44, 45, 46, 47, 48, 49, 50, 51, 54, 55, 56, 57, 58, 60, 61]), (8, [34]), (6, [31]), (4, [7]), (3, [17]), (1, [13]), (0, [0, 1, 6])]
theorem comp172 : compFn Try.prog loc172 (fun i => (fg172.lookup i).getD []) Try.f172 = some lit172 := by kernel_rfl

-- parcener/cake.Mark$1
def lit173 : AFn := ⟨7, [.tmp 11],
 (.seq
 (.ops [⟨some 7, (.boxL (.t 0)), none⟩,
 ⟨some 8, (.boxL (.t 1)), none⟩,
 ⟨some 9, (.boxL (.t 2)), none⟩,
 ⟨some 11, (.mv (.c (.bool false))), none⟩]
 [] [0, 1, 2, 8, 11])
 (.seq
 (.seq
 (.ops [⟨some 16, (.mv (.t 3)), none⟩,
 ⟨some 17, (.bin .eql (.t 16) (.c (.int .i64 (0)))), none⟩]
 [] [16])
 (.cond (.t 17)
 (.seq
 (.ops [⟨some 11, (.mv (.c (.bool false))), none⟩]
 [] [3, 4, 5, 6, 7, 9, 17])
 .ret)
 .skip))
 (.seq
 (.seq
 (.ops [⟨some 18, (.load true 2 (.t 9)), none⟩,
 ⟨some 19, (.load true 2 (.t 4)), none⟩,
 ⟨some 20, (.call (.f 174) [(.t 18), (.t 19)]), none⟩]
 [] [17, 18, 19])
 (.cond (.t 20)
 (.seq
 (.ops [⟨some 22, (.load true 2 (.t 4)), none⟩,
 ⟨some 23, (.load true 2 (.t 9)), none⟩,
 ⟨some 24, (.call (.f 84) [(.t 22), (.t 23)]), none⟩,
 ⟨some 21, (.mv (.t 24)), none⟩,
 ⟨some 25, (.ext (.t 21) 0), none⟩,
 ⟨some 26, (.ext (.t 21) 1), none⟩,
 ⟨some 12, (.allocL (.agg [(.int .i64 (0)), (.int .i64 (0))])), none⟩,
 ⟨none, (.store 2 (.t 12) (.t 25)), none⟩,
 ⟨some 13, (.mv (.t 26)), none⟩]
 [] [3, 6, 7, 9, 20, 21, 22, 23, 24, 25, 26])
 (.seq
 (.ops [⟨some 27, (.load true 2 (.t 12)), none⟩,
 ⟨none, (.store 2 (.t 4) (.t 27)), none⟩,
 ⟨none, (.store 1 (.t 5) (.c (.int .i64 (6)))), none⟩]
 [] [4, 12, 27])
 (.seq
 (.seq
 (.ops [⟨some 28, (.mv (.t 13)), none⟩,
 ⟨some 29, (.bin .neq (.t 28) (.c (.int .i64 (0)))), none⟩]
 [] [28])
 (.cond (.t 29)
 (.ops [⟨some 30, (.mv (.t 13)), none⟩,
 ⟨none, (.store 1 (.t 5) (.t 30)), none⟩]
 [] [5, 29, 30])
 .skip))
 (.seq
 (.ops [⟨some 31, (.mv (.t 13)), none⟩,
 ⟨some 32, (.bin .neq (.t 31) (.c (.int .i64 (0)))), none⟩,
 ⟨some 11, (.mv (.t 32)), none⟩]
 [] [5, 13, 29, 31, 32])
 .ret))))
 .skip))
 (.seq
 (.ops [⟨some 34, (.load true 2 (.t 4)), none⟩,
 ⟨some 35, (.mv (.t 3)), none⟩,
 ⟨some 36, (.call (.f 175) [(.t 35)]), none⟩,
 ⟨some 37, (.call (.f 85) [(.t 34), (.t 36)]), none⟩,
 ⟨some 33, (.mv (.t 37)), none⟩,
 ⟨some 38, (.ext (.t 33) 0), none⟩,
 ⟨some 39, (.ext (.t 33) 1), none⟩,
 ⟨some 14, (.allocL (.agg [(.int .i64 (0)), (.int .i64 (0))])), none⟩,
 ⟨none, (.store 2 (.t 14) (.t 38)), none⟩,
 ⟨some 15, (.mv (.t 39)), none⟩]
 [(0, 1), (0, 2), (5, 6), (0, 7), (1, 7), (2, 7), (3, 7), (4, 7), (5, 7), (6, 7), (6, 8)] [3, 4, 9, 20, 33, 34, 35, 36, 37, 38, 39])
 (.seq
 (.seq
 (.ops [⟨some 40, (.mv (.t 15)), none⟩,
 ⟨some 41, (.bin .eql (.t 40) (.c (.int .i64 (0)))), none⟩]
 [] [40])
 (.cond (.t 41)
 (.ops [⟨some 43, (.load true 2 (.t 7)), none⟩,
 ⟨some 44, (.load true 2 (.t 14)), none⟩,
 ⟨some 45, (.call (.f 87) [(.t 43), (.t 44)]), none⟩,
 ⟨some 42, (.mv (.t 45)), none⟩,
 ⟨some 46, (.ext (.t 42) 0), none⟩,
 ⟨some 47, (.ext (.t 42) 1), none⟩,
 ⟨none, (.store 2 (.t 6) (.t 46)), none⟩,
 ⟨some 15, (.mv (.t 47)), none⟩]
 [] [6, 7, 14, 41, 42, 43, 44, 45, 46, 47])
 .skip))
 (.seq
 (.ops [⟨some 48, (.mv (.t 15)), none⟩,
 ⟨none, (.store 1 (.t 5) (.t 48)), none⟩]
 [] [5, 6, 7, 14, 15, 41, 48])
 (.seq
 (.ops [⟨some 11, (.mv (.c (.bool true))), none⟩]
 [] [])
 .ret)))))))⟩
def loc173 : List Nat := [7, 8, 9, 12, 14]
def fg173 : List (Nat × List Nat) := [(12, [5, 6, 7, 14, 15, 41, 48]), (11, [6, 7, 14, 41, 42, 43, 44, 45, 46, 47]), (10, [40]), (9, [3, 4, 9, 20, 33, 34, 35, 36, 37, 38, 39]), (8, [5, 13, 29, 31, 32]), (7, [5, 29, 30]), (6, [28]), (5, [4, 12, 27]), (4, [3, 6, 7, 9, 20, 21, 22, 23, 24, 25, 26]), (3, [17, 18, 19]), (2, [3, 4, 5, 6, 7, 9, 17]), (1, [16]), (0, [0, 1, 2, 8, 11])]
theorem comp173 : compFn Try.prog loc173 (fun i => (fg173.lookup i).getD []) Try.f173 = some lit173 := by kernel_rfl

-- parcener/cake.less
def lit174 : AFn := ⟨2, [.tmp 4],
 (.seq
 (.ops [⟨some 2, (.boxL (.t 0)), none⟩,
 ⟨some 3, (.boxL (.t 1)), none⟩,
 ⟨some 4, (.mv (.c (.bool false))), none⟩]
 [] [0, 1, 4])
 (.seq
 (.ops [⟨some 8, (.load true 2 (.t 2)), none⟩,
 ⟨some 9, (.load true 2 (.t 3)), none⟩,
 ⟨some 10, (.call (.f 149) [(.t 8), (.t 9)]), none⟩,
 ⟨some 7, (.mv (.t 10)), none⟩,
 ⟨some 11, (.ext (.t 7) 0), none⟩,
 ⟨some 12, (.ext (.t 7) 1), none⟩,
 ⟨some 5, (.mv (.t 11)), none⟩,
 ⟨some 6, (.mv (.t 12)), none⟩]
 [] [2, 3, 6, 7, 8, 9, 10, 11, 12])
 (.seq
 (.ops [⟨some 13, (.mv (.t 5)), none⟩,
 ⟨some 14, (.bin .lss (.t 13) (.c (.int .i64 (0)))), none⟩,
 ⟨some 4, (.mv (.t 14)), none⟩]
 [] [5, 13, 14])
 .ret)))⟩
def loc174 : List Nat := [2, 3]
def fg174 : List (Nat × List Nat) := [(2, [5, 13, 14]), (1, [2, 3, 6, 7, 8, 9, 10, 11, 12]), (0, [0, 1, 4])]
theorem comp174 : compFn Try.prog loc174 (fun i => (fg174.lookup i).getD []) Try.f174 = some lit174 := by kernel_rfl

-- parcener/cake.whole
def lit175 : AFn := ⟨1, [.cell 2 true 2],
 (.seq
 (.ops [⟨some 2, (.allocL (.agg [(.int .i64 (0)), (.int .i64 (0))])), none⟩]
 [] [])
 (.seq
 (.ops [⟨some 3, (.mv (.t 0)), none⟩,
 ⟨some 4, (.build [(.int .i64 (0)), (.int .i64 (0))] [(0, 1, (.t 3)), (1, 1, (.c (.int .i64 (1))))]), none⟩,
 ⟨none, (.store 2 (.t 2) (.t 4)), none⟩]
 [] [0, 3, 4])
 .ret))⟩
def loc175 : List Nat := [2]
def fg175 : List (Nat × List Nat) := [(1, [0, 3, 4])]
theorem comp175 : compFn Try.prog loc175 (fun i => (fg175.lookup i).getD []) Try.f175 = some lit175 := by kernel_rfl

-- cmp.Or[int]
def lit227 : AFn := ⟨1, [.tmp 2],
 (.seq
 (.ops [⟨some 2, (.mv (.c (.int .i64 (0)))), none⟩]
 [] [2])
 (.seq
 (.ops [⟨some 3, (.mv (.c (.int .i64 (0)))), none⟩]
 [] [])
 (.seq
 (.seq
 (.ops [⟨some 6, (.mv (.t 0)), none⟩,
 ⟨some 7, (.len (.t 6)), none⟩,
 ⟨some 8, (.mv (.c (.int .i64 (0)))), none⟩]
 [] [0])
 (.block 0
 (.loop
 (.seq
 (.ops [⟨some 9, (.bin .lss (.t 8) (.t 7)), none⟩]
 [] [])
 (.seq
 (.cond (.t 9)
 .skip
 (.exit 0))
 (.seq
 (.block 1
 (.seq
 (.ops [⟨some 10, (.iad 1 (.t 6) (.t 8)), none⟩,
 ⟨some 11, (.load false 1 (.t 10)), none⟩,
 ⟨some 5, (.mv (.t 11)), none⟩]
 [] [9])
 (.seq
 (.ops [⟨some 12, (.mv (.t 5)), none⟩,
 ⟨some 13, (.mv (.t 3)), none⟩,
 ⟨some 14, (.bin .neq (.t 12) (.t 13)), none⟩]
 [] [])
 (.cond (.t 14)
 (.seq
 (.ops [⟨some 15, (.mv (.t 5)), none⟩,
 ⟨some 2, (.mv (.t 15)), none⟩]
 [] [3, 5, 6, 7, 8, 10, 11, 12, 13, 14, 15, 16])
 .ret)
 .skip))))
 (.ops [⟨some 16, (.bin .add (.t 8) (.c (.int .i64 (1)))), none⟩,
 ⟨some 8, (.mv (.t 16)), none⟩]
 [] [5, 14])))))))
 (.seq
 (.ops [⟨some 17, (.mv (.t 3)), none⟩,
 ⟨some 2, (.mv (.t 17)), none⟩]
 [] [3, 6, 7, 8, 9, 10, 11, 12, 13, 16, 17])
 .ret))))⟩
def loc227 : List Nat := []
def fg227 : List (Nat × List Nat) := [(8, [3, 6, 7, 8, 9, 10, 11, 12, 13, 16, 17]), (7, [5, 14]), (6, [3, 5, 6, 7, 8, 10, 11, 12, 13, 14, 15, 16]), (4, [9]), (2, [0]), (0, [2])]
theorem comp227 : compFn Try.prog loc227 (fun i => (fg227.lookup i).getD []) Try.f227 = some lit227 := by kernel_rfl

-- cmp.Compare[uint64]
def lit228 : AFn := ⟨2, [.tmp 4],
 (.seq
 (.ops [⟨some 4, (.mv (.c (.int .i64 (0)))), none⟩]
 [] [4])
 (.seq
 (.ops [⟨some 7, (.mv (.t 0)), none⟩,
 ⟨some 8, (.call (.f 252) [(.t 7)]), none⟩,
 ⟨some 5, (.mv (.t 8)), none⟩]
 [] [7, 8])
 (.seq
 (.ops [⟨some 9, (.mv (.t 1)), none⟩,
 ⟨some 10, (.call (.f 252) [(.t 9)]), none⟩,
 ⟨some 6, (.mv (.t 10)), none⟩]
 [] [9, 10])
 (.seq
 (.seq
 (.ops [⟨some 11, (.mv (.t 5)), none⟩]
 [] [5])
 (.cond (.t 11)
 (.seq
 (.seq
 (.ops [⟨some 12, (.mv (.t 6)), none⟩]
 [] [0, 1, 6, 11])
 (.cond (.t 12)
 (.seq
 (.ops [⟨some 4, (.mv (.c (.int .i64 (0)))), none⟩]
 [] [12])
 .ret)
 .skip))
 (.seq
 (.ops [⟨some 4, (.mv (.c (.int .i64 (-1)))), none⟩]
 [] [12])
 .ret))
 .skip))
 (.seq
 (.seq
 (.ops [⟨some 13, (.mv (.t 6)), none⟩]
 [] [6, 11])
 (.cond (.t 13)
 (.seq
 (.ops [⟨some 4, (.mv (.c (.int .i64 (1)))), none⟩]
 [] [0, 1, 13])
 .ret)
 .skip))
 (.seq
 (.seq
 (.ops [⟨some 14, (.mv (.t 0)), none⟩,
 ⟨some 15, (.mv (.t 1)), none⟩,
 ⟨some 16, (.bin .lss (.t 14) (.t 15)), none⟩]
 [] [13, 14, 15])
 (.cond (.t 16)
 (.seq
 (.ops [⟨some 4, (.mv (.c (.int .i64 (-1)))), none⟩]
 [] [0, 1, 16])
 .ret)
 .skip))
 (.seq
 (.seq
 (.ops [⟨some 17, (.mv (.t 0)), none⟩,
 ⟨some 18, (.mv (.t 1)), none⟩,
 ⟨some 19, (.bin .gtr (.t 17) (.t 18)), none⟩]
 [] [0, 1, 16, 17, 18])
 (.cond (.t 19)
 (.seq
 (.ops [⟨some 4, (.mv (.c (.int .i64 (1)))), none⟩]
 [] [19])
 .ret)
 .skip))
 (.seq
 (.ops [⟨some 4, (.mv (.c (.int .i64 (0)))), none⟩]
 [] [19])
 .ret))))))))⟩
def loc228 : List Nat := []
def fg228 : List (Nat × List Nat) := [(13, [19]), (12, [19]), (11, [0, 1, 16, 17, 18]), (10, [0, 1, 16]), (9, [13, 14, 15]), (8, [0, 1, 13]), (7, [6, 11]), (6, [12]), (5, [12]), (4, [0, 1, 6, 11]), (3, [5]), (2, [9, 10]), (1, [7, 8]), (0, [4])]
theorem comp228 : compFn Try.prog loc228 (fun i => (fg228.lookup i).getD []) Try.f228 = some lit228 := by kernel_rfl

-- cmp.Or[parcener/api.Errno]
def lit234 : AFn := ⟨1, [.tmp 2],
 (.seq
 (.ops [⟨some 2, (.mv (.c (.int .i64 (0)))), none⟩]
 [] [2])
 (.seq
 (.ops [⟨some 3, (.mv (.c (.int .i64 (0)))), none⟩]
 [] [])
 (.seq
 (.seq
 (.ops [⟨some 6, (.mv (.t 0)), none⟩,
 ⟨some 7, (.len (.t 6)), none⟩,
 ⟨some 8, (.mv (.c (.int .i64 (0)))), none⟩]
 [] [0])
 (.block 0
 (.loop
 (.seq
 (.ops [⟨some 9, (.bin .lss (.t 8) (.t 7)), none⟩]
 [] [])
 (.seq
 (.cond (.t 9)
 .skip
 (.exit 0))
 (.seq
 (.block 1
 (.seq
 (.ops [⟨some 10, (.iad 1 (.t 6) (.t 8)), none⟩,
 ⟨some 11, (.load false 1 (.t 10)), none⟩,
 ⟨some 5, (.mv (.t 11)), none⟩]
 [] [9])
 (.seq
 (.ops [⟨some 12, (.mv (.t 5)), none⟩,
 ⟨some 13, (.mv (.t 3)), none⟩,
 ⟨some 14, (.bin .neq (.t 12) (.t 13)), none⟩]
 [] [])
 (.cond (.t 14)
 (.seq
 (.ops [⟨some 15, (.mv (.t 5)), none⟩,
 ⟨some 2, (.mv (.t 15)), none⟩]
 [] [3, 5, 6, 7, 8, 10, 11, 12, 13, 14, 15, 16])
 .ret)
 .skip))))
 (.ops [⟨some 16, (.bin .add (.t 8) (.c (.int .i64 (1)))), none⟩,
 ⟨some 8, (.mv (.t 16)), none⟩]
 [] [5, 14])))))))
 (.seq
 (.ops [⟨some 17, (.mv (.t 3)), none⟩,
 ⟨some 2, (.mv (.t 17)), none⟩]
 [] [3, 6, 7, 8, 9, 10, 11, 12, 13, 16, 17])
 .ret))))⟩
def loc234 : List Nat := []
def fg234 : List (Nat × List Nat) := [(8, [3, 6, 7, 8, 9, 10, 11, 12, 13, 16, 17]), (7, [5, 14]), (6, [3, 5, 6, 7, 8, 10, 11, 12, 13, 14, 15, 16]), (4, [9]), (2, [0]), (0, [2])]
theorem comp234 : compFn Try.prog loc234 (fun i => (fg234.lookup i).getD []) Try.f234 = some lit234 := by kernel_rfl

-- slices.Clone[[]int,int]
def lit236 : AFn := ⟨1, [.tmp 2],
 (.seq
 (.ops [⟨some 2, (.mv (.c .nils)), none⟩]
 [] [2])
 (.seq
 (.seq
 (.ops [⟨some 3, (.mv (.t 0)), none⟩,
 ⟨some 4, (.eqN false (.t 3)), none⟩]
 [] [3])
 (.cond (.t 4)
 (.seq
 (.ops [⟨some 2, (.mv (.c .nils)), none⟩]
 [] [0, 4])
 .ret)
 .skip))
 (.seq
 (.ops [⟨some 5, (.buildSl true 1 (.int .i64 (0)) 0 []), none⟩,
 ⟨some 6, (.mv (.t 0)), none⟩,
 ⟨some 7, (.app true 1 8 (.t 5) (.t 6)), none⟩,
 ⟨some 2, (.mv (.t 7)), none⟩]
 [] [0, 4, 5, 6, 7])
 .ret)))⟩
def loc236 : List Nat := []
def fg236 : List (Nat × List Nat) := [(3, [0, 4, 5, 6, 7]), (2, [0, 4]), (1, [3]), (0, [2])]
theorem comp236 : compFn Try.prog loc236 (fun i => (fg236.lookup i).getD []) Try.f236 = some lit236 := by kernel_rfl

-- (parcener/ask.office).has
def lit237 : AFn := ⟨2, [.tmp 4],
 (.seq
 (.ops [⟨some 2, (.boxL (.t 0)), none⟩,
 ⟨some 4, (.mv (.c (.bool false))), none⟩]
 [] [0, 4])
 (.seq
 (.ops [⟨some 5, (.mv (.t 1)), none⟩,
 ⟨some 6, (.bin .geq (.t 5) (.c (.int .i64 (0)))), none⟩,
 ⟨some 7, (.mv (.t 6)), none⟩,
 ⟨some 8, (.mv (.t 1)), some (7, true)⟩,
 ⟨some 9, (.fad 0 (.t 2)), some (7, true)⟩,
 ⟨some 10, (.fad 0 (.t 9)), some (7, true)⟩,
 ⟨some 11, (.load false 1 (.t 10)), some (7, true)⟩,
 ⟨some 12, (.len (.t 11)), some (7, true)⟩,
 ⟨some 13, (.bin .lss (.t 8) (.t 12)), some (7, true)⟩,
 ⟨some 14, (.pick (.t 7) (.t 13) (.c (.bool false))), none⟩,
 ⟨some 4, (.mv (.t 14)), none⟩]
 [] [1, 2, 5, 6, 7, 8, 9, 10, 11, 12, 13, 14])
 .ret))⟩
def loc237 : List Nat := [2]
def fg237 : List (Nat × List Nat) := [(1, [1, 2, 5, 6, 7, 8, 9, 10, 11, 12, 13, 14]), (0, [0, 4])]
theorem comp237 : compFn Try.prog loc237 (fun i => (fg237.lookup i).getD []) Try.f237 = some lit237 := by kernel_rfl

-- cmp.isNaN[uint64]
def lit252 : AFn := ⟨1, [.tmp 2],
 (.seq
 (.ops [⟨some 2, (.mv (.c (.bool false))), none⟩]
 [] [2])
 (.seq
 (.ops [⟨some 3, (.mv (.t 0)), none⟩,
 ⟨some 4, (.mv (.t 0)), none⟩,
 ⟨some 5, (.bin .neq (.t 3) (.t 4)), none⟩,
 ⟨some 2, (.mv (.t 5)), none⟩]
 [] [0, 3, 4, 5])
 .ret))⟩
def loc252 : List Nat := []
def fg252 : List (Nat × List Nat) := [(1, [0, 3, 4, 5]), (0, [2])]
theorem comp252 : compFn Try.prog loc252 (fun i => (fg252.lookup i).getD []) Try.f252 = some lit252 := by kernel_rfl

def tab1 : List (Nat × AFn) := [(160, lit160), (161, lit161), (164, lit164), (165, lit165), (166, lit166), (167, lit167), (168, lit168), (169, lit169), (170, lit170), (171, lit171), (172, lit172), (173, lit173), (174, lit174), (175, lit175), (227, lit227), (228, lit228), (234, lit234), (236, lit236), (237, lit237), (252, lit252)]
theorem tabOk1 : AllOk Try.prog tab1 := ⟨⟨_, _, _, Try.func160, comp160⟩, ⟨_, _, _, Try.func161, comp161⟩, ⟨_, _, _, Try.func164, comp164⟩, ⟨_, _, _, Try.func165, comp165⟩, ⟨_, _, _, Try.func166, comp166⟩, ⟨_, _, _, Try.func167, comp167⟩, ⟨_, _, _, Try.func168, comp168⟩, ⟨_, _, _, Try.func169, comp169⟩, ⟨_, _, _, Try.func170, comp170⟩, ⟨_, _, _, Try.func171, comp171⟩, ⟨_, _, _, Try.func172, comp172⟩, ⟨_, _, _, Try.func173, comp173⟩, ⟨_, _, _, Try.func174, comp174⟩, ⟨_, _, _, Try.func175, comp175⟩, ⟨_, _, _, Try.func227, comp227⟩, ⟨_, _, _, Try.func228, comp228⟩, ⟨_, _, _, Try.func234, comp234⟩, ⟨_, _, _, Try.func236, comp236⟩, ⟨_, _, _, Try.func237, comp237⟩, ⟨_, _, _, Try.func252, comp252⟩, trivial⟩
end Go.Proofs.Ytfkfmlifhdcolaa.Kn
