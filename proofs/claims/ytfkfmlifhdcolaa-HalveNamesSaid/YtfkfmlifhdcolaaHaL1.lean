/- The functions that the statement HalveNames runs, in the small code (part 1); each is what the framework makes of the program. -/
import Derived.Test.YtfkfmlifhdcolaaFw27
import Derived.Test.YtfkfmlifhdcolaaRows
namespace Go.Proofs.Ytfkfmlifhdcolaa.Ha
open Go Go.Pf
-- math/bits.Mul64
def lit160 : AFn := ⟨2, [.tmp 4, .tmp 5],
 (.seq
 (.ops [⟨some 4, (.mv (.c (.int .u64 (0)))), none⟩,
 ⟨some 5, (.mv (.c (.int .u64 (0)))), none⟩]
 [] [4, 5])
 (.seq
 (.ops [⟨some 14, (.mv (.t 0)), none⟩,
 ⟨some 15, (.bin .and (.t 14) (.c (.int .u64 (4294967295)))), none⟩,
 ⟨some 6, (.mv (.t 15)), none⟩]
 [] [14, 15])
 (.seq
 (.ops [⟨some 16, (.mv (.t 0)), none⟩,
 ⟨some 17, (.bin .shr (.t 16) (.c (.int .u64 (32)))), none⟩,
 ⟨some 7, (.mv (.t 17)), none⟩]
 [] [16, 17])
 (.seq
 (.ops [⟨some 18, (.mv (.t 1)), none⟩,
 ⟨some 19, (.bin .and (.t 18) (.c (.int .u64 (4294967295)))), none⟩,
 ⟨some 8, (.mv (.t 19)), none⟩]
 [] [18, 19])
 (.seq
 (.ops [⟨some 20, (.mv (.t 1)), none⟩,
 ⟨some 21, (.bin .shr (.t 20) (.c (.int .u64 (32)))), none⟩,
 ⟨some 9, (.mv (.t 21)), none⟩]
 [] [20, 21])
 (.seq
 (.ops [⟨some 22, (.mv (.t 6)), none⟩,
 ⟨some 23, (.mv (.t 8)), none⟩,
 ⟨some 24, (.bin .mul (.t 22) (.t 23)), none⟩,
 ⟨some 10, (.mv (.t 24)), none⟩]
 [] [22, 23, 24])
 (.seq
 (.ops [⟨some 25, (.mv (.t 7)), none⟩,
 ⟨some 26, (.mv (.t 8)), none⟩,
 ⟨some 27, (.bin .mul (.t 25) (.t 26)), none⟩,
 ⟨some 28, (.mv (.t 10)), none⟩,
 ⟨some 29, (.bin .shr (.t 28) (.c (.int .u64 (32)))), none⟩,
 ⟨some 30, (.bin .add (.t 27) (.t 29)), none⟩,
 ⟨some 11, (.mv (.t 30)), none⟩]
 [] [8, 10, 25, 26, 27, 28, 29, 30])
 (.seq
 (.ops [⟨some 31, (.mv (.t 11)), none⟩,
 ⟨some 32, (.bin .and (.t 31) (.c (.int .u64 (4294967295)))), none⟩,
 ⟨some 12, (.mv (.t 32)), none⟩]
 [] [31, 32])
 (.seq
 (.ops [⟨some 33, (.mv (.t 11)), none⟩,
 ⟨some 34, (.bin .shr (.t 33) (.c (.int .u64 (32)))), none⟩,
 ⟨some 13, (.mv (.t 34)), none⟩]
 [] [11, 33, 34])
 (.seq
 (.ops [⟨some 35, (.mv (.t 12)), none⟩,
 ⟨some 36, (.mv (.t 6)), none⟩,
 ⟨some 37, (.mv (.t 9)), none⟩,
 ⟨some 38, (.bin .mul (.t 36) (.t 37)), none⟩,
 ⟨some 39, (.bin .add (.t 35) (.t 38)), none⟩,
 ⟨some 12, (.mv (.t 39)), none⟩]
 [] [6, 35, 36, 37, 38, 39])
 (.seq
 (.ops [⟨some 40, (.mv (.t 7)), none⟩,
 ⟨some 41, (.mv (.t 9)), none⟩,
 ⟨some 42, (.bin .mul (.t 40) (.t 41)), none⟩,
 ⟨some 43, (.mv (.t 13)), none⟩,
 ⟨some 44, (.bin .add (.t 42) (.t 43)), none⟩,
 ⟨some 45, (.mv (.t 12)), none⟩,
 ⟨some 46, (.bin .shr (.t 45) (.c (.int .u64 (32)))), none⟩,
 ⟨some 47, (.bin .add (.t 44) (.t 46)), none⟩,
 ⟨some 4, (.mv (.t 47)), none⟩]
 [] [7, 9, 12, 13, 40, 41, 42, 43, 44, 45, 46, 47])
 (.seq
 (.ops [⟨some 48, (.mv (.t 0)), none⟩,
 ⟨some 49, (.mv (.t 1)), none⟩,
 ⟨some 50, (.bin .mul (.t 48) (.t 49)), none⟩,
 ⟨some 5, (.mv (.t 50)), none⟩]
 [] [0, 1, 48, 49, 50])
 .ret))))))))))))⟩
def loc160 : List Nat := []
def fg160 : List (Nat × List Nat) := [(11, [0, 1, 48, 49, 50]), (10, [7, 9, 12, 13, 40, 41, 42, 43, 44, 45, 46, 47]), (9, [6, 35, 36, 37, 38, 39]), (8, [11, 33, 34]), (7, [31, 32]), (6, [8, 10, 25, 26, 27, 28, 29, 30]), (5, [22, 23, 24]), (4, [20, 21]), (3, [18, 19]), (2, [16, 17]), (1, [14, 15]), (0, [4, 5])]
theorem comp160 : compFn Try.prog loc160 (fun i => (fg160.lookup i).getD []) Try.f160 = some lit160 := by kernel_rfl

-- parcener/ratio.signed
def lit161 : AFn := ⟨3, [.cell 6 true 2, .tmp 7],
 (.seq
 (.ops [⟨some 6, (.allocL (.agg [(.int .i64 (0)), (.int .i64 (0))])), none⟩,
 ⟨some 7, (.mv (.c (.int .i64 (0)))), none⟩]
 [] [7])
 (.seq
 (.seq
 (.ops [⟨some 8, (.mv (.t 1)), none⟩,
 ⟨some 9, (.mv (.t 2)), none⟩,
 ⟨some 10, (.minmax true [(.t 8), (.t 9)]), none⟩,
 ⟨some 11, (.bin .gtr (.t 10) (.c (.int .u64 (1000000000000000000)))), none⟩]
 [] [8, 9, 10])
 (.cond (.t 11)
 (.seq
 (.ops [⟨some 12, (.build [(.int .i64 (0)), (.int .i64 (0))] []), none⟩,
 ⟨none, (.store 2 (.t 6) (.t 12)), none⟩,
 ⟨some 7, (.mv (.c (.int .i64 (16)))), none⟩]
 [] [0, 1, 2, 11, 12])
 .ret)
 .skip))
 (.seq
 (.seq
 (.ops [⟨some 13, (.mv (.t 0)), none⟩]
 [] [0, 11])
 (.cond (.t 13)
 (.seq
 (.ops [⟨some 14, (.mv (.t 1)), none⟩,
 ⟨some 15, (.conv .i64 (.t 14)), none⟩,
 ⟨some 16, (.un .neg (.t 15)), none⟩,
 ⟨some 17, (.mv (.t 2)), none⟩,
 ⟨some 18, (.conv .i64 (.t 17)), none⟩,
 ⟨some 19, (.build [(.int .i64 (0)), (.int .i64 (0))] [(0, 1, (.t 16)), (1, 1, (.t 18))]), none⟩,
 ⟨none, (.store 2 (.t 6) (.t 19)), none⟩,
 ⟨some 7, (.mv (.c (.int .i64 (0)))), none⟩]
 [] [1, 2, 13, 14, 15, 16, 17, 18, 19])
 .ret)
 .skip))
 (.seq
 (.ops [⟨some 20, (.mv (.t 1)), none⟩,
 ⟨some 21, (.conv .i64 (.t 20)), none⟩,
 ⟨some 22, (.mv (.t 2)), none⟩,
 ⟨some 23, (.conv .i64 (.t 22)), none⟩,
 ⟨some 24, (.build [(.int .i64 (0)), (.int .i64 (0))] [(0, 1, (.t 21)), (1, 1, (.t 23))]), none⟩,
 ⟨none, (.store 2 (.t 6) (.t 24)), none⟩,
 ⟨some 7, (.mv (.c (.int .i64 (0)))), none⟩]
 [] [1, 2, 13, 20, 21, 22, 23, 24])
 .ret))))⟩
def loc161 : List Nat := [6]
def fg161 : List (Nat × List Nat) := [(5, [1, 2, 13, 20, 21, 22, 23, 24]), (4, [1, 2, 13, 14, 15, 16, 17, 18, 19]), (3, [0, 11]), (2, [0, 1, 2, 11, 12]), (1, [8, 9, 10]), (0, [7])]
theorem comp161 : compFn Try.prog loc161 (fun i => (fg161.lookup i).getD []) Try.f161 = some lit161 := by kernel_rfl

-- math/bits.Rem64
def lit164 : AFn := ⟨3, [.tmp 6],
 (.seq
 (.ops [⟨some 6, (.mv (.c (.int .u64 (0)))), none⟩]
 [] [6])
 (.seq
 (.ops [⟨some 10, (.mv (.t 0)), none⟩,
 ⟨some 11, (.mv (.t 2)), none⟩,
 ⟨some 12, (.bin .rem (.t 10) (.t 11)), none⟩,
 ⟨some 13, (.mv (.t 1)), none⟩,
 ⟨some 14, (.mv (.t 2)), none⟩,
 ⟨some 15, (.call (.f 165) [(.t 12), (.t 13), (.t 14)]), none⟩,
 ⟨some 9, (.mv (.t 15)), none⟩,
 ⟨some 16, (.ext (.t 9) 0), none⟩,
 ⟨some 17, (.ext (.t 9) 1), none⟩,
 ⟨some 7, (.mv (.t 16)), none⟩,
 ⟨some 8, (.mv (.t 17)), none⟩]
 [] [0, 1, 2, 7, 9, 10, 11, 12, 13, 14, 15, 16, 17])
 (.seq
 (.ops [⟨some 18, (.mv (.t 8)), none⟩,
 ⟨some 6, (.mv (.t 18)), none⟩]
 [] [8, 18])
 .ret)))⟩
def loc164 : List Nat := []
def fg164 : List (Nat × List Nat) := [(2, [8, 18]), (1, [0, 1, 2, 7, 9, 10, 11, 12, 13, 14, 15, 16, 17]), (0, [6])]
theorem comp164 : compFn Try.prog loc164 (fun i => (fg164.lookup i).getD []) Try.f164 = some lit164 := by kernel_rfl

-- math/bits.Div64
def lit165 : AFn := ⟨3, [.tmp 6, .tmp 7],
 (.seq
 (.ops [⟨some 6, (.mv (.c (.int .u64 (0)))), none⟩,
 ⟨some 7, (.mv (.c (.int .u64 (0)))), none⟩]
 [] [6, 7])
 (.seq
 (.seq
 (.ops [⟨some 19, (.mv (.t 2)), none⟩,
 ⟨some 20, (.bin .eql (.t 19) (.c (.int .u64 (0)))), none⟩]
 [] [19])
 (.cond (.t 20)
 (.ops [⟨some 21, (.load false 1 (.g 0)), none⟩,
 ⟨none, .bad, none⟩]
 [] [20, 21])
 .skip))
 (.seq
 (.seq
 (.ops [⟨some 22, (.mv (.t 2)), none⟩,
 ⟨some 23, (.mv (.t 0)), none⟩,
 ⟨some 24, (.bin .leq (.t 22) (.t 23)), none⟩]
 [] [20, 22, 23])
 (.cond (.t 24)
 (.ops [⟨some 25, (.load false 1 (.g 1)), none⟩,
 ⟨none, .bad, none⟩]
 [] [24, 25])
 .skip))
 (.seq
 (.seq
 (.ops [⟨some 26, (.mv (.t 0)), none⟩,
 ⟨some 27, (.bin .eql (.t 26) (.c (.int .u64 (0)))), none⟩]
 [] [24, 26])
 (.cond (.t 27)
 (.seq
 (.ops [⟨some 28, (.mv (.t 1)), none⟩,
 ⟨some 29, (.mv (.t 2)), none⟩,
 ⟨some 30, (.bin .quo (.t 28) (.t 29)), none⟩,
 ⟨some 31, (.mv (.t 1)), none⟩,
 ⟨some 32, (.mv (.t 2)), none⟩,
 ⟨some 33, (.bin .rem (.t 31) (.t 32)), none⟩,
 ⟨some 6, (.mv (.t 30)), none⟩,
 ⟨some 7, (.mv (.t 33)), none⟩]
 [(0, 1), (0, 3), (1, 3), (2, 3), (0, 4), (1, 4), (2, 4), (3, 4), (0, 5), (1, 5), (2, 5), (3, 6), (4, 6), (5, 6)] [0, 1, 2, 27, 28, 29, 30, 31, 32, 33])
 .ret)
 .skip))
 (.seq
 (.ops [⟨some 34, (.mv (.t 2)), none⟩,
 ⟨some 35, (.call (.f 235) [(.t 34)]), none⟩,
 ⟨some 36, (.conv .u64 (.t 35)), none⟩,
 ⟨some 8, (.mv (.t 36)), none⟩]
 [] [27, 34, 35, 36])
 (.seq
 (.ops [⟨some 37, (.mv (.t 2)), none⟩,
 ⟨some 38, (.mv (.t 8)), none⟩,
 ⟨some 39, (.bin .shl (.t 37) (.t 38)), none⟩,
 ⟨some 2, (.mv (.t 39)), none⟩]
 [] [37, 38, 39])
 (.seq
 (.ops [⟨some 40, (.mv (.t 2)), none⟩,
 ⟨some 41, (.bin .shr (.t 40) (.c (.int .u64 (32)))), none⟩,
 ⟨some 9, (.mv (.t 41)), none⟩]
 [] [40, 41])
 (.seq
 (.ops [⟨some 42, (.mv (.t 2)), none⟩,
 ⟨some 43, (.bin .and (.t 42) (.c (.int .u64 (4294967295)))), none⟩,
 ⟨some 10, (.mv (.t 43)), none⟩]
 [] [42, 43])
 (.seq
 (.ops [⟨some 44, (.mv (.t 0)), none⟩,
 ⟨some 45, (.mv (.t 8)), none⟩,
 ⟨some 46, (.bin .shl (.t 44) (.t 45)), none⟩,
 ⟨some 47, (.mv (.t 1)), none⟩,
 ⟨some 48, (.mv (.t 8)), none⟩,
 ⟨some 49, (.bin .sub (.c (.int .u64 (64))) (.t 48)), none⟩,
 ⟨some 50, (.bin .shr (.t 47) (.t 49)), none⟩,
 ⟨some 51, (.bin .or (.t 46) (.t 50)), none⟩,
 ⟨some 11, (.mv (.t 51)), none⟩]
 [] [0, 44, 45, 46, 47, 48, 49, 50, 51])
 (.seq
 (.ops [⟨some 52, (.mv (.t 1)), none⟩,
 ⟨some 53, (.mv (.t 8)), none⟩,
 ⟨some 54, (.bin .shl (.t 52) (.t 53)), none⟩,
 ⟨some 12, (.mv (.t 54)), none⟩]
 [] [1, 52, 53, 54])
 (.seq
 (.ops [⟨some 55, (.mv (.t 12)), none⟩,
 ⟨some 56, (.bin .shr (.t 55) (.c (.int .u64 (32)))), none⟩,
 ⟨some 13, (.mv (.t 56)), none⟩]
 [] [55, 56])
 (.seq
 (.ops [⟨some 57, (.mv (.t 12)), none⟩,
 ⟨some 58, (.bin .and (.t 57) (.c (.int .u64 (4294967295)))), none⟩,
 ⟨some 14, (.mv (.t 58)), none⟩]
 [] [12, 57, 58])
 (.seq
 (.ops [⟨some 59, (.mv (.t 11)), none⟩,
 ⟨some 60, (.mv (.t 9)), none⟩,
 ⟨some 61, (.bin .quo (.t 59) (.t 60)), none⟩,
 ⟨some 15, (.mv (.t 61)), none⟩]
 [] [59, 60, 61])
 (.seq
 (.ops [⟨some 62, (.mv (.t 11)), none⟩,
 ⟨some 63, (.mv (.t 15)), none⟩,
 ⟨some 64, (.mv (.t 9)), none⟩,
 ⟨some 65, (.bin .mul (.t 63) (.t 64)), none⟩,
 ⟨some 66, (.bin .sub (.t 62) (.t 65)), none⟩,
 ⟨some 16, (.mv (.t 66)), none⟩]
 [] [62, 63, 64, 65, 66])
 (.seq
 (.block 0
 (.loop
 (.seq
 (.seq
 (.ops [⟨some 67, (.mv (.t 15)), none⟩,
 ⟨some 68, (.bin .geq (.t 67) (.c (.int .u64 (4294967296)))), none⟩,
 ⟨some 69, (.mv (.t 68)), none⟩,
 ⟨some 70, (.mv (.t 15)), some (69, false)⟩,
 ⟨some 71, (.mv (.t 10)), some (69, false)⟩,
 ⟨some 72, (.bin .mul (.t 70) (.t 71)), some (69, false)⟩,
 ⟨some 73, (.mv (.t 16)), some (69, false)⟩,
 ⟨some 74, (.bin .mul (.c (.int .u64 (4294967296))) (.t 73)), some (69, false)⟩,
 ⟨some 75, (.mv (.t 13)), some (69, false)⟩,
 ⟨some 76, (.bin .add (.t 74) (.t 75)), some (69, false)⟩,
 ⟨some 77, (.bin .gtr (.t 72) (.t 76)), some (69, false)⟩,
 ⟨some 78, (.pick (.t 69) (.c (.bool true)) (.t 77)), none⟩]
 [] [85])
 (.cond (.t 78)
 .skip
 (.exit 0)))
 (.block 1
 (.seq
 (.ops [⟨some 79, (.mv (.t 15)), none⟩,
 ⟨some 80, (.bin .sub (.t 79) (.c (.int .u64 (1)))), none⟩,
 ⟨some 15, (.mv (.t 80)), none⟩]
 [] [78])
 (.seq
 (.ops [⟨some 81, (.mv (.t 16)), none⟩,
 ⟨some 82, (.mv (.t 9)), none⟩,
 ⟨some 83, (.bin .add (.t 81) (.t 82)), none⟩,
 ⟨some 16, (.mv (.t 83)), none⟩]
 [] [])
 (.seq
 (.ops [⟨some 84, (.mv (.t 16)), none⟩,
 ⟨some 85, (.bin .geq (.t 84) (.c (.int .u64 (4294967296)))), none⟩]
 [] [])
 (.cond (.t 85)
 (.exit 0)
 .skip))))))))
 (.seq
 (.ops [⟨some 86, (.mv (.t 11)), none⟩,
 ⟨some 87, (.bin .mul (.t 86) (.c (.int .u64 (4294967296)))), none⟩,
 ⟨some 88, (.mv (.t 13)), none⟩,
 ⟨some 89, (.bin .add (.t 87) (.t 88)), none⟩,
 ⟨some 90, (.mv (.t 15)), none⟩,
 ⟨some 91, (.mv (.t 2)), none⟩,
 ⟨some 92, (.bin .mul (.t 90) (.t 91)), none⟩,
 ⟨some 93, (.bin .sub (.t 89) (.t 92)), none⟩,
 ⟨some 17, (.mv (.t 93)), none⟩]
 [] [11, 13, 16, 67, 68, 69, 70, 71, 72, 73, 74, 75, 76, 77, 78, 79, 80, 81, 82, 83, 84, 85, 86, 87, 88, 89, 90, 91, 92, 93])
 (.seq
 (.ops [⟨some 94, (.mv (.t 17)), none⟩,
 ⟨some 95, (.mv (.t 9)), none⟩,
 ⟨some 96, (.bin .quo (.t 94) (.t 95)), none⟩,
 ⟨some 18, (.mv (.t 96)), none⟩]
 [] [94, 95, 96])
 (.seq
 (.ops [⟨some 97, (.mv (.t 17)), none⟩,
 ⟨some 98, (.mv (.t 18)), none⟩,
 ⟨some 99, (.mv (.t 9)), none⟩,
 ⟨some 100, (.bin .mul (.t 98) (.t 99)), none⟩,
 ⟨some 101, (.bin .sub (.t 97) (.t 100)), none⟩,
 ⟨some 16, (.mv (.t 101)), none⟩]
 [] [97, 98, 99, 100, 101])
 (.seq
 (.block 2
 (.loop
 (.seq
 (.seq
 (.ops [⟨some 102, (.mv (.t 18)), none⟩,
 ⟨some 103, (.bin .geq (.t 102) (.c (.int .u64 (4294967296)))), none⟩,
 ⟨some 104, (.mv (.t 103)), none⟩,
 ⟨some 105, (.mv (.t 18)), some (104, false)⟩,
 ⟨some 106, (.mv (.t 10)), some (104, false)⟩,
 ⟨some 107, (.bin .mul (.t 105) (.t 106)), some (104, false)⟩,
 ⟨some 108, (.mv (.t 16)), some (104, false)⟩,
 ⟨some 109, (.bin .mul (.c (.int .u64 (4294967296))) (.t 108)), some (104, false)⟩,
 ⟨some 110, (.mv (.t 14)), some (104, false)⟩,
 ⟨some 111, (.bin .add (.t 109) (.t 110)), some (104, false)⟩,
 ⟨some 112, (.bin .gtr (.t 107) (.t 111)), some (104, false)⟩,
 ⟨some 113, (.pick (.t 104) (.c (.bool true)) (.t 112)), none⟩]
 [] [120])
 (.cond (.t 113)
 .skip
 (.exit 2)))
 (.block 3
 (.seq
 (.ops [⟨some 114, (.mv (.t 18)), none⟩,
 ⟨some 115, (.bin .sub (.t 114) (.c (.int .u64 (1)))), none⟩,
 ⟨some 18, (.mv (.t 115)), none⟩]
 [] [113])
 (.seq
 (.ops [⟨some 116, (.mv (.t 16)), none⟩,
 ⟨some 117, (.mv (.t 9)), none⟩,
 ⟨some 118, (.bin .add (.t 116) (.t 117)), none⟩,
 ⟨some 16, (.mv (.t 118)), none⟩]
 [] [])
 (.seq
 (.ops [⟨some 119, (.mv (.t 16)), none⟩,
 ⟨some 120, (.bin .geq (.t 119) (.c (.int .u64 (4294967296)))), none⟩]
 [] [])
 (.cond (.t 120)
 (.exit 2)
 .skip))))))))
 (.seq
 (.ops [⟨some 121, (.mv (.t 15)), none⟩,
 ⟨some 122, (.bin .mul (.t 121) (.c (.int .u64 (4294967296)))), none⟩,
 ⟨some 123, (.mv (.t 18)), none⟩,
 ⟨some 124, (.bin .add (.t 122) (.t 123)), none⟩,
 ⟨some 125, (.mv (.t 17)), none⟩,
 ⟨some 126, (.bin .mul (.t 125) (.c (.int .u64 (4294967296)))), none⟩,
 ⟨some 127, (.mv (.t 14)), none⟩,
 ⟨some 128, (.bin .add (.t 126) (.t 127)), none⟩,
 ⟨some 129, (.mv (.t 18)), none⟩,
 ⟨some 130, (.mv (.t 2)), none⟩,
 ⟨some 131, (.bin .mul (.t 129) (.t 130)), none⟩,
 ⟨some 132, (.bin .sub (.t 128) (.t 131)), none⟩,
 ⟨some 133, (.mv (.t 8)), none⟩,
 ⟨some 134, (.bin .shr (.t 132) (.t 133)), none⟩,
 ⟨some 6, (.mv (.t 124)), none⟩,
 ⟨some 7, (.mv (.t 134)), none⟩]
 [] [2, 8, 9, 10, 14, 15, 16, 17, 18, 102, 103, 104, 105, 106, 107, 108, 109, 110, 111, 112, 113, 114, 115, 116, 117, 118, 119, 120, 121, 122, 123, 124, 125, 126, 127, 128, 129, 130, 131, 132, 133, 134])
 .ret))))))))))))))))))))⟩
def loc165 : List Nat := []
def fg165 : List (Nat × List Nat) := [(28, [2, 8, 9, 10, 14, 15, 16, 17, 18, 102, 103, 104, 105, 106, 107, 108, 109, 110, 111, 112, 113, 114, 115, 116, 117, 118, 119, 120, 121, 122, 123, 124, 125, 126, 127, 128, 129, 130, 131, 132, 133, 134]), (25, [113]), (24, [120]), (23, [97, 98, 99, 100, 101]), (22, [94, 95, 96]), (21, [11, 13, 16, 67, 68, 69, 70, 71, 72, 73, 74, 75, 76, 77, 78, 79, 80, 81, 82, 83, 84, 85, 86, 87, 88, 89, 90, 91, 92, 93]), (18, [78]), (17, [85]), (16, [62, 63, 64, 65, 66]), (15, [59, 60, 61]), (14, [12, 57, 58]), (13, [55, 56]), (12, [1, 52, 53, 54]), (11, [0, 44, 45, 46, 47, 48, 49, 50, 51]), (10, [42, 43]), (9, [40, 41]), (8, [37, 38, 39]), (7, [27, 34, 35, 36]), (6, [0, 1, 2, 27, 28, 29, 30, 31, 32, 33]), (5, [24, 26]), (4, [24, 25]), (3, [20, 22, 23]), (2, [20, 21]), (1, [19]), (0, [6, 7])]
theorem comp165 : compFn Try.prog loc165 (fun i => (fg165.lookup i).getD []) Try.f165 = some lit165 := by kernel_rfl

-- parcener/ask.copied
def lit166 : AFn := ⟨1, [.tmp 2],
 (.seq
 (.ops [⟨some 2, (.mv (.c .nils)), none⟩]
 [] [2])
 (.seq
 (.ops [⟨some 3, (.mv (.c .nils)), none⟩]
 [] [])
 (.seq
 (.seq
 (.ops [⟨some 6, (.mv (.t 0)), none⟩,
 ⟨some 7, (.len (.t 6)), none⟩,
 ⟨some 8, (.mv (.c (.int .i64 (0)))), none⟩]
 [] [0])
 (.block 0
 (.loop
 (.seq
 (.ops [⟨some 9, (.bin .lss (.t 8) (.t 7)), none⟩]
 [] [])
 (.seq
 (.cond (.t 9)
 .skip
 (.exit 0))
 (.seq
 (.block 1
 (.seq
 (.ops [⟨some 10, (.iad 3 (.t 6) (.t 8)), none⟩,
 ⟨some 11, (.load true 3 (.t 10)), none⟩,
 ⟨some 5, (.allocL (.agg [(.int .i64 (0)), .nils, .nils])), none⟩,
 ⟨none, (.store 3 (.t 5) (.t 11)), none⟩]
 [] [9])
 (.ops [⟨some 12, (.mv (.t 3)), none⟩,
 ⟨some 13, (.fad 0 (.t 5)), none⟩,
 ⟨some 14, (.load false 1 (.t 13)), none⟩,
 ⟨some 15, (.fad 1 (.t 5)), none⟩,
 ⟨some 16, (.load false 1 (.t 15)), none⟩,
 ⟨some 17, (.call (.f 236) [(.t 16)]), none⟩,
 ⟨some 18, (.fad 2 (.t 5)), none⟩,
 ⟨some 19, (.load false 1 (.t 18)), none⟩,
 ⟨some 20, (.call (.f 236) [(.t 19)]), none⟩,
 ⟨some 21, (.build [(.int .i64 (0)), .nils, .nils] [(0, 1, (.t 14)), (1, 1, (.t 17)), (2, 1, (.t 20))]), none⟩,
 ⟨some 22, (.buildD 3 (.agg [(.int .i64 (0)), (.data []), (.data [])]) 1 [(0, (.t 21))]), none⟩,
 ⟨some 23, (.app true 3 56 (.t 12) (.t 22)), none⟩,
 ⟨some 3, (.mv (.t 23)), none⟩]
 [(0, 1), (0, 2), (0, 3), (1, 3), (2, 3), (0, 4), (1, 4), (2, 4), (0, 5), (1, 5), (2, 5), (0, 6), (1, 6), (2, 6), (3, 6), (4, 6), (5, 6), (0, 7), (1, 7), (2, 7), (3, 7), (4, 7), (5, 7), (0, 8), (1, 8), (2, 8), (0, 9), (0, 10)] [])))
 (.ops [⟨some 24, (.bin .add (.t 8) (.c (.int .i64 (1)))), none⟩,
 ⟨some 8, (.mv (.t 24)), none⟩]
 [] [])))))))
 (.seq
 (.ops [⟨some 25, (.mv (.t 3)), none⟩,
 ⟨some 2, (.mv (.t 25)), none⟩]
 [] [3, 5, 6, 7, 8, 9, 10, 11, 12, 13, 14, 15, 16, 17, 18, 19, 20, 21, 22, 23, 24, 25])
 .ret))))⟩
def loc166 : List Nat := [22, 5]
def fg166 : List (Nat × List Nat) := [(7, [3, 5, 6, 7, 8, 9, 10, 11, 12, 13, 14, 15, 16, 17, 18, 19, 20, 21, 22, 23, 24, 25]), (4, [9]), (2, [0]), (0, [2])]
theorem comp166 : compFn Try.prog loc166 (fun i => (fg166.lookup i).getD []) Try.f166 = some lit166 := by kernel_rfl

-- (parcener/ask.office).ask
def lit167 : AFn := ⟨3, [.cell 6 true 2, .cell 7 true 2, .tmp 8],
 (.seq
 (.ops [⟨some 3, (.boxL (.t 0)), none⟩,
 ⟨some 4, (.boxL (.t 1)), none⟩,
 ⟨some 6, (.allocL (.agg [.nils, .nils])), none⟩,
 ⟨some 7, (.allocL (.agg [(.int .i64 (0)), (.int .i64 (0))])), none⟩,
 ⟨some 8, (.mv (.c (.int .i64 (0)))), none⟩]
 [] [0, 1, 8])
 (.seq
 (.seq
 (.ops [⟨some 13, (.fad 0 (.t 3)), none⟩,
 ⟨some 14, (.load true 2 (.t 13)), none⟩,
 ⟨some 15, (.call (.f 79) [(.t 14)]), none⟩,
 ⟨some 9, (.mv (.t 15)), none⟩]
 [] [13, 14, 15])
 (.seq
 (.ops [⟨some 16, (.mv (.t 9)), none⟩,
 ⟨some 17, (.bin .neq (.t 16) (.c (.int .i64 (0)))), none⟩]
 [] [16])
 (.cond (.t 17)
 (.seq
 (.ops [⟨some 18, (.build [.nils, .nils] []), none⟩,
 ⟨some 19, (.build [(.int .i64 (0)), (.int .i64 (0))] []), none⟩,
 ⟨some 20, (.mv (.t 9)), none⟩,
 ⟨none, (.store 2 (.t 6) (.t 18)), none⟩,
 ⟨none, (.store 2 (.t 7) (.t 19)), none⟩,
 ⟨some 8, (.mv (.t 20)), none⟩]
 [] [2, 3, 4, 9, 17, 18, 19, 20])
 .ret)
 .skip)))
 (.seq
 (.seq
 (.ops [⟨some 21, (.load true 2 (.t 3)), none⟩,
 ⟨some 22, (.fad 0 (.t 4)), none⟩,
 ⟨some 23, (.load false 1 (.t 22)), none⟩,
 ⟨some 24, (.call (.f 237) [(.t 21), (.t 23)]), none⟩,
 ⟨some 25, (.un .not (.t 24)), none⟩]
 [] [9, 17, 21, 22, 23, 24])
 (.cond (.t 25)
 (.seq
 (.ops [⟨some 26, (.build [.nils, .nils] []), none⟩,
 ⟨some 27, (.build [(.int .i64 (0)), (.int .i64 (0))] []), none⟩,
 ⟨none, (.store 2 (.t 6) (.t 26)), none⟩,
 ⟨none, (.store 2 (.t 7) (.t 27)), none⟩,
 ⟨some 8, (.mv (.c (.int .i64 (2)))), none⟩]
 [] [2, 3, 4, 25, 26, 27])
 .ret)
 .skip))
 (.seq
 (.ops [⟨some 29, (.mv (.t 2)), none⟩,
 ⟨some 30, (.fad 0 (.t 4)), none⟩,
 ⟨some 31, (.load false 1 (.t 30)), none⟩,
 ⟨some 32, (.fad 2 (.t 4)), none⟩,
 ⟨some 33, (.load true 2 (.t 32)), none⟩,
 ⟨some 34, (.fad 4 (.t 4)), none⟩,
 ⟨some 35, (.load true 2 (.t 34)), none⟩,
 ⟨some 36, (.call (.t 29) [(.t 31), (.t 33), (.t 35)]), none⟩,
 ⟨some 28, (.mv (.t 36)), none⟩,
 ⟨some 37, (.ext (.t 28) 0), none⟩,
 ⟨some 38, (.ext (.t 28) 1), none⟩,
 ⟨some 10, (.allocL (.agg [(.int .i64 (0)), (.int .i64 (0))])), none⟩,
 ⟨none, (.store 2 (.t 10) (.t 37)), none⟩,
 ⟨some 11, (.mv (.t 38)), none⟩]
 [] [2, 25, 28, 29, 30, 31, 32, 33, 34, 35, 36, 37, 38])
 (.seq
 (.seq
 (.ops [⟨some 39, (.mv (.t 11)), none⟩,
 ⟨some 40, (.bin .neq (.t 39) (.c (.int .i64 (0)))), none⟩]
 [] [39])
 (.cond (.t 40)
 (.seq
 (.ops [⟨some 41, (.build [.nils, .nils] []), none⟩,
 ⟨some 42, (.build [(.int .i64 (0)), (.int .i64 (0))] []), none⟩,
 ⟨some 43, (.mv (.t 11)), none⟩,
 ⟨none, (.store 2 (.t 6) (.t 41)), none⟩,
 ⟨none, (.store 2 (.t 7) (.t 42)), none⟩,
 ⟨some 8, (.mv (.t 43)), none⟩]
 [] [3, 4, 10, 11, 40, 41, 42, 43])
 .ret)
 .skip))
 (.seq
 (.seq
 (.ops [⟨some 44, (.fad 0 (.t 3)), none⟩,
 ⟨some 45, (.fad 1 (.t 44)), none⟩,
 ⟨some 46, (.load false 1 (.t 45)), none⟩,
 ⟨some 47, (.len (.t 46)), none⟩,
 ⟨some 48, (.bin .geq (.t 47) (.c (.int .i64 (2000)))), none⟩]
 [] [11, 40, 44, 45, 46, 47])
 (.cond (.t 48)
 (.seq
 (.ops [⟨some 49, (.build [.nils, .nils] []), none⟩,
 ⟨some 50, (.build [(.int .i64 (0)), (.int .i64 (0))] []), none⟩,
 ⟨none, (.store 2 (.t 6) (.t 49)), none⟩,
 ⟨none, (.store 2 (.t 7) (.t 50)), none⟩,
 ⟨some 8, (.mv (.c (.int .i64 (4)))), none⟩]
 [] [3, 4, 10, 48, 49, 50])
 .ret)
 .skip))
 (.seq
 (.ops [⟨some 51, (.load true 2 (.t 10)), none⟩,
 ⟨some 52, (.fad 6 (.t 4)), none⟩,
 ⟨none, (.store 2 (.t 52) (.t 51)), none⟩]
 [] [48, 51, 52])
 (.seq
 (.ops [⟨some 53, (.fad 0 (.t 3)), none⟩,
 ⟨some 54, (.fad 1 (.t 53)), none⟩,
 ⟨some 55, (.load false 1 (.t 54)), none⟩,
 ⟨some 56, (.len (.t 55)), none⟩,
 ⟨some 57, (.bin .add (.t 56) (.c (.int .i64 (1)))), none⟩,
 ⟨some 58, (.mkSl true 8 64 (.agg [(.int .i64 (0)), (.int .u8 (0)), (.int .i64 (0)), (.int .i64 (0)), (.int .i64 (0)), (.int .i64 (0)), (.int .i64 (0)), (.int .i64 (0))]) (.c (.int .i64 (0))) (.t 57)), none⟩,
 ⟨some 12, (.mv (.t 58)), none⟩]
 [] [53, 54, 55, 56, 57, 58])
 (.seq
 (.ops [⟨some 59, (.fad 0 (.t 3)), none⟩,
 ⟨some 60, (.fad 0 (.t 59)), none⟩,
 ⟨some 61, (.load false 1 (.t 60)), none⟩,
 ⟨some 62, (.call (.f 166) [(.t 61)]), none⟩,
 ⟨some 63, (.mv (.t 12)), none⟩,
 ⟨some 64, (.fad 0 (.t 3)), none⟩,
 ⟨some 65, (.fad 1 (.t 64)), none⟩,
 ⟨some 66, (.load false 1 (.t 65)), none⟩,
 ⟨some 67, (.app true 8 64 (.t 63) (.t 66)), none⟩,
 ⟨some 68, (.load true 8 (.t 4)), none⟩,
 ⟨some 69, (.buildD 8 (.agg [(.int .i64 (0)), (.int .u8 (0)), (.int .i64 (0)), (.int .i64 (0)), (.int .i64 (0)), (.int .i64 (0)), (.int .i64 (0)), (.int .i64 (0))]) 1 [(0, (.t 68))]), none⟩,
 ⟨some 70, (.app true 8 64 (.t 67) (.t 69)), none⟩,
 ⟨some 71, (.build [.nils, .nils] [(0, 1, (.t 62)), (1, 1, (.t 70))]), none⟩,
 ⟨some 72, (.load true 2 (.t 10)), none⟩,
 ⟨none, (.store 2 (.t 6) (.t 71)), none⟩,
 ⟨none, (.store 2 (.t 7) (.t 72)), none⟩,
 ⟨some 8, (.mv (.c (.int .i64 (0)))), none⟩]
 [(0, 4), (1, 4), (2, 4), (3, 4), (0, 5), (1, 5), (2, 5), (3, 5), (4, 5), (0, 6), (1, 6), (2, 6), (3, 6), (4, 6), (0, 7), (1, 7), (2, 7), (3, 7), (4, 7), (0, 9), (1, 9), (2, 9), (3, 9), (4, 9), (5, 9), (6, 9), (7, 9), (8, 9), (0, 10), (1, 10), (2, 10), (3, 10), (4, 10), (5, 10), (6, 10), (7, 10), (8, 10), (0, 13), (1, 13), (2, 13), (3, 13), (4, 13), (5, 13), (6, 13), (7, 13), (8, 13), (9, 13), (10, 13), (11, 13), (12, 13), (13, 14)] [3, 4, 10, 12, 59, 60, 61, 62, 63, 64, 65, 66, 67, 68, 69, 70, 71, 72])
 .ret)))))))))⟩
def loc167 : List Nat := [69, 3, 4, 6, 7, 10]
def fg167 : List (Nat × List Nat) := [(13, [3, 4, 10, 12, 59, 60, 61, 62, 63, 64, 65, 66, 67, 68, 69, 70, 71, 72]), (12, [53, 54, 55, 56, 57, 58]), (11, [48, 51, 52]), (10, [3, 4, 10, 48, 49, 50]), (9, [11, 40, 44, 45, 46, 47]), (8, [3, 4, 10, 11, 40, 41, 42, 43]), (7, [39]), (6, [2, 25, 28, 29, 30, 31, 32, 33, 34, 35, 36, 37, 38]), (5, [2, 3, 4, 25, 26, 27]), (4, [9, 17, 21, 22, 23, 24]), (3, [2, 3, 4, 9, 17, 18, 19, 20]), (2, [16]), (1, [13, 14, 15]), (0, [0, 1, 8])]
theorem comp167 : compFn Try.prog loc167 (fun i => (fg167.lookup i).getD []) Try.f167 = some lit167 := by kernel_rfl

-- (parcener/ask.office).mark
def lit168 : AFn := ⟨4, [.cell 8 true 2, .tmp 9],
 (.seq
 (.ops [⟨some 4, (.boxL (.t 0)), none⟩,
 ⟨some 6, (.boxL (.t 2)), none⟩,
 ⟨some 7, (.boxL (.t 3)), none⟩,
 ⟨some 8, (.allocL (.agg [(.int .i64 (0)), (.int .i64 (0))])), none⟩,
 ⟨some 9, (.mv (.c (.int .i64 (0)))), none⟩]
 [] [0, 2, 3, 9])
 (.seq
 (.ops [⟨some 10, (.fad 0 (.t 4)), none⟩,
 ⟨some 11, (.fad 0 (.t 10)), none⟩,
 ⟨some 12, (.load false 1 (.t 11)), none⟩,
 ⟨some 13, (.mv (.t 1)), none⟩,
 ⟨some 14, (.iad 3 (.t 12) (.t 13)), none⟩,
 ⟨some 15, (.load true 3 (.t 14)), none⟩,
 ⟨some 16, (.load true 2 (.t 6)), none⟩,
 ⟨some 17, (.load true 2 (.t 7)), none⟩,
 ⟨some 18, (.call (.f 93) [(.t 15), (.t 16), (.t 17)]), none⟩,
 ⟨some 19, (.ext (.t 18) 0), none⟩,
 ⟨some 20, (.ext (.t 18) 1), none⟩,
 ⟨none, (.store 2 (.t 8) (.t 19)), none⟩,
 ⟨some 9, (.mv (.t 20)), none⟩]
 [(0, 3), (1, 3), (2, 3), (0, 6), (1, 6), (2, 6), (3, 6), (4, 6), (5, 6), (0, 7), (1, 7), (2, 7), (3, 7), (4, 7), (5, 7), (6, 7), (9, 10)] [1, 4, 6, 7, 10, 11, 12, 13, 14, 15, 16, 17, 18, 19, 20])
 .ret))⟩
def loc168 : List Nat := [4, 6, 7, 8]
def fg168 : List (Nat × List Nat) := [(1, [1, 4, 6, 7, 10, 11, 12, 13, 14, 15, 16, 17, 18, 19, 20]), (0, [0, 2, 3, 9])]
theorem comp168 : compFn Try.prog loc168 (fun i => (fg168.lookup i).getD []) Try.f168 = some lit168 := by kernel_rfl

-- slices.Min[[]int,int]
def lit169 : AFn := ⟨1, [.tmp 2],
 (.seq
 (.ops [⟨some 2, (.mv (.c (.int .i64 (0)))), none⟩]
 [] [2])
 (.seq
 (.seq
 (.ops [⟨some 5, (.mv (.t 0)), none⟩,
 ⟨some 6, (.len (.t 5)), none⟩,
 ⟨some 7, (.bin .lss (.t 6) (.c (.int .i64 (1)))), none⟩]
 [] [5, 6])
 (.cond (.t 7)
 (.ops [⟨some 8, .bad, none⟩,
 ⟨none, .bad, none⟩]
 [] [7, 8])
 .skip))
 (.seq
 (.ops [⟨some 9, (.mv (.t 0)), none⟩,
 ⟨some 10, (.iad 1 (.t 9) (.c (.int .i64 (0)))), none⟩,
 ⟨some 11, (.load false 1 (.t 10)), none⟩,
 ⟨some 3, (.mv (.t 11)), none⟩]
 [] [7, 9, 10, 11])
 (.seq
 (.seq
 (.ops [⟨some 4, (.mv (.c (.int .i64 (1)))), none⟩]
 [] [])
 (.block 0
 (.loop
 (.seq
 (.seq
 (.ops [⟨some 12, (.mv (.t 4)), none⟩,
 ⟨some 13, (.mv (.t 0)), none⟩,
 ⟨some 14, (.len (.t 13)), none⟩,
 ⟨some 15, (.bin .lss (.t 12) (.t 14)), none⟩]
 [] [])
 (.cond (.t 15)
 .skip
 (.exit 0)))
 (.seq
 (.block 1
 (.ops [⟨some 18, (.mv (.t 3)), none⟩,
 ⟨some 19, (.mv (.t 0)), none⟩,
 ⟨some 20, (.mv (.t 4)), none⟩,
 ⟨some 21, (.iad 1 (.t 19) (.t 20)), none⟩,
 ⟨some 22, (.load false 1 (.t 21)), none⟩,
 ⟨some 23, (.minmax false [(.t 18), (.t 22)]), none⟩,
 ⟨some 3, (.mv (.t 23)), none⟩]
 [] [15]))
 (.ops [⟨some 16, (.mv (.t 4)), none⟩,
 ⟨some 17, (.bin .add (.t 16) (.c (.int .i64 (1)))), none⟩,
 ⟨some 4, (.mv (.t 17)), none⟩]
 [] []))))))
 (.seq
 (.ops [⟨some 24, (.mv (.t 3)), none⟩,
 ⟨some 2, (.mv (.t 24)), none⟩]
 [] [0, 3, 4, 12, 13, 14, 15, 16, 17, 18, 19, 20, 21, 22, 23, 24])
 .ret)))))⟩
def loc169 : List Nat := []
def fg169 : List (Nat × List Nat) := [(8, [0, 3, 4, 12, 13, 14, 15, 16, 17, 18, 19, 20, 21, 22, 23, 24]), (7, [15]), (3, [7, 9, 10, 11]), (2, [7, 8]), (1, [5, 6]), (0, [2])]
theorem comp169 : compFn Try.prog loc169 (fun i => (fg169.lookup i).getD []) Try.f169 = some lit169 := by kernel_rfl

-- slices.Max[[]int,int]
def lit170 : AFn := ⟨1, [.tmp 2],
 (.seq
 (.ops [⟨some 2, (.mv (.c (.int .i64 (0)))), none⟩]
 [] [2])
 (.seq
 (.seq
 (.ops [⟨some 5, (.mv (.t 0)), none⟩,
 ⟨some 6, (.len (.t 5)), none⟩,
 ⟨some 7, (.bin .lss (.t 6) (.c (.int .i64 (1)))), none⟩]
 [] [5, 6])
 (.cond (.t 7)
 (.ops [⟨some 8, .bad, none⟩,
 ⟨none, .bad, none⟩]
 [] [7, 8])
 .skip))
 (.seq
 (.ops [⟨some 9, (.mv (.t 0)), none⟩,
 ⟨some 10, (.iad 1 (.t 9) (.c (.int .i64 (0)))), none⟩,
 ⟨some 11, (.load false 1 (.t 10)), none⟩,
 ⟨some 3, (.mv (.t 11)), none⟩]
 [] [7, 9, 10, 11])
 (.seq
 (.seq
 (.ops [⟨some 4, (.mv (.c (.int .i64 (1)))), none⟩]
 [] [])
 (.block 0
 (.loop
 (.seq
 (.seq
 (.ops [⟨some 12, (.mv (.t 4)), none⟩,
 ⟨some 13, (.mv (.t 0)), none⟩,
 ⟨some 14, (.len (.t 13)), none⟩,
 ⟨some 15, (.bin .lss (.t 12) (.t 14)), none⟩]
 [] [])
 (.cond (.t 15)
 .skip
 (.exit 0)))
 (.seq
 (.block 1
 (.ops [⟨some 18, (.mv (.t 3)), none⟩,
 ⟨some 19, (.mv (.t 0)), none⟩,
 ⟨some 20, (.mv (.t 4)), none⟩,
 ⟨some 21, (.iad 1 (.t 19) (.t 20)), none⟩,
 ⟨some 22, (.load false 1 (.t 21)), none⟩,
 ⟨some 23, (.minmax true [(.t 18), (.t 22)]), none⟩,
 ⟨some 3, (.mv (.t 23)), none⟩]
 [] [15]))
 (.ops [⟨some 16, (.mv (.t 4)), none⟩,
 ⟨some 17, (.bin .add (.t 16) (.c (.int .i64 (1)))), none⟩,
 ⟨some 4, (.mv (.t 17)), none⟩]
 [] []))))))
 (.seq
 (.ops [⟨some 24, (.mv (.t 3)), none⟩,
 ⟨some 2, (.mv (.t 24)), none⟩]
 [] [0, 3, 4, 12, 13, 14, 15, 16, 17, 18, 19, 20, 21, 22, 23, 24])
 .ret)))))⟩
def loc170 : List Nat := []
def fg170 : List (Nat × List Nat) := [(8, [0, 3, 4, 12, 13, 14, 15, 16, 17, 18, 19, 20, 21, 22, 23, 24]), (7, [15]), (3, [7, 9, 10, 11]), (2, [7, 8]), (1, [5, 6]), (0, [2])]
theorem comp170 : compFn Try.prog loc170 (fun i => (fg170.lookup i).getD []) Try.f170 = some lit170 := by kernel_rfl

-- parcener/cake.point
def lit171 : AFn := ⟨2, [.tmp 4],
 (.seq
 (.ops [⟨some 2, (.boxL (.t 0)), none⟩,
 ⟨some 3, (.boxL (.t 1)), none⟩,
 ⟨some 4, (.mv (.c (.bool false))), none⟩]
 [] [0, 1, 4])
 (.seq
 (.ops [⟨some 5, (.load true 2 (.t 3)), none⟩,
 ⟨some 6, (.call (.f 95) [(.t 5)]), none⟩,
 ⟨some 7, (.bin .eql (.t 6) (.c (.int .i64 (0)))), none⟩,
 ⟨some 8, (.mv (.t 7)), none⟩,
 ⟨some 9, (.fad 0 (.t 3)), some (8, true)⟩,
 ⟨some 10, (.load false 1 (.t 9)), some (8, true)⟩,
 ⟨some 11, (.bin .geq (.t 10) (.c (.int .i64 (0)))), some (8, true)⟩,
 ⟨some 12, (.pick (.t 8) (.t 11) (.c (.bool false))), none⟩,
 ⟨some 13, (.mv (.t 12)), none⟩,
 ⟨some 14, (.fad 0 (.t 2)), some (13, true)⟩,
 ⟨some 15, (.load false 1 (.t 14)), some (13, true)⟩,
 ⟨some 16, (.call (.f 175) [(.t 15)]), some (13, true)⟩,
 ⟨some 17, (.load true 2 (.t 3)), some (13, true)⟩,
 ⟨some 18, (.call (.f 174) [(.t 16), (.t 17)]), some (13, true)⟩,
 ⟨some 19, (.un .not (.t 18)), some (13, true)⟩,
 ⟨some 20, (.pick (.t 13) (.t 19) (.c (.bool false))), none⟩,
 ⟨some 4, (.mv (.t 20)), none⟩]
 [(9, 12), (10, 12), (11, 12)] [2, 3, 5, 6, 7, 8, 9, 10, 11, 12, 13, 14, 15, 16, 17, 18, 19, 20])
 .ret))⟩
def loc171 : List Nat := [2, 3]
def fg171 : List (Nat × List Nat) := [(1, [2, 3, 5, 6, 7, 8, 9, 10, 11, 12, 13, 14, 15, 16, 17, 18, 19, 20]), (0, [0, 1, 4])]
theorem comp171 : compFn Try.prog loc171 (fun i => (fg171.lookup i).getD []) Try.f171 = some lit171 := by kernel_rfl

-- parcener/cake.walk
def lit172 : AFn := ⟨3, [.tmp 6],
 (.seq
 (.ops [⟨some 3, (.boxL (.t 0)), none⟩,
 ⟨some 4, (.boxL (.t 1)), none⟩,
 ⟨some 6, (.mv (.c (.int .i64 (0)))), none⟩]
 [] [0, 1, 6])
 (.seq
 (.seq
 (.ops [⟨some 13, (.fad 2 (.t 3)), none⟩,
 ⟨some 14, (.load false 1 (.t 13)), none⟩,
 ⟨some 15, (.len (.t 14)), none⟩,
 ⟨some 16, (.mv (.c (.int .i64 (0)))), none⟩]
 [] [13])
 (.block 0
 (.loop
 (.seq
 (.ops [⟨some 17, (.bin .lss (.t 16) (.t 15)), none⟩]
 [] [])
 (.seq
 (.cond (.t 17)
 .skip
 (.exit 0))
 (.seq
 (.block 1
 (.seq
 (.ops [⟨some 18, (.mv (.t 16)), none⟩,
 ⟨some 19, (.iad 1 (.t 14) (.t 16)), none⟩,
 ⟨some 20, (.load false 1 (.t 19)), none⟩,
 ⟨some 7, (.mv (.t 18)), none⟩,
 ⟨some 8, (.mv (.t 20)), none⟩]
 [] [17])
 (.seq
 (.ops [⟨some 21, (.fad 1 (.t 3)), none⟩,
 ⟨some 22, (.load false 1 (.t 21)), none⟩,
 ⟨some 23, (.mv (.t 7)), none⟩,
 ⟨some 24, (.bin .add (.t 23) (.c (.int .i64 (1)))), none⟩,
 ⟨some 25, (.iad 1 (.t 22) (.t 24)), none⟩,
 ⟨some 26, (.load false 1 (.t 25)), none⟩,
 ⟨some 27, (.call (.f 175) [(.t 26)]), none⟩,
 ⟨some 9, (.allocL (.agg [(.int .i64 (0)), (.int .i64 (0))])), none⟩,
 ⟨none, (.store 2 (.t 9) (.t 27)), none⟩]
 [] [7])
 (.seq
 (.seq
 (.ops [⟨some 28, (.load true 2 (.t 4)), none⟩,
 ⟨some 29, (.load true 2 (.t 9)), none⟩,
 ⟨some 30, (.call (.f 174) [(.t 28), (.t 29)]), none⟩,
 ⟨some 31, (.un .not (.t 30)), none⟩]
 [] [])
 (.cond (.t 31)
 (.exit 1)
 .skip))
 (.seq
 (.ops [⟨some 32, (.call (.f 175) [(.c (.int .i64 (0)))]), none⟩,
 ⟨some 10, (.allocL (.agg [(.int .i64 (0)), (.int .i64 (0))])), none⟩,
 ⟨none, (.store 2 (.t 10) (.t 32)), none⟩]
 [] [31])
 (.seq
 (.seq
 (.ops [⟨some 33, (.mv (.t 8)), none⟩,
 ⟨some 34, (.bin .gtr (.t 33) (.c (.int .i64 (0)))), none⟩]
 [] [])
 (.cond (.t 34)
 (.seq
 (.ops [⟨some 36, (.load true 2 (.t 9)), none⟩,
 ⟨some 37, (.load true 2 (.t 4)), none⟩,
 ⟨some 38, (.call (.f 84) [(.t 36), (.t 37)]), none⟩,
 ⟨some 35, (.mv (.t 38)), none⟩,
 ⟨some 39, (.ext (.t 35) 0), none⟩,
 ⟨some 40, (.ext (.t 35) 1), none⟩,
 ⟨some 11, (.allocL (.agg [(.int .i64 (0)), (.int .i64 (0))])), none⟩,
 ⟨none, (.store 2 (.t 11) (.t 39)), none⟩,
 ⟨some 12, (.mv (.t 40)), none⟩]
 [] [34])
 (.seq
 (.seq
 (.ops [⟨some 41, (.mv (.t 12)), none⟩,
 ⟨some 42, (.bin .neq (.t 41) (.c (.int .i64 (0)))), none⟩]
 [] [])
 (.cond (.t 42)
 (.seq
 (.ops [⟨some 43, (.mv (.t 12)), none⟩,
 ⟨some 6, (.mv (.t 43)), none⟩]
 [] [2, 3, 4, 8, 9, 10, 11, 12, 14, 15, 16, 18, 19, 20, 21, 22, 23, 24, 25, 26, 27, 28, 29, 30, 32, 33, 35, 36, 37, 38, 39, 40, 41, 42, 43, 44, 45, 46, 47, 48, 49, 50, 51, 54, 55, 56, 57, 58, 60, 61])
 .ret)
 .skip))
 (.seq
 (.ops [⟨some 45, (.load true 2 (.t 11)), none⟩,
 ⟨some 46, (.mv (.t 8)), none⟩,
 ⟨some 47, (.call (.f 175) [(.t 46)]), none⟩,
 ⟨some 48, (.call (.f 86) [(.t 45), (.t 47)]), none⟩,
 ⟨some 44, (.mv (.t 48)), none⟩,
 ⟨some 49, (.ext (.t 44) 0), none⟩,
 ⟨some 50, (.ext (.t 44) 1), none⟩,
 ⟨none, (.store 2 (.t 10) (.t 49)), none⟩,
 ⟨some 12, (.mv (.t 50)), none⟩]
 [(0, 1), (0, 2), (5, 6), (6, 7)] [42])
 (.seq
 (.ops [⟨some 51, (.mv (.t 12)), none⟩,
 ⟨some 52, (.bin .neq (.t 51) (.c (.int .i64 (0)))), none⟩]
 [] [])
 (.cond (.t 52)
 (.seq
 (.ops [⟨some 53, (.mv (.t 12)), none⟩,
 ⟨some 6, (.mv (.t 53)), none⟩]
 [] [2, 3, 4, 8, 9, 10, 11, 12, 14, 15, 16, 18, 19, 20, 21, 22, 23, 24, 25, 26, 27, 28, 29, 30, 32, 33, 35, 36, 37, 38, 39, 40, 41, 44, 45, 46, 47, 48, 49, 50, 51, 52, 53, 54, 55, 56, 57, 58, 60, 61])
 .ret)
 .skip)))))
 .skip))
 (.seq
 (.seq
 (.ops [⟨some 54, (.mv (.t 2)), none⟩,
 ⟨some 55, (.load true 2 (.t 4)), none⟩,
 ⟨some 56, (.load true 2 (.t 9)), none⟩,
 ⟨some 57, (.load true 2 (.t 10)), none⟩,
 ⟨some 58, (.mv (.t 8)), none⟩,
 ⟨some 59, (.call (.t 54) [(.t 55), (.t 56), (.t 57), (.t 58)]), none⟩]
 [] [8, 12, 34, 52])
 (.cond (.t 59)
 (.seq
 (.ops [⟨some 6, (.mv (.c (.int .i64 (0)))), none⟩]
 [] [2, 3, 4, 9, 10, 11, 14, 15, 16, 18, 19, 20, 21, 22, 23, 24, 25, 26, 27, 28, 29, 30, 32, 33, 35, 36, 37, 38, 39, 40, 41, 44, 45, 46, 47, 48, 49, 50, 51, 54, 55, 56, 57, 58, 59, 60, 61])
 .ret)
 .skip))
 (.ops [⟨some 60, (.load true 2 (.t 9)), none⟩,
 ⟨none, (.store 2 (.t 4) (.t 60)), none⟩]
 [] [59]))))))))
 (.ops [⟨some 61, (.bin .add (.t 16) (.c (.int .i64 (1)))), none⟩,
 ⟨some 16, (.mv (.t 61)), none⟩]
 [] [8, 31])))))))
 (.seq
 (.ops [⟨some 6, (.mv (.c (.int .i64 (0)))), none⟩]
 [] [2, 3, 4, 9, 10, 11, 14, 15, 16, 17, 18, 19, 20, 21, 22, 23, 24, 25, 26, 27, 28, 29, 30, 32, 33, 35, 36, 37, 38, 39, 40, 41, 44, 45, 46, 47, 48, 49, 50, 51, 54, 55, 56, 57, 58, 60, 61])
 .ret)))⟩
def loc172 : List Nat := [3, 4, 9, 10, 11]
def fg172 : List (Nat × List Nat) := [(18, [2, 3, 4, 9, 10, 11, 14, 15, 16, 17, 18, 19, 20, 21, 22, 23, 24, 25, 26, 27, 28, 29, 30, 32, 33, 35, 36, 37, 38, 39, 40, 41, 44, 45, 46, 47, 48, 49, 50, 51, 54, 55, 56, 57, 58, 60, 61]), (17, [8, 31]), (16, [59]), (15, [2, 3, 4, 9, 10, 11, 14, 15, 16, 18, 19, 20, 21, 22, 23, 24, 25, 26, 27, 28, 29, 30, 32, 33, 35, 36, 37, 38, 39, 40, 41, 44, 45, 46, 47, 48, 49, 50, 51, 54, 55, 56, 57, 58, 59, 60, 61]), (14, [8, 12, 34, 52]), (13, [2, 3, 4, 8, 9, 10, 11, 12, 14, 15, 16, 18, 19, 20, 21, 22, 23, 24, 25, 26, 27, 28, 29, 30, 32, 33, 35, 36, 37, 38, 39, 40, 41, 44, 45, 46, 47, 48, 49, 50, 51, 52, 53, 54, 55, 56, 57, 58, 60, 61]), (11, [42]), (10, [2, 3, 4, 8, 9, 10, 11, 12, 14, 15, 16, 18, 19, 20, 21, 22, 23, 24, 25, 26, 27, 28, 29, 30, 32, 33, 35, 36, 37, 38, 39, 40, 41, 42, 43, 44, 45, 46, 47, 48, 49, 50, 51, 54, 55, 56, 57, 58, 60, 61]), (8, [34]), (6, [31]), (4, [7]), (3, [17]), (1, [13]), (0, [0, 1, 6])]
theorem comp172 : compFn Try.prog loc172 (fun i => (fg172.lookup i).getD []) Try.f172 = some lit172 := by kernel_rfl

-- parcener/cake.Mark$1
def lit173 : AFn := ⟨7, [.tmp 11],
 (.seq
 (.ops [⟨some 7, (.boxL (.t 0)), none⟩,
 ⟨some 8, (.boxL (.t 1)), none⟩,
 ⟨some 9, (.boxL (.t 2)), none⟩,
 ⟨some 11, (.mv (.c (.bool false))), none⟩]
 [] [0, 1, 2, 8, 11])
 (.seq
 (.seq
 (.ops [⟨some 16, (.mv (.t 3)), none⟩,
 ⟨some 17, (.bin .eql (.t 16) (.c (.int .i64 (0)))), none⟩]
 [] [16])
 (.cond (.t 17)
 (.seq
 (.ops [⟨some 11, (.mv (.c (.bool false))), none⟩]
 [] [3, 4, 5, 6, 7, 9, 17])
 .ret)
 .skip))
 (.seq
 (.seq
 (.ops [⟨some 18, (.load true 2 (.t 9)), none⟩,
 ⟨some 19, (.load true 2 (.t 4)), none⟩,
 ⟨some 20, (.call (.f 174) [(.t 18), (.t 19)]), none⟩]
 [] [17, 18, 19])
 (.cond (.t 20)
 (.seq
 (.ops [⟨some 22, (.load true 2 (.t 4)), none⟩,
 ⟨some 23, (.load true 2 (.t 9)), none⟩,
 ⟨some 24, (.call (.f 84) [(.t 22), (.t 23)]), none⟩,
 ⟨some 21, (.mv (.t 24)), none⟩,
 ⟨some 25, (.ext (.t 21) 0), none⟩,
 ⟨some 26, (.ext (.t 21) 1), none⟩,
 ⟨some 12, (.allocL (.agg [(.int .i64 (0)), (.int .i64 (0))])), none⟩,
 ⟨none, (.store 2 (.t 12) (.t 25)), none⟩,
 ⟨some 13, (.mv (.t 26)), none⟩]
 [] [3, 6, 7, 9, 20, 21, 22, 23, 24, 25, 26])
 (.seq
 (.ops [⟨some 27, (.load true 2 (.t 12)), none⟩,
 ⟨none, (.store 2 (.t 4) (.t 27)), none⟩,
 ⟨none, (.store 1 (.t 5) (.c (.int .i64 (6)))), none⟩]
 [] [4, 12, 27])
 (.seq
 (.seq
 (.ops [⟨some 28, (.mv (.t 13)), none⟩,
 ⟨some 29, (.bin .neq (.t 28) (.c (.int .i64 (0)))), none⟩]
 [] [28])
 (.cond (.t 29)
 (.ops [⟨some 30, (.mv (.t 13)), none⟩,
 ⟨none, (.store 1 (.t 5) (.t 30)), none⟩]
 [] [5, 29, 30])
 .skip))
 (.seq
 (.ops [⟨some 31, (.mv (.t 13)), none⟩,
 ⟨some 32, (.bin .neq (.t 31) (.c (.int .i64 (0)))), none⟩,
 ⟨some 11, (.mv (.t 32)), none⟩]
 [] [5, 13, 29, 31, 32])
 .ret))))
 .skip))
 (.seq
 (.ops [⟨some 34, (.load true 2 (.t 4)), none⟩,
 ⟨some 35, (.mv (.t 3)), none⟩,
 ⟨some 36, (.call (.f 175) [(.t 35)]), none⟩,
 ⟨some 37, (.call (.f 85) [(.t 34), (.t 36)]), none⟩,
 ⟨some 33, (.mv (.t 37)), none⟩,
 ⟨some 38, (.ext (.t 33) 0), none⟩,
 ⟨some 39, (.ext (.t 33) 1), none⟩,
 ⟨some 14, (.allocL (.agg [(.int .i64 (0)), (.int .i64 (0))])), none⟩,
 ⟨none, (.store 2 (.t 14) (.t 38)), none⟩,
 ⟨some 15, (.mv (.t 39)), none⟩]
 [(0, 1), (0, 2), (5, 6), (0, 7), (1, 7), (2, 7), (3, 7), (4, 7), (5, 7), (6, 7), (6, 8)] [3, 4, 9, 20, 33, 34, 35, 36, 37, 38, 39])
 (.seq
 (.seq
 (.ops [⟨some 40, (.mv (.t 15)), none⟩,
 ⟨some 41, (.bin .eql (.t 40) (.c (.int .i64 (0)))), none⟩]
 [] [40])
 (.cond (.t 41)
 (.ops [⟨some 43, (.load true 2 (.t 7)), none⟩,
 ⟨some 44, (.load true 2 (.t 14)), none⟩,
 ⟨some 45, (.call (.f 87) [(.t 43), (.t 44)]), none⟩,
 ⟨some 42, (.mv (.t 45)), none⟩,
 ⟨some 46, (.ext (.t 42) 0), none⟩,
 ⟨some 47, (.ext (.t 42) 1), none⟩,
 ⟨none, (.store 2 (.t 6) (.t 46)), none⟩,
 ⟨some 15, (.mv (.t 47)), none⟩]
 [] [6, 7, 14, 41, 42, 43, 44, 45, 46, 47])
 .skip))
 (.seq
 (.ops [⟨some 48, (.mv (.t 15)), none⟩,
 ⟨none, (.store 1 (.t 5) (.t 48)), none⟩]
 [] [5, 6, 7, 14, 15, 41, 48])
 (.seq
 (.ops [⟨some 11, (.mv (.c (.bool true))), none⟩]
 [] [])
 .ret)))))))⟩
def loc173 : List Nat := [7, 8, 9, 12, 14]
def fg173 : List (Nat × List Nat) := [(12, [5, 6, 7, 14, 15, 41, 48]), (11, [6, 7, 14, 41, 42, 43, 44, 45, 46, 47]), (10, [40]), (9, [3, 4, 9, 20, 33, 34, 35, 36, 37, 38, 39]), (8, [5, 13, 29, 31, 32]), (7, [5, 29, 30]), (6, [28]), (5, [4, 12, 27]), (4, [3, 6, 7, 9, 20, 21, 22, 23, 24, 25, 26]), (3, [17, 18, 19]), (2, [3, 4, 5, 6, 7, 9, 17]), (1, [16]), (0, [0, 1, 2, 8, 11])]
theorem comp173 : compFn Try.prog loc173 (fun i => (fg173.lookup i).getD []) Try.f173 = some lit173 := by kernel_rfl

-- parcener/cake.less
def lit174 : AFn := ⟨2, [.tmp 4],
 (.seq
 (.ops [⟨some 2, (.boxL (.t 0)), none⟩,
 ⟨some 3, (.boxL (.t 1)), none⟩,
 ⟨some 4, (.mv (.c (.bool false))), none⟩]
 [] [0, 1, 4])
 (.seq
 (.ops [⟨some 8, (.load true 2 (.t 2)), none⟩,
 ⟨some 9, (.load true 2 (.t 3)), none⟩,
 ⟨some 10, (.call (.f 149) [(.t 8), (.t 9)]), none⟩,
 ⟨some 7, (.mv (.t 10)), none⟩,
 ⟨some 11, (.ext (.t 7) 0), none⟩,
 ⟨some 12, (.ext (.t 7) 1), none⟩,
 ⟨some 5, (.mv (.t 11)), none⟩,
 ⟨some 6, (.mv (.t 12)), none⟩]
 [] [2, 3, 6, 7, 8, 9, 10, 11, 12])
 (.seq
 (.ops [⟨some 13, (.mv (.t 5)), none⟩,
 ⟨some 14, (.bin .lss (.t 13) (.c (.int .i64 (0)))), none⟩,
 ⟨some 4, (.mv (.t 14)), none⟩]
 [] [5, 13, 14])
 .ret)))⟩
def loc174 : List Nat := [2, 3]
def fg174 : List (Nat × List Nat) := [(2, [5, 13, 14]), (1, [2, 3, 6, 7, 8, 9, 10, 11, 12]), (0, [0, 1, 4])]
theorem comp174 : compFn Try.prog loc174 (fun i => (fg174.lookup i).getD []) Try.f174 = some lit174 := by kernel_rfl

-- parcener/cake.whole
def lit175 : AFn := ⟨1, [.cell 2 true 2],
 (.seq
 (.ops [⟨some 2, (.allocL (.agg [(.int .i64 (0)), (.int .i64 (0))])), none⟩]
 [] [])
 (.seq
 (.ops [⟨some 3, (.mv (.t 0)), none⟩,
 ⟨some 4, (.build [(.int .i64 (0)), (.int .i64 (0))] [(0, 1, (.t 3)), (1, 1, (.c (.int .i64 (1))))]), none⟩,
 ⟨none, (.store 2 (.t 2) (.t 4)), none⟩]
 [] [0, 3, 4])
 .ret))⟩
def loc175 : List Nat := [2]
def fg175 : List (Nat × List Nat) := [(1, [0, 3, 4])]
theorem comp175 : compFn Try.prog loc175 (fun i => (fg175.lookup i).getD []) Try.f175 = some lit175 := by kernel_rfl

-- parcener/ask.Value
def lit178 : AFn := ⟨4, [.cell 8 true 2, .cell 9 true 2, .tmp 10],
 (.seq
 (.ops [⟨some 4, (.boxL (.t 0)), none⟩,
 ⟨some 6, (.boxL (.t 2)), none⟩,
 ⟨some 7, (.boxL (.t 3)), none⟩,
 ⟨some 8, (.allocL (.agg [.nils, .nils])), none⟩,
 ⟨some 9, (.allocL (.agg [(.int .i64 (0)), (.int .i64 (0))])), none⟩,
 ⟨some 10, (.mv (.c (.int .i64 (0)))), none⟩]
 [] [0, 2, 3, 10])
 (.seq
 (.ops [⟨some 12, (.load true 2 (.t 4)), none⟩,
 ⟨some 13, (.build [.nils, .nils] [(0, 2, (.t 12))]), none⟩,
 ⟨some 11, (.allocL (.agg [.nils, .nils])), none⟩,
 ⟨none, (.store 2 (.t 11) (.t 13)), none⟩]
 [] [4, 12, 13])
 (.seq
 (.ops [⟨some 14, (.load true 2 (.t 11)), none⟩,
 ⟨some 15, (.mv (.t 1)), none⟩,
 ⟨some 16, (.load true 2 (.t 6)), none⟩,
 ⟨some 17, (.load true 2 (.t 7)), none⟩,
 ⟨some 18, (.build [(.int .i64 (0)), (.int .u8 (0)), (.int .i64 (0)), (.int .i64 (0)), (.int .i64 (0)), (.int .i64 (0)), (.int .i64 (0)), (.int .i64 (0))] [(0, 1, (.t 15)), (1, 1, (.c (.int .u8 (1)))), (2, 2, (.t 16)), (4, 2, (.t 17))]), none⟩,
 ⟨some 19, (.load true 2 (.t 11)), none⟩,
 ⟨some 20, (.mkFn (.func 238) [(.t 19)] []), none⟩,
 ⟨some 21, (.call (.f 167) [(.t 14), (.t 18), (.t 20)]), none⟩,
 ⟨some 22, (.ext (.t 21) 0), none⟩,
 ⟨some 23, (.ext (.t 21) 1), none⟩,
 ⟨some 24, (.ext (.t 21) 2), none⟩,
 ⟨none, (.store 2 (.t 8) (.t 22)), none⟩,
 ⟨none, (.store 2 (.t 9) (.t 23)), none⟩,
 ⟨some 10, (.mv (.t 24)), none⟩]
 [] [1, 6, 7, 11, 14, 15, 16, 17, 18, 19, 20, 21, 22, 23, 24])
 .ret)))⟩
def loc178 : List Nat := [4, 6, 7, 8, 9, 11]
def fg178 : List (Nat × List Nat) := [(2, [1, 6, 7, 11, 14, 15, 16, 17, 18, 19, 20, 21, 22, 23, 24]), (1, [4, 12, 13]), (0, [0, 2, 3, 10])]
theorem comp178 : compFn Try.prog loc178 (fun i => (fg178.lookup i).getD []) Try.f178 = some lit178 := by kernel_rfl

-- cmp.Compare[int64]
def lit226 : AFn := ⟨2, [.tmp 4],
 (.seq
 (.ops [⟨some 4, (.mv (.c (.int .i64 (0)))), none⟩]
 [] [4])
 (.seq
 (.ops [⟨some 7, (.mv (.t 0)), none⟩,
 ⟨some 8, (.call (.f 251) [(.t 7)]), none⟩,
 ⟨some 5, (.mv (.t 8)), none⟩]
 [] [7, 8])
 (.seq
 (.ops [⟨some 9, (.mv (.t 1)), none⟩,
 ⟨some 10, (.call (.f 251) [(.t 9)]), none⟩,
 ⟨some 6, (.mv (.t 10)), none⟩]
 [] [9, 10])
 (.seq
 (.seq
 (.ops [⟨some 11, (.mv (.t 5)), none⟩]
 [] [5])
 (.cond (.t 11)
 (.seq
 (.seq
 (.ops [⟨some 12, (.mv (.t 6)), none⟩]
 [] [0, 1, 6, 11])
 (.cond (.t 12)
 (.seq
 (.ops [⟨some 4, (.mv (.c (.int .i64 (0)))), none⟩]
 [] [12])
 .ret)
 .skip))
 (.seq
 (.ops [⟨some 4, (.mv (.c (.int .i64 (-1)))), none⟩]
 [] [12])
 .ret))
 .skip))
 (.seq
 (.seq
 (.ops [⟨some 13, (.mv (.t 6)), none⟩]
 [] [6, 11])
 (.cond (.t 13)
 (.seq
 (.ops [⟨some 4, (.mv (.c (.int .i64 (1)))), none⟩]
 [] [0, 1, 13])
 .ret)
 .skip))
 (.seq
 (.seq
 (.ops [⟨some 14, (.mv (.t 0)), none⟩,
 ⟨some 15, (.mv (.t 1)), none⟩,
 ⟨some 16, (.bin .lss (.t 14) (.t 15)), none⟩]
 [] [13, 14, 15])
 (.cond (.t 16)
 (.seq
 (.ops [⟨some 4, (.mv (.c (.int .i64 (-1)))), none⟩]
 [] [0, 1, 16])
 .ret)
 .skip))
 (.seq
 (.seq
 (.ops [⟨some 17, (.mv (.t 0)), none⟩,
 ⟨some 18, (.mv (.t 1)), none⟩,
 ⟨some 19, (.bin .gtr (.t 17) (.t 18)), none⟩]
 [] [0, 1, 16, 17, 18])
 (.cond (.t 19)
 (.seq
 (.ops [⟨some 4, (.mv (.c (.int .i64 (1)))), none⟩]
 [] [19])
 .ret)
 .skip))
 (.seq
 (.ops [⟨some 4, (.mv (.c (.int .i64 (0)))), none⟩]
 [] [19])
 .ret))))))))⟩
def loc226 : List Nat := []
def fg226 : List (Nat × List Nat) := [(13, [19]), (12, [19]), (11, [0, 1, 16, 17, 18]), (10, [0, 1, 16]), (9, [13, 14, 15]), (8, [0, 1, 13]), (7, [6, 11]), (6, [12]), (5, [12]), (4, [0, 1, 6, 11]), (3, [5]), (2, [9, 10]), (1, [7, 8]), (0, [4])]
theorem comp226 : compFn Try.prog loc226 (fun i => (fg226.lookup i).getD []) Try.f226 = some lit226 := by kernel_rfl

-- cmp.Or[int]
def lit227 : AFn := ⟨1, [.tmp 2],
 (.seq
 (.ops [⟨some 2, (.mv (.c (.int .i64 (0)))), none⟩]
 [] [2])
 (.seq
 (.ops [⟨some 3, (.mv (.c (.int .i64 (0)))), none⟩]
 [] [])
 (.seq
 (.seq
 (.ops [⟨some 6, (.mv (.t 0)), none⟩,
 ⟨some 7, (.len (.t 6)), none⟩,
 ⟨some 8, (.mv (.c (.int .i64 (0)))), none⟩]
 [] [0])
 (.block 0
 (.loop
 (.seq
 (.ops [⟨some 9, (.bin .lss (.t 8) (.t 7)), none⟩]
 [] [])
 (.seq
 (.cond (.t 9)
 .skip
 (.exit 0))
 (.seq
 (.block 1
 (.seq
 (.ops [⟨some 10, (.iad 1 (.t 6) (.t 8)), none⟩,
 ⟨some 11, (.load false 1 (.t 10)), none⟩,
 ⟨some 5, (.mv (.t 11)), none⟩]
 [] [9])
 (.seq
 (.ops [⟨some 12, (.mv (.t 5)), none⟩,
 ⟨some 13, (.mv (.t 3)), none⟩,
 ⟨some 14, (.bin .neq (.t 12) (.t 13)), none⟩]
 [] [])
 (.cond (.t 14)
 (.seq
 (.ops [⟨some 15, (.mv (.t 5)), none⟩,
 ⟨some 2, (.mv (.t 15)), none⟩]
 [] [3, 5, 6, 7, 8, 10, 11, 12, 13, 14, 15, 16])
 .ret)
 .skip))))
 (.ops [⟨some 16, (.bin .add (.t 8) (.c (.int .i64 (1)))), none⟩,
 ⟨some 8, (.mv (.t 16)), none⟩]
 [] [5, 14])))))))
 (.seq
 (.ops [⟨some 17, (.mv (.t 3)), none⟩,
 ⟨some 2, (.mv (.t 17)), none⟩]
 [] [3, 6, 7, 8, 9, 10, 11, 12, 13, 16, 17])
 .ret))))⟩
def loc227 : List Nat := []
def fg227 : List (Nat × List Nat) := [(8, [3, 6, 7, 8, 9, 10, 11, 12, 13, 16, 17]), (7, [5, 14]), (6, [3, 5, 6, 7, 8, 10, 11, 12, 13, 14, 15, 16]), (4, [9]), (2, [0]), (0, [2])]
theorem comp227 : compFn Try.prog loc227 (fun i => (fg227.lookup i).getD []) Try.f227 = some lit227 := by kernel_rfl

-- cmp.Compare[uint64]
def lit228 : AFn := ⟨2, [.tmp 4],
 (.seq
 (.ops [⟨some 4, (.mv (.c (.int .i64 (0)))), none⟩]
 [] [4])
 (.seq
 (.ops [⟨some 7, (.mv (.t 0)), none⟩,
 ⟨some 8, (.call (.f 252) [(.t 7)]), none⟩,
 ⟨some 5, (.mv (.t 8)), none⟩]
 [] [7, 8])
 (.seq
 (.ops [⟨some 9, (.mv (.t 1)), none⟩,
 ⟨some 10, (.call (.f 252) [(.t 9)]), none⟩,
 ⟨some 6, (.mv (.t 10)), none⟩]
 [] [9, 10])
 (.seq
 (.seq
 (.ops [⟨some 11, (.mv (.t 5)), none⟩]
 [] [5])
 (.cond (.t 11)
 (.seq
 (.seq
 (.ops [⟨some 12, (.mv (.t 6)), none⟩]
 [] [0, 1, 6, 11])
 (.cond (.t 12)
 (.seq
 (.ops [⟨some 4, (.mv (.c (.int .i64 (0)))), none⟩]
 [] [12])
 .ret)
 .skip))
 (.seq
 (.ops [⟨some 4, (.mv (.c (.int .i64 (-1)))), none⟩]
 [] [12])
 .ret))
 .skip))
 (.seq
 (.seq
 (.ops [⟨some 13, (.mv (.t 6)), none⟩]
 [] [6, 11])
 (.cond (.t 13)
 (.seq
 (.ops [⟨some 4, (.mv (.c (.int .i64 (1)))), none⟩]
 [] [0, 1, 13])
 .ret)
 .skip))
 (.seq
 (.seq
 (.ops [⟨some 14, (.mv (.t 0)), none⟩,
 ⟨some 15, (.mv (.t 1)), none⟩,
 ⟨some 16, (.bin .lss (.t 14) (.t 15)), none⟩]
 [] [13, 14, 15])
 (.cond (.t 16)
 (.seq
 (.ops [⟨some 4, (.mv (.c (.int .i64 (-1)))), none⟩]
 [] [0, 1, 16])
 .ret)
 .skip))
 (.seq
 (.seq
 (.ops [⟨some 17, (.mv (.t 0)), none⟩,
 ⟨some 18, (.mv (.t 1)), none⟩,
 ⟨some 19, (.bin .gtr (.t 17) (.t 18)), none⟩]
 [] [0, 1, 16, 17, 18])
 (.cond (.t 19)
 (.seq
 (.ops [⟨some 4, (.mv (.c (.int .i64 (1)))), none⟩]
 [] [19])
 .ret)
 .skip))
 (.seq
 (.ops [⟨some 4, (.mv (.c (.int .i64 (0)))), none⟩]
 [] [19])
 .ret))))))))⟩
def loc228 : List Nat := []
def fg228 : List (Nat × List Nat) := [(13, [19]), (12, [19]), (11, [0, 1, 16, 17, 18]), (10, [0, 1, 16]), (9, [13, 14, 15]), (8, [0, 1, 13]), (7, [6, 11]), (6, [12]), (5, [12]), (4, [0, 1, 6, 11]), (3, [5]), (2, [9, 10]), (1, [7, 8]), (0, [4])]
theorem comp228 : compFn Try.prog loc228 (fun i => (fg228.lookup i).getD []) Try.f228 = some lit228 := by kernel_rfl

-- parcener/ask.Total
def lit229 : AFn := ⟨2, [.tmp 4, .tmp 5],
 (.seq
 (.ops [⟨some 2, (.boxL (.t 0)), none⟩,
 ⟨some 4, (.mv (.c (.int .i64 (0)))), none⟩,
 ⟨some 5, (.mv (.c (.int .i64 (0)))), none⟩]
 [] [0, 4, 5])
 (.seq
 (.seq
 (.ops [⟨some 7, (.load true 2 (.t 2)), none⟩,
 ⟨some 8, (.call (.f 79) [(.t 7)]), none⟩,
 ⟨some 6, (.mv (.t 8)), none⟩]
 [] [7, 8])
 (.seq
 (.ops [⟨some 9, (.mv (.t 6)), none⟩,
 ⟨some 10, (.bin .neq (.t 9) (.c (.int .i64 (0)))), none⟩]
 [] [9])
 (.cond (.t 10)
 (.seq
 (.ops [⟨some 11, (.mv (.t 6)), none⟩,
 ⟨some 4, (.mv (.c (.int .i64 (0)))), none⟩,
 ⟨some 5, (.mv (.t 11)), none⟩]
 [] [1, 2, 6, 10, 11])
 .ret)
 .skip)))
 (.seq
 (.seq
 (.ops [⟨some 12, (.load true 2 (.t 2)), none⟩,
 ⟨some 13, (.build [.nils, .nils] [(0, 2, (.t 12))]), none⟩,
 ⟨some 14, (.mv (.t 1)), none⟩,
 ⟨some 15, (.call (.f 237) [(.t 13), (.t 14)]), none⟩,
 ⟨some 16, (.un .not (.t 15)), none⟩]
 [] [6, 10, 12, 13, 14, 15])
 (.cond (.t 16)
 (.seq
 (.ops [⟨some 4, (.mv (.c (.int .i64 (0)))), none⟩,
 ⟨some 5, (.mv (.c (.int .i64 (2)))), none⟩]
 [] [1, 2, 16])
 .ret)
 .skip))
 (.seq
 (.ops [⟨some 17, (.fad 0 (.t 2)), none⟩,
 ⟨some 18, (.load false 1 (.t 17)), none⟩,
 ⟨some 19, (.mv (.t 1)), none⟩,
 ⟨some 20, (.iad 3 (.t 18) (.t 19)), none⟩,
 ⟨some 21, (.load true 3 (.t 20)), none⟩,
 ⟨some 22, (.call (.f 133) [(.t 21)]), none⟩,
 ⟨some 23, (.ext (.t 22) 0), none⟩,
 ⟨some 24, (.ext (.t 22) 1), none⟩,
 ⟨some 4, (.mv (.t 23)), none⟩,
 ⟨some 5, (.mv (.t 24)), none⟩]
 [] [1, 2, 16, 17, 18, 19, 20, 21, 22, 23, 24])
 .ret))))⟩
def loc229 : List Nat := [2]
def fg229 : List (Nat × List Nat) := [(6, [1, 2, 16, 17, 18, 19, 20, 21, 22, 23, 24]), (5, [1, 2, 16]), (4, [6, 10, 12, 13, 14, 15]), (3, [1, 2, 6, 10, 11]), (2, [9]), (1, [7, 8]), (0, [0, 4, 5])]
theorem comp229 : compFn Try.prog loc229 (fun i => (fg229.lookup i).getD []) Try.f229 = some lit229 := by kernel_rfl

-- slices.stableCmpFunc[parcener/halve.half]
def lit230 : AFn := ⟨3, [],
 (.seq
 (.ops [⟨some 6, (.mv (.c (.int .i64 (20)))), none⟩]
 [] [])
 (.seq
 (.ops [⟨some 10, (.mv (.t 6)), none⟩,
 ⟨some 7, (.mv (.c (.int .i64 (0)))), none⟩,
 ⟨some 8, (.mv (.t 10)), none⟩]
 [] [10])
 (.seq
 (.block 0
 (.loop
 (.seq
 (.seq
 (.ops [⟨some 11, (.mv (.t 8)), none⟩,
 ⟨some 12, (.mv (.t 1)), none⟩,
 ⟨some 13, (.bin .leq (.t 11) (.t 12)), none⟩]
 [] [])
 (.cond (.t 13)
 .skip
 (.exit 0)))
 (.block 1
 (.seq
 (.ops [⟨some 14, (.mv (.t 0)), none⟩,
 ⟨some 15, (.mv (.t 7)), none⟩,
 ⟨some 16, (.mv (.t 8)), none⟩,
 ⟨some 17, (.mv (.t 2)), none⟩,
 ⟨some 18, (.call (.f 253) [(.t 14), (.t 15), (.t 16), (.t 17)]), none⟩]
 [] [7, 13, 18])
 (.seq
 (.ops [⟨some 19, (.mv (.t 8)), none⟩,
 ⟨some 7, (.mv (.t 19)), none⟩]
 [] [])
 (.ops [⟨some 20, (.mv (.t 8)), none⟩,
 ⟨some 21, (.mv (.t 6)), none⟩,
 ⟨some 22, (.bin .add (.t 20) (.t 21)), none⟩,
 ⟨some 8, (.mv (.t 22)), none⟩]
 [] [])))))))
 (.seq
 (.ops [⟨some 23, (.mv (.t 0)), none⟩,
 ⟨some 24, (.mv (.t 7)), none⟩,
 ⟨some 25, (.mv (.t 1)), none⟩,
 ⟨some 26, (.mv (.t 2)), none⟩,
 ⟨some 27, (.call (.f 253) [(.t 23), (.t 24), (.t 25), (.t 26)]), none⟩]
 [] [7, 8, 11, 12, 13, 14, 15, 16, 17, 19, 20, 21, 22, 23, 24, 25, 26, 27])
 (.block 2
 (.loop
 (.seq
 (.seq
 (.ops [⟨some 28, (.mv (.t 6)), none⟩,
 ⟨some 29, (.mv (.t 1)), none⟩,
 ⟨some 30, (.bin .lss (.t 28) (.t 29)), none⟩]
 [] [])
 (.cond (.t 30)
 .skip
 (.exit 2)))
 (.block 3
 (.seq
 (.ops [⟨some 31, (.mv (.t 6)), none⟩,
 ⟨some 32, (.bin .mul (.c (.int .i64 (2))) (.t 31)), none⟩,
 ⟨some 7, (.mv (.c (.int .i64 (0)))), none⟩,
 ⟨some 8, (.mv (.t 32)), none⟩]
 [] [30])
 (.seq
 (.block 4
 (.loop
 (.seq
 (.seq
 (.ops [⟨some 33, (.mv (.t 8)), none⟩,
 ⟨some 34, (.mv (.t 1)), none⟩,
 ⟨some 35, (.bin .leq (.t 33) (.t 34)), none⟩]
 [] [])
 (.cond (.t 35)
 .skip
 (.exit 4)))
 (.block 5
 (.seq
 (.ops [⟨some 36, (.mv (.t 0)), none⟩,
 ⟨some 37, (.mv (.t 7)), none⟩,
 ⟨some 38, (.mv (.t 7)), none⟩,
 ⟨some 39, (.mv (.t 6)), none⟩,
 ⟨some 40, (.bin .add (.t 38) (.t 39)), none⟩,
 ⟨some 41, (.mv (.t 8)), none⟩,
 ⟨some 42, (.mv (.t 2)), none⟩,
 ⟨some 43, (.call (.f 254) [(.t 36), (.t 37), (.t 40), (.t 41), (.t 42)]), none⟩]
 [] [7, 35, 43])
 (.seq
 (.ops [⟨some 44, (.mv (.t 8)), none⟩,
 ⟨some 7, (.mv (.t 44)), none⟩]
 [] [])
 (.ops [⟨some 45, (.mv (.t 8)), none⟩,
 ⟨some 46, (.mv (.t 6)), none⟩,
 ⟨some 47, (.bin .mul (.c (.int .i64 (2))) (.t 46)), none⟩,
 ⟨some 48, (.bin .add (.t 45) (.t 47)), none⟩,
 ⟨some 8, (.mv (.t 48)), none⟩]
 [] [])))))))
 (.seq
 (.seq
 (.ops [⟨some 49, (.mv (.t 7)), none⟩,
 ⟨some 50, (.mv (.t 6)), none⟩,
 ⟨some 51, (.bin .add (.t 49) (.t 50)), none⟩,
 ⟨some 9, (.mv (.t 51)), none⟩]
 [] [8, 35])
 (.seq
 (.ops [⟨some 52, (.mv (.t 9)), none⟩,
 ⟨some 53, (.mv (.t 1)), none⟩,
 ⟨some 54, (.bin .lss (.t 52) (.t 53)), none⟩]
 [] [])
 (.cond (.t 54)
 (.ops [⟨some 55, (.mv (.t 0)), none⟩,
 ⟨some 56, (.mv (.t 7)), none⟩,
 ⟨some 57, (.mv (.t 9)), none⟩,
 ⟨some 58, (.mv (.t 1)), none⟩,
 ⟨some 59, (.mv (.t 2)), none⟩,
 ⟨some 60, (.call (.f 254) [(.t 55), (.t 56), (.t 57), (.t 58), (.t 59)]), none⟩]
 [] [7, 9, 54, 60])
 .skip)))
 (.ops [⟨some 61, (.mv (.t 6)), none⟩,
 ⟨some 62, (.bin .mul (.t 61) (.c (.int .i64 (2)))), none⟩,
 ⟨some 6, (.mv (.t 62)), none⟩]
 [] [7, 9, 54]))))))))))))⟩
def loc230 : List Nat := []
def fg230 : List (Nat × List Nat) := [(16, [7, 9, 54]), (15, [7, 9, 54, 60]), (13, [8, 35]), (10, [7, 35, 43]), (8, [30]), (6, [7, 8, 11, 12, 13, 14, 15, 16, 17, 19, 20, 21, 22, 23, 24, 25, 26, 27]), (3, [7, 13, 18]), (1, [10])]
theorem comp230 : compFn Try.prog loc230 (fun i => (fg230.lookup i).getD []) Try.f230 = some lit230 := by kernel_rfl

-- slices.pdqsortOrdered[int]
def lit231 : AFn := ⟨4, [],
 (.seq
 (.ops [⟨some 8, (.mv (.c (.bool true))), none⟩]
 [] [])
 (.seq
 (.ops [⟨some 9, (.mv (.c (.bool true))), none⟩]
 [] [])
 (.block 0
 (.loop
 (.block 1
 (.seq
 (.ops [⟨some 19, (.mv (.t 2)), none⟩,
 ⟨some 20, (.mv (.t 1)), none⟩,
 ⟨some 21, (.bin .sub (.t 19) (.t 20)), none⟩,
 ⟨some 10, (.mv (.t 21)), none⟩]
 [] [])
 (.seq
 (.seq
 (.ops [⟨some 22, (.mv (.t 10)), none⟩,
 ⟨some 23, (.bin .leq (.t 22) (.c (.int .i64 (12)))), none⟩]
 [] [])
 (.cond (.t 23)
 (.seq
 (.ops [⟨some 24, (.mv (.t 0)), none⟩,
 ⟨some 25, (.mv (.t 1)), none⟩,
 ⟨some 26, (.mv (.t 2)), none⟩,
 ⟨some 27, (.call (.f 255) [(.t 24), (.t 25), (.t 26)]), none⟩]
 [] [0, 1, 2, 3, 8, 9, 10, 19, 20, 21, 22, 23, 24, 25, 26, 27, 28, 34, 36, 37, 38, 40, 41, 42, 43, 44, 45, 46, 47, 48, 49, 51, 52, 53, 55, 56, 57, 58, 59, 60, 61, 62, 63, 64, 65, 66, 67, 69, 70, 71, 73, 74, 75, 76, 77, 78, 79, 80, 81, 82, 83, 84, 85, 86, 88, 89, 90, 91, 92, 93, 94, 95, 96, 97, 98, 99, 100, 101, 102, 103, 104, 105, 106, 107, 108, 109, 110, 111, 112, 114, 115, 116, 117, 118, 119, 120, 122, 123, 124, 125, 126, 127, 128, 129, 130, 131, 133])
 .ret)
 .skip))
 (.seq
 (.seq
 (.ops [⟨some 28, (.mv (.t 3)), none⟩,
 ⟨some 29, (.bin .eql (.t 28) (.c (.int .i64 (0)))), none⟩]
 [] [23])
 (.cond (.t 29)
 (.seq
 (.ops [⟨some 30, (.mv (.t 0)), none⟩,
 ⟨some 31, (.mv (.t 1)), none⟩,
 ⟨some 32, (.mv (.t 2)), none⟩,
 ⟨some 33, (.call (.f 256) [(.t 30), (.t 31), (.t 32)]), none⟩]
 [] [0, 1, 2, 3, 8, 9, 10, 19, 20, 21, 22, 28, 29, 30, 31, 32, 33, 34, 36, 37, 38, 40, 41, 42, 43, 44, 45, 46, 47, 48, 49, 51, 52, 53, 55, 56, 57, 58, 59, 60, 61, 62, 63, 64, 65, 66, 67, 69, 70, 71, 73, 74, 75, 76, 77, 78, 79, 80, 81, 82, 83, 84, 85, 86, 88, 89, 90, 91, 92, 93, 94, 95, 96, 97, 98, 99, 100, 101, 102, 103, 104, 105, 106, 107, 108, 109, 110, 111, 112, 114, 115, 116, 117, 118, 119, 120, 122, 123, 124, 125, 126, 127, 128, 129, 130, 131, 133])
 .ret)
 .skip))
 (.seq
 (.seq
 (.ops [⟨some 34, (.mv (.t 8)), none⟩,
 ⟨some 35, (.un .not (.t 34)), none⟩]
 [] [29])
 (.cond (.t 35)
 (.seq
 (.ops [⟨some 36, (.mv (.t 0)), none⟩,
 ⟨some 37, (.mv (.t 1)), none⟩,
 ⟨some 38, (.mv (.t 2)), none⟩,
 ⟨some 39, (.call (.f 257) [(.t 36), (.t 37), (.t 38)]), none⟩]
 [] [35, 39])
 (.ops [⟨some 40, (.mv (.t 3)), none⟩,
 ⟨some 41, (.bin .sub (.t 40) (.c (.int .i64 (1)))), none⟩,
 ⟨some 3, (.mv (.t 41)), none⟩]
 [] []))
 .skip))
 (.seq
 (.ops [⟨some 43, (.mv (.t 0)), none⟩,
 ⟨some 44, (.mv (.t 1)), none⟩,
 ⟨some 45, (.mv (.t 2)), none⟩,
 ⟨some 46, (.call (.f 258) [(.t 43), (.t 44), (.t 45)]), none⟩,
 ⟨some 42, (.mv (.t 46)), none⟩,
 ⟨some 47, (.ext (.t 42) 0), none⟩,
 ⟨some 48, (.ext (.t 42) 1), none⟩,
 ⟨some 11, (.mv (.t 47)), none⟩,
 ⟨some 12, (.mv (.t 48)), none⟩]
 [] [35])
 (.seq
 (.seq
 (.ops [⟨some 49, (.mv (.t 12)), none⟩,
 ⟨some 50, (.bin .eql (.t 49) (.c (.int .i64 (2)))), none⟩]
 [] [])
 (.cond (.t 50)
 (.seq
 (.ops [⟨some 51, (.mv (.t 0)), none⟩,
 ⟨some 52, (.mv (.t 1)), none⟩,
 ⟨some 53, (.mv (.t 2)), none⟩,
 ⟨some 54, (.call (.f 259) [(.t 51), (.t 52), (.t 53)]), none⟩]
 [] [12, 50, 54])
 (.seq
 (.ops [⟨some 55, (.mv (.t 2)), none⟩,
 ⟨some 56, (.bin .sub (.t 55) (.c (.int .i64 (1)))), none⟩,
 ⟨some 57, (.mv (.t 11)), none⟩,
 ⟨some 58, (.mv (.t 1)), none⟩,
 ⟨some 59, (.bin .sub (.t 57) (.t 58)), none⟩,
 ⟨some 60, (.bin .sub (.t 56) (.t 59)), none⟩,
 ⟨some 11, (.mv (.t 60)), none⟩]
 [] [])
 (.ops [⟨some 12, (.mv (.c (.int .i64 (1)))), none⟩]
 [] [])))
 .skip))
 (.seq
 (.seq
 (.ops [⟨some 61, (.mv (.t 8)), none⟩,
 ⟨some 62, (.mv (.t 61)), none⟩,
 ⟨some 63, (.mv (.t 9)), some (62, true)⟩,
 ⟨some 64, (.pick (.t 62) (.t 63) (.c (.bool false))), none⟩,
 ⟨some 65, (.mv (.t 64)), none⟩,
 ⟨some 66, (.mv (.t 12)), some (65, true)⟩,
 ⟨some 67, (.bin .eql (.t 66) (.c (.int .i64 (1)))), some (65, true)⟩,
 ⟨some 68, (.pick (.t 65) (.t 67) (.c (.bool false))), none⟩]
 [] [12, 50])
 (.cond (.t 68)
 (.seq
 (.ops [⟨some 69, (.mv (.t 0)), none⟩,
 ⟨some 70, (.mv (.t 1)), none⟩,
 ⟨some 71, (.mv (.t 2)), none⟩,
 ⟨some 72, (.call (.f 260) [(.t 69), (.t 70), (.t 71)]), none⟩]
 [] [68])
 (.cond (.t 72)
 .ret
 .skip))
 .skip))
 (.seq
 (.seq
 (.ops [⟨some 73, (.mv (.t 1)), none⟩,
 ⟨some 74, (.bin .gtr (.t 73) (.c (.int .i64 (0)))), none⟩,
 ⟨some 75, (.mv (.t 74)), none⟩,
 ⟨some 76, (.mv (.t 0)), some (75, true)⟩,
 ⟨some 77, (.mv (.t 1)), some (75, true)⟩,
 ⟨some 78, (.bin .sub (.t 77) (.c (.int .i64 (1)))), some (75, true)⟩,
 ⟨some 79, (.iad 1 (.t 76) (.t 78)), some (75, true)⟩,
 ⟨some 80, (.load false 1 (.t 79)), some (75, true)⟩,
 ⟨some 81, (.mv (.t 0)), some (75, true)⟩,
 ⟨some 82, (.mv (.t 11)), some (75, true)⟩,
 ⟨some 83, (.iad 1 (.t 81) (.t 82)), some (75, true)⟩,
 ⟨some 84, (.load false 1 (.t 83)), some (75, true)⟩,
 ⟨some 85, (.call (.f 261) [(.t 80), (.t 84)]), some (75, true)⟩,
 ⟨some 86, (.un .not (.t 85)), some (75, true)⟩,
 ⟨some 87, (.pick (.t 75) (.t 86) (.c (.bool false))), none⟩]
 [(3, 4), (3, 5), (3, 8), (4, 8), (5, 8), (6, 8), (7, 8), (3, 9), (4, 9), (5, 9), (6, 9), (7, 9), (8, 9), (3, 10), (4, 10), (5, 10), (6, 10), (7, 10), (3, 11), (4, 11), (5, 11), (6, 11), (7, 11)] [68, 72])
 (.cond (.t 87)
 (.seq
 (.ops [⟨some 88, (.mv (.t 0)), none⟩,
 ⟨some 89, (.mv (.t 1)), none⟩,
 ⟨some 90, (.mv (.t 2)), none⟩,
 ⟨some 91, (.mv (.t 11)), none⟩,
 ⟨some 92, (.call (.f 262) [(.t 88), (.t 89), (.t 90), (.t 91)]), none⟩,
 ⟨some 13, (.mv (.t 92)), none⟩]
 [] [1, 10, 11, 87])
 (.seq
 (.ops [⟨some 93, (.mv (.t 13)), none⟩,
 ⟨some 1, (.mv (.t 93)), none⟩]
 [] [13])
 (.exit 1)))
 .skip))
 (.seq
 (.ops [⟨some 95, (.mv (.t 0)), none⟩,
 ⟨some 96, (.mv (.t 1)), none⟩,
 ⟨some 97, (.mv (.t 2)), none⟩,
 ⟨some 98, (.mv (.t 11)), none⟩,
 ⟨some 99, (.call (.f 263) [(.t 95), (.t 96), (.t 97), (.t 98)]), none⟩,
 ⟨some 94, (.mv (.t 99)), none⟩,
 ⟨some 100, (.ext (.t 94) 0), none⟩,
 ⟨some 101, (.ext (.t 94) 1), none⟩,
 ⟨some 14, (.mv (.t 100)), none⟩,
 ⟨some 15, (.mv (.t 101)), none⟩]
 [] [8, 9, 11, 87])
 (.seq
 (.ops [⟨some 102, (.mv (.t 15)), none⟩,
 ⟨some 9, (.mv (.t 102)), none⟩]
 [] [15])
 (.seq
 (.ops [⟨some 103, (.mv (.t 14)), none⟩,
 ⟨some 104, (.mv (.t 1)), none⟩,
 ⟨some 105, (.bin .sub (.t 103) (.t 104)), none⟩,
 ⟨some 106, (.mv (.t 2)), none⟩,
 ⟨some 107, (.mv (.t 14)), none⟩,
 ⟨some 108, (.bin .sub (.t 106) (.t 107)), none⟩,
 ⟨some 16, (.mv (.t 105)), none⟩,
 ⟨some 17, (.mv (.t 108)), none⟩]
 [] [])
 (.seq
 (.ops [⟨some 109, (.mv (.t 10)), none⟩,
 ⟨some 110, (.bin .quo (.t 109) (.c (.int .i64 (8)))), none⟩,
 ⟨some 18, (.mv (.t 110)), none⟩]
 [] [10])
 (.seq
 (.ops [⟨some 111, (.mv (.t 16)), none⟩,
 ⟨some 112, (.mv (.t 17)), none⟩,
 ⟨some 113, (.bin .lss (.t 111) (.t 112)), none⟩]
 [] [])
 (.cond (.t 113)
 (.seq
 (.ops [⟨some 114, (.mv (.t 16)), none⟩,
 ⟨some 115, (.mv (.t 18)), none⟩,
 ⟨some 116, (.bin .geq (.t 114) (.t 115)), none⟩,
 ⟨some 8, (.mv (.t 116)), none⟩]
 [] [16, 17, 18, 113])
 (.seq
 (.ops [⟨some 117, (.mv (.t 0)), none⟩,
 ⟨some 118, (.mv (.t 1)), none⟩,
 ⟨some 119, (.mv (.t 14)), none⟩,
 ⟨some 120, (.mv (.t 3)), none⟩,
 ⟨some 121, (.call (.f 231) [(.t 117), (.t 118), (.t 119), (.t 120)]), none⟩]
 [] [1, 121])
 (.ops [⟨some 122, (.mv (.t 14)), none⟩,
 ⟨some 123, (.bin .add (.t 122) (.c (.int .i64 (1)))), none⟩,
 ⟨some 1, (.mv (.t 123)), none⟩]
 [] [14])))
 (.seq
 (.ops [⟨some 124, (.mv (.t 17)), none⟩,
 ⟨some 125, (.mv (.t 18)), none⟩,
 ⟨some 126, (.bin .geq (.t 124) (.t 125)), none⟩,
 ⟨some 8, (.mv (.t 126)), none⟩]
 [] [16, 17, 18, 113])
 (.seq
 (.ops [⟨some 127, (.mv (.t 0)), none⟩,
 ⟨some 128, (.mv (.t 14)), none⟩,
 ⟨some 129, (.bin .add (.t 128) (.c (.int .i64 (1)))), none⟩,
 ⟨some 130, (.mv (.t 2)), none⟩,
 ⟨some 131, (.mv (.t 3)), none⟩,
 ⟨some 132, (.call (.f 231) [(.t 127), (.t 129), (.t 130), (.t 131)]), none⟩]
 [] [2, 132])
 (.ops [⟨some 133, (.mv (.t 14)), none⟩,
 ⟨some 2, (.mv (.t 133)), none⟩]
 [] [14]))))))))))))))))))))))⟩
def loc231 : List Nat := []
def fg231 : List (Nat × List Nat) := [(30, [14]), (29, [2, 132]), (28, [16, 17, 18, 113]), (27, [14]), (26, [1, 121]), (25, [16, 17, 18, 113]), (23, [10]), (21, [15]), (20, [8, 9, 11, 87]), (19, [13]), (18, [1, 10, 11, 87]), (17, [68, 72]), (16, [68]), (15, [12, 50]), (12, [12, 50, 54]), (10, [35]), (8, [35, 39]), (7, [29]), (6, [0, 1, 2, 3, 8, 9, 10, 19, 20, 21, 22, 28, 29, 30, 31, 32, 33, 34, 36, 37, 38, 40, 41, 42, 43, 44, 45, 46, 47, 48, 49, 51, 52, 53, 55, 56, 57, 58, 59, 60, 61, 62, 63, 64, 65, 66, 67, 69, 70, 71, 73, 74, 75, 76, 77, 78, 79, 80, 81, 82, 83, 84, 85, 86, 88, 89, 90, 91, 92, 93, 94, 95, 96, 97, 98, 99, 100, 101, 102, 103, 104, 105, 106, 107, 108, 109, 110, 111, 112, 114, 115, 116, 117, 118, 119, 120, 122, 123, 124, 125, 126, 127, 128, 129, 130, 131, 133]), (5, [23]), (4, [0, 1, 2, 3, 8, 9, 10, 19, 20, 21, 22, 23, 24, 25, 26, 27, 28, 34, 36, 37, 38, 40, 41, 42, 43, 44, 45, 46, 47, 48, 49, 51, 52, 53, 55, 56, 57, 58, 59, 60, 61, 62, 63, 64, 65, 66, 67, 69, 70, 71, 73, 74, 75, 76, 77, 78, 79, 80, 81, 82, 83, 84, 85, 86, 88, 89, 90, 91, 92, 93, 94, 95, 96, 97, 98, 99, 100, 101, 102, 103, 104, 105, 106, 107, 108, 109, 110, 111, 112, 114, 115, 116, 117, 118, 119, 120, 122, 123, 124, 125, 126, 127, 128, 129, 130, 131, 133])]
theorem comp231 : compFn Try.prog loc231 (fun i => (fg231.lookup i).getD []) Try.f231 = some lit231 := by kernel_rfl

-- math/bits.Len64
def lit233 : AFn := ⟨1, [.tmp 2],
 (.seq
 (.ops [⟨some 2, (.mv (.c (.int .i64 (0)))), none⟩]
 [] [])
 (.seq
 (.seq
 (.ops [⟨some 3, (.mv (.t 0)), none⟩,
 ⟨some 4, (.bin .geq (.t 3) (.c (.int .u64 (4294967296)))), none⟩]
 [] [3])
 (.cond (.t 4)
 (.seq
 (.ops [⟨some 5, (.mv (.t 0)), none⟩,
 ⟨some 6, (.bin .shr (.t 5) (.c (.int .u64 (32)))), none⟩,
 ⟨some 0, (.mv (.t 6)), none⟩]
 [] [2, 4, 5, 6])
 (.ops [⟨some 2, (.mv (.c (.int .i64 (32)))), none⟩]
 [] []))
 .skip))
 (.seq
 (.seq
 (.ops [⟨some 7, (.mv (.t 0)), none⟩,
 ⟨some 8, (.bin .geq (.t 7) (.c (.int .u64 (65536)))), none⟩]
 [] [4, 7])
 (.cond (.t 8)
 (.seq
 (.ops [⟨some 9, (.mv (.t 0)), none⟩,
 ⟨some 10, (.bin .shr (.t 9) (.c (.int .u64 (16)))), none⟩,
 ⟨some 0, (.mv (.t 10)), none⟩]
 [] [8, 9, 10])
 (.ops [⟨some 11, (.mv (.t 2)), none⟩,
 ⟨some 12, (.bin .add (.t 11) (.c (.int .i64 (16)))), none⟩,
 ⟨some 2, (.mv (.t 12)), none⟩]
 [] [11, 12]))
 .skip))
 (.seq
 (.seq
 (.ops [⟨some 13, (.mv (.t 0)), none⟩,
 ⟨some 14, (.bin .geq (.t 13) (.c (.int .u64 (256)))), none⟩]
 [] [8, 13])
 (.cond (.t 14)
 (.seq
 (.ops [⟨some 15, (.mv (.t 0)), none⟩,
 ⟨some 16, (.bin .shr (.t 15) (.c (.int .u64 (8)))), none⟩,
 ⟨some 0, (.mv (.t 16)), none⟩]
 [] [14, 15, 16])
 (.ops [⟨some 17, (.mv (.t 2)), none⟩,
 ⟨some 18, (.bin .add (.t 17) (.c (.int .i64 (8)))), none⟩,
 ⟨some 2, (.mv (.t 18)), none⟩]
 [] [17, 18]))
 .skip))
 (.seq
 (.ops [⟨some 19, (.mv (.t 2)), none⟩,
 ⟨some 20, (.mv (.t 0)), none⟩,
 ⟨some 21, (.conv .u8 (.t 20)), none⟩,
 ⟨some 22, (.idx false 256 1 (.c (.agg [(.int .u8 (0)), (.int .u8 (1)), (.int .u8 (2)), (.int .u8 (2)), (.int .u8 (3)), (.int .u8 (3)), (.int .u8 (3)), (.int .u8 (3)), (.int .u8 (4)), (.int .u8 (4)), (.int .u8 (4)), (.int .u8 (4)), (.int .u8 (4)), (.int .u8 (4)), (.int .u8 (4)), (.int .u8 (4)), (.int .u8 (5)), (.int .u8 (5)), (.int .u8 (5)), (.int .u8 (5)), (.int .u8 (5)), (.int .u8 (5)), (.int .u8 (5)), (.int .u8 (5)), (.int .u8 (5)), (.int .u8 (5)), (.int .u8 (5)), (.int .u8 (5)), (.int .u8 (5)), (.int .u8 (5)), (.int .u8 (5)), (.int .u8 (5)), (.int .u8 (6)), (.int .u8 (6)), (.int .u8 (6)), (.int .u8 (6)), (.int .u8 (6)), (.int .u8 (6)), (.int .u8 (6)), (.int .u8 (6)), (.int .u8 (6)), (.int .u8 (6)), (.int .u8 (6)), (.int .u8 (6)), (.int .u8 (6)), (.int .u8 (6)), (.int .u8 (6)), (.int .u8 (6)), (.int .u8 (6)), (.int .u8 (6)), (.int .u8 (6)), (.int .u8 (6)), (.int .u8 (6)), (.int .u8 (6)), (.int .u8 (6)), (.int .u8 (6)), (.int .u8 (6)), (.int .u8 (6)), (.int .u8 (6)), (.int .u8 (6)), (.int .u8 (6)), (.int .u8 (6)), (.int .u8 (6)), (.int .u8 (6)), (.int .u8 (7)), (.int .u8 (7)), (.int .u8 (7)), (.int .u8 (7)), (.int .u8 (7)), (.int .u8 (7)), (.int .u8 (7)), (.int .u8 (7)), (.int .u8 (7)), (.int .u8 (7)), (.int .u8 (7)), (.int .u8 (7)), (.int .u8 (7)), (.int .u8 (7)), (.int .u8 (7)), (.int .u8 (7)), (.int .u8 (7)), (.int .u8 (7)), (.int .u8 (7)), (.int .u8 (7)), (.int .u8 (7)), (.int .u8 (7)), (.int .u8 (7)), (.int .u8 (7)), (.int .u8 (7)), (.int .u8 (7)), (.int .u8 (7)), (.int .u8 (7)), (.int .u8 (7)), (.int .u8 (7)), (.int .u8 (7)), (.int .u8 (7)), (.int .u8 (7)), (.int .u8 (7)), (.int .u8 (7)), (.int .u8 (7)), (.int .u8 (7)), (.int .u8 (7)), (.int .u8 (7)), (.int .u8 (7)), (.int .u8 (7)), (.int .u8 (7)), (.int .u8 (7)), (.int .u8 (7)), (.int .u8 (7)), (.int .u8 (7)), (.int .u8 (7)), (.int .u8 (7)), (.int .u8 (7)), (.int .u8 (7)), (.int .u8 (7)), (.int .u8 (7)), (.int .u8 (7)), (.int .u8 (7)), (.int .u8 (7)), (.int .u8 (7)), (.int .u8 (7)), (.int .u8 (7)), (.int .u8 (7)), (.int .u8 (7)), (.int .u8 (7)), (.int .u8 (7)), (.int .u8 (7)), (.int .u8 (7)), (.int .u8 (8)), (.int .u8 (8)), (.int .u8 (8)), (.int .u8 (8)), (.int .u8 (8)), (.int .u8 (8)), (.int .u8 (8)), (.int .u8 (8)), (.int .u8 (8)), (.int .u8 (8)), (.int .u8 (8)), (.int .u8 (8)), (.int .u8 (8)), (.int .u8 (8)), (.int .u8 (8)), (.int .u8 (8)), (.int .u8 (8)), (.int .u8 (8)), (.int .u8 (8)), (.int .u8 (8)), (.int .u8 (8)), (.int .u8 (8)), (.int .u8 (8)), (.int .u8 (8)), (.int .u8 (8)), (.int .u8 (8)), (.int .u8 (8)), (.int .u8 (8)), (.int .u8 (8)), (.int .u8 (8)), (.int .u8 (8)), (.int .u8 (8)), (.int .u8 (8)), (.int .u8 (8)), (.int .u8 (8)), (.int .u8 (8)), (.int .u8 (8)), (.int .u8 (8)), (.int .u8 (8)), (.int .u8 (8)), (.int .u8 (8)), (.int .u8 (8)), (.int .u8 (8)), (.int .u8 (8)), (.int .u8 (8)), (.int .u8 (8)), (.int .u8 (8)), (.int .u8 (8)), (.int .u8 (8)), (.int .u8 (8)), (.int .u8 (8)), (.int .u8 (8)), (.int .u8 (8)), (.int .u8 (8)), (.int .u8 (8)), (.int .u8 (8)), (.int .u8 (8)), (.int .u8 (8)), (.int .u8 (8)), (.int .u8 (8)), (.int .u8 (8)), (.int .u8 (8)), (.int .u8 (8)), (.int .u8 (8)), (.int .u8 (8)), (.int .u8 (8)), (.int .u8 (8)), (.int .u8 (8)), (.int .u8 (8)), (.int .u8 (8)), (.int .u8 (8)), (.int .u8 (8)), (.int .u8 (8)), (.int .u8 (8)), (.int .u8 (8)), (.int .u8 (8)), (.int .u8 (8)), (.int .u8 (8)), (.int .u8 (8)), (.int .u8 (8)), (.int .u8 (8)), (.int .u8 (8)), (.int .u8 (8)), (.int .u8 (8)), (.int .u8 (8)), (.int .u8 (8)), (.int .u8 (8)), (.int .u8 (8)), (.int .u8 (8)), (.int .u8 (8)), (.int .u8 (8)), (.int .u8 (8)), (.int .u8 (8)), (.int .u8 (8)), (.int .u8 (8)), (.int .u8 (8)), (.int .u8 (8)), (.int .u8 (8)), (.int .u8 (8)), (.int .u8 (8)), (.int .u8 (8)), (.int .u8 (8)), (.int .u8 (8)), (.int .u8 (8)), (.int .u8 (8)), (.int .u8 (8)), (.int .u8 (8)), (.int .u8 (8)), (.int .u8 (8)), (.int .u8 (8)), (.int .u8 (8)), (.int .u8 (8)), (.int .u8 (8)), (.int .u8 (8)), (.int .u8 (8)), (.int .u8 (8)), (.int .u8 (8)), (.int .u8 (8)), (.int .u8 (8)), (.int .u8 (8)), (.int .u8 (8)), (.int .u8 (8)), (.int .u8 (8)), (.int .u8 (8)), (.int .u8 (8)), (.int .u8 (8)), (.int .u8 (8)), (.int .u8 (8))])) (.t 21)), none⟩,
 ⟨some 23, (.conv .i64 (.t 22)), none⟩,
 ⟨some 24, (.bin .add (.t 19) (.t 23)), none⟩,
 ⟨some 2, (.mv (.t 24)), none⟩]
 [] [0, 14, 19, 20, 21, 22, 23, 24])
 .ret)))))⟩
def loc233 : List Nat := []
def fg233 : List (Nat × List Nat) := [(10, [0, 14, 19, 20, 21, 22, 23, 24]), (9, [17, 18]), (8, [14, 15, 16]), (7, [8, 13]), (6, [11, 12]), (5, [8, 9, 10]), (4, [4, 7]), (2, [2, 4, 5, 6]), (1, [3])]
theorem comp233 : compFn Try.prog loc233 (fun i => (fg233.lookup i).getD []) Try.f233 = some lit233 := by kernel_rfl

-- cmp.Or[parcener/api.Errno]
def lit234 : AFn := ⟨1, [.tmp 2],
 (.seq
 (.ops [⟨some 2, (.mv (.c (.int .i64 (0)))), none⟩]
 [] [2])
 (.seq
 (.ops [⟨some 3, (.mv (.c (.int .i64 (0)))), none⟩]
 [] [])
 (.seq
 (.seq
 (.ops [⟨some 6, (.mv (.t 0)), none⟩,
 ⟨some 7, (.len (.t 6)), none⟩,
 ⟨some 8, (.mv (.c (.int .i64 (0)))), none⟩]
 [] [0])
 (.block 0
 (.loop
 (.seq
 (.ops [⟨some 9, (.bin .lss (.t 8) (.t 7)), none⟩]
 [] [])
 (.seq
 (.cond (.t 9)
 .skip
 (.exit 0))
 (.seq
 (.block 1
 (.seq
 (.ops [⟨some 10, (.iad 1 (.t 6) (.t 8)), none⟩,
 ⟨some 11, (.load false 1 (.t 10)), none⟩,
 ⟨some 5, (.mv (.t 11)), none⟩]
 [] [9])
 (.seq
 (.ops [⟨some 12, (.mv (.t 5)), none⟩,
 ⟨some 13, (.mv (.t 3)), none⟩,
 ⟨some 14, (.bin .neq (.t 12) (.t 13)), none⟩]
 [] [])
 (.cond (.t 14)
 (.seq
 (.ops [⟨some 15, (.mv (.t 5)), none⟩,
 ⟨some 2, (.mv (.t 15)), none⟩]
 [] [3, 5, 6, 7, 8, 10, 11, 12, 13, 14, 15, 16])
 .ret)
 .skip))))
 (.ops [⟨some 16, (.bin .add (.t 8) (.c (.int .i64 (1)))), none⟩,
 ⟨some 8, (.mv (.t 16)), none⟩]
 [] [5, 14])))))))
 (.seq
 (.ops [⟨some 17, (.mv (.t 3)), none⟩,
 ⟨some 2, (.mv (.t 17)), none⟩]
 [] [3, 6, 7, 8, 9, 10, 11, 12, 13, 16, 17])
 .ret))))⟩
def loc234 : List Nat := []
def fg234 : List (Nat × List Nat) := [(8, [3, 6, 7, 8, 9, 10, 11, 12, 13, 16, 17]), (7, [5, 14]), (6, [3, 5, 6, 7, 8, 10, 11, 12, 13, 14, 15, 16]), (4, [9]), (2, [0]), (0, [2])]
theorem comp234 : compFn Try.prog loc234 (fun i => (fg234.lookup i).getD []) Try.f234 = some lit234 := by kernel_rfl

-- slices.Clone[[]int,int]
def lit236 : AFn := ⟨1, [.tmp 2],
 (.seq
 (.ops [⟨some 2, (.mv (.c .nils)), none⟩]
 [] [2])
 (.seq
 (.seq
 (.ops [⟨some 3, (.mv (.t 0)), none⟩,
 ⟨some 4, (.eqN false (.t 3)), none⟩]
 [] [3])
 (.cond (.t 4)
 (.seq
 (.ops [⟨some 2, (.mv (.c .nils)), none⟩]
 [] [0, 4])
 .ret)
 .skip))
 (.seq
 (.ops [⟨some 5, (.buildSl true 1 (.int .i64 (0)) 0 []), none⟩,
 ⟨some 6, (.mv (.t 0)), none⟩,
 ⟨some 7, (.app true 1 8 (.t 5) (.t 6)), none⟩,
 ⟨some 2, (.mv (.t 7)), none⟩]
 [] [0, 4, 5, 6, 7])
 .ret)))⟩
def loc236 : List Nat := []
def fg236 : List (Nat × List Nat) := [(3, [0, 4, 5, 6, 7]), (2, [0, 4]), (1, [3]), (0, [2])]
theorem comp236 : compFn Try.prog loc236 (fun i => (fg236.lookup i).getD []) Try.f236 = some lit236 := by kernel_rfl

-- (parcener/ask.office).has
def lit237 : AFn := ⟨2, [.tmp 4],
 (.seq
 (.ops [⟨some 2, (.boxL (.t 0)), none⟩,
 ⟨some 4, (.mv (.c (.bool false))), none⟩]
 [] [0, 4])
 (.seq
 (.ops [⟨some 5, (.mv (.t 1)), none⟩,
 ⟨some 6, (.bin .geq (.t 5) (.c (.int .i64 (0)))), none⟩,
 ⟨some 7, (.mv (.t 6)), none⟩,
 ⟨some 8, (.mv (.t 1)), some (7, true)⟩,
 ⟨some 9, (.fad 0 (.t 2)), some (7, true)⟩,
 ⟨some 10, (.fad 0 (.t 9)), some (7, true)⟩,
 ⟨some 11, (.load false 1 (.t 10)), some (7, true)⟩,
 ⟨some 12, (.len (.t 11)), some (7, true)⟩,
 ⟨some 13, (.bin .lss (.t 8) (.t 12)), some (7, true)⟩,
 ⟨some 14, (.pick (.t 7) (.t 13) (.c (.bool false))), none⟩,
 ⟨some 4, (.mv (.t 14)), none⟩]
 [] [1, 2, 5, 6, 7, 8, 9, 10, 11, 12, 13, 14])
 .ret))⟩
def loc237 : List Nat := [2]
def fg237 : List (Nat × List Nat) := [(1, [1, 2, 5, 6, 7, 8, 9, 10, 11, 12, 13, 14]), (0, [0, 4])]
theorem comp237 : compFn Try.prog loc237 (fun i => (fg237.lookup i).getD []) Try.f237 = some lit237 := by kernel_rfl

-- (parcener/ask.office).value
def lit238 : AFn := ⟨4, [.cell 8 true 2, .tmp 9],
 (.seq
 (.ops [⟨some 4, (.boxL (.t 0)), none⟩,
 ⟨some 6, (.boxL (.t 2)), none⟩,
 ⟨some 7, (.boxL (.t 3)), none⟩,
 ⟨some 8, (.allocL (.agg [(.int .i64 (0)), (.int .i64 (0))])), none⟩,
 ⟨some 9, (.mv (.c (.int .i64 (0)))), none⟩]
 [] [0, 2, 3, 9])
 (.seq
 (.ops [⟨some 10, (.fad 0 (.t 4)), none⟩,
 ⟨some 11, (.fad 0 (.t 10)), none⟩,
 ⟨some 12, (.load false 1 (.t 11)), none⟩,
 ⟨some 13, (.mv (.t 1)), none⟩,
 ⟨some 14, (.iad 3 (.t 12) (.t 13)), none⟩,
 ⟨some 15, (.load true 3 (.t 14)), none⟩,
 ⟨some 16, (.load true 2 (.t 6)), none⟩,
 ⟨some 17, (.load true 2 (.t 7)), none⟩,
 ⟨some 18, (.call (.f 94) [(.t 15), (.t 16), (.t 17)]), none⟩,
 ⟨some 19, (.ext (.t 18) 0), none⟩,
 ⟨some 20, (.ext (.t 18) 1), none⟩,
 ⟨none, (.store 2 (.t 8) (.t 19)), none⟩,
 ⟨some 9, (.mv (.t 20)), none⟩]
 [(0, 3), (1, 3), (2, 3), (0, 6), (1, 6), (2, 6), (3, 6), (4, 6), (5, 6), (0, 7), (1, 7), (2, 7), (3, 7), (4, 7), (5, 7), (6, 7), (9, 10)] [1, 4, 6, 7, 10, 11, 12, 13, 14, 15, 16, 17, 18, 19, 20])
 .ret))⟩
def loc238 : List Nat := [4, 6, 7, 8]
def fg238 : List (Nat × List Nat) := [(1, [1, 4, 6, 7, 10, 11, 12, 13, 14, 15, 16, 17, 18, 19, 20]), (0, [0, 2, 3, 9])]
theorem comp238 : compFn Try.prog loc238 (fun i => (fg238.lookup i).getD []) Try.f238 = some lit238 := by kernel_rfl

-- cmp.isNaN[int64]
def lit251 : AFn := ⟨1, [.tmp 2],
 (.seq
 (.ops [⟨some 2, (.mv (.c (.bool false))), none⟩]
 [] [2])
 (.seq
 (.ops [⟨some 3, (.mv (.t 0)), none⟩,
 ⟨some 4, (.mv (.t 0)), none⟩,
 ⟨some 5, (.bin .neq (.t 3) (.t 4)), none⟩,
 ⟨some 2, (.mv (.t 5)), none⟩]
 [] [0, 3, 4, 5])
 .ret))⟩
def loc251 : List Nat := []
def fg251 : List (Nat × List Nat) := [(1, [0, 3, 4, 5]), (0, [2])]
theorem comp251 : compFn Try.prog loc251 (fun i => (fg251.lookup i).getD []) Try.f251 = some lit251 := by kernel_rfl

-- cmp.isNaN[uint64]
def lit252 : AFn := ⟨1, [.tmp 2],
 (.seq
 (.ops [⟨some 2, (.mv (.c (.bool false))), none⟩]
 [] [2])
 (.seq
 (.ops [⟨some 3, (.mv (.t 0)), none⟩,
 ⟨some 4, (.mv (.t 0)), none⟩,
 ⟨some 5, (.bin .neq (.t 3) (.t 4)), none⟩,
 ⟨some 2, (.mv (.t 5)), none⟩]
 [] [0, 3, 4, 5])
 .ret))⟩
def loc252 : List Nat := []
def fg252 : List (Nat × List Nat) := [(1, [0, 3, 4, 5]), (0, [2])]
theorem comp252 : compFn Try.prog loc252 (fun i => (fg252.lookup i).getD []) Try.f252 = some lit252 := by kernel_rfl

-- slices.insertionSortCmpFunc[parcener/halve.half]
def lit253 : AFn := ⟨4, [],
 (.seq
 (.ops [⟨some 10, (.mv (.t 1)), none⟩,
 ⟨some 11, (.bin .add (.t 10) (.c (.int .i64 (1)))), none⟩,
 ⟨some 8, (.mv (.t 11)), none⟩]
 [] [10, 11])
 (.block 0
 (.loop
 (.seq
 (.seq
 (.ops [⟨some 12, (.mv (.t 8)), none⟩,
 ⟨some 13, (.mv (.t 2)), none⟩,
 ⟨some 14, (.bin .lss (.t 12) (.t 13)), none⟩]
 [] [])
 (.cond (.t 14)
 .skip
 (.exit 0)))
 (.seq
 (.block 1
 (.seq
 (.ops [⟨some 17, (.mv (.t 8)), none⟩,
 ⟨some 9, (.mv (.t 17)), none⟩]
 [] [14])
 (.block 2
 (.loop
 (.seq
 (.seq
 (.ops [⟨some 18, (.mv (.t 9)), none⟩,
 ⟨some 19, (.mv (.t 1)), none⟩,
 ⟨some 20, (.bin .gtr (.t 18) (.t 19)), none⟩,
 ⟨some 21, (.mv (.t 20)), none⟩,
 ⟨some 22, (.mv (.t 3)), some (21, true)⟩,
 ⟨some 23, (.mv (.t 0)), some (21, true)⟩,
 ⟨some 24, (.mv (.t 9)), some (21, true)⟩,
 ⟨some 25, (.iad 3 (.t 23) (.t 24)), some (21, true)⟩,
 ⟨some 26, (.load true 3 (.t 25)), some (21, true)⟩,
 ⟨some 27, (.mv (.t 0)), some (21, true)⟩,
 ⟨some 28, (.mv (.t 9)), some (21, true)⟩,
 ⟨some 29, (.bin .sub (.t 28) (.c (.int .i64 (1)))), some (21, true)⟩,
 ⟨some 30, (.iad 3 (.t 27) (.t 29)), some (21, true)⟩,
 ⟨some 31, (.load true 3 (.t 30)), some (21, true)⟩,
 ⟨some 32, (.call (.t 22) [(.t 26), (.t 31)]), some (21, true)⟩,
 ⟨some 33, (.bin .lss (.t 32) (.c (.int .i64 (0)))), some (21, true)⟩,
 ⟨some 34, (.pick (.t 21) (.t 33) (.c (.bool false))), none⟩]
 [(0, 1), (4, 5), (4, 6), (5, 6), (4, 7), (4, 8), (4, 9), (5, 9), (6, 9), (7, 9), (8, 9), (4, 10), (5, 10), (6, 10), (7, 10), (8, 10), (9, 10), (4, 11), (5, 11), (6, 11), (7, 11), (8, 11), (9, 11), (4, 12), (5, 12), (6, 12), (7, 12), (8, 12), (4, 13), (5, 13), (6, 13), (7, 13), (8, 13)] [])
 (.cond (.t 34)
 .skip
 (.exit 2)))
 (.seq
 (.block 3
 (.ops [⟨some 37, (.mv (.t 0)), none⟩,
 ⟨some 38, (.mv (.t 9)), none⟩,
 ⟨some 39, (.mv (.t 0)), none⟩,
 ⟨some 40, (.mv (.t 9)), none⟩,
 ⟨some 41, (.bin .sub (.t 40) (.c (.int .i64 (1)))), none⟩,
 ⟨some 42, (.mv (.t 0)), none⟩,
 ⟨some 43, (.mv (.t 9)), none⟩,
 ⟨some 44, (.bin .sub (.t 43) (.c (.int .i64 (1)))), none⟩,
 ⟨some 45, (.iad 3 (.t 42) (.t 44)), none⟩,
 ⟨some 46, (.load true 3 (.t 45)), none⟩,
 ⟨some 47, (.mv (.t 0)), none⟩,
 ⟨some 48, (.mv (.t 9)), none⟩,
 ⟨some 49, (.iad 3 (.t 47) (.t 48)), none⟩,
 ⟨some 50, (.load true 3 (.t 49)), none⟩,
 ⟨some 51, (.iad 3 (.t 37) (.t 38)), none⟩,
 ⟨none, (.store 3 (.t 51) (.t 46)), none⟩,
 ⟨some 52, (.iad 3 (.t 39) (.t 41)), none⟩,
 ⟨none, (.store 3 (.t 52) (.t 50)), none⟩]
 [(0, 1), (0, 2), (1, 2), (0, 3), (1, 3), (2, 3), (0, 4), (1, 4), (2, 4), (0, 5), (1, 5), (2, 5), (3, 5), (4, 5), (0, 6), (1, 6), (2, 6), (3, 6), (4, 6), (5, 6), (0, 7), (1, 7), (2, 7), (3, 7), (4, 7), (5, 7), (0, 8), (1, 8), (2, 8), (3, 8), (4, 8), (0, 9), (1, 9), (2, 9), (3, 9), (4, 9), (0, 10), (1, 10), (2, 10), (3, 10), (4, 10), (5, 10), (6, 10), (7, 10), (8, 10), (9, 10), (0, 11), (1, 11), (2, 11), (3, 11), (4, 11), (5, 11), (6, 11), (7, 11), (8, 11), (9, 11), (10, 11), (0, 12), (1, 12), (2, 12), (3, 12), (4, 12), (5, 12), (6, 12), (7, 12), (8, 12), (9, 12), (0, 13), (1, 13), (2, 13), (3, 13), (4, 13), (5, 13), (6, 13), (7, 13), (8, 13), (9, 13), (2, 14), (3, 14), (4, 14), (2, 15), (3, 15), (4, 15)] [34]))
 (.ops [⟨some 35, (.mv (.t 9)), none⟩,
 ⟨some 36, (.bin .sub (.t 35) (.c (.int .i64 (1)))), none⟩,
 ⟨some 9, (.mv (.t 36)), none⟩]
 [] [])))))))
 (.ops [⟨some 15, (.mv (.t 8)), none⟩,
 ⟨some 16, (.bin .add (.t 15) (.c (.int .i64 (1)))), none⟩,
 ⟨some 8, (.mv (.t 16)), none⟩]
 [] [9, 34]))))))⟩
def loc253 : List Nat := []
def fg253 : List (Nat × List Nat) := [(2, [9, 34]), (6, [34]), (3, [14]), (0, [10, 11])]
theorem comp253 : compFn Try.prog loc253 (fun i => (fg253.lookup i).getD []) Try.f253 = some lit253 := by kernel_rfl

-- slices.insertionSortOrdered[int]
def lit255 : AFn := ⟨3, [],
 (.seq
 (.ops [⟨some 8, (.mv (.t 1)), none⟩,
 ⟨some 9, (.bin .add (.t 8) (.c (.int .i64 (1)))), none⟩,
 ⟨some 6, (.mv (.t 9)), none⟩]
 [] [8, 9])
 (.block 0
 (.loop
 (.seq
 (.seq
 (.ops [⟨some 10, (.mv (.t 6)), none⟩,
 ⟨some 11, (.mv (.t 2)), none⟩,
 ⟨some 12, (.bin .lss (.t 10) (.t 11)), none⟩]
 [] [])
 (.cond (.t 12)
 .skip
 (.exit 0)))
 (.seq
 (.block 1
 (.seq
 (.ops [⟨some 15, (.mv (.t 6)), none⟩,
 ⟨some 7, (.mv (.t 15)), none⟩]
 [] [12])
 (.block 2
 (.loop
 (.seq
 (.seq
 (.ops [⟨some 16, (.mv (.t 7)), none⟩,
 ⟨some 17, (.mv (.t 1)), none⟩,
 ⟨some 18, (.bin .gtr (.t 16) (.t 17)), none⟩,
 ⟨some 19, (.mv (.t 18)), none⟩,
 ⟨some 20, (.mv (.t 0)), some (19, true)⟩,
 ⟨some 21, (.mv (.t 7)), some (19, true)⟩,
 ⟨some 22, (.iad 1 (.t 20) (.t 21)), some (19, true)⟩,
 ⟨some 23, (.load false 1 (.t 22)), some (19, true)⟩,
 ⟨some 24, (.mv (.t 0)), some (19, true)⟩,
 ⟨some 25, (.mv (.t 7)), some (19, true)⟩,
 ⟨some 26, (.bin .sub (.t 25) (.c (.int .i64 (1)))), some (19, true)⟩,
 ⟨some 27, (.iad 1 (.t 24) (.t 26)), some (19, true)⟩,
 ⟨some 28, (.load false 1 (.t 27)), some (19, true)⟩,
 ⟨some 29, (.call (.f 261) [(.t 23), (.t 28)]), some (19, true)⟩,
 ⟨some 30, (.pick (.t 19) (.t 29) (.c (.bool false))), none⟩]
 [(0, 1), (4, 5), (4, 8), (5, 8), (6, 8), (7, 8), (4, 9), (5, 9), (6, 9), (7, 9), (8, 9), (4, 10), (5, 10), (6, 10), (7, 10), (8, 10), (4, 11), (5, 11), (6, 11), (7, 11), (4, 12), (5, 12), (6, 12), (7, 12)] [])
 (.cond (.t 30)
 .skip
 (.exit 2)))
 (.seq
 (.block 3
 (.ops [⟨some 33, (.mv (.t 0)), none⟩,
 ⟨some 34, (.mv (.t 7)), none⟩,
 ⟨some 35, (.mv (.t 0)), none⟩,
 ⟨some 36, (.mv (.t 7)), none⟩,
 ⟨some 37, (.bin .sub (.t 36) (.c (.int .i64 (1)))), none⟩,
 ⟨some 38, (.mv (.t 0)), none⟩,
 ⟨some 39, (.mv (.t 7)), none⟩,
 ⟨some 40, (.bin .sub (.t 39) (.c (.int .i64 (1)))), none⟩,
 ⟨some 41, (.iad 1 (.t 38) (.t 40)), none⟩,
 ⟨some 42, (.load false 1 (.t 41)), none⟩,
 ⟨some 43, (.mv (.t 0)), none⟩,
 ⟨some 44, (.mv (.t 7)), none⟩,
 ⟨some 45, (.iad 1 (.t 43) (.t 44)), none⟩,
 ⟨some 46, (.load false 1 (.t 45)), none⟩,
 ⟨some 47, (.iad 1 (.t 33) (.t 34)), none⟩,
 ⟨none, (.store 1 (.t 47) (.t 42)), none⟩,
 ⟨some 48, (.iad 1 (.t 35) (.t 37)), none⟩,
 ⟨none, (.store 1 (.t 48) (.t 46)), none⟩]
 [(0, 1), (0, 2), (1, 2), (0, 3), (1, 3), (2, 3), (0, 4), (1, 4), (2, 4), (0, 5), (1, 5), (2, 5), (3, 5), (4, 5), (0, 6), (1, 6), (2, 6), (3, 6), (4, 6), (5, 6), (0, 7), (1, 7), (2, 7), (3, 7), (4, 7), (5, 7), (0, 8), (1, 8), (2, 8), (3, 8), (4, 8), (0, 9), (1, 9), (2, 9), (3, 9), (4, 9), (0, 10), (1, 10), (2, 10), (3, 10), (4, 10), (5, 10), (6, 10), (7, 10), (8, 10), (9, 10), (0, 11), (1, 11), (2, 11), (3, 11), (4, 11), (5, 11), (6, 11), (7, 11), (8, 11), (9, 11), (10, 11), (0, 12), (1, 12), (2, 12), (3, 12), (4, 12), (5, 12), (6, 12), (7, 12), (8, 12), (9, 12), (0, 13), (1, 13), (2, 13), (3, 13), (4, 13), (5, 13), (6, 13), (7, 13), (8, 13), (9, 13), (2, 14), (3, 14), (4, 14), (2, 15), (3, 15), (4, 15)] [30]))
 (.ops [⟨some 31, (.mv (.t 7)), none⟩,
 ⟨some 32, (.bin .sub (.t 31) (.c (.int .i64 (1)))), none⟩,
 ⟨some 7, (.mv (.t 32)), none⟩]
 [] [])))))))
 (.ops [⟨some 13, (.mv (.t 6)), none⟩,
 ⟨some 14, (.bin .add (.t 13) (.c (.int .i64 (1)))), none⟩,
 ⟨some 6, (.mv (.t 14)), none⟩]
 [] [7, 30]))))))⟩
def loc255 : List Nat := []
def fg255 : List (Nat × List Nat) := [(2, [7, 30]), (6, [30]), (3, [12]), (0, [8, 9])]
theorem comp255 : compFn Try.prog loc255 (fun i => (fg255.lookup i).getD []) Try.f255 = some lit255 := by kernel_rfl

-- cmp.Less[int]
def lit261 : AFn := ⟨2, [.tmp 4],
 (.seq
 (.ops [⟨some 4, (.mv (.c (.bool false))), none⟩]
 [] [4])
 (.seq
 (.ops [⟨some 5, (.mv (.t 0)), none⟩,
 ⟨some 6, (.call (.f 287) [(.t 5)]), none⟩,
 ⟨some 7, (.mv (.t 6)), none⟩,
 ⟨some 8, (.mv (.t 1)), some (7, true)⟩,
 ⟨some 9, (.call (.f 287) [(.t 8)]), some (7, true)⟩,
 ⟨some 10, (.un .not (.t 9)), some (7, true)⟩,
 ⟨some 11, (.pick (.t 7) (.t 10) (.c (.bool false))), none⟩,
 ⟨some 12, (.mv (.t 11)), none⟩,
 ⟨some 13, (.mv (.t 0)), some (12, false)⟩,
 ⟨some 14, (.mv (.t 1)), some (12, false)⟩,
 ⟨some 15, (.bin .lss (.t 13) (.t 14)), some (12, false)⟩,
 ⟨some 16, (.pick (.t 12) (.c (.bool true)) (.t 15)), none⟩,
 ⟨some 4, (.mv (.t 16)), none⟩]
 [] [0, 1, 5, 6, 7, 8, 9, 10, 11, 12, 13, 14, 15, 16])
 .ret))⟩
def loc261 : List Nat := []
def fg261 : List (Nat × List Nat) := [(1, [0, 1, 5, 6, 7, 8, 9, 10, 11, 12, 13, 14, 15, 16]), (0, [4])]
theorem comp261 : compFn Try.prog loc261 (fun i => (fg261.lookup i).getD []) Try.f261 = some lit261 := by kernel_rfl

-- cmp.isNaN[int]
def lit287 : AFn := ⟨1, [.tmp 2],
 (.seq
 (.ops [⟨some 2, (.mv (.c (.bool false))), none⟩]
 [] [2])
 (.seq
 (.ops [⟨some 3, (.mv (.t 0)), none⟩,
 ⟨some 4, (.mv (.t 0)), none⟩,
 ⟨some 5, (.bin .neq (.t 3) (.t 4)), none⟩,
 ⟨some 2, (.mv (.t 5)), none⟩]
 [] [0, 3, 4, 5])
 .ret))⟩
def loc287 : List Nat := []
def fg287 : List (Nat × List Nat) := [(1, [0, 3, 4, 5]), (0, [2])]
theorem comp287 : compFn Try.prog loc287 (fun i => (fg287.lookup i).getD []) Try.f287 = some lit287 := by kernel_rfl

def tab1 : List (Nat × AFn) := [(160, lit160), (161, lit161), (164, lit164), (165, lit165), (166, lit166), (167, lit167), (168, lit168), (169, lit169), (170, lit170), (171, lit171), (172, lit172), (173, lit173), (174, lit174), (175, lit175), (178, lit178), (226, lit226), (227, lit227), (228, lit228), (229, lit229), (230, lit230), (231, lit231), (233, lit233), (234, lit234), (236, lit236), (237, lit237), (238, lit238), (251, lit251), (252, lit252), (253, lit253), (255, lit255), (261, lit261), (287, lit287)]
theorem tabOk1 : AllOk Try.prog tab1 := ⟨⟨_, _, _, Try.func160, comp160⟩, ⟨_, _, _, Try.func161, comp161⟩, ⟨_, _, _, Try.func164, comp164⟩, ⟨_, _, _, Try.func165, comp165⟩, ⟨_, _, _, Try.func166, comp166⟩, ⟨_, _, _, Try.func167, comp167⟩, ⟨_, _, _, Try.func168, comp168⟩, ⟨_, _, _, Try.func169, comp169⟩, ⟨_, _, _, Try.func170, comp170⟩, ⟨_, _, _, Try.func171, comp171⟩, ⟨_, _, _, Try.func172, comp172⟩, ⟨_, _, _, Try.func173, comp173⟩, ⟨_, _, _, Try.func174, comp174⟩, ⟨_, _, _, Try.func175, comp175⟩, ⟨_, _, _, Try.func178, comp178⟩, ⟨_, _, _, Try.func226, comp226⟩, ⟨_, _, _, Try.func227, comp227⟩, ⟨_, _, _, Try.func228, comp228⟩, ⟨_, _, _, Try.func229, comp229⟩, ⟨_, _, _, Try.func230, comp230⟩, ⟨_, _, _, Try.func231, comp231⟩, ⟨_, _, _, Try.func233, comp233⟩, ⟨_, _, _, Try.func234, comp234⟩, ⟨_, _, _, Try.func236, comp236⟩, ⟨_, _, _, Try.func237, comp237⟩, ⟨_, _, _, Try.func238, comp238⟩, ⟨_, _, _, Try.func251, comp251⟩, ⟨_, _, _, Try.func252, comp252⟩, ⟨_, _, _, Try.func253, comp253⟩, ⟨_, _, _, Try.func255, comp255⟩, ⟨_, _, _, Try.func261, comp261⟩, ⟨_, _, _, Try.func287, comp287⟩, trivial⟩
end Go.Proofs.Ytfkfmlifhdcolaa.Ha
