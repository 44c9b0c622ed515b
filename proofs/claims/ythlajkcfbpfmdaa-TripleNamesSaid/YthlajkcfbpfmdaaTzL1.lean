/- The functions that the statement TripleNames runs, in the small code (part 1); each is what the framework makes of the program. -/
import Derived.Test.YthlajkcfbpfmdaaFw27
import Derived.Test.YthlajkcfbpfmdaaRows
namespace Go.Proofs.Ythlajkcfbpfmdaa.Tz
open Go Go.Pf
-- slices.SortFunc[[]parcener/api.Span,parcener/api.Span]
def lit45 : AFn := ⟨2, [],
 (.seq
 (.ops [⟨some 5, (.mv (.t 0)), none⟩,
 ⟨some 6, (.len (.t 5)), none⟩,
 ⟨some 4, (.mv (.t 6)), none⟩]
 [] [5, 6])
 (.ops [⟨some 7, (.mv (.t 0)), none⟩,
 ⟨some 8, (.mv (.t 4)), none⟩,
 ⟨some 9, (.mv (.t 4)), none⟩,
 ⟨some 10, (.conv .u64 (.t 9)), none⟩,
 ⟨some 11, (.call (.f 69) [(.t 10)]), none⟩,
 ⟨some 12, (.mv (.t 1)), none⟩,
 ⟨some 13, (.call (.f 68) [(.t 7), (.c (.int .i64 (0))), (.t 8), (.t 11), (.t 12)]), none⟩]
 [] [0, 1, 4, 7, 8, 9, 10, 11, 12, 13]))⟩
def loc45 : List Nat := []
def fg45 : List (Nat × List Nat) := [(1, [0, 1, 4, 7, 8, 9, 10, 11, 12, 13]), (0, [5, 6])]
theorem comp45 : compFn Try.prog loc45 (fun i => (fg45.lookup i).getD []) Try.f45 = some lit45 := by kernel_rfl

-- parcener/piece.merged$1
def lit46 : AFn := ⟨2, [.tmp 4],
 (.seq
 (.ops [⟨some 2, (.boxL (.t 0)), none⟩,
 ⟨some 3, (.boxL (.t 1)), none⟩,
 ⟨some 4, (.mv (.c (.int .i64 (0)))), none⟩]
 [] [0, 1, 4])
 (.seq
 (.ops [⟨some 5, (.fad 0 (.t 2)), none⟩,
 ⟨some 6, (.load true 2 (.t 5)), none⟩,
 ⟨some 7, (.fad 0 (.t 3)), none⟩,
 ⟨some 8, (.load true 2 (.t 7)), none⟩,
 ⟨some 9, (.call (.f 47) [(.t 6), (.t 8)]), none⟩,
 ⟨some 4, (.mv (.t 9)), none⟩]
 [] [2, 3, 5, 6, 7, 8, 9])
 .ret))⟩
def loc46 : List Nat := [2, 3]
def fg46 : List (Nat × List Nat) := [(1, [2, 3, 5, 6, 7, 8, 9]), (0, [0, 1, 4])]
theorem comp46 : compFn Try.prog loc46 (fun i => (fg46.lookup i).getD []) Try.f46 = some lit46 := by kernel_rfl

-- parcener/piece.order
def lit47 : AFn := ⟨2, [.tmp 4],
 (.seq
 (.ops [⟨some 2, (.boxL (.t 0)), none⟩,
 ⟨some 3, (.boxL (.t 1)), none⟩,
 ⟨some 4, (.mv (.c (.int .i64 (0)))), none⟩]
 [] [0, 1, 4])
 (.seq
 (.ops [⟨some 8, (.load true 2 (.t 2)), none⟩,
 ⟨some 9, (.load true 2 (.t 3)), none⟩,
 ⟨some 10, (.call (.f 40) [(.t 8), (.t 9)]), none⟩,
 ⟨some 7, (.mv (.t 10)), none⟩,
 ⟨some 11, (.ext (.t 7) 0), none⟩,
 ⟨some 12, (.ext (.t 7) 1), none⟩,
 ⟨some 5, (.mv (.t 11)), none⟩,
 ⟨some 6, (.mv (.t 12)), none⟩]
 [] [2, 3, 6, 7, 8, 9, 10, 11, 12])
 (.seq
 (.ops [⟨some 13, (.mv (.t 5)), none⟩,
 ⟨some 4, (.mv (.t 13)), none⟩]
 [] [5, 13])
 .ret)))⟩
def loc47 : List Nat := [2, 3]
def fg47 : List (Nat × List Nat) := [(2, [5, 13]), (1, [2, 3, 6, 7, 8, 9, 10, 11, 12]), (0, [0, 1, 4])]
theorem comp47 : compFn Try.prog loc47 (fun i => (fg47.lookup i).getD []) Try.f47 = some lit47 := by kernel_rfl

-- slices.Min[[]int,int]
def lit48 : AFn := ⟨1, [.tmp 2],
 (.seq
 (.ops [⟨some 2, (.mv (.c (.int .i64 (0)))), none⟩]
 [] [2])
 (.seq
 (.seq
 (.ops [⟨some 5, (.mv (.t 0)), none⟩,
 ⟨some 6, (.len (.t 5)), none⟩,
 ⟨some 7, (.bin .lss (.t 6) (.c (.int .i64 (1)))), none⟩]
 [] [5, 6])
 (.cond (.t 7)
 (.ops [⟨some 8, .bad, none⟩,
 ⟨none, .bad, none⟩]
 [] [7, 8])
 .skip))
 (.seq
 (.ops [⟨some 9, (.mv (.t 0)), none⟩,
 ⟨some 10, (.iad 1 (.t 9) (.c (.int .i64 (0)))), none⟩,
 ⟨some 11, (.load false 1 (.t 10)), none⟩,
 ⟨some 3, (.mv (.t 11)), none⟩]
 [] [7, 9, 10, 11])
 (.seq
 (.seq
 (.ops [⟨some 4, (.mv (.c (.int .i64 (1)))), none⟩]
 [] [])
 (.block 0
 (.loop
 (.seq
 (.seq
 (.ops [⟨some 12, (.mv (.t 4)), none⟩,
 ⟨some 13, (.mv (.t 0)), none⟩,
 ⟨some 14, (.len (.t 13)), none⟩,
 ⟨some 15, (.bin .lss (.t 12) (.t 14)), none⟩]
 [] [12, 13, 14])
 (.cond (.t 15)
 .skip
 (.exit 0)))
 (.seq
 (.block 1
 (.ops [⟨some 18, (.mv (.t 3)), none⟩,
 ⟨some 19, (.mv (.t 0)), none⟩,
 ⟨some 20, (.mv (.t 4)), none⟩,
 ⟨some 21, (.iad 1 (.t 19) (.t 20)), none⟩,
 ⟨some 22, (.load false 1 (.t 21)), none⟩,
 ⟨some 23, (.minmax false [(.t 18), (.t 22)]), none⟩,
 ⟨some 3, (.mv (.t 23)), none⟩]
 [] [15, 18, 19, 20, 21, 22, 23]))
 (.ops [⟨some 16, (.mv (.t 4)), none⟩,
 ⟨some 17, (.bin .add (.t 16) (.c (.int .i64 (1)))), none⟩,
 ⟨some 4, (.mv (.t 17)), none⟩]
 [] [16, 17]))))))
 (.seq
 (.ops [⟨some 24, (.mv (.t 3)), none⟩,
 ⟨some 2, (.mv (.t 24)), none⟩]
 [] [0, 3, 4, 15, 24])
 .ret)))))⟩
def loc48 : List Nat := []
def fg48 : List (Nat × List Nat) := [(8, [0, 3, 4, 15, 24]), (6, [16, 17]), (7, [15, 18, 19, 20, 21, 22, 23]), (5, [12, 13, 14]), (3, [7, 9, 10, 11]), (2, [7, 8]), (1, [5, 6]), (0, [2])]
theorem comp48 : compFn Try.prog loc48 (fun i => (fg48.lookup i).getD []) Try.f48 = some lit48 := by kernel_rfl

-- slices.Max[[]int,int]
def lit49 : AFn := ⟨1, [.tmp 2],
 (.seq
 (.ops [⟨some 2, (.mv (.c (.int .i64 (0)))), none⟩]
 [] [2])
 (.seq
 (.seq
 (.ops [⟨some 5, (.mv (.t 0)), none⟩,
 ⟨some 6, (.len (.t 5)), none⟩,
 ⟨some 7, (.bin .lss (.t 6) (.c (.int .i64 (1)))), none⟩]
 [] [5, 6])
 (.cond (.t 7)
 (.ops [⟨some 8, .bad, none⟩,
 ⟨none, .bad, none⟩]
 [] [7, 8])
 .skip))
 (.seq
 (.ops [⟨some 9, (.mv (.t 0)), none⟩,
 ⟨some 10, (.iad 1 (.t 9) (.c (.int .i64 (0)))), none⟩,
 ⟨some 11, (.load false 1 (.t 10)), none⟩,
 ⟨some 3, (.mv (.t 11)), none⟩]
 [] [7, 9, 10, 11])
 (.seq
 (.seq
 (.ops [⟨some 4, (.mv (.c (.int .i64 (1)))), none⟩]
 [] [])
 (.block 0
 (.loop
 (.seq
 (.seq
 (.ops [⟨some 12, (.mv (.t 4)), none⟩,
 ⟨some 13, (.mv (.t 0)), none⟩,
 ⟨some 14, (.len (.t 13)), none⟩,
 ⟨some 15, (.bin .lss (.t 12) (.t 14)), none⟩]
 [] [12, 13, 14])
 (.cond (.t 15)
 .skip
 (.exit 0)))
 (.seq
 (.block 1
 (.ops [⟨some 18, (.mv (.t 3)), none⟩,
 ⟨some 19, (.mv (.t 0)), none⟩,
 ⟨some 20, (.mv (.t 4)), none⟩,
 ⟨some 21, (.iad 1 (.t 19) (.t 20)), none⟩,
 ⟨some 22, (.load false 1 (.t 21)), none⟩,
 ⟨some 23, (.minmax true [(.t 18), (.t 22)]), none⟩,
 ⟨some 3, (.mv (.t 23)), none⟩]
 [] [15, 18, 19, 20, 21, 22, 23]))
 (.ops [⟨some 16, (.mv (.t 4)), none⟩,
 ⟨some 17, (.bin .add (.t 16) (.c (.int .i64 (1)))), none⟩,
 ⟨some 4, (.mv (.t 17)), none⟩]
 [] [16, 17]))))))
 (.seq
 (.ops [⟨some 24, (.mv (.t 3)), none⟩,
 ⟨some 2, (.mv (.t 24)), none⟩]
 [] [0, 3, 4, 15, 24])
 .ret)))))⟩
def loc49 : List Nat := []
def fg49 : List (Nat × List Nat) := [(8, [0, 3, 4, 15, 24]), (6, [16, 17]), (7, [15, 18, 19, 20, 21, 22, 23]), (5, [12, 13, 14]), (3, [7, 9, 10, 11]), (2, [7, 8]), (1, [5, 6]), (0, [2])]
theorem comp49 : compFn Try.prog loc49 (fun i => (fg49.lookup i).getD []) Try.f49 = some lit49 := by kernel_rfl

-- parcener/ratio.size
def lit50 : AFn := ⟨1, [.tmp 2],
 (.seq
 (.ops [⟨some 2, (.mv (.c (.int .u64 (0)))), none⟩]
 [] [2])
 (.seq
 (.seq
 (.ops [⟨some 3, (.mv (.t 0)), none⟩,
 ⟨some 4, (.bin .lss (.t 3) (.c (.int .i64 (0)))), none⟩]
 [] [3])
 (.cond (.t 4)
 (.seq
 (.ops [⟨some 5, (.mv (.t 0)), none⟩,
 ⟨some 6, (.conv .u64 (.t 5)), none⟩,
 ⟨some 7, (.un .neg (.t 6)), none⟩,
 ⟨some 2, (.mv (.t 7)), none⟩]
 [] [0, 4, 5, 6, 7])
 .ret)
 .skip))
 (.seq
 (.ops [⟨some 8, (.mv (.t 0)), none⟩,
 ⟨some 9, (.conv .u64 (.t 8)), none⟩,
 ⟨some 2, (.mv (.t 9)), none⟩]
 [] [0, 4, 8, 9])
 .ret)))⟩
def loc50 : List Nat := []
def fg50 : List (Nat × List Nat) := [(3, [0, 4, 8, 9]), (2, [0, 4, 5, 6, 7]), (1, [3]), (0, [2])]
theorem comp50 : compFn Try.prog loc50 (fun i => (fg50.lookup i).getD []) Try.f50 = some lit50 := by kernel_rfl

-- parcener/ratio.gcd
def lit51 : AFn := ⟨2, [.tmp 4],
 (.seq
 (.ops [⟨some 4, (.mv (.c (.int .u64 (0)))), none⟩]
 [] [4])
 (.seq
 (.block 0
 (.loop
 (.seq
 (.seq
 (.ops [⟨some 5, (.mv (.t 1)), none⟩,
 ⟨some 6, (.bin .gtr (.t 5) (.c (.int .u64 (0)))), none⟩]
 [] [5])
 (.cond (.t 6)
 .skip
 (.exit 0)))
 (.block 1
 (.ops [⟨some 7, (.mv (.t 1)), none⟩,
 ⟨some 8, (.mv (.t 0)), none⟩,
 ⟨some 9, (.mv (.t 1)), none⟩,
 ⟨some 10, (.bin .rem (.t 8) (.t 9)), none⟩,
 ⟨some 0, (.mv (.t 7)), none⟩,
 ⟨some 1, (.mv (.t 10)), none⟩]
 [(0, 1), (0, 2), (1, 2), (0, 3), (2, 4), (3, 4)] [6, 7, 8, 9, 10])))))
 (.seq
 (.ops [⟨some 11, (.mv (.t 0)), none⟩,
 ⟨some 4, (.mv (.t 11)), none⟩]
 [] [0, 1, 6, 11])
 .ret)))⟩
def loc51 : List Nat := []
def fg51 : List (Nat × List Nat) := [(3, [0, 1, 6, 11]), (2, [6, 7, 8, 9, 10]), (1, [5]), (0, [4])]
theorem comp51 : compFn Try.prog loc51 (fun i => (fg51.lookup i).getD []) Try.f51 = some lit51 := by kernel_rfl

-- math/bits.Mul64
def lit52 : AFn := ⟨2, [.tmp 4, .tmp 5],
 (.seq
 (.ops [⟨some 4, (.mv (.c (.int .u64 (0)))), none⟩,
 ⟨some 5, (.mv (.c (.int .u64 (0)))), none⟩]
 [] [4, 5])
 (.seq
 (.ops [⟨some 14, (.mv (.t 0)), none⟩,
 ⟨some 15, (.bin .and (.t 14) (.c (.int .u64 (4294967295)))), none⟩,
 ⟨some 6, (.mv (.t 15)), none⟩]
 [] [14, 15])
 (.seq
 (.ops [⟨some 16, (.mv (.t 0)), none⟩,
 ⟨some 17, (.bin .shr (.t 16) (.c (.int .u64 (32)))), none⟩,
 ⟨some 7, (.mv (.t 17)), none⟩]
 [] [16, 17])
 (.seq
 (.ops [⟨some 18, (.mv (.t 1)), none⟩,
 ⟨some 19, (.bin .and (.t 18) (.c (.int .u64 (4294967295)))), none⟩,
 ⟨some 8, (.mv (.t 19)), none⟩]
 [] [18, 19])
 (.seq
 (.ops [⟨some 20, (.mv (.t 1)), none⟩,
 ⟨some 21, (.bin .shr (.t 20) (.c (.int .u64 (32)))), none⟩,
 ⟨some 9, (.mv (.t 21)), none⟩]
 [] [20, 21])
 (.seq
 (.ops [⟨some 22, (.mv (.t 6)), none⟩,
 ⟨some 23, (.mv (.t 8)), none⟩,
 ⟨some 24, (.bin .mul (.t 22) (.t 23)), none⟩,
 ⟨some 10, (.mv (.t 24)), none⟩]
 [] [22, 23, 24])
 (.seq
 (.ops [⟨some 25, (.mv (.t 7)), none⟩,
 ⟨some 26, (.mv (.t 8)), none⟩,
 ⟨some 27, (.bin .mul (.t 25) (.t 26)), none⟩,
 ⟨some 28, (.mv (.t 10)), none⟩,
 ⟨some 29, (.bin .shr (.t 28) (.c (.int .u64 (32)))), none⟩,
 ⟨some 30, (.bin .add (.t 27) (.t 29)), none⟩,
 ⟨some 11, (.mv (.t 30)), none⟩]
 [] [8, 10, 25, 26, 27, 28, 29, 30])
 (.seq
 (.ops [⟨some 31, (.mv (.t 11)), none⟩,
 ⟨some 32, (.bin .and (.t 31) (.c (.int .u64 (4294967295)))), none⟩,
 ⟨some 12, (.mv (.t 32)), none⟩]
 [] [31, 32])
 (.seq
 (.ops [⟨some 33, (.mv (.t 11)), none⟩,
 ⟨some 34, (.bin .shr (.t 33) (.c (.int .u64 (32)))), none⟩,
 ⟨some 13, (.mv (.t 34)), none⟩]
 [] [11, 33, 34])
 (.seq
 (.ops [⟨some 35, (.mv (.t 12)), none⟩,
 ⟨some 36, (.mv (.t 6)), none⟩,
 ⟨some 37, (.mv (.t 9)), none⟩,
 ⟨some 38, (.bin .mul (.t 36) (.t 37)), none⟩,
 ⟨some 39, (.bin .add (.t 35) (.t 38)), none⟩,
 ⟨some 12, (.mv (.t 39)), none⟩]
 [] [6, 35, 36, 37, 38, 39])
 (.seq
 (.ops [⟨some 40, (.mv (.t 7)), none⟩,
 ⟨some 41, (.mv (.t 9)), none⟩,
 ⟨some 42, (.bin .mul (.t 40) (.t 41)), none⟩,
 ⟨some 43, (.mv (.t 13)), none⟩,
 ⟨some 44, (.bin .add (.t 42) (.t 43)), none⟩,
 ⟨some 45, (.mv (.t 12)), none⟩,
 ⟨some 46, (.bin .shr (.t 45) (.c (.int .u64 (32)))), none⟩,
 ⟨some 47, (.bin .add (.t 44) (.t 46)), none⟩,
 ⟨some 4, (.mv (.t 47)), none⟩]
 [] [7, 9, 12, 13, 40, 41, 42, 43, 44, 45, 46, 47])
 (.seq
 (.ops [⟨some 48, (.mv (.t 0)), none⟩,
 ⟨some 49, (.mv (.t 1)), none⟩,
 ⟨some 50, (.bin .mul (.t 48) (.t 49)), none⟩,
 ⟨some 5, (.mv (.t 50)), none⟩]
 [] [0, 1, 48, 49, 50])
 .ret))))))))))))⟩
def loc52 : List Nat := []
def fg52 : List (Nat × List Nat) := [(11, [0, 1, 48, 49, 50]), (10, [7, 9, 12, 13, 40, 41, 42, 43, 44, 45, 46, 47]), (9, [6, 35, 36, 37, 38, 39]), (8, [11, 33, 34]), (7, [31, 32]), (6, [8, 10, 25, 26, 27, 28, 29, 30]), (5, [22, 23, 24]), (4, [20, 21]), (3, [18, 19]), (2, [16, 17]), (1, [14, 15]), (0, [4, 5])]
theorem comp52 : compFn Try.prog loc52 (fun i => (fg52.lookup i).getD []) Try.f52 = some lit52 := by kernel_rfl

-- parcener/ratio.signed
def lit53 : AFn := ⟨3, [.cell 6 true 2, .tmp 7],
 (.seq
 (.ops [⟨some 6, (.allocL (.agg [(.int .i64 (0)), (.int .i64 (0))])), none⟩,
 ⟨some 7, (.mv (.c (.int .i64 (0)))), none⟩]
 [] [7])
 (.seq
 (.seq
 (.ops [⟨some 8, (.mv (.t 1)), none⟩,
 ⟨some 9, (.mv (.t 2)), none⟩,
 ⟨some 10, (.minmax true [(.t 8), (.t 9)]), none⟩,
 ⟨some 11, (.bin .gtr (.t 10) (.c (.int .u64 (1000000000000000000)))), none⟩]
 [] [8, 9, 10])
 (.cond (.t 11)
 (.seq
 (.ops [⟨some 12, (.build [(.int .i64 (0)), (.int .i64 (0))] []), none⟩,
 ⟨none, (.store 2 (.t 6) (.t 12)), none⟩,
 ⟨some 7, (.mv (.c (.int .i64 (16)))), none⟩]
 [] [0, 1, 2, 11, 12])
 .ret)
 .skip))
 (.seq
 (.seq
 (.ops [⟨some 13, (.mv (.t 0)), none⟩]
 [] [0, 11])
 (.cond (.t 13)
 (.seq
 (.ops [⟨some 14, (.mv (.t 1)), none⟩,
 ⟨some 15, (.conv .i64 (.t 14)), none⟩,
 ⟨some 16, (.un .neg (.t 15)), none⟩,
 ⟨some 17, (.mv (.t 2)), none⟩,
 ⟨some 18, (.conv .i64 (.t 17)), none⟩,
 ⟨some 19, (.build [(.int .i64 (0)), (.int .i64 (0))] [(0, 1, (.t 16)), (1, 1, (.t 18))]), none⟩,
 ⟨none, (.store 2 (.t 6) (.t 19)), none⟩,
 ⟨some 7, (.mv (.c (.int .i64 (0)))), none⟩]
 [] [1, 2, 13, 14, 15, 16, 17, 18, 19])
 .ret)
 .skip))
 (.seq
 (.ops [⟨some 20, (.mv (.t 1)), none⟩,
 ⟨some 21, (.conv .i64 (.t 20)), none⟩,
 ⟨some 22, (.mv (.t 2)), none⟩,
 ⟨some 23, (.conv .i64 (.t 22)), none⟩,
 ⟨some 24, (.build [(.int .i64 (0)), (.int .i64 (0))] [(0, 1, (.t 21)), (1, 1, (.t 23))]), none⟩,
 ⟨none, (.store 2 (.t 6) (.t 24)), none⟩,
 ⟨some 7, (.mv (.c (.int .i64 (0)))), none⟩]
 [] [1, 2, 13, 20, 21, 22, 23, 24])
 .ret))))⟩
def loc53 : List Nat := [6]
def fg53 : List (Nat × List Nat) := [(5, [1, 2, 13, 20, 21, 22, 23, 24]), (4, [1, 2, 13, 14, 15, 16, 17, 18, 19]), (3, [0, 11]), (2, [0, 1, 2, 11, 12]), (1, [8, 9, 10]), (0, [7])]
theorem comp53 : compFn Try.prog loc53 (fun i => (fg53.lookup i).getD []) Try.f53 = some lit53 := by kernel_rfl

-- (parcener/ask.office).has
def lit54 : AFn := ⟨2, [.tmp 4],
 (.seq
 (.ops [⟨some 2, (.boxL (.t 0)), none⟩,
 ⟨some 4, (.mv (.c (.bool false))), none⟩]
 [] [0, 4])
 (.seq
 (.ops [⟨some 5, (.mv (.t 1)), none⟩,
 ⟨some 6, (.bin .geq (.t 5) (.c (.int .i64 (0)))), none⟩,
 ⟨some 7, (.mv (.t 6)), none⟩,
 ⟨some 8, (.mv (.t 1)), some (7, true)⟩,
 ⟨some 9, (.fad 0 (.t 2)), some (7, true)⟩,
 ⟨some 10, (.fad 0 (.t 9)), some (7, true)⟩,
 ⟨some 11, (.load false 1 (.t 10)), some (7, true)⟩,
 ⟨some 12, (.len (.t 11)), some (7, true)⟩,
 ⟨some 13, (.bin .lss (.t 8) (.t 12)), some (7, true)⟩,
 ⟨some 14, (.pick (.t 7) (.t 13) (.c (.bool false))), none⟩,
 ⟨some 4, (.mv (.t 14)), none⟩]
 [] [1, 2, 5, 6, 7, 8, 9, 10, 11, 12, 13, 14])
 .ret))⟩
def loc54 : List Nat := [2]
def fg54 : List (Nat × List Nat) := [(1, [1, 2, 5, 6, 7, 8, 9, 10, 11, 12, 13, 14]), (0, [0, 4])]
theorem comp54 : compFn Try.prog loc54 (fun i => (fg54.lookup i).getD []) Try.f54 = some lit54 := by kernel_rfl

-- parcener/cake.Total
def lit55 : AFn := ⟨1, [.tmp 2, .tmp 3],
 (.seq
 (.ops [⟨some 1, (.boxL (.t 0)), none⟩,
 ⟨some 2, (.mv (.c (.int .i64 (0)))), none⟩,
 ⟨some 3, (.mv (.c (.int .i64 (0)))), none⟩]
 [] [0, 2, 3])
 (.seq
 (.seq
 (.ops [⟨some 8, (.load true 3 (.t 1)), none⟩,
 ⟨some 9, (.call (.f 33) [(.t 8)]), none⟩,
 ⟨some 4, (.mv (.t 9)), none⟩]
 [] [8, 9])
 (.seq
 (.ops [⟨some 10, (.mv (.t 4)), none⟩,
 ⟨some 11, (.bin .neq (.t 10) (.c (.int .i64 (0)))), none⟩]
 [] [10])
 (.cond (.t 11)
 (.seq
 (.ops [⟨some 12, (.mv (.t 4)), none⟩,
 ⟨some 2, (.mv (.c (.int .i64 (0)))), none⟩,
 ⟨some 3, (.mv (.t 12)), none⟩]
 [] [1, 4, 11, 12])
 .ret)
 .skip)))
 (.seq
 (.ops [⟨some 5, (.mv (.c (.int .i64 (0)))), none⟩]
 [] [4, 11])
 (.seq
 (.seq
 (.ops [⟨some 13, (.fad 2 (.t 1)), none⟩,
 ⟨some 14, (.load false 1 (.t 13)), none⟩,
 ⟨some 15, (.len (.t 14)), none⟩,
 ⟨some 16, (.mv (.c (.int .i64 (0)))), none⟩]
 [] [13])
 (.block 0
 (.loop
 (.seq
 (.ops [⟨some 17, (.bin .lss (.t 16) (.t 15)), none⟩]
 [] [])
 (.seq
 (.cond (.t 17)
 .skip
 (.exit 0))
 (.seq
 (.block 1
 (.seq
 (.ops [⟨some 18, (.mv (.t 16)), none⟩,
 ⟨some 19, (.iad 1 (.t 14) (.t 16)), none⟩,
 ⟨some 20, (.load false 1 (.t 19)), none⟩,
 ⟨some 6, (.mv (.t 18)), none⟩,
 ⟨some 7, (.mv (.t 20)), none⟩]
 [] [17, 18, 19, 20])
 (.ops [⟨some 21, (.mv (.t 5)), none⟩,
 ⟨some 22, (.mv (.t 7)), none⟩,
 ⟨some 23, (.fad 1 (.t 1)), none⟩,
 ⟨some 24, (.load false 1 (.t 23)), none⟩,
 ⟨some 25, (.mv (.t 6)), none⟩,
 ⟨some 26, (.bin .add (.t 25) (.c (.int .i64 (1)))), none⟩,
 ⟨some 27, (.iad 1 (.t 24) (.t 26)), none⟩,
 ⟨some 28, (.load false 1 (.t 27)), none⟩,
 ⟨some 29, (.fad 1 (.t 1)), none⟩,
 ⟨some 30, (.load false 1 (.t 29)), none⟩,
 ⟨some 31, (.mv (.t 6)), none⟩,
 ⟨some 32, (.iad 1 (.t 30) (.t 31)), none⟩,
 ⟨some 33, (.load false 1 (.t 32)), none⟩,
 ⟨some 34, (.bin .sub (.t 28) (.t 33)), none⟩,
 ⟨some 35, (.bin .mul (.t 22) (.t 34)), none⟩,
 ⟨some 36, (.bin .add (.t 21) (.t 35)), none⟩,
 ⟨some 5, (.mv (.t 36)), none⟩]
 [(0, 1), (0, 2), (1, 2), (0, 3), (1, 3), (0, 4), (1, 4), (2, 4), (3, 4), (0, 5), (1, 5), (2, 5), (3, 5), (0, 6), (1, 6), (0, 7), (1, 7), (0, 8), (1, 8), (2, 8), (3, 8), (4, 8), (5, 8), (6, 8), (7, 8), (0, 9), (1, 9), (2, 9), (3, 9), (4, 9), (5, 9), (6, 9), (7, 9), (0, 10), (1, 10), (2, 10), (3, 10), (4, 10), (5, 10), (6, 10), (7, 10), (8, 10), (9, 10), (0, 11), (1, 11), (2, 11), (3, 11), (4, 11), (5, 11), (6, 11), (7, 11), (0, 12), (1, 12), (2, 12), (3, 12), (4, 12), (5, 12), (6, 12), (7, 12), (0, 13), (1, 13), (0, 14)] [6, 7, 21, 22, 23, 24, 25, 26, 27, 28, 29, 30, 31, 32, 33, 34, 35, 36])))
 (.ops [⟨some 37, (.bin .add (.t 16) (.c (.int .i64 (1)))), none⟩,
 ⟨some 16, (.mv (.t 37)), none⟩]
 [] [37])))))))
 (.seq
 (.ops [⟨some 38, (.mv (.t 5)), none⟩,
 ⟨some 2, (.mv (.t 38)), none⟩,
 ⟨some 3, (.mv (.c (.int .i64 (0)))), none⟩]
 [] [1, 5, 14, 15, 16, 17, 38])
 .ret)))))⟩
def loc55 : List Nat := [1]
def fg55 : List (Nat × List Nat) := [(10, [1, 5, 14, 15, 16, 17, 38]), (9, [37]), (8, [6, 7, 21, 22, 23, 24, 25, 26, 27, 28, 29, 30, 31, 32, 33, 34, 35, 36]), (7, [17, 18, 19, 20]), (5, [13]), (4, [4, 11]), (3, [1, 4, 11, 12]), (2, [10]), (1, [8, 9]), (0, [0, 2, 3])]
theorem comp55 : compFn Try.prog loc55 (fun i => (fg55.lookup i).getD []) Try.f55 = some lit55 := by kernel_rfl

-- (parcener/ask.office).ask
def lit56 : AFn := ⟨3, [.cell 6 true 2, .cell 7 true 2, .tmp 8],
 (.seq
 (.ops [⟨some 3, (.boxL (.t 0)), none⟩,
 ⟨some 4, (.boxL (.t 1)), none⟩,
 ⟨some 6, (.allocL (.agg [.nils, .nils])), none⟩,
 ⟨some 7, (.allocL (.agg [(.int .i64 (0)), (.int .i64 (0))])), none⟩,
 ⟨some 8, (.mv (.c (.int .i64 (0)))), none⟩]
 [] [0, 1, 8])
 (.seq
 (.seq
 (.ops [⟨some 13, (.fad 0 (.t 3)), none⟩,
 ⟨some 14, (.load true 2 (.t 13)), none⟩,
 ⟨some 15, (.call (.f 21) [(.t 14)]), none⟩,
 ⟨some 9, (.mv (.t 15)), none⟩]
 [] [13, 14, 15])
 (.seq
 (.ops [⟨some 16, (.mv (.t 9)), none⟩,
 ⟨some 17, (.bin .neq (.t 16) (.c (.int .i64 (0)))), none⟩]
 [] [16])
 (.cond (.t 17)
 (.seq
 (.ops [⟨some 18, (.build [.nils, .nils] []), none⟩,
 ⟨some 19, (.build [(.int .i64 (0)), (.int .i64 (0))] []), none⟩,
 ⟨some 20, (.mv (.t 9)), none⟩,
 ⟨none, (.store 2 (.t 6) (.t 18)), none⟩,
 ⟨none, (.store 2 (.t 7) (.t 19)), none⟩,
 ⟨some 8, (.mv (.t 20)), none⟩]
 [] [2, 3, 4, 9, 17, 18, 19, 20])
 .ret)
 .skip)))
 (.seq
 (.seq
 (.ops [⟨some 21, (.load true 2 (.t 3)), none⟩,
 ⟨some 22, (.fad 0 (.t 4)), none⟩,
 ⟨some 23, (.load false 1 (.t 22)), none⟩,
 ⟨some 24, (.call (.f 54) [(.t 21), (.t 23)]), none⟩,
 ⟨some 25, (.un .not (.t 24)), none⟩]
 [] [9, 17, 21, 22, 23, 24])
 (.cond (.t 25)
 (.seq
 (.ops [⟨some 26, (.build [.nils, .nils] []), none⟩,
 ⟨some 27, (.build [(.int .i64 (0)), (.int .i64 (0))] []), none⟩,
 ⟨none, (.store 2 (.t 6) (.t 26)), none⟩,
 ⟨none, (.store 2 (.t 7) (.t 27)), none⟩,
 ⟨some 8, (.mv (.c (.int .i64 (2)))), none⟩]
 [] [2, 3, 4, 25, 26, 27])
 .ret)
 .skip))
 (.seq
 (.ops [⟨some 29, (.mv (.t 2)), none⟩,
 ⟨some 30, (.fad 0 (.t 4)), none⟩,
 ⟨some 31, (.load false 1 (.t 30)), none⟩,
 ⟨some 32, (.fad 2 (.t 4)), none⟩,
 ⟨some 33, (.load true 2 (.t 32)), none⟩,
 ⟨some 34, (.fad 4 (.t 4)), none⟩,
 ⟨some 35, (.load true 2 (.t 34)), none⟩,
 ⟨some 36, (.call (.t 29) [(.t 31), (.t 33), (.t 35)]), none⟩,
 ⟨some 28, (.mv (.t 36)), none⟩,
 ⟨some 37, (.ext (.t 28) 0), none⟩,
 ⟨some 38, (.ext (.t 28) 1), none⟩,
 ⟨some 10, (.allocL (.agg [(.int .i64 (0)), (.int .i64 (0))])), none⟩,
 ⟨none, (.store 2 (.t 10) (.t 37)), none⟩,
 ⟨some 11, (.mv (.t 38)), none⟩]
 [] [2, 25, 28, 29, 30, 31, 32, 33, 34, 35, 36, 37, 38])
 (.seq
 (.seq
 (.ops [⟨some 39, (.mv (.t 11)), none⟩,
 ⟨some 40, (.bin .neq (.t 39) (.c (.int .i64 (0)))), none⟩]
 [] [39])
 (.cond (.t 40)
 (.seq
 (.ops [⟨some 41, (.build [.nils, .nils] []), none⟩,
 ⟨some 42, (.build [(.int .i64 (0)), (.int .i64 (0))] []), none⟩,
 ⟨some 43, (.mv (.t 11)), none⟩,
 ⟨none, (.store 2 (.t 6) (.t 41)), none⟩,
 ⟨none, (.store 2 (.t 7) (.t 42)), none⟩,
 ⟨some 8, (.mv (.t 43)), none⟩]
 [] [3, 4, 10, 11, 40, 41, 42, 43])
 .ret)
 .skip))
 (.seq
 (.seq
 (.ops [⟨some 44, (.fad 0 (.t 3)), none⟩,
 ⟨some 45, (.fad 1 (.t 44)), none⟩,
 ⟨some 46, (.load false 1 (.t 45)), none⟩,
 ⟨some 47, (.len (.t 46)), none⟩,
 ⟨some 48, (.bin .geq (.t 47) (.c (.int .i64 (2000)))), none⟩]
 [] [11, 40, 44, 45, 46, 47])
 (.cond (.t 48)
 (.seq
 (.ops [⟨some 49, (.build [.nils, .nils] []), none⟩,
 ⟨some 50, (.build [(.int .i64 (0)), (.int .i64 (0))] []), none⟩,
 ⟨none, (.store 2 (.t 6) (.t 49)), none⟩,
 ⟨none, (.store 2 (.t 7) (.t 50)), none⟩,
 ⟨some 8, (.mv (.c (.int .i64 (4)))), none⟩]
 [] [3, 4, 10, 48, 49, 50])
 .ret)
 .skip))
 (.seq
 (.ops [⟨some 51, (.load true 2 (.t 10)), none⟩,
 ⟨some 52, (.fad 6 (.t 4)), none⟩,
 ⟨none, (.store 2 (.t 52) (.t 51)), none⟩]
 [] [48, 51, 52])
 (.seq
 (.ops [⟨some 53, (.fad 0 (.t 3)), none⟩,
 ⟨some 54, (.fad 1 (.t 53)), none⟩,
 ⟨some 55, (.load false 1 (.t 54)), none⟩,
 ⟨some 56, (.len (.t 55)), none⟩,
 ⟨some 57, (.bin .add (.t 56) (.c (.int .i64 (1)))), none⟩,
 ⟨some 58, (.mkSl true 8 64 (.agg [(.int .i64 (0)), (.int .u8 (0)), (.int .i64 (0)), (.int .i64 (0)), (.int .i64 (0)), (.int .i64 (0)), (.int .i64 (0)), (.int .i64 (0))]) (.c (.int .i64 (0))) (.t 57)), none⟩,
 ⟨some 12, (.mv (.t 58)), none⟩]
 [] [53, 54, 55, 56, 57, 58])
 (.seq
 (.ops [⟨some 59, (.fad 0 (.t 3)), none⟩,
 ⟨some 60, (.fad 0 (.t 59)), none⟩,
 ⟨some 61, (.load false 1 (.t 60)), none⟩,
 ⟨some 62, (.call (.f 70) [(.t 61)]), none⟩,
 ⟨some 63, (.mv (.t 12)), none⟩,
 ⟨some 64, (.fad 0 (.t 3)), none⟩,
 ⟨some 65, (.fad 1 (.t 64)), none⟩,
 ⟨some 66, (.load false 1 (.t 65)), none⟩,
 ⟨some 67, (.app true 8 64 (.t 63) (.t 66)), none⟩,
 ⟨some 68, (.load true 8 (.t 4)), none⟩,
 ⟨some 69, (.buildD 8 (.agg [(.int .i64 (0)), (.int .u8 (0)), (.int .i64 (0)), (.int .i64 (0)), (.int .i64 (0)), (.int .i64 (0)), (.int .i64 (0)), (.int .i64 (0))]) 1 [(0, (.t 68))]), none⟩,
 ⟨some 70, (.app true 8 64 (.t 67) (.t 69)), none⟩,
 ⟨some 71, (.build [.nils, .nils] [(0, 1, (.t 62)), (1, 1, (.t 70))]), none⟩,
 ⟨some 72, (.load true 2 (.t 10)), none⟩,
 ⟨none, (.store 2 (.t 6) (.t 71)), none⟩,
 ⟨none, (.store 2 (.t 7) (.t 72)), none⟩,
 ⟨some 8, (.mv (.c (.int .i64 (0)))), none⟩]
 [(0, 4), (1, 4), (2, 4), (3, 4), (0, 5), (1, 5), (2, 5), (3, 5), (4, 5), (0, 6), (1, 6), (2, 6), (3, 6), (4, 6), (0, 7), (1, 7), (2, 7), (3, 7), (4, 7), (0, 9), (1, 9), (2, 9), (3, 9), (4, 9), (5, 9), (6, 9), (7, 9), (8, 9), (0, 10), (1, 10), (2, 10), (3, 10), (4, 10), (5, 10), (6, 10), (7, 10), (8, 10), (0, 13), (1, 13), (2, 13), (3, 13), (4, 13), (5, 13), (6, 13), (7, 13), (8, 13), (9, 13), (10, 13), (11, 13), (12, 13), (13, 14)] [3, 4, 10, 12, 59, 60, 61, 62, 63, 64, 65, 66, 67, 68, 69, 70, 71, 72])
 .ret)))))))))⟩
def loc56 : List Nat := [69, 3, 4, 6, 7, 10]
def fg56 : List (Nat × List Nat) := [(13, [3, 4, 10, 12, 59, 60, 61, 62, 63, 64, 65, 66, 67, 68, 69, 70, 71, 72]), (12, [53, 54, 55, 56, 57, 58]), (11, [48, 51, 52]), (10, [3, 4, 10, 48, 49, 50]), (9, [11, 40, 44, 45, 46, 47]), (8, [3, 4, 10, 11, 40, 41, 42, 43]), (7, [39]), (6, [2, 25, 28, 29, 30, 31, 32, 33, 34, 35, 36, 37, 38]), (5, [2, 3, 4, 25, 26, 27]), (4, [9, 17, 21, 22, 23, 24]), (3, [2, 3, 4, 9, 17, 18, 19, 20]), (2, [16]), (1, [13, 14, 15]), (0, [0, 1, 8])]
theorem comp56 : compFn Try.prog loc56 (fun i => (fg56.lookup i).getD []) Try.f56 = some lit56 := by kernel_rfl

-- (parcener/ask.office).value
def lit57 : AFn := ⟨4, [.cell 8 true 2, .tmp 9],
 (.seq
 (.ops [⟨some 4, (.boxL (.t 0)), none⟩,
 ⟨some 6, (.boxL (.t 2)), none⟩,
 ⟨some 7, (.boxL (.t 3)), none⟩,
 ⟨some 8, (.allocL (.agg [(.int .i64 (0)), (.int .i64 (0))])), none⟩,
 ⟨some 9, (.mv (.c (.int .i64 (0)))), none⟩]
 [] [0, 2, 3, 9])
 (.seq
 (.ops [⟨some 10, (.fad 0 (.t 4)), none⟩,
 ⟨some 11, (.fad 0 (.t 10)), none⟩,
 ⟨some 12, (.load false 1 (.t 11)), none⟩,
 ⟨some 13, (.mv (.t 1)), none⟩,
 ⟨some 14, (.iad 3 (.t 12) (.t 13)), none⟩,
 ⟨some 15, (.load true 3 (.t 14)), none⟩,
 ⟨some 16, (.load true 2 (.t 6)), none⟩,
 ⟨some 17, (.load true 2 (.t 7)), none⟩,
 ⟨some 18, (.call (.f 71) [(.t 15), (.t 16), (.t 17)]), none⟩,
 ⟨some 19, (.ext (.t 18) 0), none⟩,
 ⟨some 20, (.ext (.t 18) 1), none⟩,
 ⟨none, (.store 2 (.t 8) (.t 19)), none⟩,
 ⟨some 9, (.mv (.t 20)), none⟩]
 [(0, 3), (1, 3), (2, 3), (0, 6), (1, 6), (2, 6), (3, 6), (4, 6), (5, 6), (0, 7), (1, 7), (2, 7), (3, 7), (4, 7), (5, 7), (6, 7), (9, 10)] [1, 4, 6, 7, 10, 11, 12, 13, 14, 15, 16, 17, 18, 19, 20])
 .ret))⟩
def loc57 : List Nat := [4, 6, 7, 8]
def fg57 : List (Nat × List Nat) := [(1, [1, 4, 6, 7, 10, 11, 12, 13, 14, 15, 16, 17, 18, 19, 20]), (0, [0, 2, 3, 9])]
theorem comp57 : compFn Try.prog loc57 (fun i => (fg57.lookup i).getD []) Try.f57 = some lit57 := by kernel_rfl

-- cmp.Or[parcener/api.Errno]
def lit58 : AFn := ⟨1, [.tmp 2],
 (.seq
 (.ops [⟨some 2, (.mv (.c (.int .i64 (0)))), none⟩]
 [] [2])
 (.seq
 (.ops [⟨some 3, (.mv (.c (.int .i64 (0)))), none⟩]
 [] [])
 (.seq
 (.seq
 (.ops [⟨some 6, (.mv (.t 0)), none⟩,
 ⟨some 7, (.len (.t 6)), none⟩,
 ⟨some 8, (.mv (.c (.int .i64 (0)))), none⟩]
 [] [0])
 (.block 0
 (.loop
 (.seq
 (.ops [⟨some 9, (.bin .lss (.t 8) (.t 7)), none⟩]
 [] [])
 (.seq
 (.cond (.t 9)
 .skip
 (.exit 0))
 (.seq
 (.block 1
 (.seq
 (.ops [⟨some 10, (.iad 1 (.t 6) (.t 8)), none⟩,
 ⟨some 11, (.load false 1 (.t 10)), none⟩,
 ⟨some 5, (.mv (.t 11)), none⟩]
 [] [9, 10, 11])
 (.seq
 (.ops [⟨some 12, (.mv (.t 5)), none⟩,
 ⟨some 13, (.mv (.t 3)), none⟩,
 ⟨some 14, (.bin .neq (.t 12) (.t 13)), none⟩]
 [] [12, 13])
 (.cond (.t 14)
 (.seq
 (.ops [⟨some 15, (.mv (.t 5)), none⟩,
 ⟨some 2, (.mv (.t 15)), none⟩]
 [] [3, 5, 6, 7, 8, 14, 15])
 .ret)
 .skip))))
 (.ops [⟨some 16, (.bin .add (.t 8) (.c (.int .i64 (1)))), none⟩,
 ⟨some 8, (.mv (.t 16)), none⟩]
 [] [5, 14, 16])))))))
 (.seq
 (.ops [⟨some 17, (.mv (.t 3)), none⟩,
 ⟨some 2, (.mv (.t 17)), none⟩]
 [] [3, 6, 7, 8, 9, 17])
 .ret))))⟩
def loc58 : List Nat := []
def fg58 : List (Nat × List Nat) := [(8, [3, 6, 7, 8, 9, 17]), (7, [5, 14, 16]), (6, [3, 5, 6, 7, 8, 14, 15]), (5, [12, 13]), (4, [9, 10, 11]), (2, [0]), (0, [2])]
theorem comp58 : compFn Try.prog loc58 (fun i => (fg58.lookup i).getD []) Try.f58 = some lit58 := by kernel_rfl

-- parcener/ratio.Check
def lit59 : AFn := ⟨1, [.tmp 2],
 (.seq
 (.ops [⟨some 1, (.boxL (.t 0)), none⟩,
 ⟨some 2, (.mv (.c (.int .i64 (0)))), none⟩]
 [] [0, 2])
 (.seq
 (.seq
 (.ops [⟨some 3, (.fad 1 (.t 1)), none⟩,
 ⟨some 4, (.load false 1 (.t 3)), none⟩,
 ⟨some 5, (.bin .lss (.t 4) (.c (.int .i64 (1)))), none⟩,
 ⟨some 6, (.mv (.t 5)), none⟩,
 ⟨some 7, (.fad 0 (.t 1)), some (6, false)⟩,
 ⟨some 8, (.load false 1 (.t 7)), some (6, false)⟩,
 ⟨some 9, (.call (.f 50) [(.t 8)]), some (6, false)⟩,
 ⟨some 10, (.fad 1 (.t 1)), some (6, false)⟩,
 ⟨some 11, (.load false 1 (.t 10)), some (6, false)⟩,
 ⟨some 12, (.conv .u64 (.t 11)), some (6, false)⟩,
 ⟨some 13, (.minmax true [(.t 9), (.t 12)]), some (6, false)⟩,
 ⟨some 14, (.bin .gtr (.t 13) (.c (.int .u64 (1000000000000000000)))), some (6, false)⟩,
 ⟨some 15, (.pick (.t 6) (.c (.bool true)) (.t 14)), none⟩,
 ⟨some 16, (.mv (.t 15)), none⟩,
 ⟨some 17, (.fad 0 (.t 1)), some (16, false)⟩,
 ⟨some 18, (.load false 1 (.t 17)), some (16, false)⟩,
 ⟨some 19, (.call (.f 50) [(.t 18)]), some (16, false)⟩,
 ⟨some 20, (.fad 1 (.t 1)), some (16, false)⟩,
 ⟨some 21, (.load false 1 (.t 20)), some (16, false)⟩,
 ⟨some 22, (.conv .u64 (.t 21)), some (16, false)⟩,
 ⟨some 23, (.call (.f 51) [(.t 19), (.t 22)]), some (16, false)⟩,
 ⟨some 24, (.bin .gtr (.t 23) (.c (.int .u64 (1)))), some (16, false)⟩,
 ⟨some 25, (.pick (.t 16) (.c (.bool true)) (.t 24)), none⟩]
 [(4, 7), (5, 7), (6, 7), (4, 8), (5, 8), (6, 8), (4, 9), (5, 9), (6, 9), (14, 17), (15, 17), (16, 17), (14, 18), (15, 18), (16, 18), (14, 19), (15, 19), (16, 19)] [1, 3, 4, 5, 6, 7, 8, 9, 10, 11, 12, 13, 14, 15, 16, 17, 18, 19, 20, 21, 22, 23, 24])
 (.cond (.t 25)
 (.seq
 (.ops [⟨some 2, (.mv (.c (.int .i64 (8)))), none⟩]
 [] [25])
 .ret)
 .skip))
 (.seq
 (.ops [⟨some 2, (.mv (.c (.int .i64 (0)))), none⟩]
 [] [25])
 .ret)))⟩
def loc59 : List Nat := [1]
def fg59 : List (Nat × List Nat) := [(3, [25]), (2, [25]), (1, [1, 3, 4, 5, 6, 7, 8, 9, 10, 11, 12, 13, 14, 15, 16, 17, 18, 19, 20, 21, 22, 23, 24]), (0, [0, 2])]
theorem comp59 : compFn Try.prog loc59 (fun i => (fg59.lookup i).getD []) Try.f59 = some lit59 := by kernel_rfl

-- math/bits.Rem64
def lit62 : AFn := ⟨3, [.tmp 6],
 (.seq
 (.ops [⟨some 6, (.mv (.c (.int .u64 (0)))), none⟩]
 [] [6])
 (.seq
 (.ops [⟨some 10, (.mv (.t 0)), none⟩,
 ⟨some 11, (.mv (.t 2)), none⟩,
 ⟨some 12, (.bin .rem (.t 10) (.t 11)), none⟩,
 ⟨some 13, (.mv (.t 1)), none⟩,
 ⟨some 14, (.mv (.t 2)), none⟩,
 ⟨some 15, (.call (.f 63) [(.t 12), (.t 13), (.t 14)]), none⟩,
 ⟨some 9, (.mv (.t 15)), none⟩,
 ⟨some 16, (.ext (.t 9) 0), none⟩,
 ⟨some 17, (.ext (.t 9) 1), none⟩,
 ⟨some 7, (.mv (.t 16)), none⟩,
 ⟨some 8, (.mv (.t 17)), none⟩]
 [] [0, 1, 2, 7, 9, 10, 11, 12, 13, 14, 15, 16, 17])
 (.seq
 (.ops [⟨some 18, (.mv (.t 8)), none⟩,
 ⟨some 6, (.mv (.t 18)), none⟩]
 [] [8, 18])
 .ret)))⟩
def loc62 : List Nat := []
def fg62 : List (Nat × List Nat) := [(2, [8, 18]), (1, [0, 1, 2, 7, 9, 10, 11, 12, 13, 14, 15, 16, 17]), (0, [6])]
theorem comp62 : compFn Try.prog loc62 (fun i => (fg62.lookup i).getD []) Try.f62 = some lit62 := by kernel_rfl

-- math/bits.Div64
def lit63 : AFn := ⟨3, [.tmp 6, .tmp 7],
 (.seq
 (.ops [⟨some 6, (.mv (.c (.int .u64 (0)))), none⟩,
 ⟨some 7, (.mv (.c (.int .u64 (0)))), none⟩]
 [] [6, 7])
 (.seq
 (.seq
 (.ops [⟨some 19, (.mv (.t 2)), none⟩,
 ⟨some 20, (.bin .eql (.t 19) (.c (.int .u64 (0)))), none⟩]
 [] [19])
 (.cond (.t 20)
 (.ops [⟨some 21, (.load false 1 (.g 0)), none⟩,
 ⟨none, .bad, none⟩]
 [] [20, 21])
 .skip))
 (.seq
 (.seq
 (.ops [⟨some 22, (.mv (.t 2)), none⟩,
 ⟨some 23, (.mv (.t 0)), none⟩,
 ⟨some 24, (.bin .leq (.t 22) (.t 23)), none⟩]
 [] [20, 22, 23])
 (.cond (.t 24)
 (.ops [⟨some 25, (.load false 1 (.g 1)), none⟩,
 ⟨none, .bad, none⟩]
 [] [24, 25])
 .skip))
 (.seq
 (.seq
 (.ops [⟨some 26, (.mv (.t 0)), none⟩,
 ⟨some 27, (.bin .eql (.t 26) (.c (.int .u64 (0)))), none⟩]
 [] [24, 26])
 (.cond (.t 27)
 (.seq
 (.ops [⟨some 28, (.mv (.t 1)), none⟩,
 ⟨some 29, (.mv (.t 2)), none⟩,
 ⟨some 30, (.bin .quo (.t 28) (.t 29)), none⟩,
 ⟨some 31, (.mv (.t 1)), none⟩,
 ⟨some 32, (.mv (.t 2)), none⟩,
 ⟨some 33, (.bin .rem (.t 31) (.t 32)), none⟩,
 ⟨some 6, (.mv (.t 30)), none⟩,
 ⟨some 7, (.mv (.t 33)), none⟩]
 [(0, 1), (0, 3), (1, 3), (2, 3), (0, 4), (1, 4), (2, 4), (3, 4), (0, 5), (1, 5), (2, 5), (3, 6), (4, 6), (5, 6)] [0, 1, 2, 27, 28, 29, 30, 31, 32, 33])
 .ret)
 .skip))
 (.seq
 (.ops [⟨some 34, (.mv (.t 2)), none⟩,
 ⟨some 35, (.call (.f 72) [(.t 34)]), none⟩,
 ⟨some 36, (.conv .u64 (.t 35)), none⟩,
 ⟨some 8, (.mv (.t 36)), none⟩]
 [] [27, 34, 35, 36])
 (.seq
 (.ops [⟨some 37, (.mv (.t 2)), none⟩,
 ⟨some 38, (.mv (.t 8)), none⟩,
 ⟨some 39, (.bin .shl (.t 37) (.t 38)), none⟩,
 ⟨some 2, (.mv (.t 39)), none⟩]
 [] [37, 38, 39])
 (.seq
 (.ops [⟨some 40, (.mv (.t 2)), none⟩,
 ⟨some 41, (.bin .shr (.t 40) (.c (.int .u64 (32)))), none⟩,
 ⟨some 9, (.mv (.t 41)), none⟩]
 [] [40, 41])
 (.seq
 (.ops [⟨some 42, (.mv (.t 2)), none⟩,
 ⟨some 43, (.bin .and (.t 42) (.c (.int .u64 (4294967295)))), none⟩,
 ⟨some 10, (.mv (.t 43)), none⟩]
 [] [42, 43])
 (.seq
 (.ops [⟨some 44, (.mv (.t 0)), none⟩,
 ⟨some 45, (.mv (.t 8)), none⟩,
 ⟨some 46, (.bin .shl (.t 44) (.t 45)), none⟩,
 ⟨some 47, (.mv (.t 1)), none⟩,
 ⟨some 48, (.mv (.t 8)), none⟩,
 ⟨some 49, (.bin .sub (.c (.int .u64 (64))) (.t 48)), none⟩,
 ⟨some 50, (.bin .shr (.t 47) (.t 49)), none⟩,
 ⟨some 51, (.bin .or (.t 46) (.t 50)), none⟩,
 ⟨some 11, (.mv (.t 51)), none⟩]
 [] [0, 44, 45, 46, 47, 48, 49, 50, 51])
 (.seq
 (.ops [⟨some 52, (.mv (.t 1)), none⟩,
 ⟨some 53, (.mv (.t 8)), none⟩,
 ⟨some 54, (.bin .shl (.t 52) (.t 53)), none⟩,
 ⟨some 12, (.mv (.t 54)), none⟩]
 [] [1, 52, 53, 54])
 (.seq
 (.ops [⟨some 55, (.mv (.t 12)), none⟩,
 ⟨some 56, (.bin .shr (.t 55) (.c (.int .u64 (32)))), none⟩,
 ⟨some 13, (.mv (.t 56)), none⟩]
 [] [55, 56])
 (.seq
 (.ops [⟨some 57, (.mv (.t 12)), none⟩,
 ⟨some 58, (.bin .and (.t 57) (.c (.int .u64 (4294967295)))), none⟩,
 ⟨some 14, (.mv (.t 58)), none⟩]
 [] [12, 57, 58])
 (.seq
 (.ops [⟨some 59, (.mv (.t 11)), none⟩,
 ⟨some 60, (.mv (.t 9)), none⟩,
 ⟨some 61, (.bin .quo (.t 59) (.t 60)), none⟩,
 ⟨some 15, (.mv (.t 61)), none⟩]
 [] [59, 60, 61])
 (.seq
 (.ops [⟨some 62, (.mv (.t 11)), none⟩,
 ⟨some 63, (.mv (.t 15)), none⟩,
 ⟨some 64, (.mv (.t 9)), none⟩,
 ⟨some 65, (.bin .mul (.t 63) (.t 64)), none⟩,
 ⟨some 66, (.bin .sub (.t 62) (.t 65)), none⟩,
 ⟨some 16, (.mv (.t 66)), none⟩]
 [] [62, 63, 64, 65, 66])
 (.seq
 (.block 0
 (.loop
 (.seq
 (.seq
 (.ops [⟨some 67, (.mv (.t 15)), none⟩,
 ⟨some 68, (.bin .geq (.t 67) (.c (.int .u64 (4294967296)))), none⟩,
 ⟨some 69, (.mv (.t 68)), none⟩,
 ⟨some 70, (.mv (.t 15)), some (69, false)⟩,
 ⟨some 71, (.mv (.t 10)), some (69, false)⟩,
 ⟨some 72, (.bin .mul (.t 70) (.t 71)), some (69, false)⟩,
 ⟨some 73, (.mv (.t 16)), some (69, false)⟩,
 ⟨some 74, (.bin .mul (.c (.int .u64 (4294967296))) (.t 73)), some (69, false)⟩,
 ⟨some 75, (.mv (.t 13)), some (69, false)⟩,
 ⟨some 76, (.bin .add (.t 74) (.t 75)), some (69, false)⟩,
 ⟨some 77, (.bin .gtr (.t 72) (.t 76)), some (69, false)⟩,
 ⟨some 78, (.pick (.t 69) (.c (.bool true)) (.t 77)), none⟩]
 [] [67, 68, 69, 70, 71, 72, 73, 74, 75, 76, 77, 85])
 (.cond (.t 78)
 .skip
 (.exit 0)))
 (.block 1
 (.seq
 (.ops [⟨some 79, (.mv (.t 15)), none⟩,
 ⟨some 80, (.bin .sub (.t 79) (.c (.int .u64 (1)))), none⟩,
 ⟨some 15, (.mv (.t 80)), none⟩]
 [] [78, 79, 80])
 (.seq
 (.ops [⟨some 81, (.mv (.t 16)), none⟩,
 ⟨some 82, (.mv (.t 9)), none⟩,
 ⟨some 83, (.bin .add (.t 81) (.t 82)), none⟩,
 ⟨some 16, (.mv (.t 83)), none⟩]
 [] [81, 82, 83])
 (.seq
 (.ops [⟨some 84, (.mv (.t 16)), none⟩,
 ⟨some 85, (.bin .geq (.t 84) (.c (.int .u64 (4294967296)))), none⟩]
 [] [84])
 (.cond (.t 85)
 (.exit 0)
 .skip))))))))
 (.seq
 (.ops [⟨some 86, (.mv (.t 11)), none⟩,
 ⟨some 87, (.bin .mul (.t 86) (.c (.int .u64 (4294967296)))), none⟩,
 ⟨some 88, (.mv (.t 13)), none⟩,
 ⟨some 89, (.bin .add (.t 87) (.t 88)), none⟩,
 ⟨some 90, (.mv (.t 15)), none⟩,
 ⟨some 91, (.mv (.t 2)), none⟩,
 ⟨some 92, (.bin .mul (.t 90) (.t 91)), none⟩,
 ⟨some 93, (.bin .sub (.t 89) (.t 92)), none⟩,
 ⟨some 17, (.mv (.t 93)), none⟩]
 [] [11, 13, 16, 78, 85, 86, 87, 88, 89, 90, 91, 92, 93])
 (.seq
 (.ops [⟨some 94, (.mv (.t 17)), none⟩,
 ⟨some 95, (.mv (.t 9)), none⟩,
 ⟨some 96, (.bin .quo (.t 94) (.t 95)), none⟩,
 ⟨some 18, (.mv (.t 96)), none⟩]
 [] [94, 95, 96])
 (.seq
 (.ops [⟨some 97, (.mv (.t 17)), none⟩,
 ⟨some 98, (.mv (.t 18)), none⟩,
 ⟨some 99, (.mv (.t 9)), none⟩,
 ⟨some 100, (.bin .mul (.t 98) (.t 99)), none⟩,
 ⟨some 101, (.bin .sub (.t 97) (.t 100)), none⟩,
 ⟨some 16, (.mv (.t 101)), none⟩]
 [] [97, 98, 99, 100, 101])
 (.seq
 (.block 2
 (.loop
 (.seq
 (.seq
 (.ops [⟨some 102, (.mv (.t 18)), none⟩,
 ⟨some 103, (.bin .geq (.t 102) (.c (.int .u64 (4294967296)))), none⟩,
 ⟨some 104, (.mv (.t 103)), none⟩,
 ⟨some 105, (.mv (.t 18)), some (104, false)⟩,
 ⟨some 106, (.mv (.t 10)), some (104, false)⟩,
 ⟨some 107, (.bin .mul (.t 105) (.t 106)), some (104, false)⟩,
 ⟨some 108, (.mv (.t 16)), some (104, false)⟩,
 ⟨some 109, (.bin .mul (.c (.int .u64 (4294967296))) (.t 108)), some (104, false)⟩,
 ⟨some 110, (.mv (.t 14)), some (104, false)⟩,
 ⟨some 111, (.bin .add (.t 109) (.t 110)), some (104, false)⟩,
 ⟨some 112, (.bin .gtr (.t 107) (.t 111)), some (104, false)⟩,
 ⟨some 113, (.pick (.t 104) (.c (.bool true)) (.t 112)), none⟩]
 [] [102, 103, 104, 105, 106, 107, 108, 109, 110, 111, 112, 120])
 (.cond (.t 113)
 .skip
 (.exit 2)))
 (.block 3
 (.seq
 (.ops [⟨some 114, (.mv (.t 18)), none⟩,
 ⟨some 115, (.bin .sub (.t 114) (.c (.int .u64 (1)))), none⟩,
 ⟨some 18, (.mv (.t 115)), none⟩]
 [] [113, 114, 115])
 (.seq
 (.ops [⟨some 116, (.mv (.t 16)), none⟩,
 ⟨some 117, (.mv (.t 9)), none⟩,
 ⟨some 118, (.bin .add (.t 116) (.t 117)), none⟩,
 ⟨some 16, (.mv (.t 118)), none⟩]
 [] [116, 117, 118])
 (.seq
 (.ops [⟨some 119, (.mv (.t 16)), none⟩,
 ⟨some 120, (.bin .geq (.t 119) (.c (.int .u64 (4294967296)))), none⟩]
 [] [119])
 (.cond (.t 120)
 (.exit 2)
 .skip))))))))
 (.seq
 (.ops [⟨some 121, (.mv (.t 15)), none⟩,
 ⟨some 122, (.bin .mul (.t 121) (.c (.int .u64 (4294967296)))), none⟩,
 ⟨some 123, (.mv (.t 18)), none⟩,
 ⟨some 124, (.bin .add (.t 122) (.t 123)), none⟩,
 ⟨some 125, (.mv (.t 17)), none⟩,
 ⟨some 126, (.bin .mul (.t 125) (.c (.int .u64 (4294967296)))), none⟩,
 ⟨some 127, (.mv (.t 14)), none⟩,
 ⟨some 128, (.bin .add (.t 126) (.t 127)), none⟩,
 ⟨some 129, (.mv (.t 18)), none⟩,
 ⟨some 130, (.mv (.t 2)), none⟩,
 ⟨some 131, (.bin .mul (.t 129) (.t 130)), none⟩,
 ⟨some 132, (.bin .sub (.t 128) (.t 131)), none⟩,
 ⟨some 133, (.mv (.t 8)), none⟩,
 ⟨some 134, (.bin .shr (.t 132) (.t 133)), none⟩,
 ⟨some 6, (.mv (.t 124)), none⟩,
 ⟨some 7, (.mv (.t 134)), none⟩]
 [] [2, 8, 9, 10, 14, 15, 16, 17, 18, 113, 120, 121, 122, 123, 124, 125, 126, 127, 128, 129, 130, 131, 132, 133, 134])
 .ret))))))))))))))))))))⟩
def loc63 : List Nat := []
def fg63 : List (Nat × List Nat) := [(28, [2, 8, 9, 10, 14, 15, 16, 17, 18, 113, 120, 121, 122, 123, 124, 125, 126, 127, 128, 129, 130, 131, 132, 133, 134]), (27, [119]), (26, [116, 117, 118]), (25, [113, 114, 115]), (24, [102, 103, 104, 105, 106, 107, 108, 109, 110, 111, 112, 120]), (23, [97, 98, 99, 100, 101]), (22, [94, 95, 96]), (21, [11, 13, 16, 78, 85, 86, 87, 88, 89, 90, 91, 92, 93]), (20, [84]), (19, [81, 82, 83]), (18, [78, 79, 80]), (17, [67, 68, 69, 70, 71, 72, 73, 74, 75, 76, 77, 85]), (16, [62, 63, 64, 65, 66]), (15, [59, 60, 61]), (14, [12, 57, 58]), (13, [55, 56]), (12, [1, 52, 53, 54]), (11, [0, 44, 45, 46, 47, 48, 49, 50, 51]), (10, [42, 43]), (9, [40, 41]), (8, [37, 38, 39]), (7, [27, 34, 35, 36]), (6, [0, 1, 2, 27, 28, 29, 30, 31, 32, 33]), (5, [24, 26]), (4, [24, 25]), (3, [20, 22, 23]), (2, [20, 21]), (1, [19]), (0, [6, 7])]
theorem comp63 : compFn Try.prog loc63 (fun i => (fg63.lookup i).getD []) Try.f63 = some lit63 := by kernel_rfl

-- cmp.Or[int]
def lit65 : AFn := ⟨1, [.tmp 2],
 (.seq
 (.ops [⟨some 2, (.mv (.c (.int .i64 (0)))), none⟩]
 [] [2])
 (.seq
 (.ops [⟨some 3, (.mv (.c (.int .i64 (0)))), none⟩]
 [] [])
 (.seq
 (.seq
 (.ops [⟨some 6, (.mv (.t 0)), none⟩,
 ⟨some 7, (.len (.t 6)), none⟩,
 ⟨some 8, (.mv (.c (.int .i64 (0)))), none⟩]
 [] [0])
 (.block 0
 (.loop
 (.seq
 (.ops [⟨some 9, (.bin .lss (.t 8) (.t 7)), none⟩]
 [] [])
 (.seq
 (.cond (.t 9)
 .skip
 (.exit 0))
 (.seq
 (.block 1
 (.seq
 (.ops [⟨some 10, (.iad 1 (.t 6) (.t 8)), none⟩,
 ⟨some 11, (.load false 1 (.t 10)), none⟩,
 ⟨some 5, (.mv (.t 11)), none⟩]
 [] [9, 10, 11])
 (.seq
 (.ops [⟨some 12, (.mv (.t 5)), none⟩,
 ⟨some 13, (.mv (.t 3)), none⟩,
 ⟨some 14, (.bin .neq (.t 12) (.t 13)), none⟩]
 [] [12, 13])
 (.cond (.t 14)
 (.seq
 (.ops [⟨some 15, (.mv (.t 5)), none⟩,
 ⟨some 2, (.mv (.t 15)), none⟩]
 [] [3, 5, 6, 7, 8, 14, 15])
 .ret)
 .skip))))
 (.ops [⟨some 16, (.bin .add (.t 8) (.c (.int .i64 (1)))), none⟩,
 ⟨some 8, (.mv (.t 16)), none⟩]
 [] [5, 14, 16])))))))
 (.seq
 (.ops [⟨some 17, (.mv (.t 3)), none⟩,
 ⟨some 2, (.mv (.t 17)), none⟩]
 [] [3, 6, 7, 8, 9, 17])
 .ret))))⟩
def loc65 : List Nat := []
def fg65 : List (Nat × List Nat) := [(8, [3, 6, 7, 8, 9, 17]), (7, [5, 14, 16]), (6, [3, 5, 6, 7, 8, 14, 15]), (5, [12, 13]), (4, [9, 10, 11]), (2, [0]), (0, [2])]
theorem comp65 : compFn Try.prog loc65 (fun i => (fg65.lookup i).getD []) Try.f65 = some lit65 := by kernel_rfl

-- cmp.Compare[uint64]
def lit66 : AFn := ⟨2, [.tmp 4],
 (.seq
 (.ops [⟨some 4, (.mv (.c (.int .i64 (0)))), none⟩]
 [] [4])
 (.seq
 (.ops [⟨some 7, (.mv (.t 0)), none⟩,
 ⟨some 8, (.call (.f 74) [(.t 7)]), none⟩,
 ⟨some 5, (.mv (.t 8)), none⟩]
 [] [7, 8])
 (.seq
 (.ops [⟨some 9, (.mv (.t 1)), none⟩,
 ⟨some 10, (.call (.f 74) [(.t 9)]), none⟩,
 ⟨some 6, (.mv (.t 10)), none⟩]
 [] [9, 10])
 (.seq
 (.seq
 (.ops [⟨some 11, (.mv (.t 5)), none⟩]
 [] [5])
 (.cond (.t 11)
 (.seq
 (.seq
 (.ops [⟨some 12, (.mv (.t 6)), none⟩]
 [] [0, 1, 6, 11])
 (.cond (.t 12)
 (.seq
 (.ops [⟨some 4, (.mv (.c (.int .i64 (0)))), none⟩]
 [] [12])
 .ret)
 .skip))
 (.seq
 (.ops [⟨some 4, (.mv (.c (.int .i64 (-1)))), none⟩]
 [] [12])
 .ret))
 .skip))
 (.seq
 (.seq
 (.ops [⟨some 13, (.mv (.t 6)), none⟩]
 [] [6, 11])
 (.cond (.t 13)
 (.seq
 (.ops [⟨some 4, (.mv (.c (.int .i64 (1)))), none⟩]
 [] [0, 1, 13])
 .ret)
 .skip))
 (.seq
 (.seq
 (.ops [⟨some 14, (.mv (.t 0)), none⟩,
 ⟨some 15, (.mv (.t 1)), none⟩,
 ⟨some 16, (.bin .lss (.t 14) (.t 15)), none⟩]
 [] [13, 14, 15])
 (.cond (.t 16)
 (.seq
 (.ops [⟨some 4, (.mv (.c (.int .i64 (-1)))), none⟩]
 [] [0, 1, 16])
 .ret)
 .skip))
 (.seq
 (.seq
 (.ops [⟨some 17, (.mv (.t 0)), none⟩,
 ⟨some 18, (.mv (.t 1)), none⟩,
 ⟨some 19, (.bin .gtr (.t 17) (.t 18)), none⟩]
 [] [0, 1, 16, 17, 18])
 (.cond (.t 19)
 (.seq
 (.ops [⟨some 4, (.mv (.c (.int .i64 (1)))), none⟩]
 [] [19])
 .ret)
 .skip))
 (.seq
 (.ops [⟨some 4, (.mv (.c (.int .i64 (0)))), none⟩]
 [] [19])
 .ret))))))))⟩
def loc66 : List Nat := []
def fg66 : List (Nat × List Nat) := [(13, [19]), (12, [19]), (11, [0, 1, 16, 17, 18]), (10, [0, 1, 16]), (9, [13, 14, 15]), (8, [0, 1, 13]), (7, [6, 11]), (6, [12]), (5, [12]), (4, [0, 1, 6, 11]), (3, [5]), (2, [9, 10]), (1, [7, 8]), (0, [4])]
theorem comp66 : compFn Try.prog loc66 (fun i => (fg66.lookup i).getD []) Try.f66 = some lit66 := by kernel_rfl

-- (parcener/ask.office).mark
def lit67 : AFn := ⟨4, [.cell 8 true 2, .tmp 9],
 (.seq
 (.ops [⟨some 4, (.boxL (.t 0)), none⟩,
 ⟨some 6, (.boxL (.t 2)), none⟩,
 ⟨some 7, (.boxL (.t 3)), none⟩,
 ⟨some 8, (.allocL (.agg [(.int .i64 (0)), (.int .i64 (0))])), none⟩,
 ⟨some 9, (.mv (.c (.int .i64 (0)))), none⟩]
 [] [0, 2, 3, 9])
 (.seq
 (.ops [⟨some 10, (.fad 0 (.t 4)), none⟩,
 ⟨some 11, (.fad 0 (.t 10)), none⟩,
 ⟨some 12, (.load false 1 (.t 11)), none⟩,
 ⟨some 13, (.mv (.t 1)), none⟩,
 ⟨some 14, (.iad 3 (.t 12) (.t 13)), none⟩,
 ⟨some 15, (.load true 3 (.t 14)), none⟩,
 ⟨some 16, (.load true 2 (.t 6)), none⟩,
 ⟨some 17, (.load true 2 (.t 7)), none⟩,
 ⟨some 18, (.call (.f 75) [(.t 15), (.t 16), (.t 17)]), none⟩,
 ⟨some 19, (.ext (.t 18) 0), none⟩,
 ⟨some 20, (.ext (.t 18) 1), none⟩,
 ⟨none, (.store 2 (.t 8) (.t 19)), none⟩,
 ⟨some 9, (.mv (.t 20)), none⟩]
 [(0, 3), (1, 3), (2, 3), (0, 6), (1, 6), (2, 6), (3, 6), (4, 6), (5, 6), (0, 7), (1, 7), (2, 7), (3, 7), (4, 7), (5, 7), (6, 7), (9, 10)] [1, 4, 6, 7, 10, 11, 12, 13, 14, 15, 16, 17, 18, 19, 20])
 .ret))⟩
def loc67 : List Nat := [4, 6, 7, 8]
def fg67 : List (Nat × List Nat) := [(1, [1, 4, 6, 7, 10, 11, 12, 13, 14, 15, 16, 17, 18, 19, 20]), (0, [0, 2, 3, 9])]
theorem comp67 : compFn Try.prog loc67 (fun i => (fg67.lookup i).getD []) Try.f67 = some lit67 := by kernel_rfl

-- slices.pdqsortCmpFunc[parcener/api.Span]
def lit68 : AFn := ⟨5, [],
 (.seq
 (.ops [⟨some 10, (.mv (.c (.bool true))), none⟩]
 [] [])
 (.seq
 (.ops [⟨some 11, (.mv (.c (.bool true))), none⟩]
 [] [])
 (.block 0
 (.loop
 (.block 1
 (.seq
 (.ops [⟨some 21, (.mv (.t 2)), none⟩,
 ⟨some 22, (.mv (.t 1)), none⟩,
 ⟨some 23, (.bin .sub (.t 21) (.t 22)), none⟩,
 ⟨some 12, (.mv (.t 23)), none⟩]
 [] [21, 22, 23])
 (.seq
 (.seq
 (.ops [⟨some 24, (.mv (.t 12)), none⟩,
 ⟨some 25, (.bin .leq (.t 24) (.c (.int .i64 (12)))), none⟩]
 [] [24])
 (.cond (.t 25)
 (.seq
 (.ops [⟨some 26, (.mv (.t 0)), none⟩,
 ⟨some 27, (.mv (.t 1)), none⟩,
 ⟨some 28, (.mv (.t 2)), none⟩,
 ⟨some 29, (.mv (.t 4)), none⟩,
 ⟨some 30, (.call (.f 76) [(.t 26), (.t 27), (.t 28), (.t 29)]), none⟩]
 [] [0, 1, 2, 3, 4, 10, 11, 12, 25, 26, 27, 28, 29, 30])
 .ret)
 .skip))
 (.seq
 (.seq
 (.ops [⟨some 31, (.mv (.t 3)), none⟩,
 ⟨some 32, (.bin .eql (.t 31) (.c (.int .i64 (0)))), none⟩]
 [] [25, 31])
 (.cond (.t 32)
 (.seq
 (.ops [⟨some 33, (.mv (.t 0)), none⟩,
 ⟨some 34, (.mv (.t 1)), none⟩,
 ⟨some 35, (.mv (.t 2)), none⟩,
 ⟨some 36, (.mv (.t 4)), none⟩,
 ⟨some 37, (.call (.f 77) [(.t 33), (.t 34), (.t 35), (.t 36)]), none⟩]
 [] [0, 1, 2, 3, 4, 10, 11, 12, 32, 33, 34, 35, 36, 37])
 .ret)
 .skip))
 (.seq
 (.seq
 (.ops [⟨some 38, (.mv (.t 10)), none⟩,
 ⟨some 39, (.un .not (.t 38)), none⟩]
 [] [32, 38])
 (.cond (.t 39)
 (.seq
 (.ops [⟨some 40, (.mv (.t 0)), none⟩,
 ⟨some 41, (.mv (.t 1)), none⟩,
 ⟨some 42, (.mv (.t 2)), none⟩,
 ⟨some 43, (.mv (.t 4)), none⟩,
 ⟨some 44, (.call (.f 78) [(.t 40), (.t 41), (.t 42), (.t 43)]), none⟩]
 [] [39, 40, 41, 42, 43, 44])
 (.ops [⟨some 45, (.mv (.t 3)), none⟩,
 ⟨some 46, (.bin .sub (.t 45) (.c (.int .i64 (1)))), none⟩,
 ⟨some 3, (.mv (.t 46)), none⟩]
 [] [45, 46]))
 .skip))
 (.seq
 (.ops [⟨some 48, (.mv (.t 0)), none⟩,
 ⟨some 49, (.mv (.t 1)), none⟩,
 ⟨some 50, (.mv (.t 2)), none⟩,
 ⟨some 51, (.mv (.t 4)), none⟩,
 ⟨some 52, (.call (.f 79) [(.t 48), (.t 49), (.t 50), (.t 51)]), none⟩,
 ⟨some 47, (.mv (.t 52)), none⟩,
 ⟨some 53, (.ext (.t 47) 0), none⟩,
 ⟨some 54, (.ext (.t 47) 1), none⟩,
 ⟨some 13, (.mv (.t 53)), none⟩,
 ⟨some 14, (.mv (.t 54)), none⟩]
 [] [39, 47, 48, 49, 50, 51, 52, 53, 54])
 (.seq
 (.seq
 (.ops [⟨some 55, (.mv (.t 14)), none⟩,
 ⟨some 56, (.bin .eql (.t 55) (.c (.int .i64 (2)))), none⟩]
 [] [55])
 (.cond (.t 56)
 (.seq
 (.ops [⟨some 57, (.mv (.t 0)), none⟩,
 ⟨some 58, (.mv (.t 1)), none⟩,
 ⟨some 59, (.mv (.t 2)), none⟩,
 ⟨some 60, (.mv (.t 4)), none⟩,
 ⟨some 61, (.call (.f 80) [(.t 57), (.t 58), (.t 59), (.t 60)]), none⟩]
 [] [14, 56, 57, 58, 59, 60, 61])
 (.seq
 (.ops [⟨some 62, (.mv (.t 2)), none⟩,
 ⟨some 63, (.bin .sub (.t 62) (.c (.int .i64 (1)))), none⟩,
 ⟨some 64, (.mv (.t 13)), none⟩,
 ⟨some 65, (.mv (.t 1)), none⟩,
 ⟨some 66, (.bin .sub (.t 64) (.t 65)), none⟩,
 ⟨some 67, (.bin .sub (.t 63) (.t 66)), none⟩,
 ⟨some 13, (.mv (.t 67)), none⟩]
 [] [62, 63, 64, 65, 66, 67])
 (.ops [⟨some 14, (.mv (.c (.int .i64 (1)))), none⟩]
 [] [])))
 .skip))
 (.seq
 (.seq
 (.ops [⟨some 68, (.mv (.t 10)), none⟩,
 ⟨some 69, (.mv (.t 68)), none⟩,
 ⟨some 70, (.mv (.t 11)), some (69, true)⟩,
 ⟨some 71, (.pick (.t 69) (.t 70) (.c (.bool false))), none⟩,
 ⟨some 72, (.mv (.t 71)), none⟩,
 ⟨some 73, (.mv (.t 14)), some (72, true)⟩,
 ⟨some 74, (.bin .eql (.t 73) (.c (.int .i64 (1)))), some (72, true)⟩,
 ⟨some 75, (.pick (.t 72) (.t 74) (.c (.bool false))), none⟩]
 [] [14, 56, 68, 69, 70, 71, 72, 73, 74])
 (.cond (.t 75)
 (.seq
 (.ops [⟨some 76, (.mv (.t 0)), none⟩,
 ⟨some 77, (.mv (.t 1)), none⟩,
 ⟨some 78, (.mv (.t 2)), none⟩,
 ⟨some 79, (.mv (.t 4)), none⟩,
 ⟨some 80, (.call (.f 81) [(.t 76), (.t 77), (.t 78), (.t 79)]), none⟩]
 [] [75, 76, 77, 78, 79])
 (.cond (.t 80)
 .ret
 .skip))
 .skip))
 (.seq
 (.seq
 (.ops [⟨some 81, (.mv (.t 1)), none⟩,
 ⟨some 82, (.bin .gtr (.t 81) (.c (.int .i64 (0)))), none⟩,
 ⟨some 83, (.mv (.t 82)), none⟩,
 ⟨some 84, (.mv (.t 4)), some (83, true)⟩,
 ⟨some 85, (.mv (.t 0)), some (83, true)⟩,
 ⟨some 86, (.mv (.t 1)), some (83, true)⟩,
 ⟨some 87, (.bin .sub (.t 86) (.c (.int .i64 (1)))), some (83, true)⟩,
 ⟨some 88, (.iad 4 (.t 85) (.t 87)), some (83, true)⟩,
 ⟨some 89, (.load true 4 (.t 88)), some (83, true)⟩,
 ⟨some 90, (.mv (.t 0)), some (83, true)⟩,
 ⟨some 91, (.mv (.t 13)), some (83, true)⟩,
 ⟨some 92, (.iad 4 (.t 90) (.t 91)), some (83, true)⟩,
 ⟨some 93, (.load true 4 (.t 92)), some (83, true)⟩,
 ⟨some 94, (.call (.t 84) [(.t 89), (.t 93)]), some (83, true)⟩,
 ⟨some 95, (.bin .lss (.t 94) (.c (.int .i64 (0)))), some (83, true)⟩,
 ⟨some 96, (.un .not (.t 95)), some (83, true)⟩,
 ⟨some 97, (.pick (.t 83) (.t 96) (.c (.bool false))), none⟩]
 [(3, 4), (3, 5), (4, 5), (3, 6), (4, 6), (3, 7), (3, 8), (3, 9), (4, 9), (5, 9), (6, 9), (7, 9), (8, 9), (3, 10), (4, 10), (5, 10), (6, 10), (7, 10), (8, 10), (9, 10), (3, 11), (4, 11), (5, 11), (6, 11), (7, 11), (8, 11), (3, 12), (4, 12), (5, 12), (6, 12), (7, 12), (8, 12)] [75, 80, 81, 82, 83, 84, 85, 86, 87, 88, 89, 90, 91, 92, 93, 94, 95, 96])
 (.cond (.t 97)
 (.seq
 (.ops [⟨some 98, (.mv (.t 0)), none⟩,
 ⟨some 99, (.mv (.t 1)), none⟩,
 ⟨some 100, (.mv (.t 2)), none⟩,
 ⟨some 101, (.mv (.t 13)), none⟩,
 ⟨some 102, (.mv (.t 4)), none⟩,
 ⟨some 103, (.call (.f 82) [(.t 98), (.t 99), (.t 100), (.t 101), (.t 102)]), none⟩,
 ⟨some 15, (.mv (.t 103)), none⟩]
 [] [1, 12, 13, 97, 98, 99, 100, 101, 102, 103])
 (.seq
 (.ops [⟨some 104, (.mv (.t 15)), none⟩,
 ⟨some 1, (.mv (.t 104)), none⟩]
 [] [15, 104])
 (.exit 1)))
 .skip))
 (.seq
 (.ops [⟨some 106, (.mv (.t 0)), none⟩,
 ⟨some 107, (.mv (.t 1)), none⟩,
 ⟨some 108, (.mv (.t 2)), none⟩,
 ⟨some 109, (.mv (.t 13)), none⟩,
 ⟨some 110, (.mv (.t 4)), none⟩,
 ⟨some 111, (.call (.f 83) [(.t 106), (.t 107), (.t 108), (.t 109), (.t 110)]), none⟩,
 ⟨some 105, (.mv (.t 111)), none⟩,
 ⟨some 112, (.ext (.t 105) 0), none⟩,
 ⟨some 113, (.ext (.t 105) 1), none⟩,
 ⟨some 16, (.mv (.t 112)), none⟩,
 ⟨some 17, (.mv (.t 113)), none⟩]
 [] [10, 11, 13, 97, 105, 106, 107, 108, 109, 110, 111, 112, 113])
 (.seq
 (.ops [⟨some 114, (.mv (.t 17)), none⟩,
 ⟨some 11, (.mv (.t 114)), none⟩]
 [] [17, 114])
 (.seq
 (.ops [⟨some 115, (.mv (.t 16)), none⟩,
 ⟨some 116, (.mv (.t 1)), none⟩,
 ⟨some 117, (.bin .sub (.t 115) (.t 116)), none⟩,
 ⟨some 118, (.mv (.t 2)), none⟩,
 ⟨some 119, (.mv (.t 16)), none⟩,
 ⟨some 120, (.bin .sub (.t 118) (.t 119)), none⟩,
 ⟨some 18, (.mv (.t 117)), none⟩,
 ⟨some 19, (.mv (.t 120)), none⟩]
 [] [115, 116, 117, 118, 119, 120])
 (.seq
 (.ops [⟨some 121, (.mv (.t 12)), none⟩,
 ⟨some 122, (.bin .quo (.t 121) (.c (.int .i64 (8)))), none⟩,
 ⟨some 20, (.mv (.t 122)), none⟩]
 [] [12, 121, 122])
 (.seq
 (.ops [⟨some 123, (.mv (.t 18)), none⟩,
 ⟨some 124, (.mv (.t 19)), none⟩,
 ⟨some 125, (.bin .lss (.t 123) (.t 124)), none⟩]
 [] [123, 124])
 (.cond (.t 125)
 (.seq
 (.ops [⟨some 126, (.mv (.t 18)), none⟩,
 ⟨some 127, (.mv (.t 20)), none⟩,
 ⟨some 128, (.bin .geq (.t 126) (.t 127)), none⟩,
 ⟨some 10, (.mv (.t 128)), none⟩]
 [] [18, 19, 20, 125, 126, 127, 128])
 (.seq
 (.ops [⟨some 129, (.mv (.t 0)), none⟩,
 ⟨some 130, (.mv (.t 1)), none⟩,
 ⟨some 131, (.mv (.t 16)), none⟩,
 ⟨some 132, (.mv (.t 3)), none⟩,
 ⟨some 133, (.mv (.t 4)), none⟩,
 ⟨some 134, (.call (.f 68) [(.t 129), (.t 130), (.t 131), (.t 132), (.t 133)]), none⟩]
 [] [1, 129, 130, 131, 132, 133, 134])
 (.ops [⟨some 135, (.mv (.t 16)), none⟩,
 ⟨some 136, (.bin .add (.t 135) (.c (.int .i64 (1)))), none⟩,
 ⟨some 1, (.mv (.t 136)), none⟩]
 [] [16, 135, 136])))
 (.seq
 (.ops [⟨some 137, (.mv (.t 19)), none⟩,
 ⟨some 138, (.mv (.t 20)), none⟩,
 ⟨some 139, (.bin .geq (.t 137) (.t 138)), none⟩,
 ⟨some 10, (.mv (.t 139)), none⟩]
 [] [18, 19, 20, 125, 137, 138, 139])
 (.seq
 (.ops [⟨some 140, (.mv (.t 0)), none⟩,
 ⟨some 141, (.mv (.t 16)), none⟩,
 ⟨some 142, (.bin .add (.t 141) (.c (.int .i64 (1)))), none⟩,
 ⟨some 143, (.mv (.t 2)), none⟩,
 ⟨some 144, (.mv (.t 3)), none⟩,
 ⟨some 145, (.mv (.t 4)), none⟩,
 ⟨some 146, (.call (.f 68) [(.t 140), (.t 142), (.t 143), (.t 144), (.t 145)]), none⟩]
 [] [2, 140, 141, 142, 143, 144, 145, 146])
 (.ops [⟨some 147, (.mv (.t 16)), none⟩,
 ⟨some 2, (.mv (.t 147)), none⟩]
 [] [16, 147]))))))))))))))))))))))⟩
def loc68 : List Nat := []
def fg68 : List (Nat × List Nat) := [(30, [16, 147]), (29, [2, 140, 141, 142, 143, 144, 145, 146]), (28, [18, 19, 20, 125, 137, 138, 139]), (27, [16, 135, 136]), (26, [1, 129, 130, 131, 132, 133, 134]), (25, [18, 19, 20, 125, 126, 127, 128]), (24, [123, 124]), (23, [12, 121, 122]), (22, [115, 116, 117, 118, 119, 120]), (21, [17, 114]), (20, [10, 11, 13, 97, 105, 106, 107, 108, 109, 110, 111, 112, 113]), (19, [15, 104]), (18, [1, 12, 13, 97, 98, 99, 100, 101, 102, 103]), (17, [75, 80, 81, 82, 83, 84, 85, 86, 87, 88, 89, 90, 91, 92, 93, 94, 95, 96]), (16, [75, 76, 77, 78, 79]), (15, [14, 56, 68, 69, 70, 71, 72, 73, 74]), (13, [62, 63, 64, 65, 66, 67]), (12, [14, 56, 57, 58, 59, 60, 61]), (11, [55]), (10, [39, 47, 48, 49, 50, 51, 52, 53, 54]), (9, [45, 46]), (8, [39, 40, 41, 42, 43, 44]), (7, [32, 38]), (6, [0, 1, 2, 3, 4, 10, 11, 12, 32, 33, 34, 35, 36, 37]), (5, [25, 31]), (4, [0, 1, 2, 3, 4, 10, 11, 12, 25, 26, 27, 28, 29, 30]), (3, [24]), (2, [21, 22, 23])]
theorem comp68 : compFn Try.prog loc68 (fun i => (fg68.lookup i).getD []) Try.f68 = some lit68 := by kernel_rfl

-- math/bits.Len
def lit69 : AFn := ⟨1, [.tmp 2],
 (.seq
 (.ops [⟨some 2, (.mv (.c (.int .i64 (0)))), none⟩]
 [] [2])
 (.seq
 (.cond (.c (.bool false))
 (.seq
 (.ops [⟨some 3, (.mv (.t 0)), none⟩,
 ⟨some 4, (.conv .u32 (.t 3)), none⟩,
 ⟨some 5, (.call (.f 84) [(.t 4)]), none⟩,
 ⟨some 2, (.mv (.t 5)), none⟩]
 [] [0, 3, 4, 5])
 .ret)
 .skip)
 (.seq
 (.ops [⟨some 6, (.mv (.t 0)), none⟩,
 ⟨some 7, (.call (.f 85) [(.t 6)]), none⟩,
 ⟨some 2, (.mv (.t 7)), none⟩]
 [] [0, 6, 7])
 .ret)))⟩
def loc69 : List Nat := []
def fg69 : List (Nat × List Nat) := [(2, [0, 6, 7]), (1, [0, 3, 4, 5]), (0, [2])]
theorem comp69 : compFn Try.prog loc69 (fun i => (fg69.lookup i).getD []) Try.f69 = some lit69 := by kernel_rfl

-- parcener/ask.copied
def lit70 : AFn := ⟨1, [.tmp 2],
 (.seq
 (.ops [⟨some 2, (.mv (.c .nils)), none⟩]
 [] [2])
 (.seq
 (.ops [⟨some 3, (.mv (.c .nils)), none⟩]
 [] [])
 (.seq
 (.seq
 (.ops [⟨some 6, (.mv (.t 0)), none⟩,
 ⟨some 7, (.len (.t 6)), none⟩,
 ⟨some 8, (.mv (.c (.int .i64 (0)))), none⟩]
 [] [0])
 (.block 0
 (.loop
 (.seq
 (.ops [⟨some 9, (.bin .lss (.t 8) (.t 7)), none⟩]
 [] [])
 (.seq
 (.cond (.t 9)
 .skip
 (.exit 0))
 (.seq
 (.block 1
 (.seq
 (.ops [⟨some 10, (.iad 3 (.t 6) (.t 8)), none⟩,
 ⟨some 11, (.load true 3 (.t 10)), none⟩,
 ⟨some 5, (.allocL (.agg [(.int .i64 (0)), .nils, .nils])), none⟩,
 ⟨none, (.store 3 (.t 5) (.t 11)), none⟩]
 [] [9, 10, 11])
 (.ops [⟨some 12, (.mv (.t 3)), none⟩,
 ⟨some 13, (.fad 0 (.t 5)), none⟩,
 ⟨some 14, (.load false 1 (.t 13)), none⟩,
 ⟨some 15, (.fad 1 (.t 5)), none⟩,
 ⟨some 16, (.load false 1 (.t 15)), none⟩,
 ⟨some 17, (.call (.f 86) [(.t 16)]), none⟩,
 ⟨some 18, (.fad 2 (.t 5)), none⟩,
 ⟨some 19, (.load false 1 (.t 18)), none⟩,
 ⟨some 20, (.call (.f 86) [(.t 19)]), none⟩,
 ⟨some 21, (.build [(.int .i64 (0)), .nils, .nils] [(0, 1, (.t 14)), (1, 1, (.t 17)), (2, 1, (.t 20))]), none⟩,
 ⟨some 22, (.buildD 3 (.agg [(.int .i64 (0)), (.data []), (.data [])]) 1 [(0, (.t 21))]), none⟩,
 ⟨some 23, (.app true 3 56 (.t 12) (.t 22)), none⟩,
 ⟨some 3, (.mv (.t 23)), none⟩]
 [(0, 1), (0, 2), (0, 3), (1, 3), (2, 3), (0, 4), (1, 4), (2, 4), (0, 5), (1, 5), (2, 5), (0, 6), (1, 6), (2, 6), (3, 6), (4, 6), (5, 6), (0, 7), (1, 7), (2, 7), (3, 7), (4, 7), (5, 7), (0, 8), (1, 8), (2, 8), (0, 9), (0, 10)] [5, 12, 13, 14, 15, 16, 17, 18, 19, 20, 21, 22, 23])))
 (.ops [⟨some 24, (.bin .add (.t 8) (.c (.int .i64 (1)))), none⟩,
 ⟨some 8, (.mv (.t 24)), none⟩]
 [] [24])))))))
 (.seq
 (.ops [⟨some 25, (.mv (.t 3)), none⟩,
 ⟨some 2, (.mv (.t 25)), none⟩]
 [] [3, 6, 7, 8, 9, 25])
 .ret))))⟩
def loc70 : List Nat := [22, 5]
def fg70 : List (Nat × List Nat) := [(7, [3, 6, 7, 8, 9, 25]), (6, [24]), (5, [5, 12, 13, 14, 15, 16, 17, 18, 19, 20, 21, 22, 23]), (4, [9, 10, 11]), (2, [0]), (0, [2])]
theorem comp70 : compFn Try.prog loc70 (fun i => (fg70.lookup i).getD []) Try.f70 = some lit70 := by kernel_rfl

-- parcener/cake.Value
def lit71 : AFn := ⟨3, [.cell 6 true 2, .tmp 7],
 (.seq
 (.ops [⟨some 3, (.boxL (.t 0)), none⟩,
 ⟨some 4, (.boxL (.t 1)), none⟩,
 ⟨some 5, (.boxL (.t 2)), none⟩,
 ⟨some 6, (.allocL (.agg [(.int .i64 (0)), (.int .i64 (0))])), none⟩,
 ⟨some 7, (.mv (.c (.int .i64 (0)))), none⟩]
 [] [0, 1, 2, 7])
 (.seq
 (.seq
 (.ops [⟨some 17, (.load true 3 (.t 3)), none⟩,
 ⟨some 18, (.call (.f 33) [(.t 17)]), none⟩,
 ⟨some 8, (.mv (.t 18)), none⟩]
 [] [17, 18])
 (.seq
 (.ops [⟨some 19, (.mv (.t 8)), none⟩,
 ⟨some 20, (.bin .neq (.t 19) (.c (.int .i64 (0)))), none⟩]
 [] [19])
 (.cond (.t 20)
 (.seq
 (.ops [⟨some 21, (.build [(.int .i64 (0)), (.int .i64 (0))] []), none⟩,
 ⟨some 22, (.mv (.t 8)), none⟩,
 ⟨none, (.store 2 (.t 6) (.t 21)), none⟩,
 ⟨some 7, (.mv (.t 22)), none⟩]
 [] [3, 4, 5, 8, 20, 21, 22])
 .ret)
 .skip)))
 (.seq
 (.seq
 (.ops [⟨some 23, (.load true 3 (.t 3)), none⟩,
 ⟨some 24, (.load true 2 (.t 4)), none⟩,
 ⟨some 25, (.call (.f 87) [(.t 23), (.t 24)]), none⟩,
 ⟨some 26, (.un .not (.t 25)), none⟩,
 ⟨some 27, (.mv (.t 26)), none⟩,
 ⟨some 28, (.load true 3 (.t 3)), some (27, false)⟩,
 ⟨some 29, (.load true 2 (.t 5)), some (27, false)⟩,
 ⟨some 30, (.call (.f 87) [(.t 28), (.t 29)]), some (27, false)⟩,
 ⟨some 31, (.un .not (.t 30)), some (27, false)⟩,
 ⟨some 32, (.pick (.t 27) (.c (.bool true)) (.t 31)), none⟩,
 ⟨some 33, (.mv (.t 32)), none⟩,
 ⟨some 34, (.load true 2 (.t 5)), some (33, false)⟩,
 ⟨some 35, (.load true 2 (.t 4)), some (33, false)⟩,
 ⟨some 36, (.call (.f 88) [(.t 34), (.t 35)]), some (33, false)⟩,
 ⟨some 37, (.pick (.t 33) (.c (.bool true)) (.t 36)), none⟩]
 [] [8, 20, 23, 24, 25, 26, 27, 28, 29, 30, 31, 32, 33, 34, 35, 36])
 (.cond (.t 37)
 (.seq
 (.ops [⟨some 38, (.build [(.int .i64 (0)), (.int .i64 (0))] []), none⟩,
 ⟨none, (.store 2 (.t 6) (.t 38)), none⟩,
 ⟨some 7, (.mv (.c (.int .i64 (2)))), none⟩]
 [] [3, 4, 5, 37, 38])
 .ret)
 .skip))
 (.seq
 (.ops [⟨some 39, (.call (.f 89) [(.c (.int .i64 (0)))]), none⟩,
 ⟨some 9, (.allocL (.agg [(.int .i64 (0)), (.int .i64 (0))])), none⟩,
 ⟨none, (.store 2 (.t 9) (.t 39)), none⟩]
 [] [37, 39])
 (.seq
 (.ops [⟨some 40, (.load true 2 (.t 4)), none⟩,
 ⟨some 10, (.allocL (.agg [(.int .i64 (0)), (.int .i64 (0))])), none⟩,
 ⟨none, (.store 2 (.t 10) (.t 40)), none⟩]
 [] [4, 40])
 (.seq
 (.seq
 (.ops [⟨some 41, (.fad 2 (.t 3)), none⟩,
 ⟨some 42, (.load false 1 (.t 41)), none⟩,
 ⟨some 43, (.len (.t 42)), none⟩,
 ⟨some 44, (.mv (.c (.int .i64 (0)))), none⟩]
 [] [41])
 (.block 0
 (.loop
 (.seq
 (.ops [⟨some 45, (.bin .lss (.t 44) (.t 43)), none⟩]
 [] [])
 (.seq
 (.cond (.t 45)
 .skip
 (.exit 0))
 (.seq
 (.block 1
 (.seq
 (.ops [⟨some 46, (.mv (.t 44)), none⟩,
 ⟨some 47, (.iad 1 (.t 42) (.t 44)), none⟩,
 ⟨some 48, (.load false 1 (.t 47)), none⟩,
 ⟨some 11, (.mv (.t 46)), none⟩,
 ⟨some 12, (.mv (.t 48)), none⟩]
 [] [45, 46, 47, 48])
 (.seq
 (.ops [⟨some 49, (.fad 1 (.t 3)), none⟩,
 ⟨some 50, (.load false 1 (.t 49)), none⟩,
 ⟨some 51, (.mv (.t 11)), none⟩,
 ⟨some 52, (.bin .add (.t 51) (.c (.int .i64 (1)))), none⟩,
 ⟨some 53, (.iad 1 (.t 50) (.t 52)), none⟩,
 ⟨some 54, (.load false 1 (.t 53)), none⟩,
 ⟨some 55, (.call (.f 89) [(.t 54)]), none⟩,
 ⟨some 13, (.allocL (.agg [(.int .i64 (0)), (.int .i64 (0))])), none⟩,
 ⟨none, (.store 2 (.t 13) (.t 55)), none⟩]
 [] [11, 49, 50, 51, 52, 53, 54, 55])
 (.seq
 (.seq
 (.ops [⟨some 56, (.load true 2 (.t 5)), none⟩,
 ⟨some 57, (.load true 2 (.t 13)), none⟩,
 ⟨some 58, (.call (.f 88) [(.t 56), (.t 57)]), none⟩]
 [] [56, 57])
 (.cond (.t 58)
 (.ops [⟨some 59, (.load true 2 (.t 5)), none⟩,
 ⟨none, (.store 2 (.t 13) (.t 59)), none⟩]
 [] [58, 59])
 .skip))
 (.seq
 (.seq
 (.ops [⟨some 60, (.mv (.t 12)), none⟩,
 ⟨some 61, (.bin .eql (.t 60) (.c (.int .i64 (0)))), none⟩,
 ⟨some 62, (.mv (.t 61)), none⟩,
 ⟨some 63, (.load true 2 (.t 10)), some (62, false)⟩,
 ⟨some 64, (.load true 2 (.t 13)), some (62, false)⟩,
 ⟨some 65, (.call (.f 88) [(.t 63), (.t 64)]), some (62, false)⟩,
 ⟨some 66, (.un .not (.t 65)), some (62, false)⟩,
 ⟨some 67, (.pick (.t 62) (.c (.bool true)) (.t 66)), none⟩]
 [] [58, 60, 61, 62, 63, 64, 65, 66])
 (.cond (.t 67)
 (.seq
 (.seq
 (.ops [⟨some 68, (.load true 2 (.t 10)), none⟩,
 ⟨some 69, (.load true 2 (.t 13)), none⟩,
 ⟨some 70, (.call (.f 88) [(.t 68), (.t 69)]), none⟩]
 [] [12, 67, 68, 69])
 (.cond (.t 70)
 (.ops [⟨some 71, (.load true 2 (.t 13)), none⟩,
 ⟨none, (.store 2 (.t 10) (.t 71)), none⟩]
 [] [13, 70, 71])
 .skip))
 (.exit 1))
 .skip))
 (.seq
 (.ops [⟨some 73, (.load true 2 (.t 13)), none⟩,
 ⟨some 74, (.load true 2 (.t 10)), none⟩,
 ⟨some 75, (.call (.f 27) [(.t 73), (.t 74)]), none⟩,
 ⟨some 72, (.mv (.t 75)), none⟩,
 ⟨some 76, (.ext (.t 72) 0), none⟩,
 ⟨some 77, (.ext (.t 72) 1), none⟩,
 ⟨some 14, (.allocL (.agg [(.int .i64 (0)), (.int .i64 (0))])), none⟩,
 ⟨none, (.store 2 (.t 14) (.t 76)), none⟩,
 ⟨some 15, (.mv (.t 77)), none⟩]
 [] [67, 72, 73, 74, 75, 76, 77])
 (.seq
 (.seq
 (.ops [⟨some 78, (.mv (.t 15)), none⟩,
 ⟨some 79, (.bin .neq (.t 78) (.c (.int .i64 (0)))), none⟩]
 [] [78])
 (.cond (.t 79)
 (.seq
 (.ops [⟨some 80, (.build [(.int .i64 (0)), (.int .i64 (0))] []), none⟩,
 ⟨some 81, (.mv (.t 15)), none⟩,
 ⟨none, (.store 2 (.t 6) (.t 80)), none⟩,
 ⟨some 7, (.mv (.t 81)), none⟩]
 [] [3, 5, 9, 10, 12, 13, 14, 15, 42, 43, 44, 79, 80, 81])
 .ret)
 .skip))
 (.seq
 (.ops [⟨some 83, (.load true 2 (.t 14)), none⟩,
 ⟨some 84, (.mv (.t 12)), none⟩,
 ⟨some 85, (.call (.f 89) [(.t 84)]), none⟩,
 ⟨some 86, (.call (.f 34) [(.t 83), (.t 85)]), none⟩,
 ⟨some 82, (.mv (.t 86)), none⟩,
 ⟨some 87, (.ext (.t 82) 0), none⟩,
 ⟨some 88, (.ext (.t 82) 1), none⟩,
 ⟨some 16, (.allocL (.agg [(.int .i64 (0)), (.int .i64 (0))])), none⟩,
 ⟨none, (.store 2 (.t 16) (.t 87)), none⟩,
 ⟨some 15, (.mv (.t 88)), none⟩]
 [(0, 1), (0, 2), (5, 6), (0, 7), (1, 7), (2, 7), (3, 7), (4, 7), (5, 7), (6, 7), (6, 8)] [12, 14, 79, 82, 83, 84, 85, 86, 87, 88])
 (.seq
 (.seq
 (.ops [⟨some 89, (.mv (.t 15)), none⟩,
 ⟨some 90, (.bin .neq (.t 89) (.c (.int .i64 (0)))), none⟩]
 [] [89])
 (.cond (.t 90)
 (.seq
 (.ops [⟨some 91, (.build [(.int .i64 (0)), (.int .i64 (0))] []), none⟩,
 ⟨some 92, (.mv (.t 15)), none⟩,
 ⟨none, (.store 2 (.t 6) (.t 91)), none⟩,
 ⟨some 7, (.mv (.t 92)), none⟩]
 [] [3, 5, 9, 10, 13, 15, 16, 42, 43, 44, 90, 91, 92])
 .ret)
 .skip))
 (.seq
 (.seq
 (.ops [⟨some 94, (.load true 2 (.t 9)), none⟩,
 ⟨some 95, (.load true 2 (.t 16)), none⟩,
 ⟨some 96, (.call (.f 39) [(.t 94), (.t 95)]), none⟩,
 ⟨some 93, (.mv (.t 96)), none⟩,
 ⟨some 97, (.ext (.t 93) 0), none⟩,
 ⟨some 98, (.ext (.t 93) 1), none⟩,
 ⟨none, (.store 2 (.t 9) (.t 97)), none⟩,
 ⟨some 15, (.mv (.t 98)), none⟩]
 [] [16, 90, 93, 94, 95, 96, 97, 98])
 (.seq
 (.ops [⟨some 99, (.mv (.t 15)), none⟩,
 ⟨some 100, (.bin .neq (.t 99) (.c (.int .i64 (0)))), none⟩]
 [] [99])
 (.cond (.t 100)
 (.seq
 (.ops [⟨some 101, (.build [(.int .i64 (0)), (.int .i64 (0))] []), none⟩,
 ⟨some 102, (.mv (.t 15)), none⟩,
 ⟨none, (.store 2 (.t 6) (.t 101)), none⟩,
 ⟨some 7, (.mv (.t 102)), none⟩]
 [] [3, 5, 9, 10, 13, 15, 42, 43, 44, 100, 101, 102])
 .ret)
 .skip)))
 (.ops [⟨some 103, (.load true 2 (.t 13)), none⟩,
 ⟨none, (.store 2 (.t 10) (.t 103)), none⟩]
 [] [13, 15, 100, 103])))))))))))
 (.ops [⟨some 104, (.bin .add (.t 44) (.c (.int .i64 (1)))), none⟩,
 ⟨some 44, (.mv (.t 104)), none⟩]
 [] [13, 70, 104])))))))
 (.seq
 (.ops [⟨some 105, (.load true 2 (.t 9)), none⟩,
 ⟨none, (.store 2 (.t 6) (.t 105)), none⟩,
 ⟨some 7, (.mv (.c (.int .i64 (0)))), none⟩]
 [] [3, 5, 9, 10, 42, 43, 44, 45, 105])
 .ret)))))))⟩
def loc71 : List Nat := [3, 4, 5, 6, 9, 10, 13, 14, 16]
def fg71 : List (Nat × List Nat) := [(28, [3, 5, 9, 10, 42, 43, 44, 45, 105]), (27, [13, 70, 104]), (26, [13, 15, 100, 103]), (25, [3, 5, 9, 10, 13, 15, 42, 43, 44, 100, 101, 102]), (24, [99]), (23, [16, 90, 93, 94, 95, 96, 97, 98]), (22, [3, 5, 9, 10, 13, 15, 16, 42, 43, 44, 90, 91, 92]), (21, [89]), (20, [12, 14, 79, 82, 83, 84, 85, 86, 87, 88]), (19, [3, 5, 9, 10, 12, 13, 14, 15, 42, 43, 44, 79, 80, 81]), (18, [78]), (17, [67, 72, 73, 74, 75, 76, 77]), (16, [13, 70, 71]), (15, [12, 67, 68, 69]), (14, [58, 60, 61, 62, 63, 64, 65, 66]), (13, [58, 59]), (12, [56, 57]), (11, [11, 49, 50, 51, 52, 53, 54, 55]), (10, [45, 46, 47, 48]), (8, [41]), (7, [4, 40]), (6, [37, 39]), (5, [3, 4, 5, 37, 38]), (4, [8, 20, 23, 24, 25, 26, 27, 28, 29, 30, 31, 32, 33, 34, 35, 36]), (3, [3, 4, 5, 8, 20, 21, 22]), (2, [19]), (1, [17, 18]), (0, [0, 1, 2, 7])]
theorem comp71 : compFn Try.prog loc71 (fun i => (fg71.lookup i).getD []) Try.f71 = some lit71 := by kernel_rfl

-- cmp.isNaN[uint64]
def lit74 : AFn := ⟨1, [.tmp 2],
 (.seq
 (.ops [⟨some 2, (.mv (.c (.bool false))), none⟩]
 [] [2])
 (.seq
 (.ops [⟨some 3, (.mv (.t 0)), none⟩,
 ⟨some 4, (.mv (.t 0)), none⟩,
 ⟨some 5, (.bin .neq (.t 3) (.t 4)), none⟩,
 ⟨some 2, (.mv (.t 5)), none⟩]
 [] [0, 3, 4, 5])
 .ret))⟩
def loc74 : List Nat := []
def fg74 : List (Nat × List Nat) := [(1, [0, 3, 4, 5]), (0, [2])]
theorem comp74 : compFn Try.prog loc74 (fun i => (fg74.lookup i).getD []) Try.f74 = some lit74 := by kernel_rfl

-- parcener/cake.Mark
def lit75 : AFn := ⟨3, [.cell 6 true 2, .tmp 7],
 (.seq
 (.ops [⟨some 3, (.boxL (.t 0)), none⟩,
 ⟨some 4, (.boxL (.t 1)), none⟩,
 ⟨some 5, (.boxH true 2 (.t 2)), none⟩,
 ⟨some 6, (.allocL (.agg [(.int .i64 (0)), (.int .i64 (0))])), none⟩,
 ⟨some 7, (.mv (.c (.int .i64 (0)))), none⟩]
 [] [0, 1, 2, 7])
 (.seq
 (.seq
 (.ops [⟨some 12, (.load true 3 (.t 3)), none⟩,
 ⟨some 13, (.call (.f 33) [(.t 12)]), none⟩,
 ⟨some 8, (.mv (.t 13)), none⟩]
 [] [12, 13])
 (.seq
 (.ops [⟨some 14, (.mv (.t 8)), none⟩,
 ⟨some 15, (.bin .neq (.t 14) (.c (.int .i64 (0)))), none⟩]
 [] [14])
 (.cond (.t 15)
 (.seq
 (.ops [⟨some 16, (.build [(.int .i64 (0)), (.int .i64 (0))] []), none⟩,
 ⟨some 17, (.mv (.t 8)), none⟩,
 ⟨none, (.store 2 (.t 6) (.t 16)), none⟩,
 ⟨some 7, (.mv (.t 17)), none⟩]
 [] [3, 4, 5, 8, 15, 16, 17])
 .ret)
 .skip)))
 (.seq
 (.seq
 (.ops [⟨some 18, (.load true 3 (.t 3)), none⟩,
 ⟨some 19, (.load true 2 (.t 4)), none⟩,
 ⟨some 20, (.call (.f 87) [(.t 18), (.t 19)]), none⟩,
 ⟨some 21, (.un .not (.t 20)), none⟩,
 ⟨some 22, (.mv (.t 21)), none⟩,
 ⟨some 23, (.load true 2 (.t 5)), some (22, false)⟩,
 ⟨some 24, (.call (.f 59) [(.t 23)]), some (22, false)⟩,
 ⟨some 25, (.bin .neq (.t 24) (.c (.int .i64 (0)))), some (22, false)⟩,
 ⟨some 26, (.pick (.t 22) (.c (.bool true)) (.t 25)), none⟩,
 ⟨some 27, (.mv (.t 26)), none⟩,
 ⟨some 28, (.fad 0 (.t 5)), some (27, false)⟩,
 ⟨some 29, (.load false 1 (.t 28)), some (27, false)⟩,
 ⟨some 30, (.bin .lss (.t 29) (.c (.int .i64 (0)))), some (27, false)⟩,
 ⟨some 31, (.pick (.t 27) (.c (.bool true)) (.t 30)), none⟩]
 [] [8, 15, 18, 19, 20, 21, 22, 23, 24, 25, 26, 27, 28, 29, 30])
 (.cond (.t 31)
 (.seq
 (.ops [⟨some 32, (.build [(.int .i64 (0)), (.int .i64 (0))] []), none⟩,
 ⟨none, (.store 2 (.t 6) (.t 32)), none⟩,
 ⟨some 7, (.mv (.c (.int .i64 (2)))), none⟩]
 [] [3, 4, 5, 31, 32])
 .ret)
 .skip))
 (.seq
 (.seq
 (.ops [⟨some 33, (.fad 0 (.t 5)), none⟩,
 ⟨some 34, (.load false 1 (.t 33)), none⟩,
 ⟨some 35, (.bin .eql (.t 34) (.c (.int .i64 (0)))), none⟩]
 [] [31, 33, 34])
 (.cond (.t 35)
 (.seq
 (.ops [⟨some 36, (.load true 2 (.t 4)), none⟩,
 ⟨none, (.store 2 (.t 6) (.t 36)), none⟩,
 ⟨some 7, (.mv (.c (.int .i64 (0)))), none⟩]
 [] [3, 4, 5, 35, 36])
 .ret)
 .skip))
 (.seq
 (.ops [⟨some 9, (.allocH true 2 (.agg [(.int .i64 (0)), (.int .i64 (0))])), none⟩]
 [] [35])
 (.seq
 (.ops [⟨some 10, (.allocH true 1 (.int .i64 (0))), none⟩,
 ⟨none, (.store 1 (.t 10) (.c (.int .i64 (6)))), none⟩]
 [] [])
 (.seq
 (.ops [⟨some 37, (.load true 3 (.t 3)), none⟩,
 ⟨some 38, (.load true 2 (.t 4)), none⟩,
 ⟨some 39, (.mkFn (.func 91) [] [(.t 5), (.t 10), (.t 9)]), none⟩,
 ⟨some 40, (.call (.f 90) [(.t 37), (.t 38), (.t 39)]), none⟩,
 ⟨some 11, (.mv (.t 40)), none⟩]
 [] [3, 4, 5, 37, 38, 39, 40])
 (.seq
 (.seq
 (.ops [⟨some 41, (.mv (.t 11)), none⟩,
 ⟨some 42, (.bin .neq (.t 41) (.c (.int .i64 (0)))), none⟩]
 [] [41])
 (.cond (.t 42)
 (.ops [⟨some 43, (.mv (.t 11)), none⟩,
 ⟨none, (.store 1 (.t 10) (.t 43)), none⟩]
 [] [11, 42, 43])
 .skip))
 (.seq
 (.seq
 (.ops [⟨some 44, (.load false 1 (.t 10)), none⟩,
 ⟨some 45, (.bin .neq (.t 44) (.c (.int .i64 (0)))), none⟩]
 [] [11, 42, 44])
 (.cond (.t 45)
 (.seq
 (.ops [⟨some 46, (.build [(.int .i64 (0)), (.int .i64 (0))] []), none⟩,
 ⟨some 47, (.load false 1 (.t 10)), none⟩,
 ⟨none, (.store 2 (.t 6) (.t 46)), none⟩,
 ⟨some 7, (.mv (.t 47)), none⟩]
 [(0, 1), (1, 2)] [9, 10, 45, 46, 47])
 .ret)
 .skip))
 (.seq
 (.ops [⟨some 48, (.load true 2 (.t 9)), none⟩,
 ⟨none, (.store 2 (.t 6) (.t 48)), none⟩,
 ⟨some 7, (.mv (.c (.int .i64 (0)))), none⟩]
 [] [9, 10, 45, 48])
 .ret))))))))))⟩
def loc75 : List Nat := [3, 4, 6]
def fg75 : List (Nat × List Nat) := [(15, [9, 10, 45, 48]), (14, [9, 10, 45, 46, 47]), (13, [11, 42, 44]), (12, [11, 42, 43]), (11, [41]), (10, [3, 4, 5, 37, 38, 39, 40]), (8, [35]), (7, [3, 4, 5, 35, 36]), (6, [31, 33, 34]), (5, [3, 4, 5, 31, 32]), (4, [8, 15, 18, 19, 20, 21, 22, 23, 24, 25, 26, 27, 28, 29, 30]), (3, [3, 4, 5, 8, 15, 16, 17]), (2, [14]), (1, [12, 13]), (0, [0, 1, 2, 7])]
theorem comp75 : compFn Try.prog loc75 (fun i => (fg75.lookup i).getD []) Try.f75 = some lit75 := by kernel_rfl

-- slices.insertionSortCmpFunc[parcener/api.Span]
def lit76 : AFn := ⟨4, [],
 (.seq
 (.ops [⟨some 10, (.mv (.t 1)), none⟩,
 ⟨some 11, (.bin .add (.t 10) (.c (.int .i64 (1)))), none⟩,
 ⟨some 8, (.mv (.t 11)), none⟩]
 [] [10, 11])
 (.block 0
 (.loop
 (.seq
 (.seq
 (.ops [⟨some 12, (.mv (.t 8)), none⟩,
 ⟨some 13, (.mv (.t 2)), none⟩,
 ⟨some 14, (.bin .lss (.t 12) (.t 13)), none⟩]
 [] [12, 13])
 (.cond (.t 14)
 .skip
 (.exit 0)))
 (.seq
 (.block 1
 (.seq
 (.ops [⟨some 17, (.mv (.t 8)), none⟩,
 ⟨some 9, (.mv (.t 17)), none⟩]
 [] [14, 17])
 (.block 2
 (.loop
 (.seq
 (.seq
 (.ops [⟨some 18, (.mv (.t 9)), none⟩,
 ⟨some 19, (.mv (.t 1)), none⟩,
 ⟨some 20, (.bin .gtr (.t 18) (.t 19)), none⟩,
 ⟨some 21, (.mv (.t 20)), none⟩,
 ⟨some 22, (.mv (.t 3)), some (21, true)⟩,
 ⟨some 23, (.mv (.t 0)), some (21, true)⟩,
 ⟨some 24, (.mv (.t 9)), some (21, true)⟩,
 ⟨some 25, (.iad 4 (.t 23) (.t 24)), some (21, true)⟩,
 ⟨some 26, (.load true 4 (.t 25)), some (21, true)⟩,
 ⟨some 27, (.mv (.t 0)), some (21, true)⟩,
 ⟨some 28, (.mv (.t 9)), some (21, true)⟩,
 ⟨some 29, (.bin .sub (.t 28) (.c (.int .i64 (1)))), some (21, true)⟩,
 ⟨some 30, (.iad 4 (.t 27) (.t 29)), some (21, true)⟩,
 ⟨some 31, (.load true 4 (.t 30)), some (21, true)⟩,
 ⟨some 32, (.call (.t 22) [(.t 26), (.t 31)]), some (21, true)⟩,
 ⟨some 33, (.bin .lss (.t 32) (.c (.int .i64 (0)))), some (21, true)⟩,
 ⟨some 34, (.pick (.t 21) (.t 33) (.c (.bool false))), none⟩]
 [(0, 1), (4, 5), (4, 6), (5, 6), (4, 7), (4, 8), (4, 9), (5, 9), (6, 9), (7, 9), (8, 9), (4, 10), (5, 10), (6, 10), (7, 10), (8, 10), (9, 10), (4, 11), (5, 11), (6, 11), (7, 11), (8, 11), (9, 11), (4, 12), (5, 12), (6, 12), (7, 12), (8, 12), (4, 13), (5, 13), (6, 13), (7, 13), (8, 13)] [18, 19, 20, 21, 22, 23, 24, 25, 26, 27, 28, 29, 30, 31, 32, 33])
 (.cond (.t 34)
 .skip
 (.exit 2)))
 (.seq
 (.block 3
 (.ops [⟨some 37, (.mv (.t 0)), none⟩,
 ⟨some 38, (.mv (.t 9)), none⟩,
 ⟨some 39, (.mv (.t 0)), none⟩,
 ⟨some 40, (.mv (.t 9)), none⟩,
 ⟨some 41, (.bin .sub (.t 40) (.c (.int .i64 (1)))), none⟩,
 ⟨some 42, (.mv (.t 0)), none⟩,
 ⟨some 43, (.mv (.t 9)), none⟩,
 ⟨some 44, (.bin .sub (.t 43) (.c (.int .i64 (1)))), none⟩,
 ⟨some 45, (.iad 4 (.t 42) (.t 44)), none⟩,
 ⟨some 46, (.load true 4 (.t 45)), none⟩,
 ⟨some 47, (.mv (.t 0)), none⟩,
 ⟨some 48, (.mv (.t 9)), none⟩,
 ⟨some 49, (.iad 4 (.t 47) (.t 48)), none⟩,
 ⟨some 50, (.load true 4 (.t 49)), none⟩,
 ⟨some 51, (.iad 4 (.t 37) (.t 38)), none⟩,
 ⟨none, (.store 4 (.t 51) (.t 46)), none⟩,
 ⟨some 52, (.iad 4 (.t 39) (.t 41)), none⟩,
 ⟨none, (.store 4 (.t 52) (.t 50)), none⟩]
 [(0, 1), (0, 2), (1, 2), (0, 3), (1, 3), (2, 3), (0, 4), (1, 4), (2, 4), (0, 5), (1, 5), (2, 5), (3, 5), (4, 5), (0, 6), (1, 6), (2, 6), (3, 6), (4, 6), (5, 6), (0, 7), (1, 7), (2, 7), (3, 7), (4, 7), (5, 7), (0, 8), (1, 8), (2, 8), (3, 8), (4, 8), (0, 9), (1, 9), (2, 9), (3, 9), (4, 9), (0, 10), (1, 10), (2, 10), (3, 10), (4, 10), (5, 10), (6, 10), (7, 10), (8, 10), (9, 10), (0, 11), (1, 11), (2, 11), (3, 11), (4, 11), (5, 11), (6, 11), (7, 11), (8, 11), (9, 11), (10, 11), (0, 12), (1, 12), (2, 12), (3, 12), (4, 12), (5, 12), (6, 12), (7, 12), (8, 12), (9, 12), (0, 13), (1, 13), (2, 13), (3, 13), (4, 13), (5, 13), (6, 13), (7, 13), (8, 13), (9, 13), (2, 14), (3, 14), (4, 14), (2, 15), (3, 15), (4, 15)] [34, 37, 38, 39, 40, 41, 42, 43, 44, 45, 46, 47, 48, 49, 50, 51, 52]))
 (.ops [⟨some 35, (.mv (.t 9)), none⟩,
 ⟨some 36, (.bin .sub (.t 35) (.c (.int .i64 (1)))), none⟩,
 ⟨some 9, (.mv (.t 36)), none⟩]
 [] [35, 36])))))))
 (.ops [⟨some 15, (.mv (.t 8)), none⟩,
 ⟨some 16, (.bin .add (.t 15) (.c (.int .i64 (1)))), none⟩,
 ⟨some 8, (.mv (.t 16)), none⟩]
 [] [9, 15, 16, 34]))))))⟩
def loc76 : List Nat := []
def fg76 : List (Nat × List Nat) := [(2, [9, 15, 16, 34]), (5, [35, 36]), (6, [34, 37, 38, 39, 40, 41, 42, 43, 44, 45, 46, 47, 48, 49, 50, 51, 52]), (4, [18, 19, 20, 21, 22, 23, 24, 25, 26, 27, 28, 29, 30, 31, 32, 33]), (3, [14, 17]), (1, [12, 13]), (0, [10, 11])]
theorem comp76 : compFn Try.prog loc76 (fun i => (fg76.lookup i).getD []) Try.f76 = some lit76 := by kernel_rfl

-- math/bits.Len64
def lit85 : AFn := ⟨1, [.tmp 2],
 (.seq
 (.ops [⟨some 2, (.mv (.c (.int .i64 (0)))), none⟩]
 [] [])
 (.seq
 (.seq
 (.ops [⟨some 3, (.mv (.t 0)), none⟩,
 ⟨some 4, (.bin .geq (.t 3) (.c (.int .u64 (4294967296)))), none⟩]
 [] [3])
 (.cond (.t 4)
 (.seq
 (.ops [⟨some 5, (.mv (.t 0)), none⟩,
 ⟨some 6, (.bin .shr (.t 5) (.c (.int .u64 (32)))), none⟩,
 ⟨some 0, (.mv (.t 6)), none⟩]
 [] [2, 4, 5, 6])
 (.ops [⟨some 2, (.mv (.c (.int .i64 (32)))), none⟩]
 [] []))
 .skip))
 (.seq
 (.seq
 (.ops [⟨some 7, (.mv (.t 0)), none⟩,
 ⟨some 8, (.bin .geq (.t 7) (.c (.int .u64 (65536)))), none⟩]
 [] [4, 7])
 (.cond (.t 8)
 (.seq
 (.ops [⟨some 9, (.mv (.t 0)), none⟩,
 ⟨some 10, (.bin .shr (.t 9) (.c (.int .u64 (16)))), none⟩,
 ⟨some 0, (.mv (.t 10)), none⟩]
 [] [8, 9, 10])
 (.ops [⟨some 11, (.mv (.t 2)), none⟩,
 ⟨some 12, (.bin .add (.t 11) (.c (.int .i64 (16)))), none⟩,
 ⟨some 2, (.mv (.t 12)), none⟩]
 [] [11, 12]))
 .skip))
 (.seq
 (.seq
 (.ops [⟨some 13, (.mv (.t 0)), none⟩,
 ⟨some 14, (.bin .geq (.t 13) (.c (.int .u64 (256)))), none⟩]
 [] [8, 13])
 (.cond (.t 14)
 (.seq
 (.ops [⟨some 15, (.mv (.t 0)), none⟩,
 ⟨some 16, (.bin .shr (.t 15) (.c (.int .u64 (8)))), none⟩,
 ⟨some 0, (.mv (.t 16)), none⟩]
 [] [14, 15, 16])
 (.ops [⟨some 17, (.mv (.t 2)), none⟩,
 ⟨some 18, (.bin .add (.t 17) (.c (.int .i64 (8)))), none⟩,
 ⟨some 2, (.mv (.t 18)), none⟩]
 [] [17, 18]))
 .skip))
 (.seq
 (.ops [⟨some 19, (.mv (.t 2)), none⟩,
 ⟨some 20, (.mv (.t 0)), none⟩,
 ⟨some 21, (.conv .u8 (.t 20)), none⟩,
 ⟨some 22, (.idx false 256 1 (.c (.agg [(.int .u8 (0)), (.int .u8 (1)), (.int .u8 (2)), (.int .u8 (2)), (.int .u8 (3)), (.int .u8 (3)), (.int .u8 (3)), (.int .u8 (3)), (.int .u8 (4)), (.int .u8 (4)), (.int .u8 (4)), (.int .u8 (4)), (.int .u8 (4)), (.int .u8 (4)), (.int .u8 (4)), (.int .u8 (4)), (.int .u8 (5)), (.int .u8 (5)), (.int .u8 (5)), (.int .u8 (5)), (.int .u8 (5)), (.int .u8 (5)), (.int .u8 (5)), (.int .u8 (5)), (.int .u8 (5)), (.int .u8 (5)), (.int .u8 (5)), (.int .u8 (5)), (.int .u8 (5)), (.int .u8 (5)), (.int .u8 (5)), (.int .u8 (5)), (.int .u8 (6)), (.int .u8 (6)), (.int .u8 (6)), (.int .u8 (6)), (.int .u8 (6)), (.int .u8 (6)), (.int .u8 (6)), (.int .u8 (6)), (.int .u8 (6)), (.int .u8 (6)), (.int .u8 (6)), (.int .u8 (6)), (.int .u8 (6)), (.int .u8 (6)), (.int .u8 (6)), (.int .u8 (6)), (.int .u8 (6)), (.int .u8 (6)), (.int .u8 (6)), (.int .u8 (6)), (.int .u8 (6)), (.int .u8 (6)), (.int .u8 (6)), (.int .u8 (6)), (.int .u8 (6)), (.int .u8 (6)), (.int .u8 (6)), (.int .u8 (6)), (.int .u8 (6)), (.int .u8 (6)), (.int .u8 (6)), (.int .u8 (6)), (.int .u8 (7)), (.int .u8 (7)), (.int .u8 (7)), (.int .u8 (7)), (.int .u8 (7)), (.int .u8 (7)), (.int .u8 (7)), (.int .u8 (7)), (.int .u8 (7)), (.int .u8 (7)), (.int .u8 (7)), (.int .u8 (7)), (.int .u8 (7)), (.int .u8 (7)), (.int .u8 (7)), (.int .u8 (7)), (.int .u8 (7)), (.int .u8 (7)), (.int .u8 (7)), (.int .u8 (7)), (.int .u8 (7)), (.int .u8 (7)), (.int .u8 (7)), (.int .u8 (7)), (.int .u8 (7)), (.int .u8 (7)), (.int .u8 (7)), (.int .u8 (7)), (.int .u8 (7)), (.int .u8 (7)), (.int .u8 (7)), (.int .u8 (7)), (.int .u8 (7)), (.int .u8 (7)), (.int .u8 (7)), (.int .u8 (7)), (.int .u8 (7)), (.int .u8 (7)), (.int .u8 (7)), (.int .u8 (7)), (.int .u8 (7)), (.int .u8 (7)), (.int .u8 (7)), (.int .u8 (7)), (.int .u8 (7)), (.int .u8 (7)), (.int .u8 (7)), (.int .u8 (7)), (.int .u8 (7)), (.int .u8 (7)), (.int .u8 (7)), (.int .u8 (7)), (.int .u8 (7)), (.int .u8 (7)), (.int .u8 (7)), (.int .u8 (7)), (.int .u8 (7)), (.int .u8 (7)), (.int .u8 (7)), (.int .u8 (7)), (.int .u8 (7)), (.int .u8 (7)), (.int .u8 (7)), (.int .u8 (7)), (.int .u8 (8)), (.int .u8 (8)), (.int .u8 (8)), (.int .u8 (8)), (.int .u8 (8)), (.int .u8 (8)), (.int .u8 (8)), (.int .u8 (8)), (.int .u8 (8)), (.int .u8 (8)), (.int .u8 (8)), (.int .u8 (8)), (.int .u8 (8)), (.int .u8 (8)), (.int .u8 (8)), (.int .u8 (8)), (.int .u8 (8)), (.int .u8 (8)), (.int .u8 (8)), (.int .u8 (8)), (.int .u8 (8)), (.int .u8 (8)), (.int .u8 (8)), (.int .u8 (8)), (.int .u8 (8)), (.int .u8 (8)), (.int .u8 (8)), (.int .u8 (8)), (.int .u8 (8)), (.int .u8 (8)), (.int .u8 (8)), (.int .u8 (8)), (.int .u8 (8)), (.int .u8 (8)), (.int .u8 (8)), (.int .u8 (8)), (.int .u8 (8)), (.int .u8 (8)), (.int .u8 (8)), (.int .u8 (8)), (.int .u8 (8)), (.int .u8 (8)), (.int .u8 (8)), (.int .u8 (8)), (.int .u8 (8)), (.int .u8 (8)), (.int .u8 (8)), (.int .u8 (8)), (.int .u8 (8)), (.int .u8 (8)), (.int .u8 (8)), (.int .u8 (8)), (.int .u8 (8)), (.int .u8 (8)), (.int .u8 (8)), (.int .u8 (8)), (.int .u8 (8)), (.int .u8 (8)), (.int .u8 (8)), (.int .u8 (8)), (.int .u8 (8)), (.int .u8 (8)), (.int .u8 (8)), (.int .u8 (8)), (.int .u8 (8)), (.int .u8 (8)), (.int .u8 (8)), (.int .u8 (8)), (.int .u8 (8)), (.int .u8 (8)), (.int .u8 (8)), (.int .u8 (8)), (.int .u8 (8)), (.int .u8 (8)), (.int .u8 (8)), (.int .u8 (8)), (.int .u8 (8)), (.int .u8 (8)), (.int .u8 (8)), (.int .u8 (8)), (.int .u8 (8)), (.int .u8 (8)), (.int .u8 (8)), (.int .u8 (8)), (.int .u8 (8)), (.int .u8 (8)), (.int .u8 (8)), (.int .u8 (8)), (.int .u8 (8)), (.int .u8 (8)), (.int .u8 (8)), (.int .u8 (8)), (.int .u8 (8)), (.int .u8 (8)), (.int .u8 (8)), (.int .u8 (8)), (.int .u8 (8)), (.int .u8 (8)), (.int .u8 (8)), (.int .u8 (8)), (.int .u8 (8)), (.int .u8 (8)), (.int .u8 (8)), (.int .u8 (8)), (.int .u8 (8)), (.int .u8 (8)), (.int .u8 (8)), (.int .u8 (8)), (.int .u8 (8)), (.int .u8 (8)), (.int .u8 (8)), (.int .u8 (8)), (.int .u8 (8)), (.int .u8 (8)), (.int .u8 (8)), (.int .u8 (8)), (.int .u8 (8)), (.int .u8 (8)), (.int .u8 (8)), (.int .u8 (8)), (.int .u8 (8)), (.int .u8 (8)), (.int .u8 (8)), (.int .u8 (8)), (.int .u8 (8)), (.int .u8 (8)), (.int .u8 (8)), (.int .u8 (8))])) (.t 21)), none⟩,
 ⟨some 23, (.conv .i64 (.t 22)), none⟩,
 ⟨some 24, (.bin .add (.t 19) (.t 23)), none⟩,
 ⟨some 2, (.mv (.t 24)), none⟩]
 [] [0, 14, 19, 20, 21, 22, 23, 24])
 .ret)))))⟩
def loc85 : List Nat := []
def fg85 : List (Nat × List Nat) := [(10, [0, 14, 19, 20, 21, 22, 23, 24]), (9, [17, 18]), (8, [14, 15, 16]), (7, [8, 13]), (6, [11, 12]), (5, [8, 9, 10]), (4, [4, 7]), (2, [2, 4, 5, 6]), (1, [3])]
theorem comp85 : compFn Try.prog loc85 (fun i => (fg85.lookup i).getD []) Try.f85 = some lit85 := by kernel_rfl

-- slices.Clone[[]int,int]
def lit86 : AFn := ⟨1, [.tmp 2],
 (.seq
 (.ops [⟨some 2, (.mv (.c .nils)), none⟩]
 [] [2])
 (.seq
 (.seq
 (.ops [⟨some 3, (.mv (.t 0)), none⟩,
 ⟨some 4, (.eqN false (.t 3)), none⟩]
 [] [3])
 (.cond (.t 4)
 (.seq
 (.ops [⟨some 2, (.mv (.c .nils)), none⟩]
 [] [0, 4])
 .ret)
 .skip))
 (.seq
 (.ops [⟨some 5, (.buildSl true 1 (.int .i64 (0)) 0 []), none⟩,
 ⟨some 6, (.mv (.t 0)), none⟩,
 ⟨some 7, (.app true 1 8 (.t 5) (.t 6)), none⟩,
 ⟨some 2, (.mv (.t 7)), none⟩]
 [] [0, 4, 5, 6, 7])
 .ret)))⟩
def loc86 : List Nat := []
def fg86 : List (Nat × List Nat) := [(3, [0, 4, 5, 6, 7]), (2, [0, 4]), (1, [3]), (0, [2])]
theorem comp86 : compFn Try.prog loc86 (fun i => (fg86.lookup i).getD []) Try.f86 = some lit86 := by kernel_rfl

-- parcener/cake.point
def lit87 : AFn := ⟨2, [.tmp 4],
 (.seq
 (.ops [⟨some 2, (.boxL (.t 0)), none⟩,
 ⟨some 3, (.boxL (.t 1)), none⟩,
 ⟨some 4, (.mv (.c (.bool false))), none⟩]
 [] [0, 1, 4])
 (.seq
 (.ops [⟨some 5, (.load true 2 (.t 3)), none⟩,
 ⟨some 6, (.call (.f 59) [(.t 5)]), none⟩,
 ⟨some 7, (.bin .eql (.t 6) (.c (.int .i64 (0)))), none⟩,
 ⟨some 8, (.mv (.t 7)), none⟩,
 ⟨some 9, (.fad 0 (.t 3)), some (8, true)⟩,
 ⟨some 10, (.load false 1 (.t 9)), some (8, true)⟩,
 ⟨some 11, (.bin .geq (.t 10) (.c (.int .i64 (0)))), some (8, true)⟩,
 ⟨some 12, (.pick (.t 8) (.t 11) (.c (.bool false))), none⟩,
 ⟨some 13, (.mv (.t 12)), none⟩,
 ⟨some 14, (.fad 0 (.t 2)), some (13, true)⟩,
 ⟨some 15, (.load false 1 (.t 14)), some (13, true)⟩,
 ⟨some 16, (.call (.f 89) [(.t 15)]), some (13, true)⟩,
 ⟨some 17, (.load true 2 (.t 3)), some (13, true)⟩,
 ⟨some 18, (.call (.f 88) [(.t 16), (.t 17)]), some (13, true)⟩,
 ⟨some 19, (.un .not (.t 18)), some (13, true)⟩,
 ⟨some 20, (.pick (.t 13) (.t 19) (.c (.bool false))), none⟩,
 ⟨some 4, (.mv (.t 20)), none⟩]
 [(9, 12), (10, 12), (11, 12)] [2, 3, 5, 6, 7, 8, 9, 10, 11, 12, 13, 14, 15, 16, 17, 18, 19, 20])
 .ret))⟩
def loc87 : List Nat := [2, 3]
def fg87 : List (Nat × List Nat) := [(1, [2, 3, 5, 6, 7, 8, 9, 10, 11, 12, 13, 14, 15, 16, 17, 18, 19, 20]), (0, [0, 1, 4])]
theorem comp87 : compFn Try.prog loc87 (fun i => (fg87.lookup i).getD []) Try.f87 = some lit87 := by kernel_rfl

-- parcener/cake.less
def lit88 : AFn := ⟨2, [.tmp 4],
 (.seq
 (.ops [⟨some 2, (.boxL (.t 0)), none⟩,
 ⟨some 3, (.boxL (.t 1)), none⟩,
 ⟨some 4, (.mv (.c (.bool false))), none⟩]
 [] [0, 1, 4])
 (.seq
 (.ops [⟨some 8, (.load true 2 (.t 2)), none⟩,
 ⟨some 9, (.load true 2 (.t 3)), none⟩,
 ⟨some 10, (.call (.f 40) [(.t 8), (.t 9)]), none⟩,
 ⟨some 7, (.mv (.t 10)), none⟩,
 ⟨some 11, (.ext (.t 7) 0), none⟩,
 ⟨some 12, (.ext (.t 7) 1), none⟩,
 ⟨some 5, (.mv (.t 11)), none⟩,
 ⟨some 6, (.mv (.t 12)), none⟩]
 [] [2, 3, 6, 7, 8, 9, 10, 11, 12])
 (.seq
 (.ops [⟨some 13, (.mv (.t 5)), none⟩,
 ⟨some 14, (.bin .lss (.t 13) (.c (.int .i64 (0)))), none⟩,
 ⟨some 4, (.mv (.t 14)), none⟩]
 [] [5, 13, 14])
 .ret)))⟩
def loc88 : List Nat := [2, 3]
def fg88 : List (Nat × List Nat) := [(2, [5, 13, 14]), (1, [2, 3, 6, 7, 8, 9, 10, 11, 12]), (0, [0, 1, 4])]
theorem comp88 : compFn Try.prog loc88 (fun i => (fg88.lookup i).getD []) Try.f88 = some lit88 := by kernel_rfl

-- parcener/cake.whole
def lit89 : AFn := ⟨1, [.cell 2 true 2],
 (.seq
 (.ops [⟨some 2, (.allocL (.agg [(.int .i64 (0)), (.int .i64 (0))])), none⟩]
 [] [])
 (.seq
 (.ops [⟨some 3, (.mv (.t 0)), none⟩,
 ⟨some 4, (.build [(.int .i64 (0)), (.int .i64 (0))] [(0, 1, (.t 3)), (1, 1, (.c (.int .i64 (1))))]), none⟩,
 ⟨none, (.store 2 (.t 2) (.t 4)), none⟩]
 [] [0, 3, 4])
 .ret))⟩
def loc89 : List Nat := [2]
def fg89 : List (Nat × List Nat) := [(1, [0, 3, 4])]
theorem comp89 : compFn Try.prog loc89 (fun i => (fg89.lookup i).getD []) Try.f89 = some lit89 := by kernel_rfl

-- parcener/cake.walk
def lit90 : AFn := ⟨3, [.tmp 6],
 (.seq
 (.ops [⟨some 3, (.boxL (.t 0)), none⟩,
 ⟨some 4, (.boxL (.t 1)), none⟩,
 ⟨some 6, (.mv (.c (.int .i64 (0)))), none⟩]
 [] [0, 1, 6])
 (.seq
 (.seq
 (.ops [⟨some 13, (.fad 2 (.t 3)), none⟩,
 ⟨some 14, (.load false 1 (.t 13)), none⟩,
 ⟨some 15, (.len (.t 14)), none⟩,
 ⟨some 16, (.mv (.c (.int .i64 (0)))), none⟩]
 [] [13])
 (.block 0
 (.loop
 (.seq
 (.ops [⟨some 17, (.bin .lss (.t 16) (.t 15)), none⟩]
 [] [])
 (.seq
 (.cond (.t 17)
 .skip
 (.exit 0))
 (.seq
 (.block 1
 (.seq
 (.ops [⟨some 18, (.mv (.t 16)), none⟩,
 ⟨some 19, (.iad 1 (.t 14) (.t 16)), none⟩,
 ⟨some 20, (.load false 1 (.t 19)), none⟩,
 ⟨some 7, (.mv (.t 18)), none⟩,
 ⟨some 8, (.mv (.t 20)), none⟩]
 [] [17, 18, 19, 20])
 (.seq
 (.ops [⟨some 21, (.fad 1 (.t 3)), none⟩,
 ⟨some 22, (.load false 1 (.t 21)), none⟩,
 ⟨some 23, (.mv (.t 7)), none⟩,
 ⟨some 24, (.bin .add (.t 23) (.c (.int .i64 (1)))), none⟩,
 ⟨some 25, (.iad 1 (.t 22) (.t 24)), none⟩,
 ⟨some 26, (.load false 1 (.t 25)), none⟩,
 ⟨some 27, (.call (.f 89) [(.t 26)]), none⟩,
 ⟨some 9, (.allocL (.agg [(.int .i64 (0)), (.int .i64 (0))])), none⟩,
 ⟨none, (.store 2 (.t 9) (.t 27)), none⟩]
 [] [7, 21, 22, 23, 24, 25, 26, 27])
 (.seq
 (.seq
 (.ops [⟨some 28, (.load true 2 (.t 4)), none⟩,
 ⟨some 29, (.load true 2 (.t 9)), none⟩,
 ⟨some 30, (.call (.f 88) [(.t 28), (.t 29)]), none⟩,
 ⟨some 31, (.un .not (.t 30)), none⟩]
 [] [28, 29, 30])
 (.cond (.t 31)
 (.exit 1)
 .skip))
 (.seq
 (.ops [⟨some 32, (.call (.f 89) [(.c (.int .i64 (0)))]), none⟩,
 ⟨some 10, (.allocL (.agg [(.int .i64 (0)), (.int .i64 (0))])), none⟩,
 ⟨none, (.store 2 (.t 10) (.t 32)), none⟩]
 [] [31, 32])
 (.seq
 (.seq
 (.ops [⟨some 33, (.mv (.t 8)), none⟩,
 ⟨some 34, (.bin .gtr (.t 33) (.c (.int .i64 (0)))), none⟩]
 [] [33])
 (.cond (.t 34)
 (.seq
 (.ops [⟨some 36, (.load true 2 (.t 9)), none⟩,
 ⟨some 37, (.load true 2 (.t 4)), none⟩,
 ⟨some 38, (.call (.f 27) [(.t 36), (.t 37)]), none⟩,
 ⟨some 35, (.mv (.t 38)), none⟩,
 ⟨some 39, (.ext (.t 35) 0), none⟩,
 ⟨some 40, (.ext (.t 35) 1), none⟩,
 ⟨some 11, (.allocL (.agg [(.int .i64 (0)), (.int .i64 (0))])), none⟩,
 ⟨none, (.store 2 (.t 11) (.t 39)), none⟩,
 ⟨some 12, (.mv (.t 40)), none⟩]
 [] [34, 35, 36, 37, 38, 39, 40])
 (.seq
 (.seq
 (.ops [⟨some 41, (.mv (.t 12)), none⟩,
 ⟨some 42, (.bin .neq (.t 41) (.c (.int .i64 (0)))), none⟩]
 [] [41])
 (.cond (.t 42)
 (.seq
 (.ops [⟨some 43, (.mv (.t 12)), none⟩,
 ⟨some 6, (.mv (.t 43)), none⟩]
 [] [2, 3, 4, 8, 9, 10, 11, 12, 14, 15, 16, 42, 43])
 .ret)
 .skip))
 (.seq
 (.ops [⟨some 45, (.load true 2 (.t 11)), none⟩,
 ⟨some 46, (.mv (.t 8)), none⟩,
 ⟨some 47, (.call (.f 89) [(.t 46)]), none⟩,
 ⟨some 48, (.call (.f 34) [(.t 45), (.t 47)]), none⟩,
 ⟨some 44, (.mv (.t 48)), none⟩,
 ⟨some 49, (.ext (.t 44) 0), none⟩,
 ⟨some 50, (.ext (.t 44) 1), none⟩,
 ⟨none, (.store 2 (.t 10) (.t 49)), none⟩,
 ⟨some 12, (.mv (.t 50)), none⟩]
 [(0, 1), (0, 2), (5, 6), (6, 7)] [11, 42, 44, 45, 46, 47, 48, 49, 50])
 (.seq
 (.ops [⟨some 51, (.mv (.t 12)), none⟩,
 ⟨some 52, (.bin .neq (.t 51) (.c (.int .i64 (0)))), none⟩]
 [] [51])
 (.cond (.t 52)
 (.seq
 (.ops [⟨some 53, (.mv (.t 12)), none⟩,
 ⟨some 6, (.mv (.t 53)), none⟩]
 [] [2, 3, 4, 8, 9, 10, 12, 14, 15, 16, 52, 53])
 .ret)
 .skip)))))
 .skip))
 (.seq
 (.seq
 (.ops [⟨some 54, (.mv (.t 2)), none⟩,
 ⟨some 55, (.load true 2 (.t 4)), none⟩,
 ⟨some 56, (.load true 2 (.t 9)), none⟩,
 ⟨some 57, (.load true 2 (.t 10)), none⟩,
 ⟨some 58, (.mv (.t 8)), none⟩,
 ⟨some 59, (.call (.t 54) [(.t 55), (.t 56), (.t 57), (.t 58)]), none⟩]
 [] [8, 10, 12, 34, 52, 54, 55, 56, 57, 58])
 (.cond (.t 59)
 (.seq
 (.ops [⟨some 6, (.mv (.c (.int .i64 (0)))), none⟩]
 [] [2, 3, 4, 9, 14, 15, 16, 59])
 .ret)
 .skip))
 (.ops [⟨some 60, (.load true 2 (.t 9)), none⟩,
 ⟨none, (.store 2 (.t 4) (.t 60)), none⟩]
 [] [9, 59, 60]))))))))
 (.ops [⟨some 61, (.bin .add (.t 16) (.c (.int .i64 (1)))), none⟩,
 ⟨some 16, (.mv (.t 61)), none⟩]
 [] [8, 9, 31, 61])))))))
 (.seq
 (.ops [⟨some 6, (.mv (.c (.int .i64 (0)))), none⟩]
 [] [2, 3, 4, 14, 15, 16, 17])
 .ret)))⟩
def loc90 : List Nat := [3, 4, 9, 10, 11]
def fg90 : List (Nat × List Nat) := [(18, [2, 3, 4, 14, 15, 16, 17]), (17, [8, 9, 31, 61]), (16, [9, 59, 60]), (15, [2, 3, 4, 9, 14, 15, 16, 59]), (14, [8, 10, 12, 34, 52, 54, 55, 56, 57, 58]), (13, [2, 3, 4, 8, 9, 10, 12, 14, 15, 16, 52, 53]), (12, [51]), (11, [11, 42, 44, 45, 46, 47, 48, 49, 50]), (10, [2, 3, 4, 8, 9, 10, 11, 12, 14, 15, 16, 42, 43]), (9, [41]), (8, [34, 35, 36, 37, 38, 39, 40]), (7, [33]), (6, [31, 32]), (5, [28, 29, 30]), (4, [7, 21, 22, 23, 24, 25, 26, 27]), (3, [17, 18, 19, 20]), (1, [13]), (0, [0, 1, 6])]
theorem comp90 : compFn Try.prog loc90 (fun i => (fg90.lookup i).getD []) Try.f90 = some lit90 := by kernel_rfl

-- parcener/cake.Mark$1
def lit91 : AFn := ⟨7, [.tmp 11],
 (.seq
 (.ops [⟨some 7, (.boxL (.t 0)), none⟩,
 ⟨some 8, (.boxL (.t 1)), none⟩,
 ⟨some 9, (.boxL (.t 2)), none⟩,
 ⟨some 11, (.mv (.c (.bool false))), none⟩]
 [] [0, 1, 2, 8, 11])
 (.seq
 (.seq
 (.ops [⟨some 16, (.mv (.t 3)), none⟩,
 ⟨some 17, (.bin .eql (.t 16) (.c (.int .i64 (0)))), none⟩]
 [] [16])
 (.cond (.t 17)
 (.seq
 (.ops [⟨some 11, (.mv (.c (.bool false))), none⟩]
 [] [3, 4, 5, 6, 7, 9, 17])
 .ret)
 .skip))
 (.seq
 (.seq
 (.ops [⟨some 18, (.load true 2 (.t 9)), none⟩,
 ⟨some 19, (.load true 2 (.t 4)), none⟩,
 ⟨some 20, (.call (.f 88) [(.t 18), (.t 19)]), none⟩]
 [] [17, 18, 19])
 (.cond (.t 20)
 (.seq
 (.ops [⟨some 22, (.load true 2 (.t 4)), none⟩,
 ⟨some 23, (.load true 2 (.t 9)), none⟩,
 ⟨some 24, (.call (.f 27) [(.t 22), (.t 23)]), none⟩,
 ⟨some 21, (.mv (.t 24)), none⟩,
 ⟨some 25, (.ext (.t 21) 0), none⟩,
 ⟨some 26, (.ext (.t 21) 1), none⟩,
 ⟨some 12, (.allocL (.agg [(.int .i64 (0)), (.int .i64 (0))])), none⟩,
 ⟨none, (.store 2 (.t 12) (.t 25)), none⟩,
 ⟨some 13, (.mv (.t 26)), none⟩]
 [] [3, 6, 7, 9, 20, 21, 22, 23, 24, 25, 26])
 (.seq
 (.ops [⟨some 27, (.load true 2 (.t 12)), none⟩,
 ⟨none, (.store 2 (.t 4) (.t 27)), none⟩,
 ⟨none, (.store 1 (.t 5) (.c (.int .i64 (6)))), none⟩]
 [] [4, 12, 27])
 (.seq
 (.seq
 (.ops [⟨some 28, (.mv (.t 13)), none⟩,
 ⟨some 29, (.bin .neq (.t 28) (.c (.int .i64 (0)))), none⟩]
 [] [28])
 (.cond (.t 29)
 (.ops [⟨some 30, (.mv (.t 13)), none⟩,
 ⟨none, (.store 1 (.t 5) (.t 30)), none⟩]
 [] [5, 29, 30])
 .skip))
 (.seq
 (.ops [⟨some 31, (.mv (.t 13)), none⟩,
 ⟨some 32, (.bin .neq (.t 31) (.c (.int .i64 (0)))), none⟩,
 ⟨some 11, (.mv (.t 32)), none⟩]
 [] [5, 13, 29, 31, 32])
 .ret))))
 .skip))
 (.seq
 (.ops [⟨some 34, (.load true 2 (.t 4)), none⟩,
 ⟨some 35, (.mv (.t 3)), none⟩,
 ⟨some 36, (.call (.f 89) [(.t 35)]), none⟩,
 ⟨some 37, (.call (.f 92) [(.t 34), (.t 36)]), none⟩,
 ⟨some 33, (.mv (.t 37)), none⟩,
 ⟨some 38, (.ext (.t 33) 0), none⟩,
 ⟨some 39, (.ext (.t 33) 1), none⟩,
 ⟨some 14, (.allocL (.agg [(.int .i64 (0)), (.int .i64 (0))])), none⟩,
 ⟨none, (.store 2 (.t 14) (.t 38)), none⟩,
 ⟨some 15, (.mv (.t 39)), none⟩]
 [(0, 1), (0, 2), (5, 6), (0, 7), (1, 7), (2, 7), (3, 7), (4, 7), (5, 7), (6, 7), (6, 8)] [3, 4, 9, 20, 33, 34, 35, 36, 37, 38, 39])
 (.seq
 (.seq
 (.ops [⟨some 40, (.mv (.t 15)), none⟩,
 ⟨some 41, (.bin .eql (.t 40) (.c (.int .i64 (0)))), none⟩]
 [] [40])
 (.cond (.t 41)
 (.ops [⟨some 43, (.load true 2 (.t 7)), none⟩,
 ⟨some 44, (.load true 2 (.t 14)), none⟩,
 ⟨some 45, (.call (.f 39) [(.t 43), (.t 44)]), none⟩,
 ⟨some 42, (.mv (.t 45)), none⟩,
 ⟨some 46, (.ext (.t 42) 0), none⟩,
 ⟨some 47, (.ext (.t 42) 1), none⟩,
 ⟨none, (.store 2 (.t 6) (.t 46)), none⟩,
 ⟨some 15, (.mv (.t 47)), none⟩]
 [] [6, 7, 14, 41, 42, 43, 44, 45, 46, 47])
 .skip))
 (.seq
 (.ops [⟨some 48, (.mv (.t 15)), none⟩,
 ⟨none, (.store 1 (.t 5) (.t 48)), none⟩]
 [] [5, 6, 7, 14, 15, 41, 48])
 (.seq
 (.ops [⟨some 11, (.mv (.c (.bool true))), none⟩]
 [] [])
 .ret)))))))⟩
def loc91 : List Nat := [7, 8, 9, 12, 14]
def fg91 : List (Nat × List Nat) := [(12, [5, 6, 7, 14, 15, 41, 48]), (11, [6, 7, 14, 41, 42, 43, 44, 45, 46, 47]), (10, [40]), (9, [3, 4, 9, 20, 33, 34, 35, 36, 37, 38, 39]), (8, [5, 13, 29, 31, 32]), (7, [5, 29, 30]), (6, [28]), (5, [4, 12, 27]), (4, [3, 6, 7, 9, 20, 21, 22, 23, 24, 25, 26]), (3, [17, 18, 19]), (2, [3, 4, 5, 6, 7, 9, 17]), (1, [16]), (0, [0, 1, 2, 8, 11])]
theorem comp91 : compFn Try.prog loc91 (fun i => (fg91.lookup i).getD []) Try.f91 = some lit91 := by kernel_rfl

-- parcener/ratio.Div
def lit92 : AFn := ⟨2, [.cell 4 true 2, .tmp 5],
 (.seq
 (.ops [⟨some 2, (.boxL (.t 0)), none⟩,
 ⟨some 3, (.boxL (.t 1)), none⟩,
 ⟨some 4, (.allocL (.agg [(.int .i64 (0)), (.int .i64 (0))])), none⟩,
 ⟨some 5, (.mv (.c (.int .i64 (0)))), none⟩]
 [] [0, 1, 5])
 (.seq
 (.seq
 (.ops [⟨some 7, (.load true 2 (.t 2)), none⟩,
 ⟨some 8, (.load true 2 (.t 3)), none⟩,
 ⟨some 9, (.call (.f 38) [(.t 7), (.t 8)]), none⟩,
 ⟨some 6, (.mv (.t 9)), none⟩]
 [] [7, 8, 9])
 (.seq
 (.ops [⟨some 10, (.mv (.t 6)), none⟩,
 ⟨some 11, (.bin .neq (.t 10) (.c (.int .i64 (0)))), none⟩]
 [] [10])
 (.cond (.t 11)
 (.seq
 (.ops [⟨some 12, (.build [(.int .i64 (0)), (.int .i64 (0))] []), none⟩,
 ⟨some 13, (.mv (.t 6)), none⟩,
 ⟨none, (.store 2 (.t 4) (.t 12)), none⟩,
 ⟨some 5, (.mv (.t 13)), none⟩]
 [] [2, 3, 6, 11, 12, 13])
 .ret)
 .skip)))
 (.seq
 (.block 0
 (.seq
 (.ops [⟨some 15, (.fad 0 (.t 3)), none⟩,
 ⟨some 16, (.load false 1 (.t 15)), none⟩,
 ⟨some 17, (.bin .eql (.t 16) (.c (.int .i64 (0)))), none⟩,
 ⟨some 14, (.mv (.t 17)), none⟩]
 [] [6, 11, 15, 16, 17])
 (.cond (.t 14)
 (.seq
 (.ops [⟨some 18, (.build [(.int .i64 (0)), (.int .i64 (0))] []), none⟩,
 ⟨none, (.store 2 (.t 4) (.t 18)), none⟩,
 ⟨some 5, (.mv (.c (.int .i64 (18)))), none⟩]
 [] [2, 3, 14, 18])
 .ret)
 (.seq
 (.ops [⟨some 20, (.fad 0 (.t 3)), none⟩,
 ⟨some 21, (.load false 1 (.t 20)), none⟩,
 ⟨some 22, (.bin .lss (.t 21) (.c (.int .i64 (0)))), none⟩,
 ⟨some 19, (.mv (.t 22)), none⟩]
 [] [14, 20, 21, 22])
 (.cond (.t 19)
 (.seq
 (.ops [⟨some 23, (.load true 2 (.t 2)), none⟩,
 ⟨some 24, (.fad 1 (.t 3)), none⟩,
 ⟨some 25, (.load false 1 (.t 24)), none⟩,
 ⟨some 26, (.un .neg (.t 25)), none⟩,
 ⟨some 27, (.fad 0 (.t 3)), none⟩,
 ⟨some 28, (.load false 1 (.t 27)), none⟩,
 ⟨some 29, (.un .neg (.t 28)), none⟩,
 ⟨some 30, (.build [(.int .i64 (0)), (.int .i64 (0))] [(0, 1, (.t 26)), (1, 1, (.t 29))]), none⟩,
 ⟨some 31, (.call (.f 34) [(.t 23), (.t 30)]), none⟩,
 ⟨some 32, (.ext (.t 31) 0), none⟩,
 ⟨some 33, (.ext (.t 31) 1), none⟩,
 ⟨none, (.store 2 (.t 4) (.t 32)), none⟩,
 ⟨some 5, (.mv (.t 33)), none⟩]
 [] [2, 3, 19, 23, 24, 25, 26, 27, 28, 29, 30, 31, 32, 33])
 .ret)
 .skip)))))
 (.seq
 (.ops [⟨some 34, (.load true 2 (.t 2)), none⟩,
 ⟨some 35, (.fad 1 (.t 3)), none⟩,
 ⟨some 36, (.load false 1 (.t 35)), none⟩,
 ⟨some 37, (.fad 0 (.t 3)), none⟩,
 ⟨some 38, (.load false 1 (.t 37)), none⟩,
 ⟨some 39, (.build [(.int .i64 (0)), (.int .i64 (0))] [(0, 1, (.t 36)), (1, 1, (.t 38))]), none⟩,
 ⟨some 40, (.call (.f 34) [(.t 34), (.t 39)]), none⟩,
 ⟨some 41, (.ext (.t 40) 0), none⟩,
 ⟨some 42, (.ext (.t 40) 1), none⟩,
 ⟨none, (.store 2 (.t 4) (.t 41)), none⟩,
 ⟨some 5, (.mv (.t 42)), none⟩]
 [] [2, 3, 19, 34, 35, 36, 37, 38, 39, 40, 41, 42])
 .ret))))⟩
def loc92 : List Nat := [2, 3, 4]
def fg92 : List (Nat × List Nat) := [(8, [2, 3, 19, 34, 35, 36, 37, 38, 39, 40, 41, 42]), (7, [2, 3, 19, 23, 24, 25, 26, 27, 28, 29, 30, 31, 32, 33]), (6, [14, 20, 21, 22]), (5, [2, 3, 14, 18]), (4, [6, 11, 15, 16, 17]), (3, [2, 3, 6, 11, 12, 13]), (2, [10]), (1, [7, 8, 9]), (0, [0, 1, 5])]
theorem comp92 : compFn Try.prog loc92 (fun i => (fg92.lookup i).getD []) Try.f92 = some lit92 := by kernel_rfl

def tab1 : List (Nat × AFn) := [(45, lit45), (46, lit46), (47, lit47), (48, lit48), (49, lit49), (50, lit50), (51, lit51), (52, lit52), (53, lit53), (54, lit54), (55, lit55), (56, lit56), (57, lit57), (58, lit58), (59, lit59), (62, lit62), (63, lit63), (65, lit65), (66, lit66), (67, lit67), (68, lit68), (69, lit69), (70, lit70), (71, lit71), (74, lit74), (75, lit75), (76, lit76), (85, lit85), (86, lit86), (87, lit87), (88, lit88), (89, lit89), (90, lit90), (91, lit91), (92, lit92)]
theorem tabOk1 : AllOk Try.prog tab1 := ⟨⟨_, _, _, Try.func45, comp45⟩, ⟨_, _, _, Try.func46, comp46⟩, ⟨_, _, _, Try.func47, comp47⟩, ⟨_, _, _, Try.func48, comp48⟩, ⟨_, _, _, Try.func49, comp49⟩, ⟨_, _, _, Try.func50, comp50⟩, ⟨_, _, _, Try.func51, comp51⟩, ⟨_, _, _, Try.func52, comp52⟩, ⟨_, _, _, Try.func53, comp53⟩, ⟨_, _, _, Try.func54, comp54⟩, ⟨_, _, _, Try.func55, comp55⟩, ⟨_, _, _, Try.func56, comp56⟩, ⟨_, _, _, Try.func57, comp57⟩, ⟨_, _, _, Try.func58, comp58⟩, ⟨_, _, _, Try.func59, comp59⟩, ⟨_, _, _, Try.func62, comp62⟩, ⟨_, _, _, Try.func63, comp63⟩, ⟨_, _, _, Try.func65, comp65⟩, ⟨_, _, _, Try.func66, comp66⟩, ⟨_, _, _, Try.func67, comp67⟩, ⟨_, _, _, Try.func68, comp68⟩, ⟨_, _, _, Try.func69, comp69⟩, ⟨_, _, _, Try.func70, comp70⟩, ⟨_, _, _, Try.func71, comp71⟩, ⟨_, _, _, Try.func74, comp74⟩, ⟨_, _, _, Try.func75, comp75⟩, ⟨_, _, _, Try.func76, comp76⟩, ⟨_, _, _, Try.func85, comp85⟩, ⟨_, _, _, Try.func86, comp86⟩, ⟨_, _, _, Try.func87, comp87⟩, ⟨_, _, _, Try.func88, comp88⟩, ⟨_, _, _, Try.func89, comp89⟩, ⟨_, _, _, Try.func90, comp90⟩, ⟨_, _, _, Try.func91, comp91⟩, ⟨_, _, _, Try.func92, comp92⟩, trivial⟩
end Go.Proofs.Ythlajkcfbpfmdaa.Tz
