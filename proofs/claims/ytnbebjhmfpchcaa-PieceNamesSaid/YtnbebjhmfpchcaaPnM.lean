/- The calls that the statement PieceNames makes, answered by the evaluator, one table behind the other. -/
import Derived.Test.YtnbebjhmfpchcaaPnL0
import Derived.Test.YtnbebjhmfpchcaaPnL1
namespace Go.Proofs.Ytnbebjhmfpchcaa.Pn
open Go Go.Pf
def tab : List (Nat × AFn) := tab0 ++ (tab1)
theorem tabOk : AllOk Try.prog tab := lookF_app _ _ tabOk0 (tabOk1)
def E0 : Env := baseE 81 82 tab [7, 10, 12, 14, 16, 18, 19, 22, 25, 26, 27, 28, 29, 30, 37, 38, 39, 42, 43, 44, 45, 46, 51, 55, 58, 59, 60, 61, 65, 69, 70, 71, 75, 76, 77, 78, 79, 80, 83, 84, 85, 88, 91, 92, 93, 94, 105, 107, 108]
theorem hm : Try.prog.follows .mixedOrders = true := by kernel_rfl
theorem isAdd : IsExtern Try.prog 81 add64Entry := ⟨_, Try.func81, by kernel_rfl, by kernel_rfl, by kernel_rfl, by kernel_rfl⟩
theorem isSub : IsExtern Try.prog 82 sub64E := ⟨_, Try.func82, by kernel_rfl, by kernel_rfl, by kernel_rfl, by kernel_rfl⟩
theorem k0 : EnvOk Try.prog E0 := base_ok isAdd isSub tabOk
def t0 : Tab := [(69, [(.agg [(.int .i64 (0)), (.int .i64 (1))]), (.agg [(.int .i64 (4)), (.int .i64 (1))])], (.tup [(.int .i64 (-1)), (.int .i64 (0))])),
 (69, [(.agg [(.int .i64 (6)), (.int .i64 (1))]), (.agg [(.int .i64 (8)), (.int .i64 (1))])], (.tup [(.int .i64 (-1)), (.int .i64 (0))])),
 (69, [(.agg [(.int .i64 (4)), (.int .i64 (1))]), (.agg [(.int .i64 (6)), (.int .i64 (1))])], (.tup [(.int .i64 (-1)), (.int .i64 (0))])),
 (69, [(.agg [(.int .i64 (1)), (.int .i64 (1))]), (.agg [(.int .i64 (2)), (.int .i64 (1))])], (.tup [(.int .i64 (-1)), (.int .i64 (0))])),
 (69, [(.agg [(.int .i64 (4)), (.int .i64 (1))]), (.agg [(.int .i64 (7)), (.int .i64 (1))])], (.tup [(.int .i64 (-1)), (.int .i64 (0))])),
 (69, [(.agg [(.int .i64 (2)), (.int .i64 (1))]), (.agg [(.int .i64 (4)), (.int .i64 (1))])], (.tup [(.int .i64 (-1)), (.int .i64 (0))]))]
def E1 : Env := E0.plus t0
def t1 : Tab := [(37, [(.data [(.agg [(.int .i64 (0)), (.int .i64 (1)), (.int .i64 (4)), (.int .i64 (1))]), (.agg [(.int .i64 (6)), (.int .i64 (1)), (.int .i64 (8)), (.int .i64 (1))])]), (.data [(.agg [(.int .i64 (1)), (.int .i64 (1)), (.int .i64 (2)), (.int .i64 (1))]), (.agg [(.int .i64 (4)), (.int .i64 (1)), (.int .i64 (7)), (.int .i64 (1))])])], (.int .i64 (0))),
 (69, [(.agg [(.int .i64 (6)), (.int .i64 (1))]), (.agg [(.int .i64 (0)), (.int .i64 (1))])], (.tup [(.int .i64 (1)), (.int .i64 (0))])),
 (69, [(.agg [(.int .i64 (1)), (.int .i64 (1))]), (.agg [(.int .i64 (6)), (.int .i64 (1))])], (.tup [(.int .i64 (-1)), (.int .i64 (0))])),
 (69, [(.agg [(.int .i64 (1)), (.int .i64 (1))]), (.agg [(.int .i64 (0)), (.int .i64 (1))])], (.tup [(.int .i64 (1)), (.int .i64 (0))])),
 (69, [(.agg [(.int .i64 (4)), (.int .i64 (1))]), (.agg [(.int .i64 (1)), (.int .i64 (1))])], (.tup [(.int .i64 (1)), (.int .i64 (0))])),
 (69, [(.agg [(.int .i64 (1)), (.int .i64 (1))]), (.agg [(.int .i64 (4)), (.int .i64 (1))])], (.tup [(.int .i64 (-1)), (.int .i64 (0))]))]
def E2 : Env := E1.plus t1
def t2 : Tab := [(69, [(.agg [(.int .i64 (4)), (.int .i64 (1))]), (.agg [(.int .i64 (4)), (.int .i64 (1))])], (.tup [(.int .i64 (0)), (.int .i64 (0))])),
 (69, [(.agg [(.int .i64 (7)), (.int .i64 (1))]), (.agg [(.int .i64 (4)), (.int .i64 (1))])], (.tup [(.int .i64 (1)), (.int .i64 (0))])),
 (69, [(.agg [(.int .i64 (6)), (.int .i64 (1))]), (.agg [(.int .i64 (7)), (.int .i64 (1))])], (.tup [(.int .i64 (-1)), (.int .i64 (0))])),
 (69, [(.agg [(.int .i64 (8)), (.int .i64 (1))]), (.agg [(.int .i64 (7)), (.int .i64 (1))])], (.tup [(.int .i64 (1)), (.int .i64 (0))])),
 (39, [(.data [(.agg [(.int .i64 (0)), (.int .i64 (1)), (.int .i64 (4)), (.int .i64 (1))]), (.agg [(.int .i64 (6)), (.int .i64 (1)), (.int .i64 (8)), (.int .i64 (1))]), (.agg [(.int .i64 (1)), (.int .i64 (1)), (.int .i64 (2)), (.int .i64 (1))]), (.agg [(.int .i64 (4)), (.int .i64 (1)), (.int .i64 (7)), (.int .i64 (1))])])], (.data [(.agg [(.int .i64 (0)), (.int .i64 (1)), (.int .i64 (8)), (.int .i64 (1))])]))]
def E3 : Env := E2.plus t2
def t3 : Tab := [(69, [(.agg [(.int .i64 (0)), (.int .i64 (1))]), (.agg [(.int .i64 (1)), (.int .i64 (1))])], (.tup [(.int .i64 (-1)), (.int .i64 (0))])),
 (69, [(.agg [(.int .i64 (4)), (.int .i64 (1))]), (.agg [(.int .i64 (2)), (.int .i64 (1))])], (.tup [(.int .i64 (1)), (.int .i64 (0))])),
 (69, [(.agg [(.int .i64 (6)), (.int .i64 (1))]), (.agg [(.int .i64 (4)), (.int .i64 (1))])], (.tup [(.int .i64 (1)), (.int .i64 (0))])),
 (12, [(.data [(.agg [(.int .i64 (0)), (.int .i64 (1)), (.int .i64 (4)), (.int .i64 (1))]), (.agg [(.int .i64 (6)), (.int .i64 (1)), (.int .i64 (8)), (.int .i64 (1))])]), (.data [(.agg [(.int .i64 (1)), (.int .i64 (1)), (.int .i64 (2)), (.int .i64 (1))]), (.agg [(.int .i64 (4)), (.int .i64 (1)), (.int .i64 (7)), (.int .i64 (1))])])], (.tup [(.data [(.agg [(.int .i64 (1)), (.int .i64 (1)), (.int .i64 (2)), (.int .i64 (1))]), (.agg [(.int .i64 (6)), (.int .i64 (1)), (.int .i64 (7)), (.int .i64 (1))])]), (.int .i64 (0))])),
 (69, [(.agg [(.int .i64 (2)), (.int .i64 (1))]), (.agg [(.int .i64 (0)), (.int .i64 (1))])], (.tup [(.int .i64 (1)), (.int .i64 (0))])),
 (69, [(.agg [(.int .i64 (7)), (.int .i64 (1))]), (.agg [(.int .i64 (2)), (.int .i64 (1))])], (.tup [(.int .i64 (1)), (.int .i64 (0))]))]
def E4 : Env := E3.plus t3
def t4 : Tab := [(69, [(.agg [(.int .i64 (2)), (.int .i64 (1))]), (.agg [(.int .i64 (6)), (.int .i64 (1))])], (.tup [(.int .i64 (-1)), (.int .i64 (0))])),
 (69, [(.agg [(.int .i64 (7)), (.int .i64 (1))]), (.agg [(.int .i64 (6)), (.int .i64 (1))])], (.tup [(.int .i64 (1)), (.int .i64 (0))])),
 (69, [(.agg [(.int .i64 (4)), (.int .i64 (1))]), (.agg [(.int .i64 (8)), (.int .i64 (1))])], (.tup [(.int .i64 (-1)), (.int .i64 (0))])),
 (69, [(.agg [(.int .i64 (7)), (.int .i64 (1))]), (.agg [(.int .i64 (8)), (.int .i64 (1))])], (.tup [(.int .i64 (-1)), (.int .i64 (0))])),
 (14, [(.data [(.agg [(.int .i64 (0)), (.int .i64 (1)), (.int .i64 (4)), (.int .i64 (1))]), (.agg [(.int .i64 (6)), (.int .i64 (1)), (.int .i64 (8)), (.int .i64 (1))])]), (.data [(.agg [(.int .i64 (1)), (.int .i64 (1)), (.int .i64 (2)), (.int .i64 (1))]), (.agg [(.int .i64 (4)), (.int .i64 (1)), (.int .i64 (7)), (.int .i64 (1))])])], (.tup [(.data [(.agg [(.int .i64 (0)), (.int .i64 (1)), (.int .i64 (1)), (.int .i64 (1))]), (.agg [(.int .i64 (2)), (.int .i64 (1)), (.int .i64 (4)), (.int .i64 (1))]), (.agg [(.int .i64 (7)), (.int .i64 (1)), (.int .i64 (8)), (.int .i64 (1))])]), (.int .i64 (0))])),
 (37, [(.data [(.agg [(.int .i64 (1)), (.int .i64 (1)), (.int .i64 (2)), (.int .i64 (1))]), (.agg [(.int .i64 (4)), (.int .i64 (1)), (.int .i64 (7)), (.int .i64 (1))])]), (.data [(.agg [(.int .i64 (0)), (.int .i64 (1)), (.int .i64 (4)), (.int .i64 (1))]), (.agg [(.int .i64 (6)), (.int .i64 (1)), (.int .i64 (8)), (.int .i64 (1))])])], (.int .i64 (0)))]
def E5 : Env := E4.plus t4
def t5 : Tab := [(69, [(.agg [(.int .i64 (0)), (.int .i64 (1))]), (.agg [(.int .i64 (2)), (.int .i64 (1))])], (.tup [(.int .i64 (-1)), (.int .i64 (0))])),
 (69, [(.agg [(.int .i64 (8)), (.int .i64 (1))]), (.agg [(.int .i64 (4)), (.int .i64 (1))])], (.tup [(.int .i64 (1)), (.int .i64 (0))])),
 (69, [(.agg [(.int .i64 (6)), (.int .i64 (1))]), (.agg [(.int .i64 (2)), (.int .i64 (1))])], (.tup [(.int .i64 (1)), (.int .i64 (0))])),
 (14, [(.data [(.agg [(.int .i64 (1)), (.int .i64 (1)), (.int .i64 (2)), (.int .i64 (1))]), (.agg [(.int .i64 (4)), (.int .i64 (1)), (.int .i64 (7)), (.int .i64 (1))])]), (.data [(.agg [(.int .i64 (0)), (.int .i64 (1)), (.int .i64 (4)), (.int .i64 (1))]), (.agg [(.int .i64 (6)), (.int .i64 (1)), (.int .i64 (8)), (.int .i64 (1))])])], (.tup [(.data [(.agg [(.int .i64 (4)), (.int .i64 (1)), (.int .i64 (6)), (.int .i64 (1))])]), (.int .i64 (0))])),
 (12, [(.data [(.agg [(.int .i64 (0)), (.int .i64 (1)), (.int .i64 (4)), (.int .i64 (1))]), (.agg [(.int .i64 (6)), (.int .i64 (1)), (.int .i64 (8)), (.int .i64 (1))])]), (.data [])], (.tup [(.data []), (.int .i64 (0))])),
 (55, [(.agg [(.int .i64 (8)), (.data [(.int .i64 (0)), (.int .i64 (3)), (.int .i64 (8))]), (.data [(.int .i64 (2)), (.int .i64 (1))])])], (.int .i64 (0))),
 (69, [(.agg [(.int .i64 (8)), (.int .i64 (1))]), (.agg [(.int .i64 (8)), (.int .i64 (1))])], (.tup [(.int .i64 (0)), (.int .i64 (0))]))]
def E6 : Env := E5.plus t5
def t6 : Tab := [(69, [(.agg [(.int .i64 (8)), (.int .i64 (1))]), (.agg [(.int .i64 (0)), (.int .i64 (1))])], (.tup [(.int .i64 (1)), (.int .i64 (0))])),
 (69, [(.agg [(.int .i64 (4)), (.int .i64 (1))]), (.agg [(.int .i64 (0)), (.int .i64 (1))])], (.tup [(.int .i64 (1)), (.int .i64 (0))])),
 (69, [(.agg [(.int .i64 (4)), (.int .i64 (1))]), (.agg [(.int .i64 (3)), (.int .i64 (1))])], (.tup [(.int .i64 (1)), (.int .i64 (0))])),
 (69, [(.agg [(.int .i64 (0)), (.int .i64 (1))]), (.agg [(.int .i64 (3)), (.int .i64 (1))])], (.tup [(.int .i64 (-1)), (.int .i64 (0))])),
 (61, [(.agg [(.int .i64 (3)), (.int .i64 (1))]), (.agg [(.int .i64 (0)), (.int .i64 (1))])], (.tup [(.agg [(.int .i64 (3)), (.int .i64 (1))]), (.int .i64 (0))])),
 (60, [(.agg [(.int .i64 (3)), (.int .i64 (1))]), (.agg [(.int .i64 (0)), (.int .i64 (1))])], (.tup [(.agg [(.int .i64 (3)), (.int .i64 (1))]), (.int .i64 (0))]))]
def E7 : Env := E6.plus t6
def t7 : Tab := [(78, [(.agg [(.int .i64 (3)), (.int .i64 (1))]), (.agg [(.int .i64 (2)), (.int .i64 (1))])], (.tup [(.agg [(.int .i64 (6)), (.int .i64 (1))]), (.int .i64 (0))])),
 (61, [(.agg [(.int .i64 (0)), (.int .i64 (1))]), (.agg [(.int .i64 (6)), (.int .i64 (1))])], (.tup [(.agg [(.int .i64 (6)), (.int .i64 (1))]), (.int .i64 (0))])),
 (69, [(.agg [(.int .i64 (3)), (.int .i64 (1))]), (.agg [(.int .i64 (4)), (.int .i64 (1))])], (.tup [(.int .i64 (-1)), (.int .i64 (0))])),
 (61, [(.agg [(.int .i64 (4)), (.int .i64 (1))]), (.agg [(.int .i64 (-3)), (.int .i64 (1))])], (.tup [(.agg [(.int .i64 (1)), (.int .i64 (1))]), (.int .i64 (0))])),
 (60, [(.agg [(.int .i64 (4)), (.int .i64 (1))]), (.agg [(.int .i64 (3)), (.int .i64 (1))])], (.tup [(.agg [(.int .i64 (1)), (.int .i64 (1))]), (.int .i64 (0))])),
 (78, [(.agg [(.int .i64 (1)), (.int .i64 (1))]), (.agg [(.int .i64 (1)), (.int .i64 (1))])], (.tup [(.agg [(.int .i64 (1)), (.int .i64 (1))]), (.int .i64 (0))]))]
def E8 : Env := E7.plus t7
def t8 : Tab := [(61, [(.agg [(.int .i64 (6)), (.int .i64 (1))]), (.agg [(.int .i64 (1)), (.int .i64 (1))])], (.tup [(.agg [(.int .i64 (7)), (.int .i64 (1))]), (.int .i64 (0))])),
 (58, [(.agg [(.int .i64 (8)), (.data [(.int .i64 (0)), (.int .i64 (3)), (.int .i64 (8))]), (.data [(.int .i64 (2)), (.int .i64 (1))])]), (.agg [(.int .i64 (0)), (.int .i64 (1))]), (.agg [(.int .i64 (4)), (.int .i64 (1))])], (.tup [(.agg [(.int .i64 (7)), (.int .i64 (1))]), (.int .i64 (0))])),
 (61, [(.agg [(.int .i64 (0)), (.int .i64 (1))]), (.agg [(.int .i64 (7)), (.int .i64 (1))])], (.tup [(.agg [(.int .i64 (7)), (.int .i64 (1))]), (.int .i64 (0))])),
 (69, [(.agg [(.int .i64 (8)), (.int .i64 (1))]), (.agg [(.int .i64 (6)), (.int .i64 (1))])], (.tup [(.int .i64 (1)), (.int .i64 (0))])),
 (69, [(.agg [(.int .i64 (8)), (.int .i64 (1))]), (.agg [(.int .i64 (3)), (.int .i64 (1))])], (.tup [(.int .i64 (1)), (.int .i64 (0))]))]
def E9 : Env := E8.plus t8
def t9 : Tab := [(69, [(.agg [(.int .i64 (6)), (.int .i64 (1))]), (.agg [(.int .i64 (3)), (.int .i64 (1))])], (.tup [(.int .i64 (1)), (.int .i64 (0))])),
 (61, [(.agg [(.int .i64 (8)), (.int .i64 (1))]), (.agg [(.int .i64 (-6)), (.int .i64 (1))])], (.tup [(.agg [(.int .i64 (2)), (.int .i64 (1))]), (.int .i64 (0))])),
 (60, [(.agg [(.int .i64 (8)), (.int .i64 (1))]), (.agg [(.int .i64 (6)), (.int .i64 (1))])], (.tup [(.agg [(.int .i64 (2)), (.int .i64 (1))]), (.int .i64 (0))])),
 (78, [(.agg [(.int .i64 (2)), (.int .i64 (1))]), (.agg [(.int .i64 (1)), (.int .i64 (1))])], (.tup [(.agg [(.int .i64 (2)), (.int .i64 (1))]), (.int .i64 (0))])),
 (61, [(.agg [(.int .i64 (0)), (.int .i64 (1))]), (.agg [(.int .i64 (2)), (.int .i64 (1))])], (.tup [(.agg [(.int .i64 (2)), (.int .i64 (1))]), (.int .i64 (0))])),
 (58, [(.agg [(.int .i64 (8)), (.data [(.int .i64 (0)), (.int .i64 (3)), (.int .i64 (8))]), (.data [(.int .i64 (2)), (.int .i64 (1))])]), (.agg [(.int .i64 (6)), (.int .i64 (1))]), (.agg [(.int .i64 (8)), (.int .i64 (1))])], (.tup [(.agg [(.int .i64 (2)), (.int .i64 (1))]), (.int .i64 (0))]))]
def E10 : Env := E9.plus t9
def t10 : Tab := [(61, [(.agg [(.int .i64 (7)), (.int .i64 (1))]), (.agg [(.int .i64 (2)), (.int .i64 (1))])], (.tup [(.agg [(.int .i64 (9)), (.int .i64 (1))]), (.int .i64 (0))])),
 (27, [(.agg [(.int .i64 (8)), (.data [(.int .i64 (0)), (.int .i64 (3)), (.int .i64 (8))]), (.data [(.int .i64 (2)), (.int .i64 (1))])]), (.data [(.agg [(.int .i64 (0)), (.int .i64 (1)), (.int .i64 (4)), (.int .i64 (1))]), (.agg [(.int .i64 (6)), (.int .i64 (1)), (.int .i64 (8)), (.int .i64 (1))])])], (.tup [(.agg [(.int .i64 (9)), (.int .i64 (1))]), (.int .i64 (0))])),
 (69, [(.agg [(.int .i64 (2)), (.int .i64 (1))]), (.agg [(.int .i64 (3)), (.int .i64 (1))])], (.tup [(.int .i64 (-1)), (.int .i64 (0))])),
 (69, [(.agg [(.int .i64 (4)), (.int .i64 (1))]), (.agg [(.int .i64 (5)), (.int .i64 (1))])], (.tup [(.int .i64 (-1)), (.int .i64 (0))])),
 (69, [(.agg [(.int .i64 (8)), (.int .i64 (1))]), (.agg [(.int .i64 (9)), (.int .i64 (1))])], (.tup [(.int .i64 (-1)), (.int .i64 (0))])),
 (69, [(.agg [(.int .i64 (10)), (.int .i64 (1))]), (.agg [(.int .i64 (11)), (.int .i64 (1))])], (.tup [(.int .i64 (-1)), (.int .i64 (0))]))]
def E11 : Env := E10.plus t10
def t11 : Tab := [(69, [(.agg [(.int .i64 (12)), (.int .i64 (1))]), (.agg [(.int .i64 (13)), (.int .i64 (1))])], (.tup [(.int .i64 (-1)), (.int .i64 (0))])),
 (69, [(.agg [(.int .i64 (14)), (.int .i64 (1))]), (.agg [(.int .i64 (15)), (.int .i64 (1))])], (.tup [(.int .i64 (-1)), (.int .i64 (0))])),
 (69, [(.agg [(.int .i64 (16)), (.int .i64 (1))]), (.agg [(.int .i64 (17)), (.int .i64 (1))])], (.tup [(.int .i64 (-1)), (.int .i64 (0))])),
 (69, [(.agg [(.int .i64 (18)), (.int .i64 (1))]), (.agg [(.int .i64 (19)), (.int .i64 (1))])], (.tup [(.int .i64 (-1)), (.int .i64 (0))])),
 (69, [(.agg [(.int .i64 (20)), (.int .i64 (1))]), (.agg [(.int .i64 (21)), (.int .i64 (1))])], (.tup [(.int .i64 (-1)), (.int .i64 (0))])),
 (69, [(.agg [(.int .i64 (22)), (.int .i64 (1))]), (.agg [(.int .i64 (23)), (.int .i64 (1))])], (.tup [(.int .i64 (-1)), (.int .i64 (0))]))]
def E12 : Env := E11.plus t11
def t12 : Tab := [(69, [(.agg [(.int .i64 (24)), (.int .i64 (1))]), (.agg [(.int .i64 (25)), (.int .i64 (1))])], (.tup [(.int .i64 (-1)), (.int .i64 (0))])),
 (69, [(.agg [(.int .i64 (26)), (.int .i64 (1))]), (.agg [(.int .i64 (27)), (.int .i64 (1))])], (.tup [(.int .i64 (-1)), (.int .i64 (0))])),
 (69, [(.agg [(.int .i64 (28)), (.int .i64 (1))]), (.agg [(.int .i64 (29)), (.int .i64 (1))])], (.tup [(.int .i64 (-1)), (.int .i64 (0))])),
 (69, [(.agg [(.int .i64 (30)), (.int .i64 (1))]), (.agg [(.int .i64 (31)), (.int .i64 (1))])], (.tup [(.int .i64 (-1)), (.int .i64 (0))])),
 (69, [(.agg [(.int .i64 (32)), (.int .i64 (1))]), (.agg [(.int .i64 (33)), (.int .i64 (1))])], (.tup [(.int .i64 (-1)), (.int .i64 (0))])),
 (69, [(.agg [(.int .i64 (34)), (.int .i64 (1))]), (.agg [(.int .i64 (35)), (.int .i64 (1))])], (.tup [(.int .i64 (-1)), (.int .i64 (0))]))]
def E13 : Env := E12.plus t12
def t13 : Tab := [(69, [(.agg [(.int .i64 (36)), (.int .i64 (1))]), (.agg [(.int .i64 (37)), (.int .i64 (1))])], (.tup [(.int .i64 (-1)), (.int .i64 (0))])),
 (69, [(.agg [(.int .i64 (38)), (.int .i64 (1))]), (.agg [(.int .i64 (39)), (.int .i64 (1))])], (.tup [(.int .i64 (-1)), (.int .i64 (0))])),
 (69, [(.agg [(.int .i64 (40)), (.int .i64 (1))]), (.agg [(.int .i64 (41)), (.int .i64 (1))])], (.tup [(.int .i64 (-1)), (.int .i64 (0))])),
 (69, [(.agg [(.int .i64 (42)), (.int .i64 (1))]), (.agg [(.int .i64 (43)), (.int .i64 (1))])], (.tup [(.int .i64 (-1)), (.int .i64 (0))])),
 (69, [(.agg [(.int .i64 (44)), (.int .i64 (1))]), (.agg [(.int .i64 (45)), (.int .i64 (1))])], (.tup [(.int .i64 (-1)), (.int .i64 (0))])),
 (69, [(.agg [(.int .i64 (46)), (.int .i64 (1))]), (.agg [(.int .i64 (47)), (.int .i64 (1))])], (.tup [(.int .i64 (-1)), (.int .i64 (0))]))]
def E14 : Env := E13.plus t13
def t14 : Tab := [(69, [(.agg [(.int .i64 (48)), (.int .i64 (1))]), (.agg [(.int .i64 (49)), (.int .i64 (1))])], (.tup [(.int .i64 (-1)), (.int .i64 (0))])),
 (69, [(.agg [(.int .i64 (50)), (.int .i64 (1))]), (.agg [(.int .i64 (51)), (.int .i64 (1))])], (.tup [(.int .i64 (-1)), (.int .i64 (0))])),
 (69, [(.agg [(.int .i64 (52)), (.int .i64 (1))]), (.agg [(.int .i64 (53)), (.int .i64 (1))])], (.tup [(.int .i64 (-1)), (.int .i64 (0))])),
 (69, [(.agg [(.int .i64 (54)), (.int .i64 (1))]), (.agg [(.int .i64 (55)), (.int .i64 (1))])], (.tup [(.int .i64 (-1)), (.int .i64 (0))])),
 (69, [(.agg [(.int .i64 (56)), (.int .i64 (1))]), (.agg [(.int .i64 (57)), (.int .i64 (1))])], (.tup [(.int .i64 (-1)), (.int .i64 (0))])),
 (69, [(.agg [(.int .i64 (58)), (.int .i64 (1))]), (.agg [(.int .i64 (59)), (.int .i64 (1))])], (.tup [(.int .i64 (-1)), (.int .i64 (0))]))]
def E15 : Env := E14.plus t14
def t15 : Tab := [(69, [(.agg [(.int .i64 (60)), (.int .i64 (1))]), (.agg [(.int .i64 (61)), (.int .i64 (1))])], (.tup [(.int .i64 (-1)), (.int .i64 (0))])),
 (69, [(.agg [(.int .i64 (62)), (.int .i64 (1))]), (.agg [(.int .i64 (63)), (.int .i64 (1))])], (.tup [(.int .i64 (-1)), (.int .i64 (0))])),
 (69, [(.agg [(.int .i64 (64)), (.int .i64 (1))]), (.agg [(.int .i64 (65)), (.int .i64 (1))])], (.tup [(.int .i64 (-1)), (.int .i64 (0))])),
 (69, [(.agg [(.int .i64 (66)), (.int .i64 (1))]), (.agg [(.int .i64 (67)), (.int .i64 (1))])], (.tup [(.int .i64 (-1)), (.int .i64 (0))])),
 (69, [(.agg [(.int .i64 (68)), (.int .i64 (1))]), (.agg [(.int .i64 (69)), (.int .i64 (1))])], (.tup [(.int .i64 (-1)), (.int .i64 (0))])),
 (69, [(.agg [(.int .i64 (70)), (.int .i64 (1))]), (.agg [(.int .i64 (71)), (.int .i64 (1))])], (.tup [(.int .i64 (-1)), (.int .i64 (0))]))]
def E16 : Env := E15.plus t15
def t16 : Tab := [(69, [(.agg [(.int .i64 (72)), (.int .i64 (1))]), (.agg [(.int .i64 (73)), (.int .i64 (1))])], (.tup [(.int .i64 (-1)), (.int .i64 (0))])),
 (69, [(.agg [(.int .i64 (74)), (.int .i64 (1))]), (.agg [(.int .i64 (75)), (.int .i64 (1))])], (.tup [(.int .i64 (-1)), (.int .i64 (0))])),
 (69, [(.agg [(.int .i64 (76)), (.int .i64 (1))]), (.agg [(.int .i64 (77)), (.int .i64 (1))])], (.tup [(.int .i64 (-1)), (.int .i64 (0))])),
 (69, [(.agg [(.int .i64 (78)), (.int .i64 (1))]), (.agg [(.int .i64 (79)), (.int .i64 (1))])], (.tup [(.int .i64 (-1)), (.int .i64 (0))])),
 (69, [(.agg [(.int .i64 (80)), (.int .i64 (1))]), (.agg [(.int .i64 (81)), (.int .i64 (1))])], (.tup [(.int .i64 (-1)), (.int .i64 (0))])),
 (69, [(.agg [(.int .i64 (82)), (.int .i64 (1))]), (.agg [(.int .i64 (83)), (.int .i64 (1))])], (.tup [(.int .i64 (-1)), (.int .i64 (0))]))]
def E17 : Env := E16.plus t16
def t17 : Tab := [(69, [(.agg [(.int .i64 (84)), (.int .i64 (1))]), (.agg [(.int .i64 (85)), (.int .i64 (1))])], (.tup [(.int .i64 (-1)), (.int .i64 (0))])),
 (69, [(.agg [(.int .i64 (86)), (.int .i64 (1))]), (.agg [(.int .i64 (87)), (.int .i64 (1))])], (.tup [(.int .i64 (-1)), (.int .i64 (0))])),
 (69, [(.agg [(.int .i64 (88)), (.int .i64 (1))]), (.agg [(.int .i64 (89)), (.int .i64 (1))])], (.tup [(.int .i64 (-1)), (.int .i64 (0))])),
 (69, [(.agg [(.int .i64 (90)), (.int .i64 (1))]), (.agg [(.int .i64 (91)), (.int .i64 (1))])], (.tup [(.int .i64 (-1)), (.int .i64 (0))])),
 (69, [(.agg [(.int .i64 (92)), (.int .i64 (1))]), (.agg [(.int .i64 (93)), (.int .i64 (1))])], (.tup [(.int .i64 (-1)), (.int .i64 (0))])),
 (69, [(.agg [(.int .i64 (94)), (.int .i64 (1))]), (.agg [(.int .i64 (95)), (.int .i64 (1))])], (.tup [(.int .i64 (-1)), (.int .i64 (0))]))]
def E18 : Env := E17.plus t17
def t18 : Tab := [(69, [(.agg [(.int .i64 (96)), (.int .i64 (1))]), (.agg [(.int .i64 (97)), (.int .i64 (1))])], (.tup [(.int .i64 (-1)), (.int .i64 (0))])),
 (69, [(.agg [(.int .i64 (98)), (.int .i64 (1))]), (.agg [(.int .i64 (99)), (.int .i64 (1))])], (.tup [(.int .i64 (-1)), (.int .i64 (0))])),
 (69, [(.agg [(.int .i64 (100)), (.int .i64 (1))]), (.agg [(.int .i64 (101)), (.int .i64 (1))])], (.tup [(.int .i64 (-1)), (.int .i64 (0))])),
 (69, [(.agg [(.int .i64 (102)), (.int .i64 (1))]), (.agg [(.int .i64 (103)), (.int .i64 (1))])], (.tup [(.int .i64 (-1)), (.int .i64 (0))])),
 (69, [(.agg [(.int .i64 (104)), (.int .i64 (1))]), (.agg [(.int .i64 (105)), (.int .i64 (1))])], (.tup [(.int .i64 (-1)), (.int .i64 (0))])),
 (69, [(.agg [(.int .i64 (106)), (.int .i64 (1))]), (.agg [(.int .i64 (107)), (.int .i64 (1))])], (.tup [(.int .i64 (-1)), (.int .i64 (0))]))]
def E19 : Env := E18.plus t18
def t19 : Tab := [(69, [(.agg [(.int .i64 (108)), (.int .i64 (1))]), (.agg [(.int .i64 (109)), (.int .i64 (1))])], (.tup [(.int .i64 (-1)), (.int .i64 (0))])),
 (69, [(.agg [(.int .i64 (110)), (.int .i64 (1))]), (.agg [(.int .i64 (111)), (.int .i64 (1))])], (.tup [(.int .i64 (-1)), (.int .i64 (0))])),
 (69, [(.agg [(.int .i64 (112)), (.int .i64 (1))]), (.agg [(.int .i64 (113)), (.int .i64 (1))])], (.tup [(.int .i64 (-1)), (.int .i64 (0))])),
 (69, [(.agg [(.int .i64 (114)), (.int .i64 (1))]), (.agg [(.int .i64 (115)), (.int .i64 (1))])], (.tup [(.int .i64 (-1)), (.int .i64 (0))])),
 (69, [(.agg [(.int .i64 (116)), (.int .i64 (1))]), (.agg [(.int .i64 (117)), (.int .i64 (1))])], (.tup [(.int .i64 (-1)), (.int .i64 (0))])),
 (69, [(.agg [(.int .i64 (118)), (.int .i64 (1))]), (.agg [(.int .i64 (119)), (.int .i64 (1))])], (.tup [(.int .i64 (-1)), (.int .i64 (0))]))]
def E20 : Env := E19.plus t19
def t20 : Tab := [(46, [(.data [(.agg [(.int .i64 (0)), (.int .i64 (1)), (.int .i64 (1)), (.int .i64 (1))]), (.agg [(.int .i64 (2)), (.int .i64 (1)), (.int .i64 (3)), (.int .i64 (1))]), (.agg [(.int .i64 (4)), (.int .i64 (1)), (.int .i64 (5)), (.int .i64 (1))]), (.agg [(.int .i64 (6)), (.int .i64 (1)), (.int .i64 (7)), (.int .i64 (1))]), (.agg [(.int .i64 (8)), (.int .i64 (1)), (.int .i64 (9)), (.int .i64 (1))]), (.agg [(.int .i64 (10)), (.int .i64 (1)), (.int .i64 (11)), (.int .i64 (1))]), (.agg [(.int .i64 (12)), (.int .i64 (1)), (.int .i64 (13)), (.int .i64 (1))]), (.agg [(.int .i64 (14)), (.int .i64 (1)), (.int .i64 (15)), (.int .i64 (1))]), (.agg [(.int .i64 (16)), (.int .i64 (1)), (.int .i64 (17)), (.int .i64 (1))]), (.agg [(.int .i64 (18)), (.int .i64 (1)), (.int .i64 (19)), (.int .i64 (1))]), (.agg [(.int .i64 (20)), (.int .i64 (1)), (.int .i64 (21)), (.int .i64 (1))]), (.agg [(.int .i64 (22)), (.int .i64 (1)), (.int .i64 (23)), (.int .i64 (1))]), (.agg [(.int .i64 (24)), (.int .i64 (1)), (.int .i64 (25)), (.int .i64 (1))]), (.agg [(.int .i64 (26)), (.int .i64 (1)), (.int .i64 (27)), (.int .i64 (1))]), (.agg [(.int .i64 (28)), (.int .i64 (1)), (.int .i64 (29)), (.int .i64 (1))]), (.agg [(.int .i64 (30)), (.int .i64 (1)), (.int .i64 (31)), (.int .i64 (1))]), (.agg [(.int .i64 (32)), (.int .i64 (1)), (.int .i64 (33)), (.int .i64 (1))]), (.agg [(.int .i64 (34)), (.int .i64 (1)), (.int .i64 (35)), (.int .i64 (1))]), (.agg [(.int .i64 (36)), (.int .i64 (1)), (.int .i64 (37)), (.int .i64 (1))]), (.agg [(.int .i64 (38)), (.int .i64 (1)), (.int .i64 (39)), (.int .i64 (1))]), (.agg [(.int .i64 (40)), (.int .i64 (1)), (.int .i64 (41)), (.int .i64 (1))]), (.agg [(.int .i64 (42)), (.int .i64 (1)), (.int .i64 (43)), (.int .i64 (1))]), (.agg [(.int .i64 (44)), (.int .i64 (1)), (.int .i64 (45)), (.int .i64 (1))]), (.agg [(.int .i64 (46)), (.int .i64 (1)), (.int .i64 (47)), (.int .i64 (1))]), (.agg [(.int .i64 (48)), (.int .i64 (1)), (.int .i64 (49)), (.int .i64 (1))]), (.agg [(.int .i64 (50)), (.int .i64 (1)), (.int .i64 (51)), (.int .i64 (1))]), (.agg [(.int .i64 (52)), (.int .i64 (1)), (.int .i64 (53)), (.int .i64 (1))]), (.agg [(.int .i64 (54)), (.int .i64 (1)), (.int .i64 (55)), (.int .i64 (1))]), (.agg [(.int .i64 (56)), (.int .i64 (1)), (.int .i64 (57)), (.int .i64 (1))]), (.agg [(.int .i64 (58)), (.int .i64 (1)), (.int .i64 (59)), (.int .i64 (1))]), (.agg [(.int .i64 (60)), (.int .i64 (1)), (.int .i64 (61)), (.int .i64 (1))]), (.agg [(.int .i64 (62)), (.int .i64 (1)), (.int .i64 (63)), (.int .i64 (1))]), (.agg [(.int .i64 (64)), (.int .i64 (1)), (.int .i64 (65)), (.int .i64 (1))]), (.agg [(.int .i64 (66)), (.int .i64 (1)), (.int .i64 (67)), (.int .i64 (1))]), (.agg [(.int .i64 (68)), (.int .i64 (1)), (.int .i64 (69)), (.int .i64 (1))]), (.agg [(.int .i64 (70)), (.int .i64 (1)), (.int .i64 (71)), (.int .i64 (1))]), (.agg [(.int .i64 (72)), (.int .i64 (1)), (.int .i64 (73)), (.int .i64 (1))]), (.agg [(.int .i64 (74)), (.int .i64 (1)), (.int .i64 (75)), (.int .i64 (1))]), (.agg [(.int .i64 (76)), (.int .i64 (1)), (.int .i64 (77)), (.int .i64 (1))]), (.agg [(.int .i64 (78)), (.int .i64 (1)), (.int .i64 (79)), (.int .i64 (1))]), (.agg [(.int .i64 (80)), (.int .i64 (1)), (.int .i64 (81)), (.int .i64 (1))]), (.agg [(.int .i64 (82)), (.int .i64 (1)), (.int .i64 (83)), (.int .i64 (1))]), (.agg [(.int .i64 (84)), (.int .i64 (1)), (.int .i64 (85)), (.int .i64 (1))]), (.agg [(.int .i64 (86)), (.int .i64 (1)), (.int .i64 (87)), (.int .i64 (1))]), (.agg [(.int .i64 (88)), (.int .i64 (1)), (.int .i64 (89)), (.int .i64 (1))]), (.agg [(.int .i64 (90)), (.int .i64 (1)), (.int .i64 (91)), (.int .i64 (1))]), (.agg [(.int .i64 (92)), (.int .i64 (1)), (.int .i64 (93)), (.int .i64 (1))]), (.agg [(.int .i64 (94)), (.int .i64 (1)), (.int .i64 (95)), (.int .i64 (1))]), (.agg [(.int .i64 (96)), (.int .i64 (1)), (.int .i64 (97)), (.int .i64 (1))]), (.agg [(.int .i64 (98)), (.int .i64 (1)), (.int .i64 (99)), (.int .i64 (1))]), (.agg [(.int .i64 (100)), (.int .i64 (1)), (.int .i64 (101)), (.int .i64 (1))]), (.agg [(.int .i64 (102)), (.int .i64 (1)), (.int .i64 (103)), (.int .i64 (1))]), (.agg [(.int .i64 (104)), (.int .i64 (1)), (.int .i64 (105)), (.int .i64 (1))]), (.agg [(.int .i64 (106)), (.int .i64 (1)), (.int .i64 (107)), (.int .i64 (1))]), (.agg [(.int .i64 (108)), (.int .i64 (1)), (.int .i64 (109)), (.int .i64 (1))]), (.agg [(.int .i64 (110)), (.int .i64 (1)), (.int .i64 (111)), (.int .i64 (1))]), (.agg [(.int .i64 (112)), (.int .i64 (1)), (.int .i64 (113)), (.int .i64 (1))]), (.agg [(.int .i64 (114)), (.int .i64 (1)), (.int .i64 (115)), (.int .i64 (1))]), (.agg [(.int .i64 (116)), (.int .i64 (1)), (.int .i64 (117)), (.int .i64 (1))]), (.agg [(.int .i64 (118)), (.int .i64 (1)), (.int .i64 (119)), (.int .i64 (1))])])], (.int .i64 (0))),
 (69, [(.agg [(.int .i64 (5)), (.int .i64 (1))]), (.agg [(.int .i64 (6)), (.int .i64 (1))])], (.tup [(.int .i64 (-1)), (.int .i64 (0))]))]
def E21 : Env := E20.plus t20
def t21 : Tab := [(69, [(.agg [(.int .i64 (9)), (.int .i64 (1))]), (.agg [(.int .i64 (10)), (.int .i64 (1))])], (.tup [(.int .i64 (-1)), (.int .i64 (0))])),
 (69, [(.agg [(.int .i64 (11)), (.int .i64 (1))]), (.agg [(.int .i64 (12)), (.int .i64 (1))])], (.tup [(.int .i64 (-1)), (.int .i64 (0))])),
 (69, [(.agg [(.int .i64 (13)), (.int .i64 (1))]), (.agg [(.int .i64 (14)), (.int .i64 (1))])], (.tup [(.int .i64 (-1)), (.int .i64 (0))])),
 (69, [(.agg [(.int .i64 (15)), (.int .i64 (1))]), (.agg [(.int .i64 (16)), (.int .i64 (1))])], (.tup [(.int .i64 (-1)), (.int .i64 (0))])),
 (69, [(.agg [(.int .i64 (17)), (.int .i64 (1))]), (.agg [(.int .i64 (18)), (.int .i64 (1))])], (.tup [(.int .i64 (-1)), (.int .i64 (0))])),
 (69, [(.agg [(.int .i64 (19)), (.int .i64 (1))]), (.agg [(.int .i64 (20)), (.int .i64 (1))])], (.tup [(.int .i64 (-1)), (.int .i64 (0))]))]
def E22 : Env := E21.plus t21
def t22 : Tab := [(69, [(.agg [(.int .i64 (21)), (.int .i64 (1))]), (.agg [(.int .i64 (22)), (.int .i64 (1))])], (.tup [(.int .i64 (-1)), (.int .i64 (0))])),
 (69, [(.agg [(.int .i64 (23)), (.int .i64 (1))]), (.agg [(.int .i64 (24)), (.int .i64 (1))])], (.tup [(.int .i64 (-1)), (.int .i64 (0))])),
 (69, [(.agg [(.int .i64 (25)), (.int .i64 (1))]), (.agg [(.int .i64 (26)), (.int .i64 (1))])], (.tup [(.int .i64 (-1)), (.int .i64 (0))])),
 (69, [(.agg [(.int .i64 (27)), (.int .i64 (1))]), (.agg [(.int .i64 (28)), (.int .i64 (1))])], (.tup [(.int .i64 (-1)), (.int .i64 (0))])),
 (69, [(.agg [(.int .i64 (29)), (.int .i64 (1))]), (.agg [(.int .i64 (30)), (.int .i64 (1))])], (.tup [(.int .i64 (-1)), (.int .i64 (0))])),
 (69, [(.agg [(.int .i64 (31)), (.int .i64 (1))]), (.agg [(.int .i64 (32)), (.int .i64 (1))])], (.tup [(.int .i64 (-1)), (.int .i64 (0))]))]
def E23 : Env := E22.plus t22
def t23 : Tab := [(69, [(.agg [(.int .i64 (33)), (.int .i64 (1))]), (.agg [(.int .i64 (34)), (.int .i64 (1))])], (.tup [(.int .i64 (-1)), (.int .i64 (0))])),
 (69, [(.agg [(.int .i64 (35)), (.int .i64 (1))]), (.agg [(.int .i64 (36)), (.int .i64 (1))])], (.tup [(.int .i64 (-1)), (.int .i64 (0))])),
 (69, [(.agg [(.int .i64 (37)), (.int .i64 (1))]), (.agg [(.int .i64 (38)), (.int .i64 (1))])], (.tup [(.int .i64 (-1)), (.int .i64 (0))])),
 (69, [(.agg [(.int .i64 (39)), (.int .i64 (1))]), (.agg [(.int .i64 (40)), (.int .i64 (1))])], (.tup [(.int .i64 (-1)), (.int .i64 (0))])),
 (69, [(.agg [(.int .i64 (41)), (.int .i64 (1))]), (.agg [(.int .i64 (42)), (.int .i64 (1))])], (.tup [(.int .i64 (-1)), (.int .i64 (0))])),
 (69, [(.agg [(.int .i64 (43)), (.int .i64 (1))]), (.agg [(.int .i64 (44)), (.int .i64 (1))])], (.tup [(.int .i64 (-1)), (.int .i64 (0))]))]
def E24 : Env := E23.plus t23
def t24 : Tab := [(69, [(.agg [(.int .i64 (45)), (.int .i64 (1))]), (.agg [(.int .i64 (46)), (.int .i64 (1))])], (.tup [(.int .i64 (-1)), (.int .i64 (0))])),
 (69, [(.agg [(.int .i64 (47)), (.int .i64 (1))]), (.agg [(.int .i64 (48)), (.int .i64 (1))])], (.tup [(.int .i64 (-1)), (.int .i64 (0))])),
 (69, [(.agg [(.int .i64 (49)), (.int .i64 (1))]), (.agg [(.int .i64 (50)), (.int .i64 (1))])], (.tup [(.int .i64 (-1)), (.int .i64 (0))])),
 (69, [(.agg [(.int .i64 (51)), (.int .i64 (1))]), (.agg [(.int .i64 (52)), (.int .i64 (1))])], (.tup [(.int .i64 (-1)), (.int .i64 (0))])),
 (69, [(.agg [(.int .i64 (53)), (.int .i64 (1))]), (.agg [(.int .i64 (54)), (.int .i64 (1))])], (.tup [(.int .i64 (-1)), (.int .i64 (0))])),
 (69, [(.agg [(.int .i64 (55)), (.int .i64 (1))]), (.agg [(.int .i64 (56)), (.int .i64 (1))])], (.tup [(.int .i64 (-1)), (.int .i64 (0))]))]
def E25 : Env := E24.plus t24
def t25 : Tab := [(69, [(.agg [(.int .i64 (57)), (.int .i64 (1))]), (.agg [(.int .i64 (58)), (.int .i64 (1))])], (.tup [(.int .i64 (-1)), (.int .i64 (0))])),
 (69, [(.agg [(.int .i64 (59)), (.int .i64 (1))]), (.agg [(.int .i64 (60)), (.int .i64 (1))])], (.tup [(.int .i64 (-1)), (.int .i64 (0))])),
 (69, [(.agg [(.int .i64 (61)), (.int .i64 (1))]), (.agg [(.int .i64 (62)), (.int .i64 (1))])], (.tup [(.int .i64 (-1)), (.int .i64 (0))])),
 (69, [(.agg [(.int .i64 (63)), (.int .i64 (1))]), (.agg [(.int .i64 (64)), (.int .i64 (1))])], (.tup [(.int .i64 (-1)), (.int .i64 (0))])),
 (69, [(.agg [(.int .i64 (65)), (.int .i64 (1))]), (.agg [(.int .i64 (66)), (.int .i64 (1))])], (.tup [(.int .i64 (-1)), (.int .i64 (0))])),
 (69, [(.agg [(.int .i64 (67)), (.int .i64 (1))]), (.agg [(.int .i64 (68)), (.int .i64 (1))])], (.tup [(.int .i64 (-1)), (.int .i64 (0))]))]
def E26 : Env := E25.plus t25
def t26 : Tab := [(69, [(.agg [(.int .i64 (69)), (.int .i64 (1))]), (.agg [(.int .i64 (70)), (.int .i64 (1))])], (.tup [(.int .i64 (-1)), (.int .i64 (0))])),
 (69, [(.agg [(.int .i64 (71)), (.int .i64 (1))]), (.agg [(.int .i64 (72)), (.int .i64 (1))])], (.tup [(.int .i64 (-1)), (.int .i64 (0))])),
 (69, [(.agg [(.int .i64 (73)), (.int .i64 (1))]), (.agg [(.int .i64 (74)), (.int .i64 (1))])], (.tup [(.int .i64 (-1)), (.int .i64 (0))])),
 (69, [(.agg [(.int .i64 (75)), (.int .i64 (1))]), (.agg [(.int .i64 (76)), (.int .i64 (1))])], (.tup [(.int .i64 (-1)), (.int .i64 (0))])),
 (69, [(.agg [(.int .i64 (77)), (.int .i64 (1))]), (.agg [(.int .i64 (78)), (.int .i64 (1))])], (.tup [(.int .i64 (-1)), (.int .i64 (0))])),
 (69, [(.agg [(.int .i64 (79)), (.int .i64 (1))]), (.agg [(.int .i64 (80)), (.int .i64 (1))])], (.tup [(.int .i64 (-1)), (.int .i64 (0))]))]
def E27 : Env := E26.plus t26
def t27 : Tab := [(69, [(.agg [(.int .i64 (81)), (.int .i64 (1))]), (.agg [(.int .i64 (82)), (.int .i64 (1))])], (.tup [(.int .i64 (-1)), (.int .i64 (0))])),
 (69, [(.agg [(.int .i64 (83)), (.int .i64 (1))]), (.agg [(.int .i64 (84)), (.int .i64 (1))])], (.tup [(.int .i64 (-1)), (.int .i64 (0))])),
 (69, [(.agg [(.int .i64 (85)), (.int .i64 (1))]), (.agg [(.int .i64 (86)), (.int .i64 (1))])], (.tup [(.int .i64 (-1)), (.int .i64 (0))])),
 (69, [(.agg [(.int .i64 (87)), (.int .i64 (1))]), (.agg [(.int .i64 (88)), (.int .i64 (1))])], (.tup [(.int .i64 (-1)), (.int .i64 (0))])),
 (69, [(.agg [(.int .i64 (89)), (.int .i64 (1))]), (.agg [(.int .i64 (90)), (.int .i64 (1))])], (.tup [(.int .i64 (-1)), (.int .i64 (0))])),
 (69, [(.agg [(.int .i64 (91)), (.int .i64 (1))]), (.agg [(.int .i64 (92)), (.int .i64 (1))])], (.tup [(.int .i64 (-1)), (.int .i64 (0))]))]
def E28 : Env := E27.plus t27
def t28 : Tab := [(69, [(.agg [(.int .i64 (93)), (.int .i64 (1))]), (.agg [(.int .i64 (94)), (.int .i64 (1))])], (.tup [(.int .i64 (-1)), (.int .i64 (0))])),
 (69, [(.agg [(.int .i64 (95)), (.int .i64 (1))]), (.agg [(.int .i64 (96)), (.int .i64 (1))])], (.tup [(.int .i64 (-1)), (.int .i64 (0))])),
 (69, [(.agg [(.int .i64 (97)), (.int .i64 (1))]), (.agg [(.int .i64 (98)), (.int .i64 (1))])], (.tup [(.int .i64 (-1)), (.int .i64 (0))])),
 (69, [(.agg [(.int .i64 (99)), (.int .i64 (1))]), (.agg [(.int .i64 (100)), (.int .i64 (1))])], (.tup [(.int .i64 (-1)), (.int .i64 (0))])),
 (69, [(.agg [(.int .i64 (101)), (.int .i64 (1))]), (.agg [(.int .i64 (102)), (.int .i64 (1))])], (.tup [(.int .i64 (-1)), (.int .i64 (0))])),
 (69, [(.agg [(.int .i64 (103)), (.int .i64 (1))]), (.agg [(.int .i64 (104)), (.int .i64 (1))])], (.tup [(.int .i64 (-1)), (.int .i64 (0))]))]
def E29 : Env := E28.plus t28
def t29 : Tab := [(69, [(.agg [(.int .i64 (105)), (.int .i64 (1))]), (.agg [(.int .i64 (106)), (.int .i64 (1))])], (.tup [(.int .i64 (-1)), (.int .i64 (0))])),
 (69, [(.agg [(.int .i64 (107)), (.int .i64 (1))]), (.agg [(.int .i64 (108)), (.int .i64 (1))])], (.tup [(.int .i64 (-1)), (.int .i64 (0))])),
 (69, [(.agg [(.int .i64 (109)), (.int .i64 (1))]), (.agg [(.int .i64 (110)), (.int .i64 (1))])], (.tup [(.int .i64 (-1)), (.int .i64 (0))])),
 (69, [(.agg [(.int .i64 (111)), (.int .i64 (1))]), (.agg [(.int .i64 (112)), (.int .i64 (1))])], (.tup [(.int .i64 (-1)), (.int .i64 (0))])),
 (69, [(.agg [(.int .i64 (113)), (.int .i64 (1))]), (.agg [(.int .i64 (114)), (.int .i64 (1))])], (.tup [(.int .i64 (-1)), (.int .i64 (0))])),
 (69, [(.agg [(.int .i64 (115)), (.int .i64 (1))]), (.agg [(.int .i64 (116)), (.int .i64 (1))])], (.tup [(.int .i64 (-1)), (.int .i64 (0))]))]
def E30 : Env := E29.plus t29
def t30 : Tab := [(69, [(.agg [(.int .i64 (117)), (.int .i64 (1))]), (.agg [(.int .i64 (118)), (.int .i64 (1))])], (.tup [(.int .i64 (-1)), (.int .i64 (0))])),
 (30, [(.data [(.agg [(.int .i64 (0)), (.int .i64 (1)), (.int .i64 (1)), (.int .i64 (1))]), (.agg [(.int .i64 (2)), (.int .i64 (1)), (.int .i64 (3)), (.int .i64 (1))]), (.agg [(.int .i64 (4)), (.int .i64 (1)), (.int .i64 (5)), (.int .i64 (1))]), (.agg [(.int .i64 (6)), (.int .i64 (1)), (.int .i64 (7)), (.int .i64 (1))]), (.agg [(.int .i64 (8)), (.int .i64 (1)), (.int .i64 (9)), (.int .i64 (1))]), (.agg [(.int .i64 (10)), (.int .i64 (1)), (.int .i64 (11)), (.int .i64 (1))]), (.agg [(.int .i64 (12)), (.int .i64 (1)), (.int .i64 (13)), (.int .i64 (1))]), (.agg [(.int .i64 (14)), (.int .i64 (1)), (.int .i64 (15)), (.int .i64 (1))]), (.agg [(.int .i64 (16)), (.int .i64 (1)), (.int .i64 (17)), (.int .i64 (1))]), (.agg [(.int .i64 (18)), (.int .i64 (1)), (.int .i64 (19)), (.int .i64 (1))]), (.agg [(.int .i64 (20)), (.int .i64 (1)), (.int .i64 (21)), (.int .i64 (1))]), (.agg [(.int .i64 (22)), (.int .i64 (1)), (.int .i64 (23)), (.int .i64 (1))]), (.agg [(.int .i64 (24)), (.int .i64 (1)), (.int .i64 (25)), (.int .i64 (1))]), (.agg [(.int .i64 (26)), (.int .i64 (1)), (.int .i64 (27)), (.int .i64 (1))]), (.agg [(.int .i64 (28)), (.int .i64 (1)), (.int .i64 (29)), (.int .i64 (1))]), (.agg [(.int .i64 (30)), (.int .i64 (1)), (.int .i64 (31)), (.int .i64 (1))]), (.agg [(.int .i64 (32)), (.int .i64 (1)), (.int .i64 (33)), (.int .i64 (1))]), (.agg [(.int .i64 (34)), (.int .i64 (1)), (.int .i64 (35)), (.int .i64 (1))]), (.agg [(.int .i64 (36)), (.int .i64 (1)), (.int .i64 (37)), (.int .i64 (1))]), (.agg [(.int .i64 (38)), (.int .i64 (1)), (.int .i64 (39)), (.int .i64 (1))]), (.agg [(.int .i64 (40)), (.int .i64 (1)), (.int .i64 (41)), (.int .i64 (1))]), (.agg [(.int .i64 (42)), (.int .i64 (1)), (.int .i64 (43)), (.int .i64 (1))]), (.agg [(.int .i64 (44)), (.int .i64 (1)), (.int .i64 (45)), (.int .i64 (1))]), (.agg [(.int .i64 (46)), (.int .i64 (1)), (.int .i64 (47)), (.int .i64 (1))]), (.agg [(.int .i64 (48)), (.int .i64 (1)), (.int .i64 (49)), (.int .i64 (1))]), (.agg [(.int .i64 (50)), (.int .i64 (1)), (.int .i64 (51)), (.int .i64 (1))]), (.agg [(.int .i64 (52)), (.int .i64 (1)), (.int .i64 (53)), (.int .i64 (1))]), (.agg [(.int .i64 (54)), (.int .i64 (1)), (.int .i64 (55)), (.int .i64 (1))]), (.agg [(.int .i64 (56)), (.int .i64 (1)), (.int .i64 (57)), (.int .i64 (1))]), (.agg [(.int .i64 (58)), (.int .i64 (1)), (.int .i64 (59)), (.int .i64 (1))]), (.agg [(.int .i64 (60)), (.int .i64 (1)), (.int .i64 (61)), (.int .i64 (1))]), (.agg [(.int .i64 (62)), (.int .i64 (1)), (.int .i64 (63)), (.int .i64 (1))]), (.agg [(.int .i64 (64)), (.int .i64 (1)), (.int .i64 (65)), (.int .i64 (1))]), (.agg [(.int .i64 (66)), (.int .i64 (1)), (.int .i64 (67)), (.int .i64 (1))]), (.agg [(.int .i64 (68)), (.int .i64 (1)), (.int .i64 (69)), (.int .i64 (1))]), (.agg [(.int .i64 (70)), (.int .i64 (1)), (.int .i64 (71)), (.int .i64 (1))]), (.agg [(.int .i64 (72)), (.int .i64 (1)), (.int .i64 (73)), (.int .i64 (1))]), (.agg [(.int .i64 (74)), (.int .i64 (1)), (.int .i64 (75)), (.int .i64 (1))]), (.agg [(.int .i64 (76)), (.int .i64 (1)), (.int .i64 (77)), (.int .i64 (1))]), (.agg [(.int .i64 (78)), (.int .i64 (1)), (.int .i64 (79)), (.int .i64 (1))]), (.agg [(.int .i64 (80)), (.int .i64 (1)), (.int .i64 (81)), (.int .i64 (1))]), (.agg [(.int .i64 (82)), (.int .i64 (1)), (.int .i64 (83)), (.int .i64 (1))]), (.agg [(.int .i64 (84)), (.int .i64 (1)), (.int .i64 (85)), (.int .i64 (1))]), (.agg [(.int .i64 (86)), (.int .i64 (1)), (.int .i64 (87)), (.int .i64 (1))]), (.agg [(.int .i64 (88)), (.int .i64 (1)), (.int .i64 (89)), (.int .i64 (1))]), (.agg [(.int .i64 (90)), (.int .i64 (1)), (.int .i64 (91)), (.int .i64 (1))]), (.agg [(.int .i64 (92)), (.int .i64 (1)), (.int .i64 (93)), (.int .i64 (1))]), (.agg [(.int .i64 (94)), (.int .i64 (1)), (.int .i64 (95)), (.int .i64 (1))]), (.agg [(.int .i64 (96)), (.int .i64 (1)), (.int .i64 (97)), (.int .i64 (1))]), (.agg [(.int .i64 (98)), (.int .i64 (1)), (.int .i64 (99)), (.int .i64 (1))]), (.agg [(.int .i64 (100)), (.int .i64 (1)), (.int .i64 (101)), (.int .i64 (1))]), (.agg [(.int .i64 (102)), (.int .i64 (1)), (.int .i64 (103)), (.int .i64 (1))]), (.agg [(.int .i64 (104)), (.int .i64 (1)), (.int .i64 (105)), (.int .i64 (1))]), (.agg [(.int .i64 (106)), (.int .i64 (1)), (.int .i64 (107)), (.int .i64 (1))]), (.agg [(.int .i64 (108)), (.int .i64 (1)), (.int .i64 (109)), (.int .i64 (1))]), (.agg [(.int .i64 (110)), (.int .i64 (1)), (.int .i64 (111)), (.int .i64 (1))]), (.agg [(.int .i64 (112)), (.int .i64 (1)), (.int .i64 (113)), (.int .i64 (1))]), (.agg [(.int .i64 (114)), (.int .i64 (1)), (.int .i64 (115)), (.int .i64 (1))]), (.agg [(.int .i64 (116)), (.int .i64 (1)), (.int .i64 (117)), (.int .i64 (1))]), (.agg [(.int .i64 (118)), (.int .i64 (1)), (.int .i64 (119)), (.int .i64 (1))])])], (.int .i64 (0)))]
def E31 : Env := E30.plus t30
def t31 : Tab := [(69, [(.agg [(.int .i64 (-2)), (.int .i64 (1))]), (.agg [(.int .i64 (-1)), (.int .i64 (1))])], (.tup [(.int .i64 (-1)), (.int .i64 (0))])),
 (69, [(.agg [(.int .i64 (30)), (.int .i64 (1))]), (.agg [(.int .i64 (28)), (.int .i64 (1))])], (.tup [(.int .i64 (1)), (.int .i64 (0))])),
 (69, [(.agg [(.int .i64 (32)), (.int .i64 (1))]), (.agg [(.int .i64 (30)), (.int .i64 (1))])], (.tup [(.int .i64 (1)), (.int .i64 (0))])),
 (69, [(.agg [(.int .i64 (60)), (.int .i64 (1))]), (.agg [(.int .i64 (58)), (.int .i64 (1))])], (.tup [(.int .i64 (1)), (.int .i64 (0))])),
 (69, [(.agg [(.int .i64 (62)), (.int .i64 (1))]), (.agg [(.int .i64 (60)), (.int .i64 (1))])], (.tup [(.int .i64 (1)), (.int .i64 (0))])),
 (69, [(.agg [(.int .i64 (90)), (.int .i64 (1))]), (.agg [(.int .i64 (88)), (.int .i64 (1))])], (.tup [(.int .i64 (1)), (.int .i64 (0))]))]
def E32 : Env := E31.plus t31
def t32 : Tab := [(69, [(.agg [(.int .i64 (92)), (.int .i64 (1))]), (.agg [(.int .i64 (90)), (.int .i64 (1))])], (.tup [(.int .i64 (1)), (.int .i64 (0))])),
 (69, [(.agg [(.int .i64 (60)), (.int .i64 (1))]), (.agg [(.int .i64 (30)), (.int .i64 (1))])], (.tup [(.int .i64 (1)), (.int .i64 (0))])),
 (69, [(.agg [(.int .i64 (90)), (.int .i64 (1))]), (.agg [(.int .i64 (60)), (.int .i64 (1))])], (.tup [(.int .i64 (1)), (.int .i64 (0))])),
 (69, [(.agg [(.int .i64 (10)), (.int .i64 (1))]), (.agg [(.int .i64 (8)), (.int .i64 (1))])], (.tup [(.int .i64 (1)), (.int .i64 (0))])),
 (69, [(.agg [(.int .i64 (12)), (.int .i64 (1))]), (.agg [(.int .i64 (10)), (.int .i64 (1))])], (.tup [(.int .i64 (1)), (.int .i64 (0))])),
 (69, [(.agg [(.int .i64 (14)), (.int .i64 (1))]), (.agg [(.int .i64 (12)), (.int .i64 (1))])], (.tup [(.int .i64 (1)), (.int .i64 (0))]))]
def E33 : Env := E32.plus t32
def t33 : Tab := [(69, [(.agg [(.int .i64 (16)), (.int .i64 (1))]), (.agg [(.int .i64 (14)), (.int .i64 (1))])], (.tup [(.int .i64 (1)), (.int .i64 (0))])),
 (69, [(.agg [(.int .i64 (18)), (.int .i64 (1))]), (.agg [(.int .i64 (16)), (.int .i64 (1))])], (.tup [(.int .i64 (1)), (.int .i64 (0))])),
 (69, [(.agg [(.int .i64 (20)), (.int .i64 (1))]), (.agg [(.int .i64 (18)), (.int .i64 (1))])], (.tup [(.int .i64 (1)), (.int .i64 (0))])),
 (69, [(.agg [(.int .i64 (22)), (.int .i64 (1))]), (.agg [(.int .i64 (20)), (.int .i64 (1))])], (.tup [(.int .i64 (1)), (.int .i64 (0))])),
 (69, [(.agg [(.int .i64 (24)), (.int .i64 (1))]), (.agg [(.int .i64 (22)), (.int .i64 (1))])], (.tup [(.int .i64 (1)), (.int .i64 (0))])),
 (69, [(.agg [(.int .i64 (26)), (.int .i64 (1))]), (.agg [(.int .i64 (24)), (.int .i64 (1))])], (.tup [(.int .i64 (1)), (.int .i64 (0))]))]
def E34 : Env := E33.plus t33
def t34 : Tab := [(69, [(.agg [(.int .i64 (28)), (.int .i64 (1))]), (.agg [(.int .i64 (26)), (.int .i64 (1))])], (.tup [(.int .i64 (1)), (.int .i64 (0))])),
 (69, [(.agg [(.int .i64 (34)), (.int .i64 (1))]), (.agg [(.int .i64 (32)), (.int .i64 (1))])], (.tup [(.int .i64 (1)), (.int .i64 (0))])),
 (69, [(.agg [(.int .i64 (36)), (.int .i64 (1))]), (.agg [(.int .i64 (34)), (.int .i64 (1))])], (.tup [(.int .i64 (1)), (.int .i64 (0))])),
 (69, [(.agg [(.int .i64 (38)), (.int .i64 (1))]), (.agg [(.int .i64 (36)), (.int .i64 (1))])], (.tup [(.int .i64 (1)), (.int .i64 (0))])),
 (69, [(.agg [(.int .i64 (40)), (.int .i64 (1))]), (.agg [(.int .i64 (38)), (.int .i64 (1))])], (.tup [(.int .i64 (1)), (.int .i64 (0))])),
 (69, [(.agg [(.int .i64 (42)), (.int .i64 (1))]), (.agg [(.int .i64 (40)), (.int .i64 (1))])], (.tup [(.int .i64 (1)), (.int .i64 (0))]))]
def E35 : Env := E34.plus t34
def t35 : Tab := [(69, [(.agg [(.int .i64 (44)), (.int .i64 (1))]), (.agg [(.int .i64 (42)), (.int .i64 (1))])], (.tup [(.int .i64 (1)), (.int .i64 (0))])),
 (69, [(.agg [(.int .i64 (46)), (.int .i64 (1))]), (.agg [(.int .i64 (44)), (.int .i64 (1))])], (.tup [(.int .i64 (1)), (.int .i64 (0))])),
 (69, [(.agg [(.int .i64 (48)), (.int .i64 (1))]), (.agg [(.int .i64 (46)), (.int .i64 (1))])], (.tup [(.int .i64 (1)), (.int .i64 (0))])),
 (69, [(.agg [(.int .i64 (50)), (.int .i64 (1))]), (.agg [(.int .i64 (48)), (.int .i64 (1))])], (.tup [(.int .i64 (1)), (.int .i64 (0))])),
 (69, [(.agg [(.int .i64 (52)), (.int .i64 (1))]), (.agg [(.int .i64 (50)), (.int .i64 (1))])], (.tup [(.int .i64 (1)), (.int .i64 (0))])),
 (69, [(.agg [(.int .i64 (54)), (.int .i64 (1))]), (.agg [(.int .i64 (52)), (.int .i64 (1))])], (.tup [(.int .i64 (1)), (.int .i64 (0))]))]
def E36 : Env := E35.plus t35
def t36 : Tab := [(69, [(.agg [(.int .i64 (56)), (.int .i64 (1))]), (.agg [(.int .i64 (54)), (.int .i64 (1))])], (.tup [(.int .i64 (1)), (.int .i64 (0))])),
 (69, [(.agg [(.int .i64 (58)), (.int .i64 (1))]), (.agg [(.int .i64 (56)), (.int .i64 (1))])], (.tup [(.int .i64 (1)), (.int .i64 (0))])),
 (69, [(.agg [(.int .i64 (64)), (.int .i64 (1))]), (.agg [(.int .i64 (62)), (.int .i64 (1))])], (.tup [(.int .i64 (1)), (.int .i64 (0))])),
 (69, [(.agg [(.int .i64 (66)), (.int .i64 (1))]), (.agg [(.int .i64 (64)), (.int .i64 (1))])], (.tup [(.int .i64 (1)), (.int .i64 (0))])),
 (69, [(.agg [(.int .i64 (68)), (.int .i64 (1))]), (.agg [(.int .i64 (66)), (.int .i64 (1))])], (.tup [(.int .i64 (1)), (.int .i64 (0))])),
 (69, [(.agg [(.int .i64 (70)), (.int .i64 (1))]), (.agg [(.int .i64 (68)), (.int .i64 (1))])], (.tup [(.int .i64 (1)), (.int .i64 (0))]))]
def E37 : Env := E36.plus t36
def t37 : Tab := [(69, [(.agg [(.int .i64 (72)), (.int .i64 (1))]), (.agg [(.int .i64 (70)), (.int .i64 (1))])], (.tup [(.int .i64 (1)), (.int .i64 (0))])),
 (69, [(.agg [(.int .i64 (74)), (.int .i64 (1))]), (.agg [(.int .i64 (72)), (.int .i64 (1))])], (.tup [(.int .i64 (1)), (.int .i64 (0))])),
 (69, [(.agg [(.int .i64 (76)), (.int .i64 (1))]), (.agg [(.int .i64 (74)), (.int .i64 (1))])], (.tup [(.int .i64 (1)), (.int .i64 (0))])),
 (69, [(.agg [(.int .i64 (78)), (.int .i64 (1))]), (.agg [(.int .i64 (76)), (.int .i64 (1))])], (.tup [(.int .i64 (1)), (.int .i64 (0))])),
 (69, [(.agg [(.int .i64 (80)), (.int .i64 (1))]), (.agg [(.int .i64 (78)), (.int .i64 (1))])], (.tup [(.int .i64 (1)), (.int .i64 (0))])),
 (69, [(.agg [(.int .i64 (82)), (.int .i64 (1))]), (.agg [(.int .i64 (80)), (.int .i64 (1))])], (.tup [(.int .i64 (1)), (.int .i64 (0))]))]
def E38 : Env := E37.plus t37
def t38 : Tab := [(69, [(.agg [(.int .i64 (84)), (.int .i64 (1))]), (.agg [(.int .i64 (82)), (.int .i64 (1))])], (.tup [(.int .i64 (1)), (.int .i64 (0))])),
 (69, [(.agg [(.int .i64 (86)), (.int .i64 (1))]), (.agg [(.int .i64 (84)), (.int .i64 (1))])], (.tup [(.int .i64 (1)), (.int .i64 (0))])),
 (69, [(.agg [(.int .i64 (88)), (.int .i64 (1))]), (.agg [(.int .i64 (86)), (.int .i64 (1))])], (.tup [(.int .i64 (1)), (.int .i64 (0))])),
 (69, [(.agg [(.int .i64 (94)), (.int .i64 (1))]), (.agg [(.int .i64 (92)), (.int .i64 (1))])], (.tup [(.int .i64 (1)), (.int .i64 (0))])),
 (69, [(.agg [(.int .i64 (96)), (.int .i64 (1))]), (.agg [(.int .i64 (94)), (.int .i64 (1))])], (.tup [(.int .i64 (1)), (.int .i64 (0))])),
 (69, [(.agg [(.int .i64 (98)), (.int .i64 (1))]), (.agg [(.int .i64 (96)), (.int .i64 (1))])], (.tup [(.int .i64 (1)), (.int .i64 (0))]))]
def E39 : Env := E38.plus t38
def t39 : Tab := [(69, [(.agg [(.int .i64 (100)), (.int .i64 (1))]), (.agg [(.int .i64 (98)), (.int .i64 (1))])], (.tup [(.int .i64 (1)), (.int .i64 (0))])),
 (69, [(.agg [(.int .i64 (102)), (.int .i64 (1))]), (.agg [(.int .i64 (100)), (.int .i64 (1))])], (.tup [(.int .i64 (1)), (.int .i64 (0))])),
 (69, [(.agg [(.int .i64 (104)), (.int .i64 (1))]), (.agg [(.int .i64 (102)), (.int .i64 (1))])], (.tup [(.int .i64 (1)), (.int .i64 (0))])),
 (69, [(.agg [(.int .i64 (106)), (.int .i64 (1))]), (.agg [(.int .i64 (104)), (.int .i64 (1))])], (.tup [(.int .i64 (1)), (.int .i64 (0))])),
 (69, [(.agg [(.int .i64 (108)), (.int .i64 (1))]), (.agg [(.int .i64 (106)), (.int .i64 (1))])], (.tup [(.int .i64 (1)), (.int .i64 (0))])),
 (69, [(.agg [(.int .i64 (110)), (.int .i64 (1))]), (.agg [(.int .i64 (108)), (.int .i64 (1))])], (.tup [(.int .i64 (1)), (.int .i64 (0))]))]
def E40 : Env := E39.plus t39
def t40 : Tab := [(69, [(.agg [(.int .i64 (112)), (.int .i64 (1))]), (.agg [(.int .i64 (110)), (.int .i64 (1))])], (.tup [(.int .i64 (1)), (.int .i64 (0))])),
 (69, [(.agg [(.int .i64 (114)), (.int .i64 (1))]), (.agg [(.int .i64 (112)), (.int .i64 (1))])], (.tup [(.int .i64 (1)), (.int .i64 (0))])),
 (69, [(.agg [(.int .i64 (116)), (.int .i64 (1))]), (.agg [(.int .i64 (114)), (.int .i64 (1))])], (.tup [(.int .i64 (1)), (.int .i64 (0))])),
 (69, [(.agg [(.int .i64 (118)), (.int .i64 (1))]), (.agg [(.int .i64 (116)), (.int .i64 (1))])], (.tup [(.int .i64 (1)), (.int .i64 (0))])),
 (69, [(.agg [(.int .i64 (-2)), (.int .i64 (1))]), (.agg [(.int .i64 (118)), (.int .i64 (1))])], (.tup [(.int .i64 (-1)), (.int .i64 (0))])),
 (69, [(.agg [(.int .i64 (-2)), (.int .i64 (1))]), (.agg [(.int .i64 (116)), (.int .i64 (1))])], (.tup [(.int .i64 (-1)), (.int .i64 (0))])),
 (69, [(.agg [(.int .i64 (-2)), (.int .i64 (1))]), (.agg [(.int .i64 (114)), (.int .i64 (1))])], (.tup [(.int .i64 (-1)), (.int .i64 (0))])),
 (69, [(.agg [(.int .i64 (-2)), (.int .i64 (1))]), (.agg [(.int .i64 (112)), (.int .i64 (1))])], (.tup [(.int .i64 (-1)), (.int .i64 (0))]))]
def E41 : Env := E40.plus t40
def t41 : Tab := [(69, [(.agg [(.int .i64 (-2)), (.int .i64 (1))]), (.agg [(.int .i64 (110)), (.int .i64 (1))])], (.tup [(.int .i64 (-1)), (.int .i64 (0))])),
 (69, [(.agg [(.int .i64 (-2)), (.int .i64 (1))]), (.agg [(.int .i64 (108)), (.int .i64 (1))])], (.tup [(.int .i64 (-1)), (.int .i64 (0))])),
 (69, [(.agg [(.int .i64 (-2)), (.int .i64 (1))]), (.agg [(.int .i64 (106)), (.int .i64 (1))])], (.tup [(.int .i64 (-1)), (.int .i64 (0))])),
 (69, [(.agg [(.int .i64 (-2)), (.int .i64 (1))]), (.agg [(.int .i64 (104)), (.int .i64 (1))])], (.tup [(.int .i64 (-1)), (.int .i64 (0))])),
 (69, [(.agg [(.int .i64 (-2)), (.int .i64 (1))]), (.agg [(.int .i64 (102)), (.int .i64 (1))])], (.tup [(.int .i64 (-1)), (.int .i64 (0))])),
 (69, [(.agg [(.int .i64 (-2)), (.int .i64 (1))]), (.agg [(.int .i64 (100)), (.int .i64 (1))])], (.tup [(.int .i64 (-1)), (.int .i64 (0))])),
 (69, [(.agg [(.int .i64 (-2)), (.int .i64 (1))]), (.agg [(.int .i64 (98)), (.int .i64 (1))])], (.tup [(.int .i64 (-1)), (.int .i64 (0))])),
 (69, [(.agg [(.int .i64 (-2)), (.int .i64 (1))]), (.agg [(.int .i64 (96)), (.int .i64 (1))])], (.tup [(.int .i64 (-1)), (.int .i64 (0))])),
 (69, [(.agg [(.int .i64 (-2)), (.int .i64 (1))]), (.agg [(.int .i64 (94)), (.int .i64 (1))])], (.tup [(.int .i64 (-1)), (.int .i64 (0))])),
 (69, [(.agg [(.int .i64 (-2)), (.int .i64 (1))]), (.agg [(.int .i64 (92)), (.int .i64 (1))])], (.tup [(.int .i64 (-1)), (.int .i64 (0))])),
 (69, [(.agg [(.int .i64 (-2)), (.int .i64 (1))]), (.agg [(.int .i64 (90)), (.int .i64 (1))])], (.tup [(.int .i64 (-1)), (.int .i64 (0))]))]
def E42 : Env := E41.plus t41
def t42 : Tab := [(69, [(.agg [(.int .i64 (-2)), (.int .i64 (1))]), (.agg [(.int .i64 (88)), (.int .i64 (1))])], (.tup [(.int .i64 (-1)), (.int .i64 (0))])),
 (69, [(.agg [(.int .i64 (-2)), (.int .i64 (1))]), (.agg [(.int .i64 (86)), (.int .i64 (1))])], (.tup [(.int .i64 (-1)), (.int .i64 (0))])),
 (69, [(.agg [(.int .i64 (-2)), (.int .i64 (1))]), (.agg [(.int .i64 (84)), (.int .i64 (1))])], (.tup [(.int .i64 (-1)), (.int .i64 (0))])),
 (69, [(.agg [(.int .i64 (-2)), (.int .i64 (1))]), (.agg [(.int .i64 (82)), (.int .i64 (1))])], (.tup [(.int .i64 (-1)), (.int .i64 (0))])),
 (69, [(.agg [(.int .i64 (-2)), (.int .i64 (1))]), (.agg [(.int .i64 (80)), (.int .i64 (1))])], (.tup [(.int .i64 (-1)), (.int .i64 (0))])),
 (69, [(.agg [(.int .i64 (-2)), (.int .i64 (1))]), (.agg [(.int .i64 (78)), (.int .i64 (1))])], (.tup [(.int .i64 (-1)), (.int .i64 (0))])),
 (69, [(.agg [(.int .i64 (-2)), (.int .i64 (1))]), (.agg [(.int .i64 (76)), (.int .i64 (1))])], (.tup [(.int .i64 (-1)), (.int .i64 (0))])),
 (69, [(.agg [(.int .i64 (-2)), (.int .i64 (1))]), (.agg [(.int .i64 (74)), (.int .i64 (1))])], (.tup [(.int .i64 (-1)), (.int .i64 (0))])),
 (69, [(.agg [(.int .i64 (-2)), (.int .i64 (1))]), (.agg [(.int .i64 (72)), (.int .i64 (1))])], (.tup [(.int .i64 (-1)), (.int .i64 (0))])),
 (69, [(.agg [(.int .i64 (-2)), (.int .i64 (1))]), (.agg [(.int .i64 (70)), (.int .i64 (1))])], (.tup [(.int .i64 (-1)), (.int .i64 (0))])),
 (69, [(.agg [(.int .i64 (-2)), (.int .i64 (1))]), (.agg [(.int .i64 (68)), (.int .i64 (1))])], (.tup [(.int .i64 (-1)), (.int .i64 (0))]))]
def E43 : Env := E42.plus t42
def t43 : Tab := [(69, [(.agg [(.int .i64 (-2)), (.int .i64 (1))]), (.agg [(.int .i64 (66)), (.int .i64 (1))])], (.tup [(.int .i64 (-1)), (.int .i64 (0))])),
 (69, [(.agg [(.int .i64 (-2)), (.int .i64 (1))]), (.agg [(.int .i64 (64)), (.int .i64 (1))])], (.tup [(.int .i64 (-1)), (.int .i64 (0))])),
 (69, [(.agg [(.int .i64 (-2)), (.int .i64 (1))]), (.agg [(.int .i64 (62)), (.int .i64 (1))])], (.tup [(.int .i64 (-1)), (.int .i64 (0))])),
 (69, [(.agg [(.int .i64 (-2)), (.int .i64 (1))]), (.agg [(.int .i64 (60)), (.int .i64 (1))])], (.tup [(.int .i64 (-1)), (.int .i64 (0))])),
 (69, [(.agg [(.int .i64 (-2)), (.int .i64 (1))]), (.agg [(.int .i64 (58)), (.int .i64 (1))])], (.tup [(.int .i64 (-1)), (.int .i64 (0))])),
 (69, [(.agg [(.int .i64 (-2)), (.int .i64 (1))]), (.agg [(.int .i64 (56)), (.int .i64 (1))])], (.tup [(.int .i64 (-1)), (.int .i64 (0))])),
 (69, [(.agg [(.int .i64 (-2)), (.int .i64 (1))]), (.agg [(.int .i64 (54)), (.int .i64 (1))])], (.tup [(.int .i64 (-1)), (.int .i64 (0))])),
 (69, [(.agg [(.int .i64 (-2)), (.int .i64 (1))]), (.agg [(.int .i64 (52)), (.int .i64 (1))])], (.tup [(.int .i64 (-1)), (.int .i64 (0))])),
 (69, [(.agg [(.int .i64 (-2)), (.int .i64 (1))]), (.agg [(.int .i64 (50)), (.int .i64 (1))])], (.tup [(.int .i64 (-1)), (.int .i64 (0))])),
 (69, [(.agg [(.int .i64 (-2)), (.int .i64 (1))]), (.agg [(.int .i64 (48)), (.int .i64 (1))])], (.tup [(.int .i64 (-1)), (.int .i64 (0))])),
 (69, [(.agg [(.int .i64 (-2)), (.int .i64 (1))]), (.agg [(.int .i64 (46)), (.int .i64 (1))])], (.tup [(.int .i64 (-1)), (.int .i64 (0))]))]
def E44 : Env := E43.plus t43
def t44 : Tab := [(69, [(.agg [(.int .i64 (-2)), (.int .i64 (1))]), (.agg [(.int .i64 (44)), (.int .i64 (1))])], (.tup [(.int .i64 (-1)), (.int .i64 (0))])),
 (69, [(.agg [(.int .i64 (-2)), (.int .i64 (1))]), (.agg [(.int .i64 (42)), (.int .i64 (1))])], (.tup [(.int .i64 (-1)), (.int .i64 (0))])),
 (69, [(.agg [(.int .i64 (-2)), (.int .i64 (1))]), (.agg [(.int .i64 (40)), (.int .i64 (1))])], (.tup [(.int .i64 (-1)), (.int .i64 (0))])),
 (69, [(.agg [(.int .i64 (-2)), (.int .i64 (1))]), (.agg [(.int .i64 (38)), (.int .i64 (1))])], (.tup [(.int .i64 (-1)), (.int .i64 (0))])),
 (69, [(.agg [(.int .i64 (-2)), (.int .i64 (1))]), (.agg [(.int .i64 (36)), (.int .i64 (1))])], (.tup [(.int .i64 (-1)), (.int .i64 (0))])),
 (69, [(.agg [(.int .i64 (-2)), (.int .i64 (1))]), (.agg [(.int .i64 (34)), (.int .i64 (1))])], (.tup [(.int .i64 (-1)), (.int .i64 (0))])),
 (69, [(.agg [(.int .i64 (-2)), (.int .i64 (1))]), (.agg [(.int .i64 (32)), (.int .i64 (1))])], (.tup [(.int .i64 (-1)), (.int .i64 (0))])),
 (69, [(.agg [(.int .i64 (-2)), (.int .i64 (1))]), (.agg [(.int .i64 (30)), (.int .i64 (1))])], (.tup [(.int .i64 (-1)), (.int .i64 (0))])),
 (69, [(.agg [(.int .i64 (-2)), (.int .i64 (1))]), (.agg [(.int .i64 (28)), (.int .i64 (1))])], (.tup [(.int .i64 (-1)), (.int .i64 (0))])),
 (69, [(.agg [(.int .i64 (-2)), (.int .i64 (1))]), (.agg [(.int .i64 (26)), (.int .i64 (1))])], (.tup [(.int .i64 (-1)), (.int .i64 (0))])),
 (69, [(.agg [(.int .i64 (-2)), (.int .i64 (1))]), (.agg [(.int .i64 (24)), (.int .i64 (1))])], (.tup [(.int .i64 (-1)), (.int .i64 (0))]))]
def E45 : Env := E44.plus t44
def t45 : Tab := [(69, [(.agg [(.int .i64 (-2)), (.int .i64 (1))]), (.agg [(.int .i64 (22)), (.int .i64 (1))])], (.tup [(.int .i64 (-1)), (.int .i64 (0))])),
 (69, [(.agg [(.int .i64 (-2)), (.int .i64 (1))]), (.agg [(.int .i64 (20)), (.int .i64 (1))])], (.tup [(.int .i64 (-1)), (.int .i64 (0))])),
 (69, [(.agg [(.int .i64 (-2)), (.int .i64 (1))]), (.agg [(.int .i64 (18)), (.int .i64 (1))])], (.tup [(.int .i64 (-1)), (.int .i64 (0))])),
 (69, [(.agg [(.int .i64 (-2)), (.int .i64 (1))]), (.agg [(.int .i64 (16)), (.int .i64 (1))])], (.tup [(.int .i64 (-1)), (.int .i64 (0))])),
 (69, [(.agg [(.int .i64 (-2)), (.int .i64 (1))]), (.agg [(.int .i64 (14)), (.int .i64 (1))])], (.tup [(.int .i64 (-1)), (.int .i64 (0))])),
 (69, [(.agg [(.int .i64 (-2)), (.int .i64 (1))]), (.agg [(.int .i64 (12)), (.int .i64 (1))])], (.tup [(.int .i64 (-1)), (.int .i64 (0))])),
 (69, [(.agg [(.int .i64 (-2)), (.int .i64 (1))]), (.agg [(.int .i64 (10)), (.int .i64 (1))])], (.tup [(.int .i64 (-1)), (.int .i64 (0))])),
 (69, [(.agg [(.int .i64 (-2)), (.int .i64 (1))]), (.agg [(.int .i64 (8)), (.int .i64 (1))])], (.tup [(.int .i64 (-1)), (.int .i64 (0))])),
 (69, [(.agg [(.int .i64 (-2)), (.int .i64 (1))]), (.agg [(.int .i64 (6)), (.int .i64 (1))])], (.tup [(.int .i64 (-1)), (.int .i64 (0))])),
 (69, [(.agg [(.int .i64 (-2)), (.int .i64 (1))]), (.agg [(.int .i64 (4)), (.int .i64 (1))])], (.tup [(.int .i64 (-1)), (.int .i64 (0))])),
 (69, [(.agg [(.int .i64 (-2)), (.int .i64 (1))]), (.agg [(.int .i64 (2)), (.int .i64 (1))])], (.tup [(.int .i64 (-1)), (.int .i64 (0))]))]
def E46 : Env := E45.plus t45
def t46 : Tab := [(69, [(.agg [(.int .i64 (-2)), (.int .i64 (1))]), (.agg [(.int .i64 (0)), (.int .i64 (1))])], (.tup [(.int .i64 (-1)), (.int .i64 (0))])),
 (69, [(.agg [(.int .i64 (0)), (.int .i64 (1))]), (.agg [(.int .i64 (-1)), (.int .i64 (1))])], (.tup [(.int .i64 (1)), (.int .i64 (0))])),
 (69, [(.agg [(.int .i64 (2)), (.int .i64 (1))]), (.agg [(.int .i64 (1)), (.int .i64 (1))])], (.tup [(.int .i64 (1)), (.int .i64 (0))])),
 (69, [(.agg [(.int .i64 (6)), (.int .i64 (1))]), (.agg [(.int .i64 (5)), (.int .i64 (1))])], (.tup [(.int .i64 (1)), (.int .i64 (0))])),
 (69, [(.agg [(.int .i64 (10)), (.int .i64 (1))]), (.agg [(.int .i64 (9)), (.int .i64 (1))])], (.tup [(.int .i64 (1)), (.int .i64 (0))])),
 (69, [(.agg [(.int .i64 (12)), (.int .i64 (1))]), (.agg [(.int .i64 (11)), (.int .i64 (1))])], (.tup [(.int .i64 (1)), (.int .i64 (0))])),
 (69, [(.agg [(.int .i64 (14)), (.int .i64 (1))]), (.agg [(.int .i64 (13)), (.int .i64 (1))])], (.tup [(.int .i64 (1)), (.int .i64 (0))]))]
def E47 : Env := E46.plus t46
def t47 : Tab := [(69, [(.agg [(.int .i64 (16)), (.int .i64 (1))]), (.agg [(.int .i64 (15)), (.int .i64 (1))])], (.tup [(.int .i64 (1)), (.int .i64 (0))])),
 (69, [(.agg [(.int .i64 (18)), (.int .i64 (1))]), (.agg [(.int .i64 (17)), (.int .i64 (1))])], (.tup [(.int .i64 (1)), (.int .i64 (0))])),
 (69, [(.agg [(.int .i64 (20)), (.int .i64 (1))]), (.agg [(.int .i64 (19)), (.int .i64 (1))])], (.tup [(.int .i64 (1)), (.int .i64 (0))])),
 (69, [(.agg [(.int .i64 (22)), (.int .i64 (1))]), (.agg [(.int .i64 (21)), (.int .i64 (1))])], (.tup [(.int .i64 (1)), (.int .i64 (0))])),
 (69, [(.agg [(.int .i64 (24)), (.int .i64 (1))]), (.agg [(.int .i64 (23)), (.int .i64 (1))])], (.tup [(.int .i64 (1)), (.int .i64 (0))])),
 (69, [(.agg [(.int .i64 (26)), (.int .i64 (1))]), (.agg [(.int .i64 (25)), (.int .i64 (1))])], (.tup [(.int .i64 (1)), (.int .i64 (0))]))]
def E48 : Env := E47.plus t47
def t48 : Tab := [(69, [(.agg [(.int .i64 (28)), (.int .i64 (1))]), (.agg [(.int .i64 (27)), (.int .i64 (1))])], (.tup [(.int .i64 (1)), (.int .i64 (0))])),
 (69, [(.agg [(.int .i64 (30)), (.int .i64 (1))]), (.agg [(.int .i64 (29)), (.int .i64 (1))])], (.tup [(.int .i64 (1)), (.int .i64 (0))])),
 (69, [(.agg [(.int .i64 (32)), (.int .i64 (1))]), (.agg [(.int .i64 (31)), (.int .i64 (1))])], (.tup [(.int .i64 (1)), (.int .i64 (0))])),
 (69, [(.agg [(.int .i64 (34)), (.int .i64 (1))]), (.agg [(.int .i64 (33)), (.int .i64 (1))])], (.tup [(.int .i64 (1)), (.int .i64 (0))])),
 (69, [(.agg [(.int .i64 (36)), (.int .i64 (1))]), (.agg [(.int .i64 (35)), (.int .i64 (1))])], (.tup [(.int .i64 (1)), (.int .i64 (0))])),
 (69, [(.agg [(.int .i64 (38)), (.int .i64 (1))]), (.agg [(.int .i64 (37)), (.int .i64 (1))])], (.tup [(.int .i64 (1)), (.int .i64 (0))]))]
def E49 : Env := E48.plus t48
def t49 : Tab := [(69, [(.agg [(.int .i64 (40)), (.int .i64 (1))]), (.agg [(.int .i64 (39)), (.int .i64 (1))])], (.tup [(.int .i64 (1)), (.int .i64 (0))])),
 (69, [(.agg [(.int .i64 (42)), (.int .i64 (1))]), (.agg [(.int .i64 (41)), (.int .i64 (1))])], (.tup [(.int .i64 (1)), (.int .i64 (0))])),
 (69, [(.agg [(.int .i64 (44)), (.int .i64 (1))]), (.agg [(.int .i64 (43)), (.int .i64 (1))])], (.tup [(.int .i64 (1)), (.int .i64 (0))])),
 (69, [(.agg [(.int .i64 (46)), (.int .i64 (1))]), (.agg [(.int .i64 (45)), (.int .i64 (1))])], (.tup [(.int .i64 (1)), (.int .i64 (0))])),
 (69, [(.agg [(.int .i64 (48)), (.int .i64 (1))]), (.agg [(.int .i64 (47)), (.int .i64 (1))])], (.tup [(.int .i64 (1)), (.int .i64 (0))])),
 (69, [(.agg [(.int .i64 (50)), (.int .i64 (1))]), (.agg [(.int .i64 (49)), (.int .i64 (1))])], (.tup [(.int .i64 (1)), (.int .i64 (0))]))]
def E50 : Env := E49.plus t49
def t50 : Tab := [(69, [(.agg [(.int .i64 (52)), (.int .i64 (1))]), (.agg [(.int .i64 (51)), (.int .i64 (1))])], (.tup [(.int .i64 (1)), (.int .i64 (0))])),
 (69, [(.agg [(.int .i64 (54)), (.int .i64 (1))]), (.agg [(.int .i64 (53)), (.int .i64 (1))])], (.tup [(.int .i64 (1)), (.int .i64 (0))])),
 (69, [(.agg [(.int .i64 (56)), (.int .i64 (1))]), (.agg [(.int .i64 (55)), (.int .i64 (1))])], (.tup [(.int .i64 (1)), (.int .i64 (0))])),
 (69, [(.agg [(.int .i64 (58)), (.int .i64 (1))]), (.agg [(.int .i64 (57)), (.int .i64 (1))])], (.tup [(.int .i64 (1)), (.int .i64 (0))])),
 (69, [(.agg [(.int .i64 (60)), (.int .i64 (1))]), (.agg [(.int .i64 (59)), (.int .i64 (1))])], (.tup [(.int .i64 (1)), (.int .i64 (0))])),
 (69, [(.agg [(.int .i64 (62)), (.int .i64 (1))]), (.agg [(.int .i64 (61)), (.int .i64 (1))])], (.tup [(.int .i64 (1)), (.int .i64 (0))]))]
def E51 : Env := E50.plus t50
def t51 : Tab := [(69, [(.agg [(.int .i64 (64)), (.int .i64 (1))]), (.agg [(.int .i64 (63)), (.int .i64 (1))])], (.tup [(.int .i64 (1)), (.int .i64 (0))])),
 (69, [(.agg [(.int .i64 (66)), (.int .i64 (1))]), (.agg [(.int .i64 (65)), (.int .i64 (1))])], (.tup [(.int .i64 (1)), (.int .i64 (0))])),
 (69, [(.agg [(.int .i64 (68)), (.int .i64 (1))]), (.agg [(.int .i64 (67)), (.int .i64 (1))])], (.tup [(.int .i64 (1)), (.int .i64 (0))])),
 (69, [(.agg [(.int .i64 (70)), (.int .i64 (1))]), (.agg [(.int .i64 (69)), (.int .i64 (1))])], (.tup [(.int .i64 (1)), (.int .i64 (0))])),
 (69, [(.agg [(.int .i64 (72)), (.int .i64 (1))]), (.agg [(.int .i64 (71)), (.int .i64 (1))])], (.tup [(.int .i64 (1)), (.int .i64 (0))])),
 (69, [(.agg [(.int .i64 (74)), (.int .i64 (1))]), (.agg [(.int .i64 (73)), (.int .i64 (1))])], (.tup [(.int .i64 (1)), (.int .i64 (0))]))]
def E52 : Env := E51.plus t51
def t52 : Tab := [(69, [(.agg [(.int .i64 (76)), (.int .i64 (1))]), (.agg [(.int .i64 (75)), (.int .i64 (1))])], (.tup [(.int .i64 (1)), (.int .i64 (0))])),
 (69, [(.agg [(.int .i64 (78)), (.int .i64 (1))]), (.agg [(.int .i64 (77)), (.int .i64 (1))])], (.tup [(.int .i64 (1)), (.int .i64 (0))])),
 (69, [(.agg [(.int .i64 (80)), (.int .i64 (1))]), (.agg [(.int .i64 (79)), (.int .i64 (1))])], (.tup [(.int .i64 (1)), (.int .i64 (0))])),
 (69, [(.agg [(.int .i64 (82)), (.int .i64 (1))]), (.agg [(.int .i64 (81)), (.int .i64 (1))])], (.tup [(.int .i64 (1)), (.int .i64 (0))])),
 (69, [(.agg [(.int .i64 (84)), (.int .i64 (1))]), (.agg [(.int .i64 (83)), (.int .i64 (1))])], (.tup [(.int .i64 (1)), (.int .i64 (0))])),
 (69, [(.agg [(.int .i64 (86)), (.int .i64 (1))]), (.agg [(.int .i64 (85)), (.int .i64 (1))])], (.tup [(.int .i64 (1)), (.int .i64 (0))]))]
def E53 : Env := E52.plus t52
def t53 : Tab := [(69, [(.agg [(.int .i64 (88)), (.int .i64 (1))]), (.agg [(.int .i64 (87)), (.int .i64 (1))])], (.tup [(.int .i64 (1)), (.int .i64 (0))])),
 (69, [(.agg [(.int .i64 (90)), (.int .i64 (1))]), (.agg [(.int .i64 (89)), (.int .i64 (1))])], (.tup [(.int .i64 (1)), (.int .i64 (0))])),
 (69, [(.agg [(.int .i64 (92)), (.int .i64 (1))]), (.agg [(.int .i64 (91)), (.int .i64 (1))])], (.tup [(.int .i64 (1)), (.int .i64 (0))])),
 (69, [(.agg [(.int .i64 (94)), (.int .i64 (1))]), (.agg [(.int .i64 (93)), (.int .i64 (1))])], (.tup [(.int .i64 (1)), (.int .i64 (0))])),
 (69, [(.agg [(.int .i64 (96)), (.int .i64 (1))]), (.agg [(.int .i64 (95)), (.int .i64 (1))])], (.tup [(.int .i64 (1)), (.int .i64 (0))])),
 (69, [(.agg [(.int .i64 (98)), (.int .i64 (1))]), (.agg [(.int .i64 (97)), (.int .i64 (1))])], (.tup [(.int .i64 (1)), (.int .i64 (0))]))]
def E54 : Env := E53.plus t53
def t54 : Tab := [(69, [(.agg [(.int .i64 (100)), (.int .i64 (1))]), (.agg [(.int .i64 (99)), (.int .i64 (1))])], (.tup [(.int .i64 (1)), (.int .i64 (0))])),
 (69, [(.agg [(.int .i64 (102)), (.int .i64 (1))]), (.agg [(.int .i64 (101)), (.int .i64 (1))])], (.tup [(.int .i64 (1)), (.int .i64 (0))])),
 (69, [(.agg [(.int .i64 (104)), (.int .i64 (1))]), (.agg [(.int .i64 (103)), (.int .i64 (1))])], (.tup [(.int .i64 (1)), (.int .i64 (0))])),
 (69, [(.agg [(.int .i64 (106)), (.int .i64 (1))]), (.agg [(.int .i64 (105)), (.int .i64 (1))])], (.tup [(.int .i64 (1)), (.int .i64 (0))])),
 (69, [(.agg [(.int .i64 (108)), (.int .i64 (1))]), (.agg [(.int .i64 (107)), (.int .i64 (1))])], (.tup [(.int .i64 (1)), (.int .i64 (0))])),
 (69, [(.agg [(.int .i64 (110)), (.int .i64 (1))]), (.agg [(.int .i64 (109)), (.int .i64 (1))])], (.tup [(.int .i64 (1)), (.int .i64 (0))]))]
def E55 : Env := E54.plus t54
def t55 : Tab := [(69, [(.agg [(.int .i64 (112)), (.int .i64 (1))]), (.agg [(.int .i64 (111)), (.int .i64 (1))])], (.tup [(.int .i64 (1)), (.int .i64 (0))])),
 (69, [(.agg [(.int .i64 (114)), (.int .i64 (1))]), (.agg [(.int .i64 (113)), (.int .i64 (1))])], (.tup [(.int .i64 (1)), (.int .i64 (0))])),
 (69, [(.agg [(.int .i64 (116)), (.int .i64 (1))]), (.agg [(.int .i64 (115)), (.int .i64 (1))])], (.tup [(.int .i64 (1)), (.int .i64 (0))])),
 (69, [(.agg [(.int .i64 (118)), (.int .i64 (1))]), (.agg [(.int .i64 (117)), (.int .i64 (1))])], (.tup [(.int .i64 (1)), (.int .i64 (0))]))]
def E56 : Env := E55.plus t55
def t56 : Tab := [(39, [(.data [(.agg [(.int .i64 (0)), (.int .i64 (1)), (.int .i64 (1)), (.int .i64 (1))]), (.agg [(.int .i64 (2)), (.int .i64 (1)), (.int .i64 (3)), (.int .i64 (1))]), (.agg [(.int .i64 (4)), (.int .i64 (1)), (.int .i64 (5)), (.int .i64 (1))]), (.agg [(.int .i64 (6)), (.int .i64 (1)), (.int .i64 (7)), (.int .i64 (1))]), (.agg [(.int .i64 (8)), (.int .i64 (1)), (.int .i64 (9)), (.int .i64 (1))]), (.agg [(.int .i64 (10)), (.int .i64 (1)), (.int .i64 (11)), (.int .i64 (1))]), (.agg [(.int .i64 (12)), (.int .i64 (1)), (.int .i64 (13)), (.int .i64 (1))]), (.agg [(.int .i64 (14)), (.int .i64 (1)), (.int .i64 (15)), (.int .i64 (1))]), (.agg [(.int .i64 (16)), (.int .i64 (1)), (.int .i64 (17)), (.int .i64 (1))]), (.agg [(.int .i64 (18)), (.int .i64 (1)), (.int .i64 (19)), (.int .i64 (1))]), (.agg [(.int .i64 (20)), (.int .i64 (1)), (.int .i64 (21)), (.int .i64 (1))]), (.agg [(.int .i64 (22)), (.int .i64 (1)), (.int .i64 (23)), (.int .i64 (1))]), (.agg [(.int .i64 (24)), (.int .i64 (1)), (.int .i64 (25)), (.int .i64 (1))]), (.agg [(.int .i64 (26)), (.int .i64 (1)), (.int .i64 (27)), (.int .i64 (1))]), (.agg [(.int .i64 (28)), (.int .i64 (1)), (.int .i64 (29)), (.int .i64 (1))]), (.agg [(.int .i64 (30)), (.int .i64 (1)), (.int .i64 (31)), (.int .i64 (1))]), (.agg [(.int .i64 (32)), (.int .i64 (1)), (.int .i64 (33)), (.int .i64 (1))]), (.agg [(.int .i64 (34)), (.int .i64 (1)), (.int .i64 (35)), (.int .i64 (1))]), (.agg [(.int .i64 (36)), (.int .i64 (1)), (.int .i64 (37)), (.int .i64 (1))]), (.agg [(.int .i64 (38)), (.int .i64 (1)), (.int .i64 (39)), (.int .i64 (1))]), (.agg [(.int .i64 (40)), (.int .i64 (1)), (.int .i64 (41)), (.int .i64 (1))]), (.agg [(.int .i64 (42)), (.int .i64 (1)), (.int .i64 (43)), (.int .i64 (1))]), (.agg [(.int .i64 (44)), (.int .i64 (1)), (.int .i64 (45)), (.int .i64 (1))]), (.agg [(.int .i64 (46)), (.int .i64 (1)), (.int .i64 (47)), (.int .i64 (1))]), (.agg [(.int .i64 (48)), (.int .i64 (1)), (.int .i64 (49)), (.int .i64 (1))]), (.agg [(.int .i64 (50)), (.int .i64 (1)), (.int .i64 (51)), (.int .i64 (1))]), (.agg [(.int .i64 (52)), (.int .i64 (1)), (.int .i64 (53)), (.int .i64 (1))]), (.agg [(.int .i64 (54)), (.int .i64 (1)), (.int .i64 (55)), (.int .i64 (1))]), (.agg [(.int .i64 (56)), (.int .i64 (1)), (.int .i64 (57)), (.int .i64 (1))]), (.agg [(.int .i64 (58)), (.int .i64 (1)), (.int .i64 (59)), (.int .i64 (1))]), (.agg [(.int .i64 (60)), (.int .i64 (1)), (.int .i64 (61)), (.int .i64 (1))]), (.agg [(.int .i64 (62)), (.int .i64 (1)), (.int .i64 (63)), (.int .i64 (1))]), (.agg [(.int .i64 (64)), (.int .i64 (1)), (.int .i64 (65)), (.int .i64 (1))]), (.agg [(.int .i64 (66)), (.int .i64 (1)), (.int .i64 (67)), (.int .i64 (1))]), (.agg [(.int .i64 (68)), (.int .i64 (1)), (.int .i64 (69)), (.int .i64 (1))]), (.agg [(.int .i64 (70)), (.int .i64 (1)), (.int .i64 (71)), (.int .i64 (1))]), (.agg [(.int .i64 (72)), (.int .i64 (1)), (.int .i64 (73)), (.int .i64 (1))]), (.agg [(.int .i64 (74)), (.int .i64 (1)), (.int .i64 (75)), (.int .i64 (1))]), (.agg [(.int .i64 (76)), (.int .i64 (1)), (.int .i64 (77)), (.int .i64 (1))]), (.agg [(.int .i64 (78)), (.int .i64 (1)), (.int .i64 (79)), (.int .i64 (1))]), (.agg [(.int .i64 (80)), (.int .i64 (1)), (.int .i64 (81)), (.int .i64 (1))]), (.agg [(.int .i64 (82)), (.int .i64 (1)), (.int .i64 (83)), (.int .i64 (1))]), (.agg [(.int .i64 (84)), (.int .i64 (1)), (.int .i64 (85)), (.int .i64 (1))]), (.agg [(.int .i64 (86)), (.int .i64 (1)), (.int .i64 (87)), (.int .i64 (1))]), (.agg [(.int .i64 (88)), (.int .i64 (1)), (.int .i64 (89)), (.int .i64 (1))]), (.agg [(.int .i64 (90)), (.int .i64 (1)), (.int .i64 (91)), (.int .i64 (1))]), (.agg [(.int .i64 (92)), (.int .i64 (1)), (.int .i64 (93)), (.int .i64 (1))]), (.agg [(.int .i64 (94)), (.int .i64 (1)), (.int .i64 (95)), (.int .i64 (1))]), (.agg [(.int .i64 (96)), (.int .i64 (1)), (.int .i64 (97)), (.int .i64 (1))]), (.agg [(.int .i64 (98)), (.int .i64 (1)), (.int .i64 (99)), (.int .i64 (1))]), (.agg [(.int .i64 (100)), (.int .i64 (1)), (.int .i64 (101)), (.int .i64 (1))]), (.agg [(.int .i64 (102)), (.int .i64 (1)), (.int .i64 (103)), (.int .i64 (1))]), (.agg [(.int .i64 (104)), (.int .i64 (1)), (.int .i64 (105)), (.int .i64 (1))]), (.agg [(.int .i64 (106)), (.int .i64 (1)), (.int .i64 (107)), (.int .i64 (1))]), (.agg [(.int .i64 (108)), (.int .i64 (1)), (.int .i64 (109)), (.int .i64 (1))]), (.agg [(.int .i64 (110)), (.int .i64 (1)), (.int .i64 (111)), (.int .i64 (1))]), (.agg [(.int .i64 (112)), (.int .i64 (1)), (.int .i64 (113)), (.int .i64 (1))]), (.agg [(.int .i64 (114)), (.int .i64 (1)), (.int .i64 (115)), (.int .i64 (1))]), (.agg [(.int .i64 (116)), (.int .i64 (1)), (.int .i64 (117)), (.int .i64 (1))]), (.agg [(.int .i64 (118)), (.int .i64 (1)), (.int .i64 (119)), (.int .i64 (1))]), (.agg [(.int .i64 (-2)), (.int .i64 (1)), (.int .i64 (-1)), (.int .i64 (1))])])], (.data [(.agg [(.int .i64 (-2)), (.int .i64 (1)), (.int .i64 (-1)), (.int .i64 (1))]), (.agg [(.int .i64 (0)), (.int .i64 (1)), (.int .i64 (1)), (.int .i64 (1))]), (.agg [(.int .i64 (2)), (.int .i64 (1)), (.int .i64 (3)), (.int .i64 (1))]), (.agg [(.int .i64 (4)), (.int .i64 (1)), (.int .i64 (5)), (.int .i64 (1))]), (.agg [(.int .i64 (6)), (.int .i64 (1)), (.int .i64 (7)), (.int .i64 (1))]), (.agg [(.int .i64 (8)), (.int .i64 (1)), (.int .i64 (9)), (.int .i64 (1))]), (.agg [(.int .i64 (10)), (.int .i64 (1)), (.int .i64 (11)), (.int .i64 (1))]), (.agg [(.int .i64 (12)), (.int .i64 (1)), (.int .i64 (13)), (.int .i64 (1))]), (.agg [(.int .i64 (14)), (.int .i64 (1)), (.int .i64 (15)), (.int .i64 (1))]), (.agg [(.int .i64 (16)), (.int .i64 (1)), (.int .i64 (17)), (.int .i64 (1))]), (.agg [(.int .i64 (18)), (.int .i64 (1)), (.int .i64 (19)), (.int .i64 (1))]), (.agg [(.int .i64 (20)), (.int .i64 (1)), (.int .i64 (21)), (.int .i64 (1))]), (.agg [(.int .i64 (22)), (.int .i64 (1)), (.int .i64 (23)), (.int .i64 (1))]), (.agg [(.int .i64 (24)), (.int .i64 (1)), (.int .i64 (25)), (.int .i64 (1))]), (.agg [(.int .i64 (26)), (.int .i64 (1)), (.int .i64 (27)), (.int .i64 (1))]), (.agg [(.int .i64 (28)), (.int .i64 (1)), (.int .i64 (29)), (.int .i64 (1))]), (.agg [(.int .i64 (30)), (.int .i64 (1)), (.int .i64 (31)), (.int .i64 (1))]), (.agg [(.int .i64 (32)), (.int .i64 (1)), (.int .i64 (33)), (.int .i64 (1))]), (.agg [(.int .i64 (34)), (.int .i64 (1)), (.int .i64 (35)), (.int .i64 (1))]), (.agg [(.int .i64 (36)), (.int .i64 (1)), (.int .i64 (37)), (.int .i64 (1))]), (.agg [(.int .i64 (38)), (.int .i64 (1)), (.int .i64 (39)), (.int .i64 (1))]), (.agg [(.int .i64 (40)), (.int .i64 (1)), (.int .i64 (41)), (.int .i64 (1))]), (.agg [(.int .i64 (42)), (.int .i64 (1)), (.int .i64 (43)), (.int .i64 (1))]), (.agg [(.int .i64 (44)), (.int .i64 (1)), (.int .i64 (45)), (.int .i64 (1))]), (.agg [(.int .i64 (46)), (.int .i64 (1)), (.int .i64 (47)), (.int .i64 (1))]), (.agg [(.int .i64 (48)), (.int .i64 (1)), (.int .i64 (49)), (.int .i64 (1))]), (.agg [(.int .i64 (50)), (.int .i64 (1)), (.int .i64 (51)), (.int .i64 (1))]), (.agg [(.int .i64 (52)), (.int .i64 (1)), (.int .i64 (53)), (.int .i64 (1))]), (.agg [(.int .i64 (54)), (.int .i64 (1)), (.int .i64 (55)), (.int .i64 (1))]), (.agg [(.int .i64 (56)), (.int .i64 (1)), (.int .i64 (57)), (.int .i64 (1))]), (.agg [(.int .i64 (58)), (.int .i64 (1)), (.int .i64 (59)), (.int .i64 (1))]), (.agg [(.int .i64 (60)), (.int .i64 (1)), (.int .i64 (61)), (.int .i64 (1))]), (.agg [(.int .i64 (62)), (.int .i64 (1)), (.int .i64 (63)), (.int .i64 (1))]), (.agg [(.int .i64 (64)), (.int .i64 (1)), (.int .i64 (65)), (.int .i64 (1))]), (.agg [(.int .i64 (66)), (.int .i64 (1)), (.int .i64 (67)), (.int .i64 (1))]), (.agg [(.int .i64 (68)), (.int .i64 (1)), (.int .i64 (69)), (.int .i64 (1))]), (.agg [(.int .i64 (70)), (.int .i64 (1)), (.int .i64 (71)), (.int .i64 (1))]), (.agg [(.int .i64 (72)), (.int .i64 (1)), (.int .i64 (73)), (.int .i64 (1))]), (.agg [(.int .i64 (74)), (.int .i64 (1)), (.int .i64 (75)), (.int .i64 (1))]), (.agg [(.int .i64 (76)), (.int .i64 (1)), (.int .i64 (77)), (.int .i64 (1))]), (.agg [(.int .i64 (78)), (.int .i64 (1)), (.int .i64 (79)), (.int .i64 (1))]), (.agg [(.int .i64 (80)), (.int .i64 (1)), (.int .i64 (81)), (.int .i64 (1))]), (.agg [(.int .i64 (82)), (.int .i64 (1)), (.int .i64 (83)), (.int .i64 (1))]), (.agg [(.int .i64 (84)), (.int .i64 (1)), (.int .i64 (85)), (.int .i64 (1))]), (.agg [(.int .i64 (86)), (.int .i64 (1)), (.int .i64 (87)), (.int .i64 (1))]), (.agg [(.int .i64 (88)), (.int .i64 (1)), (.int .i64 (89)), (.int .i64 (1))]), (.agg [(.int .i64 (90)), (.int .i64 (1)), (.int .i64 (91)), (.int .i64 (1))]), (.agg [(.int .i64 (92)), (.int .i64 (1)), (.int .i64 (93)), (.int .i64 (1))]), (.agg [(.int .i64 (94)), (.int .i64 (1)), (.int .i64 (95)), (.int .i64 (1))]), (.agg [(.int .i64 (96)), (.int .i64 (1)), (.int .i64 (97)), (.int .i64 (1))]), (.agg [(.int .i64 (98)), (.int .i64 (1)), (.int .i64 (99)), (.int .i64 (1))]), (.agg [(.int .i64 (100)), (.int .i64 (1)), (.int .i64 (101)), (.int .i64 (1))]), (.agg [(.int .i64 (102)), (.int .i64 (1)), (.int .i64 (103)), (.int .i64 (1))]), (.agg [(.int .i64 (104)), (.int .i64 (1)), (.int .i64 (105)), (.int .i64 (1))]), (.agg [(.int .i64 (106)), (.int .i64 (1)), (.int .i64 (107)), (.int .i64 (1))]), (.agg [(.int .i64 (108)), (.int .i64 (1)), (.int .i64 (109)), (.int .i64 (1))]), (.agg [(.int .i64 (110)), (.int .i64 (1)), (.int .i64 (111)), (.int .i64 (1))]), (.agg [(.int .i64 (112)), (.int .i64 (1)), (.int .i64 (113)), (.int .i64 (1))]), (.agg [(.int .i64 (114)), (.int .i64 (1)), (.int .i64 (115)), (.int .i64 (1))]), (.agg [(.int .i64 (116)), (.int .i64 (1)), (.int .i64 (117)), (.int .i64 (1))]), (.agg [(.int .i64 (118)), (.int .i64 (1)), (.int .i64 (119)), (.int .i64 (1))])]))]
def E57 : Env := E56.plus t56
def t57 : Tab := [(10, [(.data [(.agg [(.int .i64 (0)), (.int .i64 (1)), (.int .i64 (1)), (.int .i64 (1))]), (.agg [(.int .i64 (2)), (.int .i64 (1)), (.int .i64 (3)), (.int .i64 (1))]), (.agg [(.int .i64 (4)), (.int .i64 (1)), (.int .i64 (5)), (.int .i64 (1))]), (.agg [(.int .i64 (6)), (.int .i64 (1)), (.int .i64 (7)), (.int .i64 (1))]), (.agg [(.int .i64 (8)), (.int .i64 (1)), (.int .i64 (9)), (.int .i64 (1))]), (.agg [(.int .i64 (10)), (.int .i64 (1)), (.int .i64 (11)), (.int .i64 (1))]), (.agg [(.int .i64 (12)), (.int .i64 (1)), (.int .i64 (13)), (.int .i64 (1))]), (.agg [(.int .i64 (14)), (.int .i64 (1)), (.int .i64 (15)), (.int .i64 (1))]), (.agg [(.int .i64 (16)), (.int .i64 (1)), (.int .i64 (17)), (.int .i64 (1))]), (.agg [(.int .i64 (18)), (.int .i64 (1)), (.int .i64 (19)), (.int .i64 (1))]), (.agg [(.int .i64 (20)), (.int .i64 (1)), (.int .i64 (21)), (.int .i64 (1))]), (.agg [(.int .i64 (22)), (.int .i64 (1)), (.int .i64 (23)), (.int .i64 (1))]), (.agg [(.int .i64 (24)), (.int .i64 (1)), (.int .i64 (25)), (.int .i64 (1))]), (.agg [(.int .i64 (26)), (.int .i64 (1)), (.int .i64 (27)), (.int .i64 (1))]), (.agg [(.int .i64 (28)), (.int .i64 (1)), (.int .i64 (29)), (.int .i64 (1))]), (.agg [(.int .i64 (30)), (.int .i64 (1)), (.int .i64 (31)), (.int .i64 (1))]), (.agg [(.int .i64 (32)), (.int .i64 (1)), (.int .i64 (33)), (.int .i64 (1))]), (.agg [(.int .i64 (34)), (.int .i64 (1)), (.int .i64 (35)), (.int .i64 (1))]), (.agg [(.int .i64 (36)), (.int .i64 (1)), (.int .i64 (37)), (.int .i64 (1))]), (.agg [(.int .i64 (38)), (.int .i64 (1)), (.int .i64 (39)), (.int .i64 (1))]), (.agg [(.int .i64 (40)), (.int .i64 (1)), (.int .i64 (41)), (.int .i64 (1))]), (.agg [(.int .i64 (42)), (.int .i64 (1)), (.int .i64 (43)), (.int .i64 (1))]), (.agg [(.int .i64 (44)), (.int .i64 (1)), (.int .i64 (45)), (.int .i64 (1))]), (.agg [(.int .i64 (46)), (.int .i64 (1)), (.int .i64 (47)), (.int .i64 (1))]), (.agg [(.int .i64 (48)), (.int .i64 (1)), (.int .i64 (49)), (.int .i64 (1))]), (.agg [(.int .i64 (50)), (.int .i64 (1)), (.int .i64 (51)), (.int .i64 (1))]), (.agg [(.int .i64 (52)), (.int .i64 (1)), (.int .i64 (53)), (.int .i64 (1))]), (.agg [(.int .i64 (54)), (.int .i64 (1)), (.int .i64 (55)), (.int .i64 (1))]), (.agg [(.int .i64 (56)), (.int .i64 (1)), (.int .i64 (57)), (.int .i64 (1))]), (.agg [(.int .i64 (58)), (.int .i64 (1)), (.int .i64 (59)), (.int .i64 (1))]), (.agg [(.int .i64 (60)), (.int .i64 (1)), (.int .i64 (61)), (.int .i64 (1))]), (.agg [(.int .i64 (62)), (.int .i64 (1)), (.int .i64 (63)), (.int .i64 (1))]), (.agg [(.int .i64 (64)), (.int .i64 (1)), (.int .i64 (65)), (.int .i64 (1))]), (.agg [(.int .i64 (66)), (.int .i64 (1)), (.int .i64 (67)), (.int .i64 (1))]), (.agg [(.int .i64 (68)), (.int .i64 (1)), (.int .i64 (69)), (.int .i64 (1))]), (.agg [(.int .i64 (70)), (.int .i64 (1)), (.int .i64 (71)), (.int .i64 (1))]), (.agg [(.int .i64 (72)), (.int .i64 (1)), (.int .i64 (73)), (.int .i64 (1))]), (.agg [(.int .i64 (74)), (.int .i64 (1)), (.int .i64 (75)), (.int .i64 (1))]), (.agg [(.int .i64 (76)), (.int .i64 (1)), (.int .i64 (77)), (.int .i64 (1))]), (.agg [(.int .i64 (78)), (.int .i64 (1)), (.int .i64 (79)), (.int .i64 (1))]), (.agg [(.int .i64 (80)), (.int .i64 (1)), (.int .i64 (81)), (.int .i64 (1))]), (.agg [(.int .i64 (82)), (.int .i64 (1)), (.int .i64 (83)), (.int .i64 (1))]), (.agg [(.int .i64 (84)), (.int .i64 (1)), (.int .i64 (85)), (.int .i64 (1))]), (.agg [(.int .i64 (86)), (.int .i64 (1)), (.int .i64 (87)), (.int .i64 (1))]), (.agg [(.int .i64 (88)), (.int .i64 (1)), (.int .i64 (89)), (.int .i64 (1))]), (.agg [(.int .i64 (90)), (.int .i64 (1)), (.int .i64 (91)), (.int .i64 (1))]), (.agg [(.int .i64 (92)), (.int .i64 (1)), (.int .i64 (93)), (.int .i64 (1))]), (.agg [(.int .i64 (94)), (.int .i64 (1)), (.int .i64 (95)), (.int .i64 (1))]), (.agg [(.int .i64 (96)), (.int .i64 (1)), (.int .i64 (97)), (.int .i64 (1))]), (.agg [(.int .i64 (98)), (.int .i64 (1)), (.int .i64 (99)), (.int .i64 (1))]), (.agg [(.int .i64 (100)), (.int .i64 (1)), (.int .i64 (101)), (.int .i64 (1))]), (.agg [(.int .i64 (102)), (.int .i64 (1)), (.int .i64 (103)), (.int .i64 (1))]), (.agg [(.int .i64 (104)), (.int .i64 (1)), (.int .i64 (105)), (.int .i64 (1))]), (.agg [(.int .i64 (106)), (.int .i64 (1)), (.int .i64 (107)), (.int .i64 (1))]), (.agg [(.int .i64 (108)), (.int .i64 (1)), (.int .i64 (109)), (.int .i64 (1))]), (.agg [(.int .i64 (110)), (.int .i64 (1)), (.int .i64 (111)), (.int .i64 (1))]), (.agg [(.int .i64 (112)), (.int .i64 (1)), (.int .i64 (113)), (.int .i64 (1))]), (.agg [(.int .i64 (114)), (.int .i64 (1)), (.int .i64 (115)), (.int .i64 (1))]), (.agg [(.int .i64 (116)), (.int .i64 (1)), (.int .i64 (117)), (.int .i64 (1))]), (.agg [(.int .i64 (118)), (.int .i64 (1)), (.int .i64 (119)), (.int .i64 (1))])]), (.data [(.agg [(.int .i64 (-2)), (.int .i64 (1)), (.int .i64 (-1)), (.int .i64 (1))])])], (.tup [(.data []), (.int .i64 (4))])),
 (69, [(.agg [(.int .i64 (1)), (.int .i64 (1))]), (.agg [(.int .i64 (1)), (.int .i64 (1))])], (.tup [(.int .i64 (0)), (.int .i64 (0))])),
 (69, [(.agg [(.int .i64 (2)), (.int .i64 (1))]), (.agg [(.int .i64 (2)), (.int .i64 (1))])], (.tup [(.int .i64 (0)), (.int .i64 (0))])),
 (69, [(.agg [(.int .i64 (7)), (.int .i64 (1))]), (.agg [(.int .i64 (9)), (.int .i64 (1))])], (.tup [(.int .i64 (-1)), (.int .i64 (0))])),
 (69, [(.agg [(.int .i64 (9)), (.int .i64 (1))]), (.agg [(.int .i64 (8)), (.int .i64 (1))])], (.tup [(.int .i64 (1)), (.int .i64 (0))])),
 (69, [(.agg [(.int .i64 (-1)), (.int .i64 (1))]), (.agg [(.int .i64 (1)), (.int .i64 (1))])], (.tup [(.int .i64 (-1)), (.int .i64 (0))])),
 (79, [(.agg [(.int .i64 (1)), (.int .i64 (1000000000000000000))]), (.agg [(.int .i64 (1)), (.int .i64 (999999999999999999))])], (.int .i64 (0))),
 (69, [(.agg [(.int .i64 (1)), (.int .i64 (1000000000000000000))]), (.agg [(.int .i64 (1)), (.int .i64 (999999999999999999))])], (.tup [(.int .i64 (-1)), (.int .i64 (0))]))]
def E58 : Env := E57.plus t57
def t58 : Tab := [(79, [(.agg [(.int .i64 (1)), (.int .i64 (999999999999999999))]), (.agg [(.int .i64 (1)), (.int .i64 (1000000000000000000))])], (.int .i64 (0))),
 (79, [(.agg [(.int .i64 (1)), (.int .i64 (999999999999999999))]), (.agg [(.int .i64 (-1)), (.int .i64 (1000000000000000000))])], (.int .i64 (0))),
 (61, [(.agg [(.int .i64 (1)), (.int .i64 (999999999999999999))]), (.agg [(.int .i64 (-1)), (.int .i64 (1000000000000000000))])], (.tup [(.agg [(.int .i64 (0)), (.int .i64 (0))]), (.int .i64 (16))])),
 (69, [(.agg [(.int .i64 (3)), (.int .i64 (1))]), (.agg [(.int .i64 (0)), (.int .i64 (1))])], (.tup [(.int .i64 (1)), (.int .i64 (0))])),
 (69, [(.agg [(.int .i64 (2)), (.int .i64 (1))]), (.agg [(.int .i64 (5)), (.int .i64 (1))])], (.tup [(.int .i64 (-1)), (.int .i64 (0))])),
 (69, [(.agg [(.int .i64 (5)), (.int .i64 (1))]), (.agg [(.int .i64 (2)), (.int .i64 (1))])], (.tup [(.int .i64 (1)), (.int .i64 (0))])),
 (39, [(.data [(.agg [(.int .i64 (2)), (.int .i64 (1)), (.int .i64 (5)), (.int .i64 (1))]), (.agg [(.int .i64 (0)), (.int .i64 (1)), (.int .i64 (1)), (.int .i64 (1))]), (.agg [(.int .i64 (1)), (.int .i64 (1)), (.int .i64 (2)), (.int .i64 (1))])])], (.data [(.agg [(.int .i64 (0)), (.int .i64 (1)), (.int .i64 (5)), (.int .i64 (1))])]))]
def E59 : Env := E58.plus t58
def t59 : Tab := [(69, [(.agg [(.int .i64 (0)), (.int .i64 (1))]), (.agg [(.int .i64 (5)), (.int .i64 (1))])], (.tup [(.int .i64 (-1)), (.int .i64 (0))])),
 (22, [(.data [(.agg [(.int .i64 (0)), (.int .i64 (1)), (.int .i64 (5)), (.int .i64 (1))])]), (.agg [(.int .i64 (4)), (.int .i64 (1))])], (.tup [(.bool true), (.int .i64 (0))])),
 (69, [(.agg [(.int .i64 (5)), (.int .i64 (1))]), (.agg [(.int .i64 (5)), (.int .i64 (1))])], (.tup [(.int .i64 (0)), (.int .i64 (0))])),
 (22, [(.data [(.agg [(.int .i64 (0)), (.int .i64 (1)), (.int .i64 (5)), (.int .i64 (1))])]), (.agg [(.int .i64 (5)), (.int .i64 (1))])], (.tup [(.bool false), (.int .i64 (0))])),
 (69, [(.agg [(.int .i64 (1)), (.int .i64 (1))]), (.agg [(.int .i64 (5)), (.int .i64 (1))])], (.tup [(.int .i64 (-1)), (.int .i64 (0))])),
 (14, [(.data [(.agg [(.int .i64 (0)), (.int .i64 (1)), (.int .i64 (5)), (.int .i64 (1))])]), (.data [(.agg [(.int .i64 (1)), (.int .i64 (1)), (.int .i64 (2)), (.int .i64 (1))])])], (.tup [(.data [(.agg [(.int .i64 (0)), (.int .i64 (1)), (.int .i64 (1)), (.int .i64 (1))]), (.agg [(.int .i64 (2)), (.int .i64 (1)), (.int .i64 (5)), (.int .i64 (1))])]), (.int .i64 (0))])),
 (61, [(.agg [(.int .i64 (1)), (.int .i64 (1))]), (.agg [(.int .i64 (0)), (.int .i64 (1))])], (.tup [(.agg [(.int .i64 (1)), (.int .i64 (1))]), (.int .i64 (0))]))]
def E60 : Env := E59.plus t59
def t60 : Tab := [(60, [(.agg [(.int .i64 (1)), (.int .i64 (1))]), (.agg [(.int .i64 (0)), (.int .i64 (1))])], (.tup [(.agg [(.int .i64 (1)), (.int .i64 (1))]), (.int .i64 (0))])),
 (61, [(.agg [(.int .i64 (0)), (.int .i64 (1))]), (.agg [(.int .i64 (1)), (.int .i64 (1))])], (.tup [(.agg [(.int .i64 (1)), (.int .i64 (1))]), (.int .i64 (0))])),
 (61, [(.agg [(.int .i64 (5)), (.int .i64 (1))]), (.agg [(.int .i64 (-2)), (.int .i64 (1))])], (.tup [(.agg [(.int .i64 (3)), (.int .i64 (1))]), (.int .i64 (0))])),
 (60, [(.agg [(.int .i64 (5)), (.int .i64 (1))]), (.agg [(.int .i64 (2)), (.int .i64 (1))])], (.tup [(.agg [(.int .i64 (3)), (.int .i64 (1))]), (.int .i64 (0))])),
 (61, [(.agg [(.int .i64 (1)), (.int .i64 (1))]), (.agg [(.int .i64 (3)), (.int .i64 (1))])], (.tup [(.agg [(.int .i64 (4)), (.int .i64 (1))]), (.int .i64 (0))])),
 (29, [(.data [(.agg [(.int .i64 (0)), (.int .i64 (1)), (.int .i64 (1)), (.int .i64 (1))]), (.agg [(.int .i64 (2)), (.int .i64 (1)), (.int .i64 (5)), (.int .i64 (1))])])], (.tup [(.agg [(.int .i64 (4)), (.int .i64 (1))]), (.int .i64 (0))]))]
def E61 : Env := E60.plus t60
def t61 : Tab := [(69, [(.agg [(.int .i64 (1)), (.int .i64 (1))]), (.agg [(.int .i64 (3)), (.int .i64 (1))])], (.tup [(.int .i64 (-1)), (.int .i64 (0))])),
 (69, [(.agg [(.int .i64 (3)), (.int .i64 (1))]), (.agg [(.int .i64 (1)), (.int .i64 (1))])], (.tup [(.int .i64 (1)), (.int .i64 (0))])),
 (69, [(.agg [(.int .i64 (5)), (.int .i64 (1))]), (.agg [(.int .i64 (3)), (.int .i64 (1))])], (.tup [(.int .i64 (1)), (.int .i64 (0))])),
 (69, [(.agg [(.int .i64 (3)), (.int .i64 (1))]), (.agg [(.int .i64 (5)), (.int .i64 (1))])], (.tup [(.int .i64 (-1)), (.int .i64 (0))])),
 (25, [(.data [(.agg [(.int .i64 (0)), (.int .i64 (1)), (.int .i64 (1)), (.int .i64 (1))]), (.agg [(.int .i64 (2)), (.int .i64 (1)), (.int .i64 (5)), (.int .i64 (1))])]), (.agg [(.int .i64 (3)), (.int .i64 (1))])], (.tup [(.data [(.agg [(.int .i64 (0)), (.int .i64 (1)), (.int .i64 (1)), (.int .i64 (1))]), (.agg [(.int .i64 (2)), (.int .i64 (1)), (.int .i64 (3)), (.int .i64 (1))])]), (.data [(.agg [(.int .i64 (3)), (.int .i64 (1)), (.int .i64 (5)), (.int .i64 (1))])]), (.int .i64 (0))]))]
def E62 : Env := E61.plus t61
def t62 : Tab := [(18, [], (.bool true))]
def E63 : Env := E62.plus t62
end Go.Proofs.Ytnbebjhmfpchcaa.Pn
