/- The calls that the statement EqualNames makes, answered by the evaluator, one table behind the other. -/
import Derived.Test.YteokncggklmilaaEnL0
import Derived.Test.YteokncggklmilaaEnL1
namespace Go.Proofs.Yteokncggklmilaa.En
open Go Go.Pf
def tab : List (Nat × AFn) := tab0 ++ (tab1)
theorem tabOk : AllOk Try.prog tab := lookF_app _ _ tabOk0 (tabOk1)
def E0 : Env := baseE 66 67 tab [3, 4, 5, 6, 7, 8, 9, 10, 11, 12, 13, 14, 15, 16, 17, 18, 20, 21, 22, 23, 24, 25, 29, 33, 34, 36, 40, 41, 42, 43, 44, 45, 46, 47, 50, 51, 52, 53, 54, 61, 62, 65, 68, 69, 72, 74, 82, 86, 92]
theorem hm : Try.prog.follows .mixedOrders = true := by kernel_rfl
theorem isAdd : IsExtern Try.prog 66 add64Entry := ⟨_, Try.func66, by kernel_rfl, by kernel_rfl, by kernel_rfl, by kernel_rfl⟩
theorem isSub : IsExtern Try.prog 67 sub64E := ⟨_, Try.func67, by kernel_rfl, by kernel_rfl, by kernel_rfl, by kernel_rfl⟩
theorem k0 : EnvOk Try.prog E0 := base_ok isAdd isSub tabOk
def t0 : Tab := [(34, [(.agg [(.data [(.agg [(.int .i64 (4)), (.data [(.int .i64 (0)), (.int .i64 (4))]), (.data [(.int .i64 (1))])]), (.agg [(.int .i64 (4)), (.data [(.int .i64 (0)), (.int .i64 (4))]), (.data [(.int .i64 (1))])]), (.agg [(.int .i64 (4)), (.data [(.int .i64 (0)), (.int .i64 (4))]), (.data [(.int .i64 (1))])]), (.agg [(.int .i64 (4)), (.data [(.int .i64 (0)), (.int .i64 (4))]), (.data [(.int .i64 (1))])])]), (.data [])])], (.int .i64 (0))),
 (18, [(.data [(.agg [(.int .i64 (4)), (.data [(.int .i64 (0)), (.int .i64 (4))]), (.data [(.int .i64 (1))])]), (.agg [(.int .i64 (4)), (.data [(.int .i64 (0)), (.int .i64 (4))]), (.data [(.int .i64 (1))])]), (.agg [(.int .i64 (4)), (.data [(.int .i64 (0)), (.int .i64 (4))]), (.data [(.int .i64 (1))])]), (.agg [(.int .i64 (4)), (.data [(.int .i64 (0)), (.int .i64 (4))]), (.data [(.int .i64 (1))])])])], (.int .i64 (0))),
 (14, [(.data [(.agg [(.int .i64 (4)), (.data [(.int .i64 (0)), (.int .i64 (4))]), (.data [(.int .i64 (1))])]), (.agg [(.int .i64 (4)), (.data [(.int .i64 (0)), (.int .i64 (4))]), (.data [(.int .i64 (1))])]), (.agg [(.int .i64 (4)), (.data [(.int .i64 (0)), (.int .i64 (4))]), (.data [(.int .i64 (1))])]), (.agg [(.int .i64 (4)), (.data [(.int .i64 (0)), (.int .i64 (4))]), (.data [(.int .i64 (1))])])]), (.data [(.int .i64 (3)), (.int .i64 (1)), (.int .i64 (0)), (.int .i64 (2))])], (.int .i64 (0))),
 (54, [(.agg [(.int .i64 (0)), (.int .i64 (1))]), (.agg [(.int .i64 (0)), (.int .i64 (1))])], (.tup [(.agg [(.int .i64 (0)), (.int .i64 (1))]), (.int .i64 (0))])),
 (51, [(.agg [(.int .i64 (0)), (.int .i64 (1))]), (.agg [(.int .i64 (0)), (.int .i64 (1))])], (.tup [(.agg [(.int .i64 (0)), (.int .i64 (1))]), (.int .i64 (0))])),
 (23, [(.agg [(.int .i64 (0)), (.int .i64 (1))]), (.agg [(.int .i64 (1)), (.int .i64 (1))])], (.tup [(.agg [(.int .i64 (0)), (.int .i64 (1))]), (.int .i64 (0))]))]
def E1 : Env := E0.plus t0
def t1 : Tab := [(54, [(.agg [(.int .i64 (0)), (.int .i64 (1))]), (.agg [(.int .i64 (4)), (.int .i64 (1))])], (.tup [(.agg [(.int .i64 (4)), (.int .i64 (1))]), (.int .i64 (0))])),
 (52, [(.agg [(.int .i64 (0)), (.int .i64 (1))]), (.agg [(.int .i64 (1)), (.int .i64 (1))])], (.tup [(.agg [(.int .i64 (0)), (.int .i64 (1))]), (.int .i64 (0))])),
 (23, [(.agg [(.int .i64 (4)), (.int .i64 (1))]), (.agg [(.int .i64 (1)), (.int .i64 (1))])], (.tup [(.agg [(.int .i64 (4)), (.int .i64 (1))]), (.int .i64 (0))])),
 (52, [(.agg [(.int .i64 (4)), (.int .i64 (1))]), (.agg [(.int .i64 (1)), (.int .i64 (1))])], (.tup [(.agg [(.int .i64 (4)), (.int .i64 (1))]), (.int .i64 (0))])),
 (54, [(.agg [(.int .i64 (4)), (.int .i64 (1))]), (.agg [(.int .i64 (4)), (.int .i64 (1))])], (.tup [(.agg [(.int .i64 (8)), (.int .i64 (1))]), (.int .i64 (0))])),
 (23, [(.agg [(.int .i64 (8)), (.int .i64 (1))]), (.agg [(.int .i64 (1)), (.int .i64 (1))])], (.tup [(.agg [(.int .i64 (8)), (.int .i64 (1))]), (.int .i64 (0))])),
 (52, [(.agg [(.int .i64 (8)), (.int .i64 (1))]), (.agg [(.int .i64 (1)), (.int .i64 (1))])], (.tup [(.agg [(.int .i64 (8)), (.int .i64 (1))]), (.int .i64 (0))]))]
def E2 : Env := E1.plus t1
def t2 : Tab := [(54, [(.agg [(.int .i64 (8)), (.int .i64 (1))]), (.agg [(.int .i64 (4)), (.int .i64 (1))])], (.tup [(.agg [(.int .i64 (12)), (.int .i64 (1))]), (.int .i64 (0))])),
 (23, [(.agg [(.int .i64 (12)), (.int .i64 (1))]), (.agg [(.int .i64 (1)), (.int .i64 (1))])], (.tup [(.agg [(.int .i64 (12)), (.int .i64 (1))]), (.int .i64 (0))])),
 (52, [(.agg [(.int .i64 (12)), (.int .i64 (1))]), (.agg [(.int .i64 (1)), (.int .i64 (1))])], (.tup [(.agg [(.int .i64 (12)), (.int .i64 (1))]), (.int .i64 (0))])),
 (54, [(.agg [(.int .i64 (12)), (.int .i64 (1))]), (.agg [(.int .i64 (4)), (.int .i64 (1))])], (.tup [(.agg [(.int .i64 (16)), (.int .i64 (1))]), (.int .i64 (0))])),
 (23, [(.agg [(.int .i64 (16)), (.int .i64 (1))]), (.agg [(.int .i64 (1)), (.int .i64 (1))])], (.tup [(.agg [(.int .i64 (16)), (.int .i64 (1))]), (.int .i64 (0))])),
 (52, [(.agg [(.int .i64 (16)), (.int .i64 (1))]), (.agg [(.int .i64 (1)), (.int .i64 (1))])], (.tup [(.agg [(.int .i64 (16)), (.int .i64 (1))]), (.int .i64 (0))]))]
def E3 : Env := E2.plus t2
def t3 : Tab := [(54, [(.agg [(.int .i64 (4)), (.int .i64 (1))]), (.agg [(.int .i64 (0)), (.int .i64 (1))])], (.tup [(.agg [(.int .i64 (4)), (.int .i64 (1))]), (.int .i64 (0))])),
 (51, [(.agg [(.int .i64 (4)), (.int .i64 (1))]), (.agg [(.int .i64 (0)), (.int .i64 (1))])], (.tup [(.agg [(.int .i64 (4)), (.int .i64 (1))]), (.int .i64 (0))])),
 (23, [(.agg [(.int .i64 (4)), (.int .i64 (1))]), (.agg [(.int .i64 (1)), (.int .i64 (16))])], (.tup [(.agg [(.int .i64 (1)), (.int .i64 (4))]), (.int .i64 (0))])),
 (52, [(.agg [(.int .i64 (4)), (.int .i64 (1))]), (.agg [(.int .i64 (16)), (.int .i64 (1))])], (.tup [(.agg [(.int .i64 (1)), (.int .i64 (4))]), (.int .i64 (0))])),
 (23, [(.agg [(.int .i64 (4)), (.int .i64 (1))]), (.agg [(.int .i64 (1)), (.int .i64 (4))])], (.tup [(.agg [(.int .i64 (1)), (.int .i64 (1))]), (.int .i64 (0))])),
 (52, [(.agg [(.int .i64 (4)), (.int .i64 (1))]), (.agg [(.int .i64 (4)), (.int .i64 (1))])], (.tup [(.agg [(.int .i64 (1)), (.int .i64 (1))]), (.int .i64 (0))])),
 (40, [(.agg [(.int .i64 (1)), (.int .i64 (1))]), (.agg [(.int .i64 (1)), (.int .i64 (4))])], (.tup [(.int .i64 (1)), (.int .i64 (0))]))]
def E4 : Env := E3.plus t3
def t4 : Tab := [(23, [(.agg [(.int .i64 (4)), (.int .i64 (1))]), (.agg [(.int .i64 (1)), (.int .i64 (8))])], (.tup [(.agg [(.int .i64 (1)), (.int .i64 (2))]), (.int .i64 (0))])),
 (52, [(.agg [(.int .i64 (4)), (.int .i64 (1))]), (.agg [(.int .i64 (8)), (.int .i64 (1))])], (.tup [(.agg [(.int .i64 (1)), (.int .i64 (2))]), (.int .i64 (0))])),
 (44, [(.agg [(.int .i64 (1)), (.int .i64 (2))]), (.agg [(.int .i64 (1)), (.int .i64 (4))])], (.int .i64 (0))),
 (40, [(.agg [(.int .i64 (1)), (.int .i64 (2))]), (.agg [(.int .i64 (1)), (.int .i64 (4))])], (.tup [(.int .i64 (1)), (.int .i64 (0))])),
 (23, [(.agg [(.int .i64 (4)), (.int .i64 (1))]), (.agg [(.int .i64 (1)), (.int .i64 (12))])], (.tup [(.agg [(.int .i64 (1)), (.int .i64 (3))]), (.int .i64 (0))])),
 (52, [(.agg [(.int .i64 (4)), (.int .i64 (1))]), (.agg [(.int .i64 (12)), (.int .i64 (1))])], (.tup [(.agg [(.int .i64 (1)), (.int .i64 (3))]), (.int .i64 (0))])),
 (44, [(.agg [(.int .i64 (1)), (.int .i64 (3))]), (.agg [(.int .i64 (1)), (.int .i64 (4))])], (.int .i64 (0))),
 (40, [(.agg [(.int .i64 (1)), (.int .i64 (3))]), (.agg [(.int .i64 (1)), (.int .i64 (4))])], (.tup [(.int .i64 (1)), (.int .i64 (0))])),
 (44, [(.agg [(.int .i64 (1)), (.int .i64 (4))]), (.agg [(.int .i64 (1)), (.int .i64 (4))])], (.int .i64 (0))),
 (40, [(.agg [(.int .i64 (1)), (.int .i64 (4))]), (.agg [(.int .i64 (1)), (.int .i64 (4))])], (.tup [(.int .i64 (0)), (.int .i64 (0))]))]
def E5 : Env := E4.plus t4
def t5 : Tab := [(15, [(.data [(.agg [(.int .i64 (4)), (.data [(.int .i64 (0)), (.int .i64 (4))]), (.data [(.int .i64 (1))])]), (.agg [(.int .i64 (4)), (.data [(.int .i64 (0)), (.int .i64 (4))]), (.data [(.int .i64 (1))])]), (.agg [(.int .i64 (4)), (.data [(.int .i64 (0)), (.int .i64 (4))]), (.data [(.int .i64 (1))])]), (.agg [(.int .i64 (4)), (.data [(.int .i64 (0)), (.int .i64 (4))]), (.data [(.int .i64 (1))])])]), (.data [(.int .i64 (3)), (.int .i64 (1)), (.int .i64 (0)), (.int .i64 (2))])], (.agg [(.int .i64 (1)), (.int .i64 (4))])),
 (23, [(.agg [(.int .i64 (1)), (.int .i64 (4))]), (.agg [(.int .i64 (4)), (.int .i64 (1))])], (.tup [(.agg [(.int .i64 (1)), (.int .i64 (1))]), (.int .i64 (0))])),
 (40, [(.agg [(.int .i64 (4)), (.int .i64 (1))]), (.agg [(.int .i64 (0)), (.int .i64 (1))])], (.tup [(.int .i64 (1)), (.int .i64 (0))]))]
def E6 : Env := E5.plus t5
def t6 : Tab := [(40, [(.agg [(.int .i64 (0)), (.int .i64 (1))]), (.agg [(.int .i64 (4)), (.int .i64 (1))])], (.tup [(.int .i64 (-1)), (.int .i64 (0))])),
 (40, [(.agg [(.int .i64 (4)), (.int .i64 (1))]), (.agg [(.int .i64 (1)), (.int .i64 (1))])], (.tup [(.int .i64 (1)), (.int .i64 (0))])),
 (23, [(.agg [(.int .i64 (1)), (.int .i64 (1))]), (.agg [(.int .i64 (1)), (.int .i64 (1))])], (.tup [(.agg [(.int .i64 (1)), (.int .i64 (1))]), (.int .i64 (0))])),
 (52, [(.agg [(.int .i64 (1)), (.int .i64 (1))]), (.agg [(.int .i64 (1)), (.int .i64 (1))])], (.tup [(.agg [(.int .i64 (1)), (.int .i64 (1))]), (.int .i64 (0))])),
 (54, [(.agg [(.int .i64 (0)), (.int .i64 (1))]), (.agg [(.int .i64 (1)), (.int .i64 (1))])], (.tup [(.agg [(.int .i64 (1)), (.int .i64 (1))]), (.int .i64 (0))])),
 (24, [(.agg [(.int .i64 (4)), (.data [(.int .i64 (0)), (.int .i64 (4))]), (.data [(.int .i64 (1))])]), (.agg [(.int .i64 (0)), (.int .i64 (1))]), (.agg [(.int .i64 (1)), (.int .i64 (1))])], (.tup [(.agg [(.int .i64 (1)), (.int .i64 (1))]), (.int .i64 (0))]))]
def E7 : Env := E6.plus t6
def t7 : Tab := [(40, [(.agg [(.int .i64 (1)), (.int .i64 (1))]), (.agg [(.int .i64 (4)), (.int .i64 (1))])], (.tup [(.int .i64 (-1)), (.int .i64 (0))])),
 (54, [(.agg [(.int .i64 (4)), (.int .i64 (1))]), (.agg [(.int .i64 (-1)), (.int .i64 (1))])], (.tup [(.agg [(.int .i64 (3)), (.int .i64 (1))]), (.int .i64 (0))])),
 (51, [(.agg [(.int .i64 (4)), (.int .i64 (1))]), (.agg [(.int .i64 (1)), (.int .i64 (1))])], (.tup [(.agg [(.int .i64 (3)), (.int .i64 (1))]), (.int .i64 (0))])),
 (23, [(.agg [(.int .i64 (3)), (.int .i64 (1))]), (.agg [(.int .i64 (1)), (.int .i64 (1))])], (.tup [(.agg [(.int .i64 (3)), (.int .i64 (1))]), (.int .i64 (0))])),
 (40, [(.agg [(.int .i64 (3)), (.int .i64 (1))]), (.agg [(.int .i64 (1)), (.int .i64 (1))])], (.tup [(.int .i64 (1)), (.int .i64 (0))])),
 (54, [(.agg [(.int .i64 (1)), (.int .i64 (1))]), (.agg [(.int .i64 (1)), (.int .i64 (1))])], (.tup [(.agg [(.int .i64 (2)), (.int .i64 (1))]), (.int .i64 (0))]))]
def E8 : Env := E7.plus t7
def t8 : Tab := [(24, [(.agg [(.int .i64 (4)), (.data [(.int .i64 (0)), (.int .i64 (4))]), (.data [(.int .i64 (1))])]), (.agg [(.int .i64 (1)), (.int .i64 (1))]), (.agg [(.int .i64 (1)), (.int .i64 (1))])], (.tup [(.agg [(.int .i64 (2)), (.int .i64 (1))]), (.int .i64 (0))])),
 (40, [(.agg [(.int .i64 (4)), (.int .i64 (1))]), (.agg [(.int .i64 (2)), (.int .i64 (1))])], (.tup [(.int .i64 (1)), (.int .i64 (0))])),
 (40, [(.agg [(.int .i64 (2)), (.int .i64 (1))]), (.agg [(.int .i64 (4)), (.int .i64 (1))])], (.tup [(.int .i64 (-1)), (.int .i64 (0))])),
 (54, [(.agg [(.int .i64 (4)), (.int .i64 (1))]), (.agg [(.int .i64 (-2)), (.int .i64 (1))])], (.tup [(.agg [(.int .i64 (2)), (.int .i64 (1))]), (.int .i64 (0))])),
 (51, [(.agg [(.int .i64 (4)), (.int .i64 (1))]), (.agg [(.int .i64 (2)), (.int .i64 (1))])], (.tup [(.agg [(.int .i64 (2)), (.int .i64 (1))]), (.int .i64 (0))])),
 (23, [(.agg [(.int .i64 (2)), (.int .i64 (1))]), (.agg [(.int .i64 (1)), (.int .i64 (1))])], (.tup [(.agg [(.int .i64 (2)), (.int .i64 (1))]), (.int .i64 (0))]))]
def E9 : Env := E8.plus t8
def t9 : Tab := [(40, [(.agg [(.int .i64 (2)), (.int .i64 (1))]), (.agg [(.int .i64 (1)), (.int .i64 (1))])], (.tup [(.int .i64 (1)), (.int .i64 (0))])),
 (54, [(.agg [(.int .i64 (2)), (.int .i64 (1))]), (.agg [(.int .i64 (1)), (.int .i64 (1))])], (.tup [(.agg [(.int .i64 (3)), (.int .i64 (1))]), (.int .i64 (0))])),
 (24, [(.agg [(.int .i64 (4)), (.data [(.int .i64 (0)), (.int .i64 (4))]), (.data [(.int .i64 (1))])]), (.agg [(.int .i64 (2)), (.int .i64 (1))]), (.agg [(.int .i64 (1)), (.int .i64 (1))])], (.tup [(.agg [(.int .i64 (3)), (.int .i64 (1))]), (.int .i64 (0))])),
 (40, [(.agg [(.int .i64 (4)), (.int .i64 (1))]), (.agg [(.int .i64 (3)), (.int .i64 (1))])], (.tup [(.int .i64 (1)), (.int .i64 (0))])),
 (40, [(.agg [(.int .i64 (3)), (.int .i64 (1))]), (.agg [(.int .i64 (4)), (.int .i64 (1))])], (.tup [(.int .i64 (-1)), (.int .i64 (0))]))]
def E10 : Env := E9.plus t9
def t10 : Tab := [(54, [(.agg [(.int .i64 (4)), (.int .i64 (1))]), (.agg [(.int .i64 (-3)), (.int .i64 (1))])], (.tup [(.agg [(.int .i64 (1)), (.int .i64 (1))]), (.int .i64 (0))])),
 (51, [(.agg [(.int .i64 (4)), (.int .i64 (1))]), (.agg [(.int .i64 (3)), (.int .i64 (1))])], (.tup [(.agg [(.int .i64 (1)), (.int .i64 (1))]), (.int .i64 (0))])),
 (40, [(.agg [(.int .i64 (1)), (.int .i64 (1))]), (.agg [(.int .i64 (1)), (.int .i64 (1))])], (.tup [(.int .i64 (0)), (.int .i64 (0))])),
 (54, [(.agg [(.int .i64 (3)), (.int .i64 (1))]), (.agg [(.int .i64 (1)), (.int .i64 (1))])], (.tup [(.agg [(.int .i64 (4)), (.int .i64 (1))]), (.int .i64 (0))])),
 (24, [(.agg [(.int .i64 (4)), (.data [(.int .i64 (0)), (.int .i64 (4))]), (.data [(.int .i64 (1))])]), (.agg [(.int .i64 (3)), (.int .i64 (1))]), (.agg [(.int .i64 (1)), (.int .i64 (1))])], (.tup [(.agg [(.int .i64 (4)), (.int .i64 (1))]), (.int .i64 (0))]))]
def E11 : Env := E10.plus t10
def t11 : Tab := [(9, [(.data [(.agg [(.int .i64 (4)), (.data [(.int .i64 (0)), (.int .i64 (4))]), (.data [(.int .i64 (1))])]), (.agg [(.int .i64 (4)), (.data [(.int .i64 (0)), (.int .i64 (4))]), (.data [(.int .i64 (1))])]), (.agg [(.int .i64 (4)), (.data [(.int .i64 (0)), (.int .i64 (4))]), (.data [(.int .i64 (1))])]), (.agg [(.int .i64 (4)), (.data [(.int .i64 (0)), (.int .i64 (4))]), (.data [(.int .i64 (1))])])]), (.data [(.int .i64 (3)), (.int .i64 (1)), (.int .i64 (0)), (.int .i64 (2))]), (.agg [(.int .i64 (1)), (.int .i64 (4))])], (.tup [(.data [(.agg [(.int .i64 (1)), (.int .i64 (1))]), (.agg [(.int .i64 (2)), (.int .i64 (1))]), (.agg [(.int .i64 (3)), (.int .i64 (1))]), (.agg [(.int .i64 (4)), (.int .i64 (1))])]), (.int .i64 (0))])),
 (17, [(.agg [(.data [(.data [(.agg [(.int .i64 (2)), (.int .i64 (1)), (.int .i64 (3)), (.int .i64 (1))])]), (.data [(.agg [(.int .i64 (1)), (.int .i64 (1)), (.int .i64 (2)), (.int .i64 (1))])]), (.data [(.agg [(.int .i64 (3)), (.int .i64 (1)), (.int .i64 (4)), (.int .i64 (1))])]), (.data [(.agg [(.int .i64 (0)), (.int .i64 (1)), (.int .i64 (1)), (.int .i64 (1))])])])]), (.agg [(.data [(.data [(.agg [(.int .i64 (2)), (.int .i64 (1)), (.int .i64 (3)), (.int .i64 (1))])]), (.data [(.agg [(.int .i64 (1)), (.int .i64 (1)), (.int .i64 (2)), (.int .i64 (1))])]), (.data [(.agg [(.int .i64 (3)), (.int .i64 (1)), (.int .i64 (4)), (.int .i64 (1))])]), (.data [(.agg [(.int .i64 (0)), (.int .i64 (1)), (.int .i64 (1)), (.int .i64 (1))])])])])], (.bool true)),
 (34, [(.agg [(.data [(.agg [(.int .i64 (4)), (.data [(.int .i64 (0)), (.int .i64 (4))]), (.data [(.int .i64 (1))])]), (.agg [(.int .i64 (4)), (.data [(.int .i64 (0)), (.int .i64 (4))]), (.data [(.int .i64 (1))])]), (.agg [(.int .i64 (4)), (.data [(.int .i64 (0)), (.int .i64 (4))]), (.data [(.int .i64 (1))])])]), (.data [])])], (.int .i64 (0))),
 (18, [(.data [(.agg [(.int .i64 (4)), (.data [(.int .i64 (0)), (.int .i64 (4))]), (.data [(.int .i64 (1))])]), (.agg [(.int .i64 (4)), (.data [(.int .i64 (0)), (.int .i64 (4))]), (.data [(.int .i64 (1))])]), (.agg [(.int .i64 (4)), (.data [(.int .i64 (0)), (.int .i64 (4))]), (.data [(.int .i64 (1))])])])], (.int .i64 (0))),
 (40, [(.agg [(.int .i64 (1)), (.int .i64 (1))]), (.agg [(.int .i64 (1)), (.int .i64 (3))])], (.tup [(.int .i64 (1)), (.int .i64 (0))])),
 (44, [(.agg [(.int .i64 (1)), (.int .i64 (2))]), (.agg [(.int .i64 (1)), (.int .i64 (3))])], (.int .i64 (0)))]
def E12 : Env := E11.plus t11
def t12 : Tab := [(40, [(.agg [(.int .i64 (1)), (.int .i64 (2))]), (.agg [(.int .i64 (1)), (.int .i64 (3))])], (.tup [(.int .i64 (1)), (.int .i64 (0))])),
 (44, [(.agg [(.int .i64 (1)), (.int .i64 (3))]), (.agg [(.int .i64 (1)), (.int .i64 (3))])], (.int .i64 (0))),
 (40, [(.agg [(.int .i64 (1)), (.int .i64 (3))]), (.agg [(.int .i64 (1)), (.int .i64 (3))])], (.tup [(.int .i64 (0)), (.int .i64 (0))])),
 (15, [(.data [(.agg [(.int .i64 (4)), (.data [(.int .i64 (0)), (.int .i64 (4))]), (.data [(.int .i64 (1))])]), (.agg [(.int .i64 (4)), (.data [(.int .i64 (0)), (.int .i64 (4))]), (.data [(.int .i64 (1))])]), (.agg [(.int .i64 (4)), (.data [(.int .i64 (0)), (.int .i64 (4))]), (.data [(.int .i64 (1))])])]), (.data [(.int .i64 (0)), (.int .i64 (1)), (.int .i64 (2))])], (.agg [(.int .i64 (1)), (.int .i64 (3))]))]
def E13 : Env := E12.plus t12
def t13 : Tab := [(15, [(.data [(.agg [(.int .i64 (4)), (.data [(.int .i64 (0)), (.int .i64 (4))]), (.data [(.int .i64 (1))])]), (.agg [(.int .i64 (4)), (.data [(.int .i64 (0)), (.int .i64 (4))]), (.data [(.int .i64 (1))])]), (.agg [(.int .i64 (4)), (.data [(.int .i64 (0)), (.int .i64 (4))]), (.data [(.int .i64 (1))])])]), (.data [(.int .i64 (0)), (.int .i64 (2)), (.int .i64 (1))])], (.agg [(.int .i64 (1)), (.int .i64 (3))])),
 (15, [(.data [(.agg [(.int .i64 (4)), (.data [(.int .i64 (0)), (.int .i64 (4))]), (.data [(.int .i64 (1))])]), (.agg [(.int .i64 (4)), (.data [(.int .i64 (0)), (.int .i64 (4))]), (.data [(.int .i64 (1))])]), (.agg [(.int .i64 (4)), (.data [(.int .i64 (0)), (.int .i64 (4))]), (.data [(.int .i64 (1))])])]), (.data [(.int .i64 (1)), (.int .i64 (0)), (.int .i64 (2))])], (.agg [(.int .i64 (1)), (.int .i64 (3))]))]
def E14 : Env := E13.plus t13
def t14 : Tab := [(15, [(.data [(.agg [(.int .i64 (4)), (.data [(.int .i64 (0)), (.int .i64 (4))]), (.data [(.int .i64 (1))])]), (.agg [(.int .i64 (4)), (.data [(.int .i64 (0)), (.int .i64 (4))]), (.data [(.int .i64 (1))])]), (.agg [(.int .i64 (4)), (.data [(.int .i64 (0)), (.int .i64 (4))]), (.data [(.int .i64 (1))])])]), (.data [(.int .i64 (1)), (.int .i64 (2)), (.int .i64 (0))])], (.agg [(.int .i64 (1)), (.int .i64 (3))])),
 (15, [(.data [(.agg [(.int .i64 (4)), (.data [(.int .i64 (0)), (.int .i64 (4))]), (.data [(.int .i64 (1))])]), (.agg [(.int .i64 (4)), (.data [(.int .i64 (0)), (.int .i64 (4))]), (.data [(.int .i64 (1))])]), (.agg [(.int .i64 (4)), (.data [(.int .i64 (0)), (.int .i64 (4))]), (.data [(.int .i64 (1))])])]), (.data [(.int .i64 (2)), (.int .i64 (0)), (.int .i64 (1))])], (.agg [(.int .i64 (1)), (.int .i64 (3))]))]
def E15 : Env := E14.plus t14
def t15 : Tab := [(15, [(.data [(.agg [(.int .i64 (4)), (.data [(.int .i64 (0)), (.int .i64 (4))]), (.data [(.int .i64 (1))])]), (.agg [(.int .i64 (4)), (.data [(.int .i64 (0)), (.int .i64 (4))]), (.data [(.int .i64 (1))])]), (.agg [(.int .i64 (4)), (.data [(.int .i64 (0)), (.int .i64 (4))]), (.data [(.int .i64 (1))])])]), (.data [(.int .i64 (2)), (.int .i64 (1)), (.int .i64 (0))])], (.agg [(.int .i64 (1)), (.int .i64 (3))]))]
def E16 : Env := E15.plus t15
def t16 : Tab := [(7, [(.data [(.agg [(.int .i64 (4)), (.data [(.int .i64 (0)), (.int .i64 (4))]), (.data [(.int .i64 (1))])]), (.agg [(.int .i64 (4)), (.data [(.int .i64 (0)), (.int .i64 (4))]), (.data [(.int .i64 (1))])]), (.agg [(.int .i64 (4)), (.data [(.int .i64 (0)), (.int .i64 (4))]), (.data [(.int .i64 (1))])])])], (.tup [(.data [(.int .i64 (0)), (.int .i64 (1)), (.int .i64 (2))]), (.agg [(.int .i64 (1)), (.int .i64 (3))]), (.int .i64 (0))])),
 (43, [(.agg [(.int .i64 (4)), (.data [(.int .i64 (0)), (.int .i64 (1)), (.int .i64 (4))]), (.data [(.int .i64 (3)), (.int .i64 (1))])])], (.int .i64 (0))),
 (14, [(.data [(.agg [(.int .i64 (4)), (.data [(.int .i64 (0)), (.int .i64 (1)), (.int .i64 (4))]), (.data [(.int .i64 (3)), (.int .i64 (1))])])]), (.data [(.int .i64 (0))])], (.int .i64 (0)))]
def E17 : Env := E16.plus t16
def t17 : Tab := [(23, [(.agg [(.int .i64 (0)), (.int .i64 (1))]), (.agg [(.int .i64 (3)), (.int .i64 (1))])], (.tup [(.agg [(.int .i64 (0)), (.int .i64 (1))]), (.int .i64 (0))])),
 (54, [(.agg [(.int .i64 (0)), (.int .i64 (1))]), (.agg [(.int .i64 (6)), (.int .i64 (1))])], (.tup [(.agg [(.int .i64 (6)), (.int .i64 (1))]), (.int .i64 (0))])),
 (23, [(.agg [(.int .i64 (0)), (.int .i64 (1))]), (.agg [(.int .i64 (1)), (.int .i64 (3))])], (.tup [(.agg [(.int .i64 (0)), (.int .i64 (1))]), (.int .i64 (0))])),
 (52, [(.agg [(.int .i64 (0)), (.int .i64 (1))]), (.agg [(.int .i64 (3)), (.int .i64 (1))])], (.tup [(.agg [(.int .i64 (0)), (.int .i64 (1))]), (.int .i64 (0))])),
 (23, [(.agg [(.int .i64 (6)), (.int .i64 (1))]), (.agg [(.int .i64 (1)), (.int .i64 (3))])], (.tup [(.agg [(.int .i64 (2)), (.int .i64 (1))]), (.int .i64 (0))])),
 (52, [(.agg [(.int .i64 (6)), (.int .i64 (1))]), (.agg [(.int .i64 (3)), (.int .i64 (1))])], (.tup [(.agg [(.int .i64 (2)), (.int .i64 (1))]), (.int .i64 (0))])),
 (23, [(.agg [(.int .i64 (4)), (.int .i64 (1))]), (.agg [(.int .i64 (1)), (.int .i64 (2))])], (.tup [(.agg [(.int .i64 (2)), (.int .i64 (1))]), (.int .i64 (0))]))]
def E18 : Env := E17.plus t17
def t18 : Tab := [(52, [(.agg [(.int .i64 (4)), (.int .i64 (1))]), (.agg [(.int .i64 (2)), (.int .i64 (1))])], (.tup [(.agg [(.int .i64 (2)), (.int .i64 (1))]), (.int .i64 (0))])),
 (54, [(.agg [(.int .i64 (1)), (.int .i64 (1))]), (.agg [(.int .i64 (0)), (.int .i64 (1))])], (.tup [(.agg [(.int .i64 (1)), (.int .i64 (1))]), (.int .i64 (0))])),
 (51, [(.agg [(.int .i64 (1)), (.int .i64 (1))]), (.agg [(.int .i64 (0)), (.int .i64 (1))])], (.tup [(.agg [(.int .i64 (1)), (.int .i64 (1))]), (.int .i64 (0))])),
 (23, [(.agg [(.int .i64 (1)), (.int .i64 (1))]), (.agg [(.int .i64 (1)), (.int .i64 (2))])], (.tup [(.agg [(.int .i64 (1)), (.int .i64 (2))]), (.int .i64 (0))])),
 (52, [(.agg [(.int .i64 (1)), (.int .i64 (1))]), (.agg [(.int .i64 (2)), (.int .i64 (1))])], (.tup [(.agg [(.int .i64 (1)), (.int .i64 (2))]), (.int .i64 (0))])),
 (40, [(.agg [(.int .i64 (1)), (.int .i64 (2))]), (.agg [(.int .i64 (2)), (.int .i64 (1))])], (.tup [(.int .i64 (-1)), (.int .i64 (0))])),
 (54, [(.agg [(.int .i64 (0)), (.int .i64 (1))]), (.agg [(.int .i64 (-3)), (.int .i64 (1))])], (.tup [(.agg [(.int .i64 (-3)), (.int .i64 (1))]), (.int .i64 (0))]))]
def E19 : Env := E18.plus t18
def t19 : Tab := [(23, [(.agg [(.int .i64 (-3)), (.int .i64 (1))]), (.agg [(.int .i64 (1)), (.int .i64 (1))])], (.tup [(.agg [(.int .i64 (-3)), (.int .i64 (1))]), (.int .i64 (0))])),
 (52, [(.agg [(.int .i64 (-3)), (.int .i64 (1))]), (.agg [(.int .i64 (1)), (.int .i64 (1))])], (.tup [(.agg [(.int .i64 (-3)), (.int .i64 (1))]), (.int .i64 (0))])),
 (54, [(.agg [(.int .i64 (-3)), (.int .i64 (1))]), (.agg [(.int .i64 (1)), (.int .i64 (1))])], (.tup [(.agg [(.int .i64 (-2)), (.int .i64 (1))]), (.int .i64 (0))])),
 (23, [(.agg [(.int .i64 (6)), (.int .i64 (1))]), (.agg [(.int .i64 (1)), (.int .i64 (1))])], (.tup [(.agg [(.int .i64 (6)), (.int .i64 (1))]), (.int .i64 (0))])),
 (52, [(.agg [(.int .i64 (6)), (.int .i64 (1))]), (.agg [(.int .i64 (1)), (.int .i64 (1))])], (.tup [(.agg [(.int .i64 (6)), (.int .i64 (1))]), (.int .i64 (0))])),
 (54, [(.agg [(.int .i64 (4)), (.int .i64 (1))]), (.agg [(.int .i64 (2)), (.int .i64 (1))])], (.tup [(.agg [(.int .i64 (6)), (.int .i64 (1))]), (.int .i64 (0))])),
 (51, [(.agg [(.int .i64 (4)), (.int .i64 (1))]), (.agg [(.int .i64 (-2)), (.int .i64 (1))])], (.tup [(.agg [(.int .i64 (6)), (.int .i64 (1))]), (.int .i64 (0))]))]
def E20 : Env := E19.plus t19
def t20 : Tab := [(23, [(.agg [(.int .i64 (6)), (.int .i64 (1))]), (.agg [(.int .i64 (1)), (.int .i64 (6))])], (.tup [(.agg [(.int .i64 (1)), (.int .i64 (1))]), (.int .i64 (0))])),
 (52, [(.agg [(.int .i64 (6)), (.int .i64 (1))]), (.agg [(.int .i64 (6)), (.int .i64 (1))])], (.tup [(.agg [(.int .i64 (1)), (.int .i64 (1))]), (.int .i64 (0))])),
 (15, [(.data [(.agg [(.int .i64 (4)), (.data [(.int .i64 (0)), (.int .i64 (1)), (.int .i64 (4))]), (.data [(.int .i64 (3)), (.int .i64 (1))])])]), (.data [(.int .i64 (0))])], (.agg [(.int .i64 (1)), (.int .i64 (1))])),
 (34, [(.agg [(.data [(.agg [(.int .i64 (4)), (.data [(.int .i64 (0)), (.int .i64 (4))]), (.data [(.int .i64 (1))])]), (.agg [(.int .i64 (4)), (.data [(.int .i64 (0)), (.int .i64 (1)), (.int .i64 (4))]), (.data [(.int .i64 (3)), (.int .i64 (1))])])]), (.data [])])], (.int .i64 (0))),
 (14, [(.data [(.agg [(.int .i64 (4)), (.data [(.int .i64 (0)), (.int .i64 (4))]), (.data [(.int .i64 (1))])]), (.agg [(.int .i64 (4)), (.data [(.int .i64 (0)), (.int .i64 (1)), (.int .i64 (4))]), (.data [(.int .i64 (3)), (.int .i64 (1))])])]), (.data [(.int .i64 (1)), (.int .i64 (0))])], (.int .i64 (0))),
 (23, [(.agg [(.int .i64 (0)), (.int .i64 (1))]), (.agg [(.int .i64 (6)), (.int .i64 (1))])], (.tup [(.agg [(.int .i64 (0)), (.int .i64 (1))]), (.int .i64 (0))]))]
def E21 : Env := E20.plus t20
def t21 : Tab := [(24, [(.agg [(.int .i64 (4)), (.data [(.int .i64 (0)), (.int .i64 (1)), (.int .i64 (4))]), (.data [(.int .i64 (3)), (.int .i64 (1))])]), (.agg [(.int .i64 (0)), (.int .i64 (1))]), (.agg [(.int .i64 (0)), (.int .i64 (1))])], (.tup [(.agg [(.int .i64 (0)), (.int .i64 (1))]), (.int .i64 (0))])),
 (23, [(.agg [(.int .i64 (0)), (.int .i64 (1))]), (.agg [(.int .i64 (4)), (.int .i64 (1))])], (.tup [(.agg [(.int .i64 (0)), (.int .i64 (1))]), (.int .i64 (0))])),
 (24, [(.agg [(.int .i64 (4)), (.data [(.int .i64 (0)), (.int .i64 (4))]), (.data [(.int .i64 (1))])]), (.agg [(.int .i64 (0)), (.int .i64 (1))]), (.agg [(.int .i64 (0)), (.int .i64 (1))])], (.tup [(.agg [(.int .i64 (0)), (.int .i64 (1))]), (.int .i64 (0))])),
 (9, [(.data [(.agg [(.int .i64 (4)), (.data [(.int .i64 (0)), (.int .i64 (4))]), (.data [(.int .i64 (1))])]), (.agg [(.int .i64 (4)), (.data [(.int .i64 (0)), (.int .i64 (1)), (.int .i64 (4))]), (.data [(.int .i64 (3)), (.int .i64 (1))])])]), (.data [(.int .i64 (1)), (.int .i64 (0))]), (.agg [(.int .i64 (0)), (.int .i64 (1))])], (.tup [(.data [(.agg [(.int .i64 (0)), (.int .i64 (1))]), (.agg [(.int .i64 (0)), (.int .i64 (1))])]), (.int .i64 (0))])),
 (43, [(.agg [(.int .i64 (4)), (.data [(.int .i64 (0)), (.int .i64 (1)), (.int .i64 (4))]), (.data [(.int .i64 (0)), (.int .i64 (1))])])], (.int .i64 (0))),
 (34, [(.agg [(.data [(.agg [(.int .i64 (4)), (.data [(.int .i64 (0)), (.int .i64 (4))]), (.data [(.int .i64 (1))])]), (.agg [(.int .i64 (4)), (.data [(.int .i64 (0)), (.int .i64 (1)), (.int .i64 (4))]), (.data [(.int .i64 (0)), (.int .i64 (1))])])]), (.data [])])], (.int .i64 (0))),
 (34, [(.agg [(.data [(.agg [(.int .i64 (4)), (.data [(.int .i64 (0)), (.int .i64 (4))]), (.data [(.int .i64 (1))])]), (.agg [(.int .i64 (4)), (.data [(.int .i64 (0)), (.int .i64 (4))]), (.data [(.int .i64 (1))])]), (.agg [(.int .i64 (4)), (.data [(.int .i64 (0)), (.int .i64 (4))]), (.data [(.int .i64 (1))])]), (.agg [(.int .i64 (4)), (.data [(.int .i64 (0)), (.int .i64 (4))]), (.data [(.int .i64 (1))])]), (.agg [(.int .i64 (4)), (.data [(.int .i64 (0)), (.int .i64 (4))]), (.data [(.int .i64 (1))])])]), (.data [])])], (.int .i64 (0)))]
def E22 : Env := E21.plus t21
def t22 : Tab := [(14, [(.data [(.agg [(.int .i64 (4)), (.data [(.int .i64 (0)), (.int .i64 (4))]), (.data [(.int .i64 (1))])]), (.agg [(.int .i64 (4)), (.data [(.int .i64 (0)), (.int .i64 (1)), (.int .i64 (4))]), (.data [(.int .i64 (3)), (.int .i64 (1))])])]), (.data [(.int .i64 (0)), (.int .i64 (0))])], (.int .i64 (8))),
 (14, [(.data [(.agg [(.int .i64 (4)), (.data [(.int .i64 (0)), (.int .i64 (4))]), (.data [(.int .i64 (1))])]), (.agg [(.int .i64 (4)), (.data [(.int .i64 (0)), (.int .i64 (1)), (.int .i64 (4))]), (.data [(.int .i64 (3)), (.int .i64 (1))])])]), (.data [(.int .i64 (0))])], (.int .i64 (8))),
 (14, [(.data [(.agg [(.int .i64 (4)), (.data [(.int .i64 (0)), (.int .i64 (4))]), (.data [(.int .i64 (1))])]), (.agg [(.int .i64 (4)), (.data [(.int .i64 (0)), (.int .i64 (1)), (.int .i64 (4))]), (.data [(.int .i64 (3)), (.int .i64 (1))])])]), (.data [(.int .i64 (0)), (.int .i64 (2))])], (.int .i64 (8))),
 (14, [(.data [(.agg [(.int .i64 (4)), (.data [(.int .i64 (0)), (.int .i64 (4))]), (.data [(.int .i64 (1))])]), (.agg [(.int .i64 (4)), (.data [(.int .i64 (0)), (.int .i64 (1)), (.int .i64 (4))]), (.data [(.int .i64 (3)), (.int .i64 (1))])])]), (.data [(.int .i64 (0)), (.int .i64 (1)), (.int .i64 (2))])], (.int .i64 (8))),
 (14, [(.data [(.agg [(.int .i64 (4)), (.data [(.int .i64 (0)), (.int .i64 (4))]), (.data [(.int .i64 (1))])]), (.agg [(.int .i64 (4)), (.data [(.int .i64 (0)), (.int .i64 (1)), (.int .i64 (4))]), (.data [(.int .i64 (3)), (.int .i64 (1))])])]), (.data [(.int .i64 (0)), (.int .i64 (1))])], (.int .i64 (0))),
 (23, [(.agg [(.int .i64 (4)), (.int .i64 (1))]), (.agg [(.int .i64 (3)), (.int .i64 (1))])], (.tup [(.agg [(.int .i64 (12)), (.int .i64 (1))]), (.int .i64 (0))]))]
def E23 : Env := E22.plus t22
def t23 : Tab := [(54, [(.agg [(.int .i64 (12)), (.int .i64 (1))]), (.agg [(.int .i64 (6)), (.int .i64 (1))])], (.tup [(.agg [(.int .i64 (18)), (.int .i64 (1))]), (.int .i64 (0))])),
 (23, [(.agg [(.int .i64 (18)), (.int .i64 (1))]), (.agg [(.int .i64 (1)), (.int .i64 (3))])], (.tup [(.agg [(.int .i64 (6)), (.int .i64 (1))]), (.int .i64 (0))])),
 (52, [(.agg [(.int .i64 (18)), (.int .i64 (1))]), (.agg [(.int .i64 (3)), (.int .i64 (1))])], (.tup [(.agg [(.int .i64 (6)), (.int .i64 (1))]), (.int .i64 (0))])),
 (23, [(.agg [(.int .i64 (4)), (.int .i64 (1))]), (.agg [(.int .i64 (1)), (.int .i64 (6))])], (.tup [(.agg [(.int .i64 (2)), (.int .i64 (3))]), (.int .i64 (0))])),
 (52, [(.agg [(.int .i64 (4)), (.int .i64 (1))]), (.agg [(.int .i64 (6)), (.int .i64 (1))])], (.tup [(.agg [(.int .i64 (2)), (.int .i64 (3))]), (.int .i64 (0))])),
 (44, [(.agg [(.int .i64 (1)), (.int .i64 (1))]), (.agg [(.int .i64 (2)), (.int .i64 (3))])], (.int .i64 (0))),
 (40, [(.agg [(.int .i64 (1)), (.int .i64 (1))]), (.agg [(.int .i64 (2)), (.int .i64 (3))])], (.tup [(.int .i64 (1)), (.int .i64 (0))]))]
def E24 : Env := E23.plus t23
def t24 : Tab := [(23, [(.agg [(.int .i64 (1)), (.int .i64 (1))]), (.agg [(.int .i64 (1)), (.int .i64 (4))])], (.tup [(.agg [(.int .i64 (1)), (.int .i64 (4))]), (.int .i64 (0))])),
 (52, [(.agg [(.int .i64 (1)), (.int .i64 (1))]), (.agg [(.int .i64 (4)), (.int .i64 (1))])], (.tup [(.agg [(.int .i64 (1)), (.int .i64 (4))]), (.int .i64 (0))])),
 (44, [(.agg [(.int .i64 (1)), (.int .i64 (4))]), (.agg [(.int .i64 (2)), (.int .i64 (3))])], (.int .i64 (0))),
 (40, [(.agg [(.int .i64 (1)), (.int .i64 (4))]), (.agg [(.int .i64 (2)), (.int .i64 (3))])], (.tup [(.int .i64 (-1)), (.int .i64 (0))])),
 (23, [(.agg [(.int .i64 (1)), (.int .i64 (1))]), (.agg [(.int .i64 (1)), (.int .i64 (6))])], (.tup [(.agg [(.int .i64 (1)), (.int .i64 (6))]), (.int .i64 (0))])),
 (52, [(.agg [(.int .i64 (1)), (.int .i64 (1))]), (.agg [(.int .i64 (6)), (.int .i64 (1))])], (.tup [(.agg [(.int .i64 (1)), (.int .i64 (6))]), (.int .i64 (0))])),
 (44, [(.agg [(.int .i64 (1)), (.int .i64 (6))]), (.agg [(.int .i64 (1)), (.int .i64 (4))])], (.int .i64 (0))),
 (40, [(.agg [(.int .i64 (1)), (.int .i64 (6))]), (.agg [(.int .i64 (1)), (.int .i64 (4))])], (.tup [(.int .i64 (-1)), (.int .i64 (0))])),
 (23, [(.agg [(.int .i64 (18)), (.int .i64 (1))]), (.agg [(.int .i64 (1)), (.int .i64 (1))])], (.tup [(.agg [(.int .i64 (18)), (.int .i64 (1))]), (.int .i64 (0))]))]
def E25 : Env := E24.plus t24
def t25 : Tab := [(52, [(.agg [(.int .i64 (18)), (.int .i64 (1))]), (.agg [(.int .i64 (1)), (.int .i64 (1))])], (.tup [(.agg [(.int .i64 (18)), (.int .i64 (1))]), (.int .i64 (0))])),
 (23, [(.agg [(.int .i64 (6)), (.int .i64 (1))]), (.agg [(.int .i64 (1)), (.int .i64 (18))])], (.tup [(.agg [(.int .i64 (1)), (.int .i64 (3))]), (.int .i64 (0))])),
 (52, [(.agg [(.int .i64 (6)), (.int .i64 (1))]), (.agg [(.int .i64 (18)), (.int .i64 (1))])], (.tup [(.agg [(.int .i64 (1)), (.int .i64 (3))]), (.int .i64 (0))])),
 (44, [(.agg [(.int .i64 (1)), (.int .i64 (4))]), (.agg [(.int .i64 (1)), (.int .i64 (3))])], (.int .i64 (0))),
 (40, [(.agg [(.int .i64 (1)), (.int .i64 (4))]), (.agg [(.int .i64 (1)), (.int .i64 (3))])], (.tup [(.int .i64 (-1)), (.int .i64 (0))])),
 (54, [(.agg [(.int .i64 (0)), (.int .i64 (1))]), (.agg [(.int .i64 (-1)), (.int .i64 (1))])], (.tup [(.agg [(.int .i64 (-1)), (.int .i64 (1))]), (.int .i64 (0))])),
 (51, [(.agg [(.int .i64 (0)), (.int .i64 (1))]), (.agg [(.int .i64 (1)), (.int .i64 (1))])], (.tup [(.agg [(.int .i64 (-1)), (.int .i64 (1))]), (.int .i64 (0))])),
 (23, [(.agg [(.int .i64 (-1)), (.int .i64 (1))]), (.agg [(.int .i64 (1)), (.int .i64 (1))])], (.tup [(.agg [(.int .i64 (-1)), (.int .i64 (1))]), (.int .i64 (0))]))]
def E26 : Env := E25.plus t25
def t26 : Tab := [(54, [(.agg [(.int .i64 (-1)), (.int .i64 (1))]), (.agg [(.int .i64 (0)), (.int .i64 (1))])], (.tup [(.agg [(.int .i64 (-1)), (.int .i64 (1))]), (.int .i64 (0))])),
 (54, [(.agg [(.int .i64 (4)), (.int .i64 (1))]), (.agg [(.int .i64 (6)), (.int .i64 (1))])], (.tup [(.agg [(.int .i64 (10)), (.int .i64 (1))]), (.int .i64 (0))])),
 (52, [(.agg [(.int .i64 (-1)), (.int .i64 (1))]), (.agg [(.int .i64 (1)), (.int .i64 (1))])], (.tup [(.agg [(.int .i64 (-1)), (.int .i64 (1))]), (.int .i64 (0))])),
 (54, [(.agg [(.int .i64 (-1)), (.int .i64 (1))]), (.agg [(.int .i64 (1)), (.int .i64 (1))])], (.tup [(.agg [(.int .i64 (0)), (.int .i64 (1))]), (.int .i64 (0))])),
 (23, [(.agg [(.int .i64 (10)), (.int .i64 (1))]), (.agg [(.int .i64 (1)), (.int .i64 (1))])], (.tup [(.agg [(.int .i64 (10)), (.int .i64 (1))]), (.int .i64 (0))])),
 (52, [(.agg [(.int .i64 (10)), (.int .i64 (1))]), (.agg [(.int .i64 (1)), (.int .i64 (1))])], (.tup [(.agg [(.int .i64 (10)), (.int .i64 (1))]), (.int .i64 (0))]))]
def E27 : Env := E26.plus t26
def t27 : Tab := [(23, [(.agg [(.int .i64 (4)), (.int .i64 (1))]), (.agg [(.int .i64 (1)), (.int .i64 (10))])], (.tup [(.agg [(.int .i64 (2)), (.int .i64 (5))]), (.int .i64 (0))])),
 (52, [(.agg [(.int .i64 (4)), (.int .i64 (1))]), (.agg [(.int .i64 (10)), (.int .i64 (1))])], (.tup [(.agg [(.int .i64 (2)), (.int .i64 (5))]), (.int .i64 (0))])),
 (44, [(.agg [(.int .i64 (1)), (.int .i64 (1))]), (.agg [(.int .i64 (2)), (.int .i64 (5))])], (.int .i64 (0))),
 (40, [(.agg [(.int .i64 (1)), (.int .i64 (1))]), (.agg [(.int .i64 (2)), (.int .i64 (5))])], (.tup [(.int .i64 (1)), (.int .i64 (0))])),
 (44, [(.agg [(.int .i64 (2)), (.int .i64 (5))]), (.agg [(.int .i64 (2)), (.int .i64 (5))])], (.int .i64 (0))),
 (40, [(.agg [(.int .i64 (2)), (.int .i64 (5))]), (.agg [(.int .i64 (2)), (.int .i64 (5))])], (.tup [(.int .i64 (0)), (.int .i64 (0))]))]
def E28 : Env := E27.plus t27
def t28 : Tab := [(15, [(.data [(.agg [(.int .i64 (4)), (.data [(.int .i64 (0)), (.int .i64 (4))]), (.data [(.int .i64 (1))])]), (.agg [(.int .i64 (4)), (.data [(.int .i64 (0)), (.int .i64 (1)), (.int .i64 (4))]), (.data [(.int .i64 (3)), (.int .i64 (1))])])]), (.data [(.int .i64 (0)), (.int .i64 (1))])], (.agg [(.int .i64 (2)), (.int .i64 (5))]))]
def E29 : Env := E28.plus t28
def t29 : Tab := [(44, [(.agg [(.int .i64 (2)), (.int .i64 (5))]), (.agg [(.int .i64 (4)), (.int .i64 (1))])], (.int .i64 (0))),
 (23, [(.agg [(.int .i64 (2)), (.int .i64 (5))]), (.agg [(.int .i64 (4)), (.int .i64 (1))])], (.tup [(.agg [(.int .i64 (8)), (.int .i64 (5))]), (.int .i64 (0))])),
 (44, [(.agg [(.int .i64 (4)), (.int .i64 (1))]), (.agg [(.int .i64 (8)), (.int .i64 (5))])], (.int .i64 (0))),
 (40, [(.agg [(.int .i64 (4)), (.int .i64 (1))]), (.agg [(.int .i64 (8)), (.int .i64 (5))])], (.tup [(.int .i64 (1)), (.int .i64 (0))])),
 (44, [(.agg [(.int .i64 (8)), (.int .i64 (5))]), (.agg [(.int .i64 (1)), (.int .i64 (1))])], (.int .i64 (0))),
 (23, [(.agg [(.int .i64 (8)), (.int .i64 (5))]), (.agg [(.int .i64 (1)), (.int .i64 (1))])], (.tup [(.agg [(.int .i64 (8)), (.int .i64 (5))]), (.int .i64 (0))])),
 (44, [(.agg [(.int .i64 (0)), (.int .i64 (1))]), (.agg [(.int .i64 (8)), (.int .i64 (5))])], (.int .i64 (0))),
 (54, [(.agg [(.int .i64 (0)), (.int .i64 (1))]), (.agg [(.int .i64 (8)), (.int .i64 (5))])], (.tup [(.agg [(.int .i64 (8)), (.int .i64 (5))]), (.int .i64 (0))])),
 (24, [(.agg [(.int .i64 (4)), (.data [(.int .i64 (0)), (.int .i64 (4))]), (.data [(.int .i64 (1))])]), (.agg [(.int .i64 (0)), (.int .i64 (1))]), (.agg [(.int .i64 (8)), (.int .i64 (5))])], (.tup [(.agg [(.int .i64 (8)), (.int .i64 (5))]), (.int .i64 (0))])),
 (44, [(.agg [(.int .i64 (2)), (.int .i64 (5))]), (.agg [(.int .i64 (6)), (.int .i64 (1))])], (.int .i64 (0)))]
def E30 : Env := E29.plus t29
def t30 : Tab := [(23, [(.agg [(.int .i64 (2)), (.int .i64 (5))]), (.agg [(.int .i64 (6)), (.int .i64 (1))])], (.tup [(.agg [(.int .i64 (12)), (.int .i64 (5))]), (.int .i64 (0))])),
 (40, [(.agg [(.int .i64 (8)), (.int .i64 (5))]), (.agg [(.int .i64 (1)), (.int .i64 (1))])], (.tup [(.int .i64 (1)), (.int .i64 (0))])),
 (44, [(.agg [(.int .i64 (8)), (.int .i64 (5))]), (.agg [(.int .i64 (4)), (.int .i64 (1))])], (.int .i64 (0))),
 (40, [(.agg [(.int .i64 (8)), (.int .i64 (5))]), (.agg [(.int .i64 (4)), (.int .i64 (1))])], (.tup [(.int .i64 (-1)), (.int .i64 (0))])),
 (44, [(.agg [(.int .i64 (4)), (.int .i64 (1))]), (.agg [(.int .i64 (-8)), (.int .i64 (5))])], (.int .i64 (0))),
 (54, [(.agg [(.int .i64 (4)), (.int .i64 (1))]), (.agg [(.int .i64 (-8)), (.int .i64 (5))])], (.tup [(.agg [(.int .i64 (12)), (.int .i64 (5))]), (.int .i64 (0))])),
 (44, [(.agg [(.int .i64 (12)), (.int .i64 (5))]), (.agg [(.int .i64 (1)), (.int .i64 (1))])], (.int .i64 (0))),
 (23, [(.agg [(.int .i64 (12)), (.int .i64 (5))]), (.agg [(.int .i64 (1)), (.int .i64 (1))])], (.tup [(.agg [(.int .i64 (12)), (.int .i64 (5))]), (.int .i64 (0))])),
 (44, [(.agg [(.int .i64 (12)), (.int .i64 (5))]), (.agg [(.int .i64 (12)), (.int .i64 (5))])], (.int .i64 (0))),
 (40, [(.agg [(.int .i64 (12)), (.int .i64 (5))]), (.agg [(.int .i64 (12)), (.int .i64 (5))])], (.tup [(.int .i64 (0)), (.int .i64 (0))]))]
def E31 : Env := E30.plus t30
def t31 : Tab := [(44, [(.agg [(.int .i64 (8)), (.int .i64 (5))]), (.agg [(.int .i64 (12)), (.int .i64 (5))])], (.int .i64 (0))),
 (54, [(.agg [(.int .i64 (8)), (.int .i64 (5))]), (.agg [(.int .i64 (12)), (.int .i64 (5))])], (.tup [(.agg [(.int .i64 (4)), (.int .i64 (1))]), (.int .i64 (0))])),
 (24, [(.agg [(.int .i64 (4)), (.data [(.int .i64 (0)), (.int .i64 (1)), (.int .i64 (4))]), (.data [(.int .i64 (3)), (.int .i64 (1))])]), (.agg [(.int .i64 (8)), (.int .i64 (5))]), (.agg [(.int .i64 (12)), (.int .i64 (5))])], (.tup [(.agg [(.int .i64 (4)), (.int .i64 (1))]), (.int .i64 (0))])),
 (9, [(.data [(.agg [(.int .i64 (4)), (.data [(.int .i64 (0)), (.int .i64 (4))]), (.data [(.int .i64 (1))])]), (.agg [(.int .i64 (4)), (.data [(.int .i64 (0)), (.int .i64 (1)), (.int .i64 (4))]), (.data [(.int .i64 (3)), (.int .i64 (1))])])]), (.data [(.int .i64 (0)), (.int .i64 (1))]), (.agg [(.int .i64 (2)), (.int .i64 (5))])], (.tup [(.data [(.agg [(.int .i64 (8)), (.int .i64 (5))]), (.agg [(.int .i64 (4)), (.int .i64 (1))])]), (.int .i64 (0))])),
 (54, [(.agg [(.int .i64 (2)), (.int .i64 (1))]), (.agg [(.int .i64 (4)), (.int .i64 (1))])], (.tup [(.agg [(.int .i64 (6)), (.int .i64 (1))]), (.int .i64 (0))])),
 (44, [(.agg [(.int .i64 (1)), (.int .i64 (2))]), (.agg [(.int .i64 (2)), (.int .i64 (3))])], (.int .i64 (0))),
 (40, [(.agg [(.int .i64 (1)), (.int .i64 (2))]), (.agg [(.int .i64 (2)), (.int .i64 (3))])], (.tup [(.int .i64 (-1)), (.int .i64 (0))]))]
def E32 : Env := E31.plus t31
def t32 : Tab := [(40, [(.agg [(.int .i64 (2)), (.int .i64 (1))]), (.agg [(.int .i64 (1)), (.int .i64 (2))])], (.tup [(.int .i64 (1)), (.int .i64 (0))])),
 (44, [(.agg [(.int .i64 (2)), (.int .i64 (3))]), (.agg [(.int .i64 (1)), (.int .i64 (2))])], (.int .i64 (0))),
 (40, [(.agg [(.int .i64 (2)), (.int .i64 (3))]), (.agg [(.int .i64 (1)), (.int .i64 (2))])], (.tup [(.int .i64 (1)), (.int .i64 (0))])),
 (54, [(.agg [(.int .i64 (-2)), (.int .i64 (1))]), (.agg [(.int .i64 (0)), (.int .i64 (1))])], (.tup [(.agg [(.int .i64 (-2)), (.int .i64 (1))]), (.int .i64 (0))])),
 (51, [(.agg [(.int .i64 (-2)), (.int .i64 (1))]), (.agg [(.int .i64 (0)), (.int .i64 (1))])], (.tup [(.agg [(.int .i64 (-2)), (.int .i64 (1))]), (.int .i64 (0))])),
 (23, [(.agg [(.int .i64 (-2)), (.int .i64 (1))]), (.agg [(.int .i64 (1)), (.int .i64 (1))])], (.tup [(.agg [(.int .i64 (-2)), (.int .i64 (1))]), (.int .i64 (0))])),
 (54, [(.agg [(.int .i64 (6)), (.int .i64 (1))]), (.agg [(.int .i64 (4)), (.int .i64 (1))])], (.tup [(.agg [(.int .i64 (10)), (.int .i64 (1))]), (.int .i64 (0))]))]
def E33 : Env := E32.plus t32
def t33 : Tab := [(52, [(.agg [(.int .i64 (-2)), (.int .i64 (1))]), (.agg [(.int .i64 (1)), (.int .i64 (1))])], (.tup [(.agg [(.int .i64 (-2)), (.int .i64 (1))]), (.int .i64 (0))])),
 (23, [(.agg [(.int .i64 (6)), (.int .i64 (1))]), (.agg [(.int .i64 (1)), (.int .i64 (10))])], (.tup [(.agg [(.int .i64 (3)), (.int .i64 (5))]), (.int .i64 (0))])),
 (52, [(.agg [(.int .i64 (6)), (.int .i64 (1))]), (.agg [(.int .i64 (10)), (.int .i64 (1))])], (.tup [(.agg [(.int .i64 (3)), (.int .i64 (5))]), (.int .i64 (0))])),
 (44, [(.agg [(.int .i64 (1)), (.int .i64 (1))]), (.agg [(.int .i64 (3)), (.int .i64 (5))])], (.int .i64 (0))),
 (40, [(.agg [(.int .i64 (1)), (.int .i64 (1))]), (.agg [(.int .i64 (3)), (.int .i64 (5))])], (.tup [(.int .i64 (1)), (.int .i64 (0))])),
 (44, [(.agg [(.int .i64 (3)), (.int .i64 (5))]), (.agg [(.int .i64 (3)), (.int .i64 (5))])], (.int .i64 (0))),
 (40, [(.agg [(.int .i64 (3)), (.int .i64 (5))]), (.agg [(.int .i64 (3)), (.int .i64 (5))])], (.tup [(.int .i64 (0)), (.int .i64 (0))]))]
def E34 : Env := E33.plus t33
def t34 : Tab := [(15, [(.data [(.agg [(.int .i64 (4)), (.data [(.int .i64 (0)), (.int .i64 (4))]), (.data [(.int .i64 (1))])]), (.agg [(.int .i64 (4)), (.data [(.int .i64 (0)), (.int .i64 (1)), (.int .i64 (4))]), (.data [(.int .i64 (3)), (.int .i64 (1))])])]), (.data [(.int .i64 (1)), (.int .i64 (0))])], (.agg [(.int .i64 (3)), (.int .i64 (5))])),
 (44, [(.agg [(.int .i64 (3)), (.int .i64 (5))]), (.agg [(.int .i64 (6)), (.int .i64 (1))])], (.int .i64 (0))),
 (23, [(.agg [(.int .i64 (3)), (.int .i64 (5))]), (.agg [(.int .i64 (6)), (.int .i64 (1))])], (.tup [(.agg [(.int .i64 (18)), (.int .i64 (5))]), (.int .i64 (0))]))]
def E35 : Env := E34.plus t34
def t35 : Tab := [(40, [(.agg [(.int .i64 (0)), (.int .i64 (1))]), (.agg [(.int .i64 (1)), (.int .i64 (1))])], (.tup [(.int .i64 (-1)), (.int .i64 (0))])),
 (23, [(.agg [(.int .i64 (1)), (.int .i64 (1))]), (.agg [(.int .i64 (3)), (.int .i64 (1))])], (.tup [(.agg [(.int .i64 (3)), (.int .i64 (1))]), (.int .i64 (0))])),
 (44, [(.agg [(.int .i64 (3)), (.int .i64 (1))]), (.agg [(.int .i64 (18)), (.int .i64 (5))])], (.int .i64 (0))),
 (40, [(.agg [(.int .i64 (3)), (.int .i64 (1))]), (.agg [(.int .i64 (18)), (.int .i64 (5))])], (.tup [(.int .i64 (-1)), (.int .i64 (0))])),
 (44, [(.agg [(.int .i64 (18)), (.int .i64 (5))]), (.agg [(.int .i64 (3)), (.int .i64 (1))])], (.int .i64 (0))),
 (44, [(.agg [(.int .i64 (18)), (.int .i64 (5))]), (.agg [(.int .i64 (-3)), (.int .i64 (1))])], (.int .i64 (0))),
 (54, [(.agg [(.int .i64 (18)), (.int .i64 (5))]), (.agg [(.int .i64 (-3)), (.int .i64 (1))])], (.tup [(.agg [(.int .i64 (3)), (.int .i64 (5))]), (.int .i64 (0))])),
 (44, [(.agg [(.int .i64 (3)), (.int .i64 (1))]), (.agg [(.int .i64 (3)), (.int .i64 (5))])], (.int .i64 (0))),
 (40, [(.agg [(.int .i64 (3)), (.int .i64 (1))]), (.agg [(.int .i64 (3)), (.int .i64 (5))])], (.tup [(.int .i64 (1)), (.int .i64 (0))]))]
def E36 : Env := E35.plus t35
def t36 : Tab := [(44, [(.agg [(.int .i64 (3)), (.int .i64 (5))]), (.agg [(.int .i64 (1)), (.int .i64 (1))])], (.int .i64 (0))),
 (23, [(.agg [(.int .i64 (3)), (.int .i64 (5))]), (.agg [(.int .i64 (1)), (.int .i64 (1))])], (.tup [(.agg [(.int .i64 (3)), (.int .i64 (5))]), (.int .i64 (0))])),
 (54, [(.agg [(.int .i64 (1)), (.int .i64 (1))]), (.agg [(.int .i64 (3)), (.int .i64 (5))])], (.tup [(.agg [(.int .i64 (8)), (.int .i64 (5))]), (.int .i64 (0))])),
 (24, [(.agg [(.int .i64 (4)), (.data [(.int .i64 (0)), (.int .i64 (1)), (.int .i64 (4))]), (.data [(.int .i64 (3)), (.int .i64 (1))])]), (.agg [(.int .i64 (0)), (.int .i64 (1))]), (.agg [(.int .i64 (18)), (.int .i64 (5))])], (.tup [(.agg [(.int .i64 (8)), (.int .i64 (5))]), (.int .i64 (0))])),
 (44, [(.agg [(.int .i64 (3)), (.int .i64 (5))]), (.agg [(.int .i64 (4)), (.int .i64 (1))])], (.int .i64 (0))),
 (23, [(.agg [(.int .i64 (3)), (.int .i64 (5))]), (.agg [(.int .i64 (4)), (.int .i64 (1))])], (.tup [(.agg [(.int .i64 (12)), (.int .i64 (5))]), (.int .i64 (0))])),
 (24, [(.agg [(.int .i64 (4)), (.data [(.int .i64 (0)), (.int .i64 (4))]), (.data [(.int .i64 (1))])]), (.agg [(.int .i64 (8)), (.int .i64 (5))]), (.agg [(.int .i64 (12)), (.int .i64 (5))])], (.tup [(.agg [(.int .i64 (4)), (.int .i64 (1))]), (.int .i64 (0))]))]
def E37 : Env := E36.plus t36
def t37 : Tab := [(9, [(.data [(.agg [(.int .i64 (4)), (.data [(.int .i64 (0)), (.int .i64 (4))]), (.data [(.int .i64 (1))])]), (.agg [(.int .i64 (4)), (.data [(.int .i64 (0)), (.int .i64 (1)), (.int .i64 (4))]), (.data [(.int .i64 (3)), (.int .i64 (1))])])]), (.data [(.int .i64 (1)), (.int .i64 (0))]), (.agg [(.int .i64 (3)), (.int .i64 (5))])], (.tup [(.data [(.agg [(.int .i64 (8)), (.int .i64 (5))]), (.agg [(.int .i64 (4)), (.int .i64 (1))])]), (.int .i64 (0))])),
 (44, [(.agg [(.int .i64 (2)), (.int .i64 (5))]), (.agg [(.int .i64 (3)), (.int .i64 (5))])], (.int .i64 (0))),
 (40, [(.agg [(.int .i64 (2)), (.int .i64 (5))]), (.agg [(.int .i64 (3)), (.int .i64 (5))])], (.tup [(.int .i64 (-1)), (.int .i64 (0))])),
 (7, [(.data [(.agg [(.int .i64 (4)), (.data [(.int .i64 (0)), (.int .i64 (4))]), (.data [(.int .i64 (1))])]), (.agg [(.int .i64 (4)), (.data [(.int .i64 (0)), (.int .i64 (1)), (.int .i64 (4))]), (.data [(.int .i64 (3)), (.int .i64 (1))])])])], (.tup [(.data [(.int .i64 (1)), (.int .i64 (0))]), (.agg [(.int .i64 (3)), (.int .i64 (5))]), (.int .i64 (0))])),
 (23, [(.agg [(.int .i64 (1)), (.int .i64 (2))]), (.agg [(.int .i64 (4)), (.int .i64 (1))])], (.tup [(.agg [(.int .i64 (2)), (.int .i64 (1))]), (.int .i64 (0))])),
 (52, [(.agg [(.int .i64 (2)), (.int .i64 (1))]), (.agg [(.int .i64 (1)), (.int .i64 (1))])], (.tup [(.agg [(.int .i64 (2)), (.int .i64 (1))]), (.int .i64 (0))])),
 (54, [(.agg [(.int .i64 (0)), (.int .i64 (1))]), (.agg [(.int .i64 (2)), (.int .i64 (1))])], (.tup [(.agg [(.int .i64 (2)), (.int .i64 (1))]), (.int .i64 (0))]))]
def E38 : Env := E37.plus t37
def t38 : Tab := [(24, [(.agg [(.int .i64 (4)), (.data [(.int .i64 (0)), (.int .i64 (4))]), (.data [(.int .i64 (1))])]), (.agg [(.int .i64 (0)), (.int .i64 (1))]), (.agg [(.int .i64 (2)), (.int .i64 (1))])], (.tup [(.agg [(.int .i64 (2)), (.int .i64 (1))]), (.int .i64 (0))])),
 (23, [(.agg [(.int .i64 (1)), (.int .i64 (2))]), (.agg [(.int .i64 (6)), (.int .i64 (1))])], (.tup [(.agg [(.int .i64 (3)), (.int .i64 (1))]), (.int .i64 (0))])),
 (40, [(.agg [(.int .i64 (2)), (.int .i64 (1))]), (.agg [(.int .i64 (3)), (.int .i64 (1))])], (.tup [(.int .i64 (-1)), (.int .i64 (0))])),
 (54, [(.agg [(.int .i64 (3)), (.int .i64 (1))]), (.agg [(.int .i64 (-2)), (.int .i64 (1))])], (.tup [(.agg [(.int .i64 (1)), (.int .i64 (1))]), (.int .i64 (0))])),
 (51, [(.agg [(.int .i64 (3)), (.int .i64 (1))]), (.agg [(.int .i64 (2)), (.int .i64 (1))])], (.tup [(.agg [(.int .i64 (1)), (.int .i64 (1))]), (.int .i64 (0))])),
 (24, [(.agg [(.int .i64 (4)), (.data [(.int .i64 (0)), (.int .i64 (1)), (.int .i64 (4))]), (.data [(.int .i64 (3)), (.int .i64 (1))])]), (.agg [(.int .i64 (2)), (.int .i64 (1))]), (.agg [(.int .i64 (3)), (.int .i64 (1))])], (.tup [(.agg [(.int .i64 (0)), (.int .i64 (0))]), (.int .i64 (6))]))]
def E39 : Env := E38.plus t38
def t39 : Tab := [(9, [(.data [(.agg [(.int .i64 (4)), (.data [(.int .i64 (0)), (.int .i64 (4))]), (.data [(.int .i64 (1))])]), (.agg [(.int .i64 (4)), (.data [(.int .i64 (0)), (.int .i64 (1)), (.int .i64 (4))]), (.data [(.int .i64 (3)), (.int .i64 (1))])])]), (.data [(.int .i64 (0)), (.int .i64 (1))]), (.agg [(.int .i64 (1)), (.int .i64 (2))])], (.tup [(.data []), (.int .i64 (6))])),
 (13, [], (.bool true))]
def E40 : Env := E39.plus t39
end Go.Proofs.Yteokncggklmilaa.En
