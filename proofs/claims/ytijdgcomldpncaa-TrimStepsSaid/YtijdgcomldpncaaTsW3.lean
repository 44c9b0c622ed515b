/- Part 3 of what the statement rests on: a verified evaluator over pure values, the conditions of the program's functions, and their plain laws. -/
import Derived.Test.YtijdgcomldpncaaTsW2
namespace Go.Pf.Vc
open Go Go.Pf
def yyI:TFn:=⟨3,[.cell 6 true 2,.tmp 7],(.seq (oQ [O 3 (.boxL t0),O 4 (.boxL t1),O 5 (.boxH true 2 t2),O 6 (.allocL (.agg [(.int .i64 (0)),(.int .i64 (0))])),O 7 (.mv (I 0))] [0,1,2,7]) (.seq (.seq (oQ [oT 12 3 3,O 13 (.call (.f ybu) [t12]),M 8 13] [12,13]) (.seq (oQ [M 14 8,O 15 (.bin .neq t14 (I 0))] [14]) (.cond t15 (.seq (oQ [O 16 (.build [(.int .i64 (0)),(.int .i64 (0))] []),M 17 8,⟨none,(.store 2 t6 t16),none⟩,M 7 17] [3,4,5,8,15,16,17]) .ret) .skip))) (.seq (.seq (.ops [oT 18 3 3,oT 19 2 4,O 20 (.call (.f ycw) [t18,t19]),O 21 (.un .not t20),M 22 21,⟨some 23,(.load true 2 t5),some (22,false)⟩,⟨some 24,(.call (.f yaW) [t23]),some (22,false)⟩,⟨some 25,(.bin .neq t24 (I 0)),some (22,false)⟩,O 26 (.pick t22 (.c (.bool true)) t25),M 27 26,⟨some 28,(.fad 0 t5),some (27,false)⟩,⟨some 29,(.load false 1 t28),some (27,false)⟩,⟨some 30,(.bin .lss t29 (I 0)),some (27,false)⟩,O 31 (.pick t27 (.c (.bool true)) t30)] [⟨5,(.agg [.i .i64,.i .i64]),0⟩,⟨11,(.agg [.i .i64,.i .i64]),0⟩] [] [8,15,18,19,20,21,22,23,24,25,26,27,28,29,30]) (.cond t31 (.seq (oQ [O 32 (.build [(.int .i64 (0)),(.int .i64 (0))] []),⟨none,(.store 2 t6 t32),none⟩,O 7 (.mv (I 2))] [3,4,5,31,32]) .ret) .skip)) (.seq (.seq (.ops [O 33 (.fad 0 t5),oF 34 1 33,O 35 (.bin .eql t34 (I 0))] [⟨1,(.agg [.i .i64,.i .i64]),0⟩] [] [31,33,34]) (.cond t35 (.seq (oQ [oT 36 2 4,⟨none,(.store 2 t6 t36),none⟩,O 7 (.mv (I 0))] [3,4,5,35,36]) .ret) .skip)) (.seq (oQ [O 9 (.allocH true 2 (.agg [(.int .i64 (0)),(.int .i64 (0))]))] [35]) (.seq (.ops [O 10 (.allocH true 1 (.int .i64 (0))),⟨none,(.store 1 t10 (I 6)),none⟩] [⟨1,(.one (.i .i64)),0⟩] [] []) (.seq (oQ [oT 37 3 3,oT 38 2 4,O 39 (.mkFn (.func ydY) [] [t5,t10,t9]),O 40 (.call (.f ylv) [t37,t38,t39]),M 11 40] [3,4,5,37,38,39,40]) (.seq (.seq (oQ [M 41 11,O 42 (.bin .neq t41 (I 0))] [41]) (.cond t42 (.ops [M 43 11,⟨none,(.store 1 t10 t43),none⟩] [⟨1,(.one (.i .i64)),0⟩] [] [11,42,43]) .skip)) (.seq (.seq (.ops [oF 44 1 10,O 45 (.bin .neq t44 (I 0))] [⟨0,(.one (.i .i64)),0⟩] [] [11,42,44]) (.cond t45 (.seq (.ops [O 46 (.build [(.int .i64 (0)),(.int .i64 (0))] []),oF 47 1 10,⟨none,(.store 2 t6 t46),none⟩,M 7 47] [⟨1,(.one (.i .i64)),0⟩] [(0,1),(1,2)] [9,10,45,46,47]) .ret) .skip)) (.seq (.ops [oT 48 2 9,⟨none,(.store 2 t6 t48),none⟩,O 7 (.mv (I 0))] [⟨0,(.agg [.i .i64,.i .i64]),0⟩] [] [9,10,45,48]) .ret))))))))))⟩
def yph:TFn:=⟨4,[.cell 8 true 2,.tmp 9],(.seq (oQ [O 4 (.boxL t0),O 6 (.boxL t2),O 7 (.boxL t3),O 8 (.allocL (.agg [(.int .i64 (0)),(.int .i64 (0))])),O 9 (.mv (I 0))] [0,2,3,9]) (.seq (.ops [O 10 (.fad 0 t4),O 11 (.fad 0 t10),oF 12 1 11,M 13 1,O 14 (.iad 3 t12 t13),oT 15 3 14,oT 16 2 6,oT 17 2 7,O 18 (.call (.f ygA) [t15,t16,t17]),O 19 (.ext t18 0),O 20 (.ext t18 1),⟨none,(.store 2 t8 t19),none⟩,M 9 20] [⟨2,(.agg [.d,.d]),0⟩,⟨4,(.agg [.i .i64,.d,.d]),0⟩,⟨5,(.agg [.i .i64,.d,.d]),0⟩] [(0,3),(1,3),(2,3),(0,6),(1,6),(2,6),(3,6),(4,6),(5,6),(0,7),(1,7),(2,7),(3,7),(4,7),(5,7),(6,7),(9,10)] [1,4,6,7,10,11,12,13,14,15,16,17,18,19,20]) .ret))⟩
def yjk:TFn:=⟨3,[.cell 6 true 2,.cell 7 true 2,.tmp 8],(.seq (oQ [O 3 (.boxL t0),O 4 (.boxL t1),O 6 (.allocL (.agg [.nils,.nils])),O 7 (.allocL (.agg [(.int .i64 (0)),(.int .i64 (0))])),O 8 (.mv (I 0))] [0,1,8]) (.seq (.seq (.ops [O 13 (.fad 0 t3),oT 14 2 13,O 15 (.call (.f ybB) [t14]),M 9 15] [⟨1,(.agg [.d,.d]),0⟩] [] [13,14,15]) (.seq (oQ [M 16 9,O 17 (.bin .neq t16 (I 0))] [16]) (.cond t17 (.seq (oQ [O 18 (.build [.nils,.nils] []),O 19 (.build [(.int .i64 (0)),(.int .i64 (0))] []),M 20 9,⟨none,(.store 2 t6 t18),none⟩,⟨none,(.store 2 t7 t19),none⟩,M 8 20] [2,3,4,9,17,18,19,20]) .ret) .skip))) (.seq (.seq (.ops [oT 21 2 3,O 22 (.fad 0 t4),oF 23 1 22,O 24 (.call (.f ybC) [t21,t23]),O 25 (.un .not t24)] [⟨2,(.agg [.i .i64,.i .u8,.i .i64,.i .i64,.i .i64,.i .i64,.i .i64,.i .i64]),0⟩] [] [9,17,21,22,23,24]) (.cond t25 (.seq (oQ [O 26 (.build [.nils,.nils] []),O 27 (.build [(.int .i64 (0)),(.int .i64 (0))] []),⟨none,(.store 2 t6 t26),none⟩,⟨none,(.store 2 t7 t27),none⟩,O 8 (.mv (I 2))] [2,3,4,25,26,27]) .ret) .skip)) (.seq (.ops [M 29 2,O 30 (.fad 0 t4),oF 31 1 30,O 32 (.fad 2 t4),oT 33 2 32,O 34 (.fad 4 t4),oT 35 2 34,O 36 (.call t29 [t31,t33,t35]),M 28 36,O 37 (.ext t28 0),O 38 (.ext t28 1),O 10 (.allocL (.agg [(.int .i64 (0)),(.int .i64 (0))])),⟨none,(.store 2 t10 t37),none⟩,M 11 38] [⟨2,(.agg [.i .i64,.i .u8,.i .i64,.i .i64,.i .i64,.i .i64,.i .i64,.i .i64]),0⟩,⟨4,(.agg [.i .i64,.i .u8,.i .i64,.i .i64,.i .i64,.i .i64,.i .i64,.i .i64]),0⟩,⟨6,(.agg [.i .i64,.i .u8,.i .i64,.i .i64,.i .i64,.i .i64,.i .i64,.i .i64]),0⟩] [] [2,25,28,29,30,31,32,33,34,35,36,37,38]) (.seq (.seq (oQ [M 39 11,O 40 (.bin .neq t39 (I 0))] [39]) (.cond t40 (.seq (oQ [O 41 (.build [.nils,.nils] []),O 42 (.build [(.int .i64 (0)),(.int .i64 (0))] []),M 43 11,⟨none,(.store 2 t6 t41),none⟩,⟨none,(.store 2 t7 t42),none⟩,M 8 43] [3,4,10,11,40,41,42,43]) .ret) .skip)) (.seq (.seq (.ops [O 44 (.fad 0 t3),O 45 (.fad 1 t44),oF 46 1 45,O 47 (.len t46),O 48 (.bin .geq t47 (I 2000))] [⟨2,(.agg [.d,.d]),0⟩] [] [11,40,44,45,46,47]) (.cond t48 (.seq (oQ [O 49 (.build [.nils,.nils] []),O 50 (.build [(.int .i64 (0)),(.int .i64 (0))] []),⟨none,(.store 2 t6 t49),none⟩,⟨none,(.store 2 t7 t50),none⟩,O 8 (.mv (I 4))] [3,4,10,48,49,50]) .ret) .skip)) (.seq (.ops [oT 51 2 10,O 52 (.fad 6 t4),⟨none,(.store 2 t52 t51),none⟩] [⟨2,(.agg [.i .i64,.i .u8,.i .i64,.i .i64,.i .i64,.i .i64,.i .i64,.i .i64]),0⟩] [] [48,51,52]) (.seq (.ops [O 53 (.fad 0 t3),O 54 (.fad 1 t53),oF 55 1 54,O 56 (.len t55),O 57 (.bin .add t56 (I 1)),O 58 (.mkSl true 8 64 (.agg [(.int .i64 (0)),(.int .u8 (0)),(.int .i64 (0)),(.int .i64 (0)),(.int .i64 (0)),(.int .i64 (0)),(.int .i64 (0)),(.int .i64 (0))]) (I 0) t57),M 12 58] [⟨2,(.agg [.d,.d]),0⟩] [] [53,54,55,56,57,58]) (.seq (.ops [O 59 (.fad 0 t3),O 60 (.fad 0 t59),oF 61 1 60,O 62 (.call (.f yda) [t61]),M 63 12,O 64 (.fad 0 t3),O 65 (.fad 1 t64),oF 66 1 65,O 67 (.app true 8 64 t63 t66),oT 68 8 4,O 69 (.buildD 8 (.agg [(.int .i64 (0)),(.int .u8 (0)),(.int .i64 (0)),(.int .i64 (0)),(.int .i64 (0)),(.int .i64 (0)),(.int .i64 (0)),(.int .i64 (0))]) 1 [(0,t68)]),O 70 (.app true 8 64 t67 t69),O 71 (.build [.nils,.nils] [(0,1,t62),(1,1,t70)]),oT 72 2 10,⟨none,(.store 2 t6 t71),none⟩,⟨none,(.store 2 t7 t72),none⟩,O 8 (.mv (I 0))] [⟨2,(.agg [.d,.d]),0⟩,⟨7,(.agg [.d,.d]),0⟩] [(0,4),(1,4),(2,4),(3,4),(0,5),(1,5),(2,5),(3,5),(4,5),(0,6),(1,6),(2,6),(3,6),(4,6),(0,7),(1,7),(2,7),(3,7),(4,7),(0,9),(1,9),(2,9),(3,9),(4,9),(5,9),(6,9),(7,9),(8,9),(0,10),(1,10),(2,10),(3,10),(4,10),(5,10),(6,10),(7,10),(8,10),(0,13),(1,13),(2,13),(3,13),(4,13),(5,13),(6,13),(7,13),(8,13),(9,13),(10,13),(11,13),(12,13),(13,14)] [3,4,10,12,59,60,61,62,63,64,65,66,67,68,69,70,71,72]) .ret)))))))))⟩
def yz5:TFn:=⟨4,[.cell 8 true 2,.cell 9 true 2,.tmp 10],(.seq (oQ [O 4 (.boxL t0),O 6 (.boxL t2),O 7 (.boxL t3),O 8 (.allocL (.agg [.nils,.nils])),O 9 (.allocL (.agg [(.int .i64 (0)),(.int .i64 (0))])),O 10 (.mv (I 0))] [0,2,3,10]) (.seq (oQ [oT 12 2 4,O 13 (.build [.nils,.nils] [(0,2,t12)]),O 11 (.allocL (.agg [.nils,.nils])),⟨none,(.store 2 t11 t13),none⟩] [4,12,13]) (.seq (oQ [oT 14 2 11,M 15 1,oT 16 2 6,oT 17 2 7,O 18 (.build [(.int .i64 (0)),(.int .u8 (0)),(.int .i64 (0)),(.int .i64 (0)),(.int .i64 (0)),(.int .i64 (0)),(.int .i64 (0)),(.int .i64 (0))] [(0,1,t15),(1,1,(.c (.int .u8 (2)))),(2,2,t16),(4,2,t17)]),oT 19 2 11,O 20 (.mkFn (.func ydd) [t19] []),O 21 (.call (.f ydt) [t14,t18,t20]),O 22 (.ext t21 0),O 23 (.ext t21 1),O 24 (.ext t21 2),⟨none,(.store 2 t8 t22),none⟩,⟨none,(.store 2 t9 t23),none⟩,M 10 24] [1,6,7,11,14,15,16,17,18,19,20,21,22,23,24]) .ret)))⟩
def yhN:TFn:=⟨4,[.tmp 5],(.seq (oQ [O 5 (.mv (I 0))] [5]) (.seq (.ops [oT 10 2 1,M 11 0,oT 12 2 2,oT 13 2 1,M 14 0,O 15 (.call (.f ydb) [t13,t14]),O 16 (.call (.f ye4) [t10,t11,t12,t15]),M 9 16,O 17 (.ext t9 0),O 18 (.ext t9 1),O 19 (.ext t9 2),O 6 (.allocL (.agg [.nils,.nils])),O 7 (.allocL (.agg [(.int .i64 (0)),(.int .i64 (0))])),⟨none,(.store 2 t6 t17),none⟩,⟨none,(.store 2 t7 t18),none⟩,M 8 19] [] [(0,1),(0,2),(1,2),(0,3),(1,3),(2,3),(0,4),(1,4),(2,4),(3,4),(0,5),(1,5),(2,5),(8,9),(8,10),(9,10),(0,11),(1,11),(2,11),(3,11),(4,11),(5,11),(6,11),(7,11),(8,11),(9,11),(10,11),(0,12),(1,12),(2,12),(3,12),(4,12),(5,12),(6,12),(7,12),(8,12),(9,12),(10,12),(11,12),(9,13),(10,13),(10,14)] [2,9,10,11,12,13,14,15,16,17,18,19]) (.seq (.seq (oQ [M 20 8,O 21 (.bin .eql t20 (I 0))] [20]) (.cond t21 (.ops [oT 22 2 6,oT 23 2 7,M 24 0,⟨none,(.store 2 t1 t22),none⟩,O 25 (.fad 3 t3),⟨none,(.store 2 t25 t23),none⟩,O 26 (.fad 0 t3),⟨none,(.store 1 t26 t24),none⟩] [] [(0,1),(0,2),(1,2),(1,3),(2,3),(2,4),(2,5)] [0,1,3,6,7,21,22,23,24,25,26]) .skip)) (.seq (oQ [M 27 8,M 5 27] [0,1,3,6,7,8,21,27]) .ret))))⟩
def t100:Opd:=.t 100
def yj5:TCode:=(.seq (oQ [oX 45 .lss 44 43] []) (.seq (.cond t45 .skip (.exit 0)) (.seq (.block 1 (.seq (.ops [M 46 44,O 47 (.iad 1 t42 t44),oF 48 1 47,M 11 46,M 12 48] [⟨1,(.one (.i .i64)),0⟩,⟨2,(.one (.i .i64)),0⟩] [] [45,46,47,48]) (.seq (.ops [O 49 (.fad 1 t3),oF 50 1 49,M 51 11,O 52 (.bin .add t51 (I 1)),O 53 (.iad 1 t50 t52),oF 54 1 53,O 55 (.call (.f ya1) [t54]),O 13 (.allocL (.agg [(.int .i64 (0)),(.int .i64 (0))])),⟨none,(.store 2 t13 t55),none⟩] [⟨1,(.agg [.i .i64,.d,.d]),0⟩,⟨4,(.one (.i .i64)),0⟩,⟨5,(.one (.i .i64)),0⟩] [] [11,49,50,51,52,53,54,55]) (.seq (.seq (oQ [oT 56 2 5,oT 57 2 13,O 58 (.call (.f ybq) [t56,t57])] [56,57]) (.cond t58 (oQ [oT 59 2 5,⟨none,(.store 2 t13 t59),none⟩] [58,59]) .skip)) (.seq (.seq (oQ [M 60 12,O 61 (.bin .eql t60 (I 0)),M 62 61,⟨some 63,(.load true 2 t10),some (62,false)⟩,⟨some 64,(.load true 2 t13),some (62,false)⟩,⟨some 65,(.call (.f ybq) [t63,t64]),some (62,false)⟩,⟨some 66,(.un .not t65),some (62,false)⟩,O 67 (.pick t62 (.c (.bool true)) t66)] [58,60,61,62,63,64,65,66]) (.cond t67 (.seq (.seq (oQ [oT 68 2 10,oT 69 2 13,O 70 (.call (.f ybq) [t68,t69])] [12,67,68,69]) (.cond t70 (oQ [oT 71 2 13,⟨none,(.store 2 t10 t71),none⟩] [13,70,71]) .skip)) (.exit 1)) .skip)) (.seq (oQ [oT 73 2 13,oT 74 2 10,O 75 (.call (.f ydc) [t73,t74]),M 72 75,O 76 (.ext t72 0),O 77 (.ext t72 1),O 14 (.allocL (.agg [(.int .i64 (0)),(.int .i64 (0))])),⟨none,(.store 2 t14 t76),none⟩,M 15 77] [67,72,73,74,75,76,77]) (.seq (.seq (oQ [M 78 15,O 79 (.bin .neq t78 (I 0))] [78]) (.cond t79 (.seq (oQ [O 80 (.build [(.int .i64 (0)),(.int .i64 (0))] []),M 81 15,⟨none,(.store 2 t6 t80),none⟩,M 7 81] [3,5,9,10,12,13,14,15,42,43,44,79,80,81]) .ret) .skip)) (.seq (.ops [oT 83 2 14,M 84 12,O 85 (.call (.f ya1) [t84]),O 86 (.call (.f ycc) [t83,t85]),M 82 86,O 87 (.ext t82 0),O 88 (.ext t82 1),O 16 (.allocL (.agg [(.int .i64 (0)),(.int .i64 (0))])),⟨none,(.store 2 t16 t87),none⟩,M 15 88] [] [(0,1),(0,2),(5,6),(0,7),(1,7),(2,7),(3,7),(4,7),(5,7),(6,7),(6,8)] [12,14,79,82,83,84,85,86,87,88]) (.seq (.seq (oQ [M 89 15,O 90 (.bin .neq t89 (I 0))] [89]) (.cond t90 (.seq (oQ [O 91 (.build [(.int .i64 (0)),(.int .i64 (0))] []),M 92 15,⟨none,(.store 2 t6 t91),none⟩,M 7 92] [3,5,9,10,13,15,16,42,43,44,90,91,92]) .ret) .skip)) (.seq (.seq (oQ [oT 94 2 9,oT 95 2 16,O 96 (.call (.f ycA) [t94,t95]),M 93 96,O 97 (.ext t93 0),O 98 (.ext t93 1),⟨none,(.store 2 t9 t97),none⟩,M 15 98] [16,90,93,94,95,96,97,98]) (.seq (oQ [M 99 15,O 100 (.bin .neq t99 (I 0))] [99]) (.cond t100 (.seq (oQ [O 101 (.build [(.int .i64 (0)),(.int .i64 (0))] []),M 102 15,⟨none,(.store 2 t6 t101),none⟩,M 7 102] [3,5,9,10,13,15,42,43,44,100,101,102]) .ret) .skip))) (oQ [oT 103 2 13,⟨none,(.store 2 t10 t103),none⟩] [13,15,100,103]))))))))))) (oQ [O 104 (.bin .add t44 (I 1)),M 44 104] [13,70,104]))))
def ywD:TFn:=⟨3,[.cell 6 true 2,.tmp 7],(.seq (oQ [O 3 (.boxL t0),O 4 (.boxL t1),O 5 (.boxL t2),O 6 (.allocL (.agg [(.int .i64 (0)),(.int .i64 (0))])),O 7 (.mv (I 0))] [0,1,2,7]) (.seq (.seq (oQ [oT 17 3 3,O 18 (.call (.f ybu) [t17]),M 8 18] [17,18]) (.seq (oQ [M 19 8,O 20 (.bin .neq t19 (I 0))] [19]) (.cond t20 (.seq (oQ [O 21 (.build [(.int .i64 (0)),(.int .i64 (0))] []),M 22 8,⟨none,(.store 2 t6 t21),none⟩,M 7 22] [3,4,5,8,20,21,22]) .ret) .skip))) (.seq (.seq (oQ [oT 23 3 3,oT 24 2 4,O 25 (.call (.f ycw) [t23,t24]),O 26 (.un .not t25),M 27 26,⟨some 28,(.load true 3 t3),some (27,false)⟩,⟨some 29,(.load true 2 t5),some (27,false)⟩,⟨some 30,(.call (.f ycw) [t28,t29]),some (27,false)⟩,⟨some 31,(.un .not t30),some (27,false)⟩,O 32 (.pick t27 (.c (.bool true)) t31),M 33 32,⟨some 34,(.load true 2 t5),some (33,false)⟩,⟨some 35,(.load true 2 t4),some (33,false)⟩,⟨some 36,(.call (.f ybq) [t34,t35]),some (33,false)⟩,O 37 (.pick t33 (.c (.bool true)) t36)] [8,20,23,24,25,26,27,28,29,30,31,32,33,34,35,36]) (.cond t37 (.seq (oQ [O 38 (.build [(.int .i64 (0)),(.int .i64 (0))] []),⟨none,(.store 2 t6 t38),none⟩,O 7 (.mv (I 2))] [3,4,5,37,38]) .ret) .skip)) (.seq (oQ [O 39 (.call (.f ya1) [(I 0)]),O 9 (.allocL (.agg [(.int .i64 (0)),(.int .i64 (0))])),⟨none,(.store 2 t9 t39),none⟩] [37,39]) (.seq (oQ [oT 40 2 4,O 10 (.allocL (.agg [(.int .i64 (0)),(.int .i64 (0))])),⟨none,(.store 2 t10 t40),none⟩] [4,40]) (.seq (.seq (.ops [O 41 (.fad 2 t3),oF 42 1 41,O 43 (.len t42),O 44 (.mv (I 0))] [⟨1,(.agg [.i .i64,.d,.d]),0⟩] [] [41]) (.block 0 (.loop 85339800 yj5))) (.seq (oQ [oT 105 2 9,⟨none,(.store 2 t6 t105),none⟩,O 7 (.mv (I 0))] [3,5,9,10,42,43,44,45,105]) .ret)))))))⟩
def yom:TFn:=⟨4,[.cell 8 true 2,.tmp 9],(.seq (oQ [O 4 (.boxL t0),O 6 (.boxL t2),O 7 (.boxL t3),O 8 (.allocL (.agg [(.int .i64 (0)),(.int .i64 (0))])),O 9 (.mv (I 0))] [0,2,3,9]) (.seq (.ops [O 10 (.fad 0 t4),O 11 (.fad 0 t10),oF 12 1 11,M 13 1,O 14 (.iad 3 t12 t13),oT 15 3 14,oT 16 2 6,oT 17 2 7,O 18 (.call (.f yfG) [t15,t16,t17]),O 19 (.ext t18 0),O 20 (.ext t18 1),⟨none,(.store 2 t8 t19),none⟩,M 9 20] [⟨2,(.agg [.d,.d]),0⟩,⟨4,(.agg [.i .i64,.d,.d]),0⟩,⟨5,(.agg [.i .i64,.d,.d]),0⟩] [(0,3),(1,3),(2,3),(0,6),(1,6),(2,6),(3,6),(4,6),(5,6),(0,7),(1,7),(2,7),(3,7),(4,7),(5,7),(6,7),(9,10)] [1,4,6,7,10,11,12,13,14,15,16,17,18,19,20]) .ret))⟩
def yyJ:TFn:=⟨4,[.cell 8 true 2,.cell 9 true 2,.tmp 10],(.seq (oQ [O 4 (.boxL t0),O 6 (.boxL t2),O 7 (.boxL t3),O 8 (.allocL (.agg [.nils,.nils])),O 9 (.allocL (.agg [(.int .i64 (0)),(.int .i64 (0))])),O 10 (.mv (I 0))] [0,2,3,10]) (.seq (oQ [oT 12 2 4,O 13 (.build [.nils,.nils] [(0,2,t12)]),O 11 (.allocL (.agg [.nils,.nils])),⟨none,(.store 2 t11 t13),none⟩] [4,12,13]) (.seq (oQ [oT 14 2 11,M 15 1,oT 16 2 6,oT 17 2 7,O 18 (.build [(.int .i64 (0)),(.int .u8 (0)),(.int .i64 (0)),(.int .i64 (0)),(.int .i64 (0)),(.int .i64 (0)),(.int .i64 (0)),(.int .i64 (0))] [(0,1,t15),(1,1,(.c (.int .u8 (1)))),(2,2,t16),(4,2,t17)]),oT 19 2 11,O 20 (.mkFn (.func ycR) [t19] []),O 21 (.call (.f ydt) [t14,t18,t20]),O 22 (.ext t21 0),O 23 (.ext t21 1),O 24 (.ext t21 2),⟨none,(.store 2 t8 t22),none⟩,⟨none,(.store 2 t9 t23),none⟩,M 10 24] [1,6,7,11,14,15,16,17,18,19,20,21,22,23,24]) .ret)))⟩
def yyK:TFn:=⟨2,[.tmp 4],(.seq (oQ [O 2 (.boxL t0),O 3 (.boxL t1),O 4 (.mv (.c (.bool false)))] [0,1,4]) (.seq (oQ [oT 8 2 2,oT 9 2 3,O 10 (.call (.f yeh) [t8,t9]),M 7 10,O 11 (.ext t7 0),O 12 (.ext t7 1),M 5 11,M 6 12] [2,3,6,7,8,9,10,11,12]) (.seq (oQ [M 13 5,O 14 (.bin .gtr t13 (I 0)),M 4 14] [5,13,14]) .ret)))⟩
def ye6:TCode:=(.seq (oQ [oX 32 .lss 31 30] []) (.seq (.cond t32 .skip (.exit 0)) (.seq (.block 1 (.seq (.ops [M 33 31,O 34 (.iad 1 t29 t31),oF 35 1 34,M 11 33,M 12 35] [⟨1,(.one (.i .i64)),0⟩,⟨2,(.one (.i .i64)),0⟩] [] [32,33,34,35]) (.seq (.seq (oQ [M 36 1,O 37 (.len t36),O 38 (.bin .eql t37 (I 1))] [36,37]) (.cond t38 (.exit 0) .skip)) (.seq (.seq (oQ [M 39 11,O 40 (.bin .gtr t39 (I 0))] [11,38,39]) (.cond t40 (.seq (.ops [oT 42 2 3,M 43 12,oT 44 2 5,O 45 (.fad 3 t9),oT 46 2 45,O 47 (.call (.f yei) [t42,t43,t44,t46]),M 41 47,O 48 (.ext t41 0),O 49 (.ext t41 1),O 50 (.ext t41 2),O 13 (.allocL (.agg [.nils,.nils])),O 14 (.allocL (.agg [(.int .i64 (0)),(.int .i64 (0))])),⟨none,(.store 2 t13 t48),none⟩,⟨none,(.store 2 t14 t49),none⟩,M 15 50] [⟨0,(.agg [.d,.d]),0⟩,⟨2,(.agg [.i .i64,.i .i64]),0⟩,⟨4,(.agg [.i .i64,.i .i64,.i .i64,.i .i64,.i .i64,.i .i64]),0⟩] [] [40,41,42,43,44,45,46,47,48,49,50]) (.seq (.seq (oQ [M 51 15,O 52 (.bin .neq t51 (I 0))] [51]) (.cond t52 (.seq (oQ [O 53 (.build [.nils,.nils] []),O 54 (.build [(.int .i64 (0)),(.int .i64 (0)),(.int .i64 (0)),(.int .i64 (0)),(.int .i64 (0)),(.int .i64 (0))] []),M 55 15,⟨none,(.store 2 t6 t53),none⟩,⟨none,(.store 6 t7 t54),none⟩,M 8 55] [1,3,5,9,10,12,13,14,15,29,30,31,52,53,54,55]) .ret) .skip)) (.seq (.ops [oT 56 2 13,⟨none,(.store 2 t3 t56),none⟩] [⟨1,(.agg [.d,.d]),0⟩] [] [13,15,52,56]) (.seq (.seq (.ops [oT 57 2 14,oT 58 2 3,M 59 12,O 60 (.call (.f ydb) [t58,t59]),O 61 (.call (.f ydH) [t57,t60]),O 62 (.un .not t61)] [⟨1,(.agg [.d,.d]),0⟩] [(0,1),(0,2),(1,2),(0,3)] [14,57,58,59,60,61]) (.cond t62 (.exit 1) .skip)) (.ops [O 63 (.fad 5 t9),oF 64 1 63,O 65 (.bin .add t64 (I 1)),O 66 (.fad 5 t9),⟨none,(.store 1 t66 t65),none⟩] [⟨1,(.agg [.i .i64,.i .i64,.i .i64,.i .i64,.i .i64,.i .i64]),0⟩,⟨4,(.agg [.i .i64,.i .i64,.i .i64,.i .i64,.i .i64,.i .i64]),0⟩] [] [62,63,64,65,66]))))) .skip)) (.seq (oQ [M 67 10,M 68 12,O 69 (.call t67 [t68]),M 16 69] [12,40,67,68,69]) (.seq (oQ [M 70 16,O 71 (.bin .neq t70 (I 0))] [70]) (.cond t71 (.seq (oQ [O 72 (.build [.nils,.nils] []),O 73 (.build [(.int .i64 (0)),(.int .i64 (0)),(.int .i64 (0)),(.int .i64 (0)),(.int .i64 (0)),(.int .i64 (0))] []),M 74 16,⟨none,(.store 2 t6 t72),none⟩,⟨none,(.store 6 t7 t73),none⟩,M 8 74] [1,3,5,9,10,16,29,30,31,71,72,73,74]) .ret) .skip))))))) (oQ [O 75 (.bin .add t31 (I 1)),M 31 75] [12,16,62,71,75]))))
def ypi:TFn:=⟨3,[.cell 6 true 2,.cell 7 true 6,.tmp 8],(.seq (oQ [O 3 (.boxH true 2 t0),O 5 (.boxH true 2 t2),O 6 (.allocL (.agg [.nils,.nils])),O 7 (.allocL (.agg [(.int .i64 (0)),(.int .i64 (0)),(.int .i64 (0)),(.int .i64 (0)),(.int .i64 (0)),(.int .i64 (0))])),O 8 (.mv (I 0))] [0,2,8]) (.seq (.ops [M 17 1,O 18 (.iad 1 t17 (I 0)),oF 19 1 18,oT 20 2 5,O 21 (.fad 0 t3),oF 22 1 21,O 23 (.iad 3 t22 (I 0)),O 24 (.fad 0 t23),oF 25 1 24,O 26 (.call (.f ybv) [t25]),O 27 (.build [(.int .i64 (0)),(.int .i64 (0)),(.int .i64 (0)),(.int .i64 (0)),(.int .i64 (0)),(.int .i64 (0))] [(0,1,t19),(1,2,t20),(3,2,t26)]),O 9 (.allocH true 6 (.agg [(.int .i64 (0)),(.int .i64 (0)),(.int .i64 (0)),(.int .i64 (0)),(.int .i64 (0)),(.int .i64 (0))])),⟨none,(.store 6 t9 t27),none⟩] [⟨1,(.one (.i .i64)),0⟩,⟨2,(.one (.i .i64)),0⟩,⟨3,(.agg [.i .i64,.i .i64]),0⟩,⟨5,(.agg [.d,.d]),0⟩,⟨6,(.agg [.i .i64,.d,.d]),0⟩,⟨8,(.agg [.i .i64,.d,.d]),0⟩,⟨12,(.agg [.i .i64,.i .i64,.i .i64,.i .i64,.i .i64,.i .i64]),0⟩] [(0,3),(1,3),(2,3),(0,4),(1,4),(2,4),(3,4),(0,5),(1,5),(2,5),(3,5),(0,6),(1,6),(2,6),(3,6),(0,7),(1,7),(2,7),(3,7),(0,8),(1,8),(2,8),(3,8),(0,9),(1,9),(2,9),(3,9),(0,11),(1,11),(2,11),(3,11),(4,11),(5,11),(6,11),(7,11),(8,11),(9,11),(10,11)] [17,18,19,20,21,22,23,24,25,26,27]) (.seq (oQ [O 28 (.mkFn (.func ybc) [] [t3,t5,t9]),M 10 28] [28]) (.seq (.seq (oQ [M 29 1,O 30 (.len t29),O 31 (.mv (I 0))] []) (.block 0 (.loop 62467600 ye6))) (.seq (.ops [oT 76 2 3,oT 77 6 9,⟨none,(.store 2 t6 t76),none⟩,⟨none,(.store 6 t7 t77),none⟩,O 8 (.mv (I 0))] [⟨0,(.agg [.d,.d]),0⟩,⟨1,(.agg [.i .i64,.i .i64,.i .i64,.i .i64,.i .i64,.i .i64]),0⟩] [(0,1),(1,2)] [1,3,5,9,10,11,12,29,30,31,32,38,76,77]) .ret)))))⟩
def yic:TFn:=⟨2,[.tmp 3],(.seq (oQ [O 3 (.mv (.c (.bool false)))] [3]) (.seq (oQ [M 4 0,O 5 (.fad 0 t1),oF 6 1 5,oX 7 .eql 4 6,M 3 7] [0,1,4,5,6,7]) .ret))⟩
def yj6:TCode:=(.seq (oQ [oX 9 .lss 8 7] []) (.seq (.cond t9 .skip (.exit 0)) (.seq (.block 1 (.seq (oQ [M 10 8,M 5 10] [9,10]) (.seq (.ops [M 11 1,M 12 0,M 13 5,O 14 (.iad 1 t12 t13),oF 15 1 14,O 16 (.call t11 [t15])] [⟨3,(.one (.i .i64)),0⟩,⟨4,(.one (.i .i64)),0⟩] [] [11,12,13,14,15]) (.cond t16 (.seq (oQ [M 17 5,M 4 17] [0,1,5,7,8,16,17]) .ret) .skip)))) (oQ [O 18 (.bin .add t8 (I 1)),M 8 18] [5,16,18]))))
def yk7:TFn:=⟨2,[.tmp 4],(.seq (oQ [O 4 (.mv (I 0))] [4]) (.seq (.seq (oQ [M 6 0,O 7 (.len t6),O 8 (.mv (I 0))] [6]) (.block 0 (.loop 91326000 yj6))) (.seq (oQ [O 4 (.mv (I (-1)))] [0,1,7,8,9]) .ret)))⟩
def yj7:TCode:=(.seq (.seq (oQ [M 16 6,M 17 0,O 18 (.len t17),oX 19 .lss 16 18] [16,17,18]) (.cond t19 .skip (.exit 0))) (.seq (.block 1 (.seq (.ops [M 22 0,M 23 6,O 24 (.iad 1 t22 t23),oF 25 1 24,M 7 25] [⟨2,(.one (.i .i64)),0⟩,⟨3,(.one (.i .i64)),0⟩] [] [19,22,23,24,25]) (.seq (oQ [M 26 1,M 27 7,O 28 (.call t26 [t27]),O 29 (.un .not t28)] [26,27,28]) (.cond t29 (.seq (.ops [M 30 0,M 31 5,M 32 7,O 33 (.iad 1 t30 t31),⟨none,(.store 1 t33 t32),none⟩] [⟨3,(.one (.i .i64)),0⟩,⟨4,(.one (.i .i64)),0⟩] [] [7,29,30,31,32,33]) (oQ [M 34 5,O 35 (.bin .add t34 (I 1)),M 5 35] [34,35])) .skip)))) (oQ [M 20 6,O 21 (.bin .add t20 (I 1)),M 6 21] [7,20,21,29])))
def yj8:TFn:=⟨2,[.tmp 4],(.seq (oQ [O 4 (.mv (.c .nils))] [4]) (.seq (oQ [M 8 0,M 9 1,O 10 (.call (.f yd2) [t8,t9]),M 5 10] [8,9,10]) (.seq (.seq (oQ [M 11 5,O 12 (.bin .eql t11 (I (-1)))] [11]) (.cond t12 (.seq (oQ [M 13 0,M 4 13] [0,1,5,12,13]) .ret) .skip)) (.seq (.seq (oQ [M 14 5,O 15 (.bin .add t14 (I 1)),M 6 15] [12,14,15]) (.block 0 (.loop 55401000 yj7))) (.seq (oQ [M 36 0,M 37 5,O 38 (.slc 1 t36 (some t37) none none),⟨none,(.clr true 1 (.int .i64 (0)) t38),none⟩] [1,6,19,36,37,38]) (.seq (oQ [M 39 0,M 40 5,O 41 (.slc 1 t39 none (some t40) none),M 4 41] [0,5,39,40,41]) .ret))))))⟩
def yz6:TCode:=(.seq (oQ [oX 17 .lss 16 15] []) (.seq (.cond t17 .skip (.exit 0)) (.seq (.block 1 (.seq (oQ [M 18 16,M 5 18] [17,18]) (.ops [M 19 4,M 20 5,M 21 5,O 22 (.iad 1 t19 t20),⟨none,(.store 1 t22 t21),none⟩] [⟨3,(.one (.i .i64)),0⟩,⟨4,(.one (.i .i64)),0⟩] [] [5,19,20,21,22]))) (oQ [O 23 (.bin .add t16 (I 1)),M 16 23] [23]))))
def yz7:TCode:=(.seq (.seq (oQ [M 25 4,O 26 (.len t25),O 27 (.bin .gtr t26 (I 0))] [25,26]) (.cond t27 .skip (.exit 2))) (.seq (.block 3 (.seq (.ops [oT 29 2 1,M 30 4,oT 31 2 6,O 32 (.call (.f ycx) [t29,t30,t31]),M 28 32,O 33 (.ext t28 0),O 34 (.ext t28 1),O 35 (.ext t28 2),O 7 (.allocL (.agg [.nils,.nils])),O 8 (.allocH true 6 (.agg [(.int .i64 (0)),(.int .i64 (0)),(.int .i64 (0)),(.int .i64 (0)),(.int .i64 (0)),(.int .i64 (0))])),⟨none,(.store 2 t7 t33),none⟩,⟨none,(.store 6 t8 t34),none⟩,M 9 35] [⟨11,(.agg [.i .i64,.i .i64,.i .i64,.i .i64,.i .i64,.i .i64]),0⟩] [] [27,28,29,30,31,32,33,34,35]) (.seq (.seq (oQ [M 36 9,O 37 (.bin .neq t36 (I 0))] [36]) (.cond t37 (.seq (oQ [oF 38 1 2,M 39 9,O 40 (.call t38 [t39])] [0,1,2,4,6,7,8,9,37,38,39,40]) .ret) .skip)) (.seq (.yret (.seq (.ops [M 41 0,oT 42 2 7,oT 43 6 8,O 44 (.call t41 [t42,t43]),O 45 (.un .not t44)] [] [9,37,41,42,43,44]) (.cond t45 .ret .skip)) [M 41 0,oT 42 2 7,oT 43 6 8] 44 t41 [t42,t43] 45 [9,37,41,42,43,44]) (.seq (.ops [oT 46 2 7,O 47 (.fad 3 t8),oT 48 2 47,⟨none,(.store 2 t1 t46),none⟩,⟨none,(.store 2 t6 t48),none⟩] [⟨2,(.agg [.i .i64,.i .i64,.i .i64,.i .i64,.i .i64,.i .i64]),0⟩] [(0,1),(0,2),(1,3),(2,3)] [7,45,46,47,48]) (oQ [M 49 4,O 50 (.mkFn (.func yaS) [] [t8]),O 51 (.call (.f ycy) [t49,t50]),M 4 51] [8,49,50,51])))))) (.seq (oQ [oT 52 2 6] [6]) (oQ [O 6 (.allocL (.agg [(.int .i64 (0)),(.int .i64 (0))])),⟨none,(.store 2 t6 t52),none⟩] [52]))))
def yCE:TFn:=⟨3,[],(.seq (oQ [O 10 (.fad 0 t1),oF 11 1 10,O 12 (.len t11),O 13 (.mkSl true 1 8 (.int .i64 (0)) t12 t12),M 4 13] [10,11,12,13]) (.seq (.seq (oQ [M 14 4,O 15 (.len t14),O 16 (.mv (I 0))] [14]) (.block 0 (.loopG 34581400 yz6))) (.seq (oQ [O 24 (.call (.f ybv) [(I 0)]),O 6 (.allocL (.agg [(.int .i64 (0)),(.int .i64 (0))])),⟨none,(.store 2 t6 t24),none⟩] [15,16,17,24]) (.block 2 (.loopG 34581401 yz7)))))⟩
def ynw:TFn:=⟨2,[.tmp 4],(.seq (oQ [O 2 (.boxH true 2 t0),O 3 (.boxH false 1 t1),O 4 (.mv (.c .nilf))] [0,1,4]) (.seq (oQ [O 5 (.mkFn (.func yc3) [] [t2,t3]),M 4 5] [2,3,5]) .ret))⟩
def yj9:TCode:=(.seq (oQ [oX 17 .lss 16 15] []) (.seq (.cond t17 .skip (.exit 0)) (.seq (.block 1 (.seq (oQ [M 18 16,M 5 18] [17,18]) (.ops [M 19 4,M 20 5,M 21 5,O 22 (.iad 1 t19 t20),⟨none,(.store 1 t22 t21),none⟩] [⟨3,(.one (.i .i64)),0⟩,⟨4,(.one (.i .i64)),0⟩] [] [5,19,20,21,22]))) (oQ [O 23 (.bin .add t16 (I 1)),M 16 23] [23]))))
def yka:TCode:=(.seq (.seq (oQ [M 25 4,O 26 (.len t25),O 27 (.bin .gtr t26 (I 0))] [25,26]) (.cond t27 .skip (.exit 2))) (.seq (.block 3 (.seq (.ops [oT 29 2 1,M 30 4,oT 31 2 6,O 32 (.call (.f ycx) [t29,t30,t31]),M 28 32,O 33 (.ext t28 0),O 34 (.ext t28 1),O 35 (.ext t28 2),O 7 (.allocL (.agg [.nils,.nils])),O 8 (.allocH true 6 (.agg [(.int .i64 (0)),(.int .i64 (0)),(.int .i64 (0)),(.int .i64 (0)),(.int .i64 (0)),(.int .i64 (0))])),⟨none,(.store 2 t7 t33),none⟩,⟨none,(.store 6 t8 t34),none⟩,M 9 35] [⟨11,(.agg [.i .i64,.i .i64,.i .i64,.i .i64,.i .i64,.i .i64]),0⟩] [] [27,28,29,30,31,32,33,34,35]) (.seq (.seq (oQ [M 36 9,O 37 (.bin .neq t36 (I 0))] [36]) (.cond t37 (.seq (oQ [oF 38 1 2,M 39 9,O 40 (.call t38 [t39])] [0,1,2,4,6,7,8,9,37,38,39,40]) .ret) .skip)) (.seq (.yret (.seq (.ops [M 41 0,oT 42 2 7,oT 43 6 8,O 44 (.call t41 [t42,t43]),O 45 (.un .not t44)] [] [9,37,41,42,43,44]) (.cond t45 .ret .skip)) [M 41 0,oT 42 2 7,oT 43 6 8] 44 t41 [t42,t43] 45 [9,37,41,42,43,44]) (.seq (.ops [oT 46 2 7,O 47 (.fad 3 t8),oT 48 2 47,⟨none,(.store 2 t1 t46),none⟩,⟨none,(.store 2 t6 t48),none⟩] [⟨2,(.agg [.i .i64,.i .i64,.i .i64,.i .i64,.i .i64,.i .i64]),0⟩] [(0,1),(0,2),(1,3),(2,3)] [7,45,46,47,48]) (oQ [M 49 4,O 50 (.mkFn (.func yaS) [] [t8]),O 51 (.call (.f ycy) [t49,t50]),M 4 51] [8,49,50,51])))))) (.seq (oQ [oT 52 2 6] [6]) (oQ [O 6 (.allocL (.agg [(.int .i64 (0)),(.int .i64 (0))])),⟨none,(.store 2 t6 t52),none⟩] [52]))))
def yru:TCode :=
 (.seq
 (.ops [⟨some 10,(.fad 0 (.t 1)),none⟩,
 ⟨some 11,(.load false 1 (.t 10)),none⟩,
 ⟨some 12,(.len (.t 11)),none⟩,
 ⟨some 13,(.mkSl true 1 8 (.int .i64 (0)) (.t 12) (.t 12)),none⟩,
 ⟨some 4,(.mv (.t 13)),none⟩]
 [] [] [10,11,12,13])
 (.seq
 (.seq
 (.ops [⟨some 14,(.mv (.t 4)),none⟩,
 ⟨some 15,(.len (.t 14)),none⟩,
 ⟨some 16,(.mv (.c (.int .i64 (0)))),none⟩]
 [] [] [14])
 (.block 0
 (.loopG 82399400 yj9)))
 (.seq
 (.ops [⟨some 24,(.call (.f ybv) [(.c (.int .i64 (0)))]),none⟩,
 ⟨some 6,(.allocL (.agg [(.int .i64 (0)),(.int .i64 (0))])),none⟩,
 ⟨none,(.store 2 (.t 6) (.t 24)),none⟩]
 [] [] [15,16,17,24])
 (.block 2
 (.loopG 82399401 yka)))))
def ycB:TCode :=
 (.seq
 (.ops [⟨some 7,(.allocH true 2 (.agg [(.data []),(.data [])])),none⟩,
 ⟨none,(.store 2 (.t 7) (.t 25)),none⟩]
 [⟨1,(.agg [.d,.d]),0⟩] [] [24,25])
 (.ops [⟨some 8,(.allocH true 6 (.agg [(.int .i64 (0)),(.int .i64 (0)),(.int .i64 (0)),(.int .i64 (0)),(.int .i64 (0)),(.int .i64 (0))])),none⟩,
 ⟨none,(.store 6 (.t 8) (.t 26)),none⟩]
 [⟨1,(.agg [.i .i64,.i .i64,.i .i64,.i .i64,.i .i64,.i .i64]),0⟩] [] [26]))
def ycC:TCode :=
 (.block 1
 (.seq
 (.ops [⟨some 27,(.load false 1 (.t 3)),none⟩,
 ⟨some 28,(.load true 6 (.t 8)),none⟩,
 ⟨some 29,(.buildD 6 (.agg [(.int .i64 (0)),(.int .i64 (0)),(.int .i64 (0)),(.int .i64 (0)),(.int .i64 (0)),(.int .i64 (0))]) 1 [(0,(.t 28))]),none⟩,
 ⟨some 30,(.app true 6 48 (.t 27) (.t 29)),none⟩,
 ⟨none,(.store 1 (.t 3) (.t 30)),none⟩]
 [⟨1,(.agg [.i .i64,.i .i64,.i .i64,.i .i64,.i .i64,.i .i64]),0⟩] [] [27,28,29,30])
 (.seq
 (.ops [⟨some 31,(.fad 1 (.t 7)),none⟩,
 ⟨some 32,(.load false 1 (.t 31)),none⟩,
 ⟨none,(.store 1 (.t 4) (.t 32)),none⟩]
 [⟨1,(.agg [.d,.d]),0⟩,⟨2,(.one (.d)),0⟩] [] [7,31,32])
 (.seq
 (.ops [⟨some 33,(.fad 0 (.t 2)),none⟩,
 ⟨some 34,(.load false 1 (.t 33)),none⟩,
 ⟨some 35,(.fad 0 (.t 8)),none⟩,
 ⟨some 36,(.load false 1 (.t 35)),none⟩,
 ⟨some 37,(.fad 1 (.t 8)),none⟩,
 ⟨some 38,(.load true 2 (.t 37)),none⟩,
 ⟨some 39,(.fad 3 (.t 8)),none⟩,
 ⟨some 40,(.load true 2 (.t 39)),none⟩,
 ⟨some 41,(.build [(.int .i64 (0)),(.int .i64 (0)),(.int .i64 (0)),(.int .i64 (0))] [(0,2,(.t 38)),(2,2,(.t 40))]),none⟩,
 ⟨some 42,(.buildD 4 (.agg [(.int .i64 (0)),(.int .i64 (0)),(.int .i64 (0)),(.int .i64 (0))]) 1 [(0,(.t 41))]),none⟩,
 ⟨some 43,(.iad 1 (.t 34) (.t 36)),none⟩,
 ⟨none,(.store 1 (.t 43) (.t 42)),none⟩]
 [⟨3,(.agg [.i .i64,.i .i64,.i .i64,.i .i64,.i .i64,.i .i64]),0⟩,⟨5,(.agg [.i .i64,.i .i64,.i .i64,.i .i64,.i .i64,.i .i64]),0⟩,⟨7,(.agg [.i .i64,.i .i64,.i .i64,.i .i64,.i .i64,.i .i64]),0⟩,⟨10,(.one (.d)),0⟩,⟨11,(.one (.d)),0⟩] [] [8,33,34,35,36,37,38,39,40,41,42,43])
 (.seq
 (.ops [⟨some 44,(.load false 1 (.t 3)),none⟩,
 ⟨some 45,(.len (.t 44)),none⟩,
 ⟨some 46,(.load false 1 (.t 1)),none⟩,
 ⟨some 47,(.len (.t 46)),none⟩,
 ⟨some 48,(.bin .eql (.t 45) (.t 47)),none⟩]
 [⟨2,(.one (.d)),0⟩] [] [1,44,45,46,47])
 (.cond (.t 48)
 (.exit 0)
 .skip))))))
def yyL:TCode:=(.rangeF (.t 24) yc3 3 yru [25,26] ycB ycC)
def yz8:TFn:=⟨1,[.cell 2 true 1,.cell 3 false 1,.cell 4 false 1,.cell 5 false 1],(.seq (oQ [O 1 (.boxH true 1 t0),O 2 (.allocH false 1 (.agg [.nils])),O 3 (.allocH false 1 .nils),O 4 (.allocH true 1 (.data [])),O 5 (.allocH true 1 (.int .i64 (0)))] [0]) (.seq (.ops [oF 10 1 1,O 11 (.call (.f ydL) [t10]),M 9 11,O 12 (.ext t9 0),O 13 (.ext t9 1),O 6 (.allocL (.agg [.nils,.nils])),⟨none,(.store 2 t6 t12),none⟩,⟨none,(.store 1 t5 t13),none⟩] [⟨0,(.one (.d)),0⟩,⟨7,(.one (.i .i64)),0⟩] [] [9,10,11,12,13]) (.seq (.seq (.ops [oF 14 1 5,O 15 (.bin .neq t14 (I 0))] [⟨0,(.one (.i .i64)),0⟩] [] [14]) (.cond t15 (.seq (.ops [O 16 (.build [.nils] []),oF 17 1 5,⟨none,(.store 1 t2 t16),none⟩,⟨none,(.store 1 t3 (.c .nils)),none⟩,⟨none,(.store 1 t4 (.c .nils)),none⟩,⟨none,(.store 1 t5 t17),none⟩] [⟨1,(.one (.i .i64)),0⟩,⟨4,(.one (.d)),0⟩,⟨5,(.one (.i .i64)),0⟩] [(0,1),(1,2),(1,3),(1,4)] [1,6,15,16,17]) .ret) .skip)) (.seq (.ops [oF 18 1 1,O 19 (.len t18),O 20 (.mkSl true 1 24 (.data []) t19 t19),O 21 (.fad 0 t2),⟨none,(.store 1 t21 t20),none⟩] [⟨0,(.one (.d)),0⟩] [] [15,18,19,20,21]) (.seq .skip (.seq (.seq (oQ [oT 22 2 6,O 23 (.mkFn (.func yav) [] [t5]),O 24 (.call (.f ygj) [t22,t23])] [6,22,23]) (.block 0 (.rangeF t24 yc3 3 yru [25,26] ycB ycC))) (.seq (.seq (.ops [oF 49 1 5,O 50 (.bin .neq t49 (I 0))] [⟨0,(.one (.i .i64)),0⟩] [] [1,24,48,49]) (.cond t50 (.seq (.ops [O 51 (.build [.nils] []),oF 52 1 5,⟨none,(.store 1 t2 t51),none⟩,⟨none,(.store 1 t3 (.c .nils)),none⟩,⟨none,(.store 1 t4 (.c .nils)),none⟩,⟨none,(.store 1 t5 t52),none⟩] [⟨1,(.one (.i .i64)),0⟩,⟨4,(.one (.d)),0⟩,⟨5,(.one (.i .i64)),0⟩] [(0,1),(1,2),(1,3),(1,4)] [50,51,52]) .ret) .skip)) (.seq (.ops [oT 53 1 2,oF 54 1 3,oF 55 1 4,⟨none,(.store 1 t2 t53),none⟩,⟨none,(.store 1 t3 t54),none⟩,⟨none,(.store 1 t4 t55),none⟩,⟨none,(.store 1 t5 (I 0)),none⟩] [⟨2,(.one (.d)),0⟩,⟨5,(.one (.d)),0⟩,⟨6,(.one (.i .i64)),0⟩] [(0,1),(0,2),(1,2),(1,3),(2,3),(2,4)] [50,53,54,55]) .ret))))))))⟩
def ywE:TFn:=⟨1,[.tmp 2,.tmp 3],(.seq (oQ [O 2 (.mv (I 0)),O 3 (.mv (I 0))] [2,3]) (.seq (.seq (oQ [M 4 0,O 5 (.bin .lss t4 (I 1)),M 6 5,⟨some 7,(.mv t0),some (6,false)⟩,⟨some 8,(.bin .gtr t7 (I 6)),some (6,false)⟩,O 9 (.pick t6 (.c (.bool true)) t8)] [4,5,6,7,8]) (.cond t9 (.seq (oQ [O 2 (.mv (I 0)),O 3 (.mv (I 2))] [0,9]) .ret) .skip)) (.seq (oQ [M 10 0,M 11 0,oX 12 .mul 10 11,O 13 (.bin .sub t12 (I 1)),M 2 13,O 3 (.mv (I 0))] [0,9,10,11,12,13]) .ret)))⟩
def yDk:TFn:=⟨1,[.cell 2 true 2],(.seq (oQ [O 2 (.allocL (.agg [(.int .i64 (0)),(.int .i64 (0))]))] []) (.seq (oQ [M 3 0,O 4 (.build [(.int .i64 (0)),(.int .i64 (0))] [(0,1,t3),(1,1,(I 1))]),⟨none,(.store 2 t2 t4),none⟩] [0,3,4]) .ret))⟩
def ykb:TCode:=(.seq (.seq (oQ [M 11 5,M 12 0,O 13 (.len t12),oX 14 .lss 11 13] [11,12,13]) (.cond t14 .skip (.exit 0))) (.seq (.block 1 (.seq (.ops [M 17 0,M 18 5,O 19 (.iad 6 t17 t18),oT 20 6 19,M 21 1,M 22 5,O 23 (.iad 6 t21 t22),oT 24 6 23,O 25 (.eqA true 6 [(0,(some .i64)),(1,(some .i64)),(2,(some .i64)),(3,(some .i64)),(4,(some .i64)),(5,(some .i64))] t20 t24)] [⟨2,(.agg [.i .i64,.i .i64,.i .i64,.i .i64,.i .i64,.i .i64]),0⟩,⟨3,(.agg [.i .i64,.i .i64,.i .i64,.i .i64,.i .i64,.i .i64]),0⟩,⟨6,(.agg [.i .i64,.i .i64,.i .i64,.i .i64,.i .i64,.i .i64]),0⟩,⟨7,(.agg [.i .i64,.i .i64,.i .i64,.i .i64,.i .i64,.i .i64]),0⟩] [(0,1),(0,4),(1,4),(2,4),(3,4),(0,5),(1,5),(2,5),(3,5),(4,5),(0,6),(1,6),(2,6),(3,6),(0,7),(1,7),(2,7),(3,7)] [14,17,18,19,20,21,22,23,24]) (.cond t25 (.seq (oQ [O 4 (.mv (.c (.bool false)))] [0,1,5,25]) .ret) .skip))) (oQ [M 15 5,O 16 (.bin .add t15 (I 1)),M 5 16] [15,16,25])))
def yrI:TFn:=⟨2,[.tmp 4],(.seq (oQ [O 4 (.mv (.c (.bool false)))] [4]) (.seq (.seq (oQ [M 6 0,O 7 (.len t6),M 8 1,O 9 (.len t8),oX 10 .neq 7 9] [6,7,8,9]) (.cond t10 (.seq (oQ [O 4 (.mv (.c (.bool false)))] [0,1,10]) .ret) .skip)) (.seq (.seq (oQ [O 5 (.mv (I 0))] [10]) (.block 0 (.loop 32519300 ykb))) (.seq (oQ [O 4 (.mv (.c (.bool true)))] [0,1,5,14]) .ret))))⟩
def yyM:TFn:=⟨0,[.tmp 0],(.seq (oQ [O 0 (.mv (.c (.bool false)))] [0]) (.seq (oQ [O 12 (.call (.f ygy) []),O 13 (.call (.f ye5) [t12]),M 11 13,O 14 (.ext t11 0),O 15 (.ext t11 1),O 16 (.ext t11 2),O 17 (.ext t11 3),O 1 (.allocL (.agg [.nils])),⟨none,(.store 1 t1 t14),none⟩,M 2 15,M 3 16,M 4 17] [1,11,12,13,14,15,16,17]) (.seq (oQ [O 19 (.call (.f yfH) [(I 3)]),M 18 19,O 20 (.ext t18 0),O 21 (.ext t18 1),M 5 20,M 6 21] [18,19,20,21]) (.seq (oQ [O 22 (.call (.f ygB) [(I 0)]),O 23 (.build [(.int .i64 (0)),(.int .i64 (0))] [(0,1,(I 2)),(1,1,(I 3))]),O 24 (.build [(.int .i64 (0)),(.int .i64 (0))] [(0,1,(I 8)),(1,1,(I 3))]),O 25 (.call (.f ygB) [(I 6)]),O 7 (.allocL (.agg [(.int .i64 (0)),(.int .i64 (0))])),O 8 (.allocL (.agg [(.int .i64 (0)),(.int .i64 (0))])),O 9 (.allocL (.agg [(.int .i64 (0)),(.int .i64 (0))])),O 10 (.allocL (.agg [(.int .i64 (0)),(.int .i64 (0))])),⟨none,(.store 2 t7 t22),none⟩,⟨none,(.store 2 t8 t23),none⟩,⟨none,(.store 2 t9 t24),none⟩,⟨none,(.store 2 t10 t25),none⟩] [22,23,24,25]) (.seq (oQ [M 26 4,O 27 (.bin .eql t26 (I 0)),M 28 27,⟨some 29,(.mv t2),some (28,true)⟩,⟨some 30,(.load true 2 t7),some (28,true)⟩,⟨some 31,(.load true 2 t8),some (28,true)⟩,⟨some 32,(.build [(.int .i64 (0)),(.int .i64 (0)),(.int .i64 (0)),(.int .i64 (0)),(.int .i64 (0)),(.int .i64 (0))] [(0,1,(I 2)),(1,2,t30),(3,2,t31),(5,1,(I 1))]),some (28,true)⟩,⟨some 33,(.load true 2 t8),some (28,true)⟩,⟨some 34,(.load true 2 t9),some (28,true)⟩,⟨some 35,(.build [(.int .i64 (0)),(.int .i64 (0)),(.int .i64 (0)),(.int .i64 (0)),(.int .i64 (0)),(.int .i64 (0))] [(0,1,(I 0)),(1,2,t33),(3,2,t34)]),some (28,true)⟩,⟨some 36,(.load true 2 t9),some (28,true)⟩,⟨some 37,(.load true 2 t10),some (28,true)⟩,⟨some 38,(.build [(.int .i64 (0)),(.int .i64 (0)),(.int .i64 (0)),(.int .i64 (0)),(.int .i64 (0)),(.int .i64 (0))] [(0,1,(I 1)),(1,2,t36),(3,2,t37)]),some (28,true)⟩,⟨some 39,(.buildD 6 (.agg [(.int .i64 (0)),(.int .i64 (0)),(.int .i64 (0)),(.int .i64 (0)),(.int .i64 (0)),(.int .i64 (0))]) 3 [(0,t32),(1,t35),(2,t38)]),some (28,true)⟩,⟨some 40,(.call (.f ydU) [t29,t39]),some (28,true)⟩,O 41 (.pick t28 t40 (.c (.bool false))),M 42 41,⟨some 43,(.mv t3),some (42,true)⟩,⟨some 44,(.len t43),some (42,true)⟩,⟨some 45,(.bin .eql t44 (I 6)),some (42,true)⟩,O 46 (.pick t42 t45 (.c (.bool false))),M 47 46,⟨some 48,(.mv t6),some (47,true)⟩,⟨some 49,(.bin .eql t48 (I 0)),some (47,true)⟩,O 50 (.pick t47 t49 (.c (.bool false))),M 51 50,⟨some 52,(.mv t5),some (51,true)⟩,⟨some 53,(.bin .eql t52 (I 8)),some (51,true)⟩,O 54 (.pick t51 t53 (.c (.bool false))),M 0 54] [2,3,4,5,6,7,8,9,10,26,27,28,29,30,31,32,33,34,35,36,37,38,39,40,41,42,43,44,45,46,47,48,49,50,51,52,53,54]) .ret)))))⟩
def yrv:TFn:=⟨1,[.tmp 2],(.seq (oQ [O 2 (.mv (.c .nils))] [2]) (.seq (.seq (oQ [M 3 0,O 4 (.eqN false t3)] [3]) (.cond t4 (.seq (oQ [O 2 (.mv (.c .nils))] [0,4]) .ret) .skip)) (.seq (oQ [O 5 (.buildSl true 8 (.agg [(.int .i64 (0)),(.int .u8 (0)),(.int .i64 (0)),(.int .i64 (0)),(.int .i64 (0)),(.int .i64 (0)),(.int .i64 (0)),(.int .i64 (0))]) 0 []),M 6 0,O 7 (.app true 8 64 t5 t6),M 2 7] [0,4,5,6,7]) .ret)))⟩
def ykc:TCode:=(.seq (oQ [oX 24 .lss 23 22] []) (.seq (.cond t24 .skip (.exit 0)) (.seq (.block 1 (.seq (.ops [O 25 (.iad 1 t21 t23),oF 26 1 25,M 12 26] [⟨0,(.one (.i .i64)),0⟩,⟨1,(.one (.i .i64)),0⟩] [] [24,25,26]) (.seq (.seq (.ops [M 27 12,M 28 10,oX 29 .leq 27 28,M 30 29,⟨some 31,(.mv t12),some (30,false)⟩,⟨some 32,(.fad 0 t3),some (30,false)⟩,⟨some 33,(.load false 1 t32),some (30,false)⟩,⟨some 34,(.len t33),some (30,false)⟩,⟨some 35,(.bin .geq t31 t34),some (30,false)⟩,O 36 (.pick t30 (.c (.bool true)) t35)] [⟨6,(.agg [.d,.d]),0⟩] [] [10,27,28,29,30,31,32,33,34,35]) (.cond t36 (.seq (oQ [O 37 (.build [.nils,.nils] []),O 38 (.build [(.int .i64 (0)),(.int .i64 (0)),(.int .i64 (0)),(.int .i64 (0)),(.int .i64 (0)),(.int .i64 (0))] []),⟨none,(.store 2 t6 t37),none⟩,⟨none,(.store 6 t7 t38),none⟩,O 8 (.mv (I 2))] [1,3,5,12,21,22,23,36,37,38]) .ret) .skip)) (oQ [M 39 12,M 10 39] [12,36,39])))) (oQ [O 40 (.bin .add t23 (I 1)),M 23 40] [40]))))
def ywF:TFn:=⟨3,[.cell 6 true 2,.cell 7 true 6,.tmp 8],(.seq (oQ [O 3 (.boxL t0),O 5 (.boxL t2),O 6 (.allocL (.agg [.nils,.nils])),O 7 (.allocL (.agg [(.int .i64 (0)),(.int .i64 (0)),(.int .i64 (0)),(.int .i64 (0)),(.int .i64 (0)),(.int .i64 (0))])),O 8 (.mv (I 0))] [0,2,8]) (.seq (.seq (oQ [oT 14 2 3,O 15 (.call (.f ybB) [t14]),M 9 15] [14,15]) (.seq (oQ [M 16 9,O 17 (.bin .neq t16 (I 0))] [16]) (.cond t17 (.seq (oQ [O 18 (.build [.nils,.nils] []),O 19 (.build [(.int .i64 (0)),(.int .i64 (0)),(.int .i64 (0)),(.int .i64 (0)),(.int .i64 (0)),(.int .i64 (0))] []),M 20 9,⟨none,(.store 2 t6 t18),none⟩,⟨none,(.store 6 t7 t19),none⟩,M 8 20] [1,3,5,9,17,18,19,20]) .ret) .skip))) (.seq (oQ [O 10 (.mv (I (-1)))] [9,17]) (.seq (.seq (oQ [M 21 1,O 22 (.len t21),O 23 (.mv (I 0))] []) (.block 0 (.loop 46699600 ykc))) (.seq (.seq (.ops [M 41 10,O 42 (.bin .lss t41 (I 0)),M 43 42,⟨some 44,(.load true 2 t5),some (43,false)⟩,⟨some 45,(.call (.f yaW) [t44]),some (43,false)⟩,⟨some 46,(.bin .neq t45 (I 0)),some (43,false)⟩,O 47 (.pick t43 (.c (.bool true)) t46),M 48 47,⟨some 49,(.fad 0 t5),some (48,false)⟩,⟨some 50,(.load false 1 t49),some (48,false)⟩,⟨some 51,(.bin .lss t50 (I 0)),some (48,false)⟩,O 52 (.pick t48 (.c (.bool true)) t51),M 53 52,⟨some 54,(.fad 0 t3),some (53,false)⟩,⟨some 55,(.load false 1 t54),some (53,false)⟩,⟨some 56,(.iad 3 t55 (I 0)),some (53,false)⟩,⟨some 57,(.fad 0 t56),some (53,false)⟩,⟨some 58,(.load false 1 t57),some (53,false)⟩,⟨some 59,(.call (.f ybv) [t58]),some (53,false)⟩,⟨some 60,(.load true 2 t5),some (53,false)⟩,⟨some 61,(.call (.f ydH) [t59,t60]),some (53,false)⟩,⟨some 62,(.un .not t61),some (53,false)⟩,O 63 (.pick t53 (.c (.bool true)) t62)] [⟨9,(.agg [.i .i64,.i .i64]),0⟩,⟨14,(.agg [.d,.d]),0⟩,⟨15,(.agg [.i .i64,.d,.d]),0⟩,⟨17,(.agg [.i .i64,.d,.d]),0⟩] [(13,19),(14,19),(15,19),(16,19),(17,19),(18,19)] [10,21,22,23,24,41,42,43,44,45,46,47,48,49,50,51,52,53,54,55,56,57,58,59,60,61,62]) (.cond t63 (.seq (oQ [O 64 (.build [.nils,.nils] []),O 65 (.build [(.int .i64 (0)),(.int .i64 (0)),(.int .i64 (0)),(.int .i64 (0)),(.int .i64 (0)),(.int .i64 (0))] []),⟨none,(.store 2 t6 t64),none⟩,⟨none,(.store 6 t7 t65),none⟩,O 8 (.mv (I 2))] [1,3,5,63,64,65]) .ret) .skip)) (.seq (.ops [O 67 (.fad 0 t3),oF 68 1 67,O 69 (.call (.f ydL) [t68]),M 66 69,O 70 (.ext t66 0),O 71 (.ext t66 1),O 13 (.allocL (.agg [.nils,.nils])),⟨none,(.store 2 t13 t70),none⟩,M 8 71] [⟨1,(.agg [.d,.d]),0⟩] [] [63,66,67,68,69,70,71]) (.seq (.ops [O 72 (.fad 1 t3),oF 73 1 72,O 74 (.call (.f yaF) [t73]),O 75 (.fad 1 t13),⟨none,(.store 1 t75 t74),none⟩] [⟨1,(.agg [.d,.d]),0⟩,⟨4,(.agg [.d,.d]),0⟩] [] [3,72,73,74,75]) (.seq (.seq (oQ [M 76 8,O 77 (.bin .neq t76 (I 0))] [76]) (.cond t77 (.seq (oQ [O 78 (.build [.nils,.nils] []),O 79 (.build [(.int .i64 (0)),(.int .i64 (0)),(.int .i64 (0)),(.int .i64 (0)),(.int .i64 (0)),(.int .i64 (0))] []),M 80 8,⟨none,(.store 2 t6 t78),none⟩,⟨none,(.store 6 t7 t79),none⟩,M 8 80] [1,5,13,77,78,79,80]) .ret) .skip)) (.seq (oQ [oT 81 2 13,M 82 1,oT 83 2 5,O 84 (.call (.f ycx) [t81,t82,t83]),O 85 (.ext t84 0),O 86 (.ext t84 1),O 87 (.ext t84 2),⟨none,(.store 2 t6 t85),none⟩,⟨none,(.store 6 t7 t86),none⟩,M 8 87] [1,5,13,77,81,82,83,84,85,86,87]) .ret)))))))))⟩
def ykd:TCode:=(.seq (.seq (oQ [M 11 5,M 12 0,O 13 (.len t12),oX 14 .lss 11 13] [11,12,13]) (.cond t14 .skip (.exit 0))) (.seq (.block 1 (.seq (.ops [M 17 0,M 18 5,O 19 (.iad 8 t17 t18),oT 20 8 19,M 21 1,M 22 5,O 23 (.iad 8 t21 t22),oT 24 8 23,O 25 (.eqA true 8 [(0,(some .i64)),(1,(some .u8)),(2,(some .i64)),(3,(some .i64)),(4,(some .i64)),(5,(some .i64)),(6,(some .i64)),(7,(some .i64))] t20 t24)] [⟨2,(.agg [.i .i64,.i .u8,.i .i64,.i .i64,.i .i64,.i .i64,.i .i64,.i .i64]),0⟩,⟨3,(.agg [.i .i64,.i .u8,.i .i64,.i .i64,.i .i64,.i .i64,.i .i64,.i .i64]),0⟩,⟨6,(.agg [.i .i64,.i .u8,.i .i64,.i .i64,.i .i64,.i .i64,.i .i64,.i .i64]),0⟩,⟨7,(.agg [.i .i64,.i .u8,.i .i64,.i .i64,.i .i64,.i .i64,.i .i64,.i .i64]),0⟩] [(0,1),(0,4),(1,4),(2,4),(3,4),(0,5),(1,5),(2,5),(3,5),(4,5),(0,6),(1,6),(2,6),(3,6),(0,7),(1,7),(2,7),(3,7)] [14,17,18,19,20,21,22,23,24]) (.cond t25 (.seq (oQ [O 4 (.mv (.c (.bool false)))] [0,1,5,25]) .ret) .skip))) (oQ [M 15 5,O 16 (.bin .add t15 (I 1)),M 5 16] [15,16,25])))
def ytt:TFn:=⟨2,[.tmp 4],(.seq (oQ [O 4 (.mv (.c (.bool false)))] [4]) (.seq (.seq (oQ [M 6 0,O 7 (.len t6),M 8 1,O 9 (.len t8),oX 10 .neq 7 9] [6,7,8,9]) (.cond t10 (.seq (oQ [O 4 (.mv (.c (.bool false)))] [0,1,10]) .ret) .skip)) (.seq (.seq (oQ [O 5 (.mv (I 0))] [10]) (.block 0 (.loop 11728400 ykd))) (.seq (oQ [O 4 (.mv (.c (.bool true)))] [0,1,5,14]) .ret))))⟩
def yke:TCode:=(.seq (.seq (oQ [M 39 9,M 40 0,O 41 (.len t40),oX 42 .lss 39 41] [39,40,41]) (.cond t42 .skip (.exit 0))) (.seq (.block 1 (oQ [M 45 8,M 46 9,O 47 (.buildD 1 (.int .i64 (0)) 1 [(0,t46)]),O 48 (.app true 1 8 t45 t47),M 8 48] [42,45,46,47,48])) (oQ [M 43 9,O 44 (.bin .add t43 (I 1)),M 9 44] [43,44])))
def t115:Opd:=.t 115
def yhO:TCode:=(.seq (.seq (oQ [M 97 16,M 98 8,O 99 (.len t98),oX 100 .lss 97 99] [97,98,99]) (.cond t100 .skip (.exit 4))) (.seq (.block 5 (.seq (.ops [M 103 8,M 104 16,O 105 (.iad 1 t103 t104),oF 106 1 105,O 107 (.fad 0 t13),oF 108 1 107,oX 109 .neq 106 108] [⟨2,(.one (.i .i64)),0⟩,⟨3,(.one (.i .i64)),0⟩,⟨5,(.agg [.i .i64,.i .i64,.i .i64,.i .i64,.i .i64,.i .i64]),0⟩] [(0,1),(0,4),(1,4),(2,4),(3,4),(0,5),(1,5),(2,5),(3,5)] [100,103,104,105,106,107,108]) (.cond t109 (.ops [M 110 15,M 111 8,M 112 16,O 113 (.iad 1 t111 t112),oF 114 1 113,O 115 (.buildD 1 (.int .i64 (0)) 1 [(0,t114)]),O 116 (.app true 1 8 t110 t115),M 15 116] [⟨3,(.one (.i .i64)),0⟩,⟨4,(.one (.i .i64)),0⟩] [] [109,110,111,112,113,114,115,116]) .skip))) (oQ [M 101 16,O 102 (.bin .add t101 (I 1)),M 16 102] [101,102,109])))
def t96:Opd:=.t 96
def ykf:TCode:=(.seq (.seq (oQ [M 50 11,M 51 4,O 52 (.len t51),oX 53 .lss 50 52] [50,51,52]) (.cond t53 .skip (.exit 2))) (.seq (.block 3 (.seq (oQ [oT 57 2 7,M 58 8,oT 59 2 10,O 60 (.call (.f yfI) [t57,t58,t59]),M 56 60,O 61 (.ext t56 0),O 62 (.ext t56 1),O 63 (.ext t56 2),O 12 (.allocL (.agg [.nils,.nils])),O 13 (.allocL (.agg [(.int .i64 (0)),(.int .i64 (0)),(.int .i64 (0)),(.int .i64 (0)),(.int .i64 (0)),(.int .i64 (0))])),⟨none,(.store 2 t12 t61),none⟩,⟨none,(.store 6 t13 t62),none⟩,M 14 63] [53,56,57,58,59,60,61,62,63]) (.seq (.seq (.ops [M 64 14,O 65 (.bin .neq t64 (I 0)),M 66 65,⟨some 67,(.load true 6 t13),some (66,false)⟩,⟨some 68,(.mv t4),some (66,false)⟩,⟨some 69,(.mv t11),some (66,false)⟩,⟨some 70,(.iad 6 t68 t69),some (66,false)⟩,⟨some 71,(.load true 6 t70),some (66,false)⟩,⟨some 72,(.eqA true 6 [(0,(some .i64)),(1,(some .i64)),(2,(some .i64)),(3,(some .i64)),(4,(some .i64)),(5,(some .i64))] t67 t71),some (66,false)⟩,O 73 (.pick t66 (.c (.bool true)) t72),M 74 73,⟨some 75,(.fad 1 t12),some (74,false)⟩,⟨some 76,(.load false 1 t75),some (74,false)⟩,⟨some 77,(.len t76),some (74,false)⟩,⟨some 78,(.fad 1 t7),some (74,false)⟩,⟨some 79,(.load false 1 t78),some (74,false)⟩,⟨some 80,(.len t79),some (74,false)⟩,⟨some 81,(.bin .lss t77 t80),some (74,false)⟩,O 82 (.pick t74 (.c (.bool true)) t81),M 83 82,⟨some 84,(.fad 1 t12),some (83,false)⟩,⟨some 85,(.load false 1 t84),some (83,false)⟩,⟨some 86,(.len t85),some (83,false)⟩,⟨some 87,(.fad 1 t7),some (83,false)⟩,⟨some 88,(.load false 1 t87),some (83,false)⟩,⟨some 89,(.len t88),some (83,false)⟩,⟨some 90,(.mv t8),some (83,false)⟩,⟨some 91,(.len t90),some (83,false)⟩,⟨some 92,(.bin .mul (I 2) t91),some (83,false)⟩,⟨some 93,(.bin .add t89 t92),some (83,false)⟩,⟨some 94,(.bin .sub t93 (I 1)),some (83,false)⟩,⟨some 95,(.bin .gtr t86 t94),some (83,false)⟩,O 96 (.pick t83 (.c (.bool true)) t95)] [⟨6,(.agg [.i .i64,.i .i64,.i .i64,.i .i64,.i .i64,.i .i64]),0⟩,⟨7,(.agg [.i .i64,.i .i64,.i .i64,.i .i64,.i .i64,.i .i64]),0⟩,⟨12,(.agg [.d,.d]),0⟩,⟨15,(.agg [.d,.d]),0⟩,⟨21,(.agg [.d,.d]),0⟩,⟨24,(.agg [.d,.d]),0⟩] [(3,4),(3,5),(4,5),(3,6),(3,7),(11,14),(12,14),(13,14),(11,15),(12,15),(13,15),(11,16),(12,16),(13,16),(20,23),(21,23),(22,23),(20,24),(21,24),(22,24),(20,25),(21,25),(22,25),(20,26),(21,26),(22,26),(23,26),(24,26),(25,26),(20,27),(21,27),(22,27),(23,27),(24,27),(25,27),(20,28),(21,28),(22,28),(23,28),(24,28),(25,28),(20,29),(21,29),(22,29),(20,30),(21,30),(22,30)] [14,64,65,66,67,68,69,70,71,72,73,74,75,76,77,78,79,80,81,82,83,84,85,86,87,88,89,90,91,92,93,94,95]) (.cond t96 (.seq (oQ [O 2 (.mv (.c (.bool false)))] [4,5,7,8,10,11,12,13,96]) .ret) .skip)) (.seq (oQ [O 15 (.mv (.c .nils))] [96]) (.seq (.seq (oQ [O 16 (.mv (I 0))] []) (.block 4 (.loopG 10099801 yhO))) (.ops [oT 117 2 12,O 118 (.mvD t15),O 119 (.fad 3 t13),oT 120 2 119,⟨none,(.store 2 t7 t117),none⟩,M 8 118,⟨none,(.store 2 t10 t120),none⟩] [⟨3,(.agg [.i .i64,.i .i64,.i .i64,.i .i64,.i .i64,.i .i64]),0⟩] [(0,1),(0,2),(1,2),(0,3),(1,3),(1,4),(2,4),(3,4),(2,5),(3,5)] [12,13,15,16,100,117,118,119,120])))))) (oQ [M 54 11,O 55 (.bin .add t54 (I 1)),M 11 55] [54,55])))
def t126:Opd:=.t 126
def yrJ:TFn:=⟨1,[.tmp 2],(.seq (oQ [O 2 (.mv (.c (.bool false)))] [2]) (.seq (.seq (oQ [M 17 0,O 18 (.call (.f yjh) [t17]),O 19 (.un .not t18)] [17,18]) (.cond t19 (.seq (oQ [O 20 (.call (.f yfi) []),M 2 20] [0,19,20]) .ret) .skip)) (.seq (oQ [M 22 0,O 23 (.call (.f ye5) [t22]),M 21 23,O 24 (.ext t21 0),O 25 (.ext t21 1),O 26 (.ext t21 2),O 27 (.ext t21 3),O 3 (.allocL (.agg [.nils])),⟨none,(.store 1 t3 t24),none⟩,M 4 25,M 5 26,M 6 27] [3,19,21,22,23,24,25,26,27]) (.seq (.seq (oQ [M 28 6,O 29 (.bin .neq t28 (I 0)),M 30 29,⟨some 31,(.mv t4),some (30,false)⟩,⟨some 32,(.len t31),some (30,false)⟩,⟨some 33,(.mv t0),some (30,false)⟩,⟨some 34,(.len t33),some (30,false)⟩,⟨some 35,(.bin .neq t32 t34),some (30,false)⟩,O 36 (.pick t30 (.c (.bool true)) t35)] [6,28,29,30,31,32,33,34,35]) (.cond t36 (.seq (oQ [O 2 (.mv (.c (.bool false)))] [0,4,5,36]) .ret) .skip)) (.seq (oQ [M 37 0,O 38 (.build [.nils,.nils] [(0,1,t37)]),O 7 (.allocL (.agg [.nils,.nils])),⟨none,(.store 2 t7 t38),none⟩] [36,37,38]) (.seq (oQ [O 8 (.mv (.c .nils))] []) (.seq (.seq (oQ [O 9 (.mv (I 0))] []) (.block 0 (.loopG 10099800 yke))) (.seq (oQ [O 49 (.call (.f ygB) [(I 0)]),O 10 (.allocL (.agg [(.int .i64 (0)),(.int .i64 (0))])),⟨none,(.store 2 t10 t49),none⟩] [0,9,42,49]) (.seq (.seq (oQ [O 11 (.mv (I 0))] []) (.block 2 (.loopG 10099802 ykf))) (.seq (.ops [O 121 (.fad 1 t7),oF 122 1 121,M 123 5,O 124 (.call (.f yej) [t122,t123]),M 125 124,⟨some 126,(.call (.f yfi) []),some (125,true)⟩,O 127 (.pick t125 t126 (.c (.bool false))),M 2 127] [⟨1,(.agg [.d,.d]),0⟩] [] [4,5,7,8,10,11,53,121,122,123,124,125,126,127]) .ret))))))))))⟩
def tab:List (Nat×AFn):=[(ygw,yyu.fn),(yds,yqm.fn),(yfg,yyv.fn),(ygx,yyw.fn),(yjh,yB6.fn),(ygy,yyx.fn),(ydT,yrG.fn),(yc2,yrH.fn),(ybu,ywt.fn),(ybB,yyy.fn),(ybJ,yA9.fn),(yda,ywu.fn),(ydL,yz4.fn),(yav,ypf.fn),(ybv,ywv.fn),(ybC,yqn.fn),(yfD,yww.fn),(ygz,yyz.fn),(yaN,ywx.fn),(ybD,yyA.fn),(ybK,yts.fn),(yfE,ywy.fn),(ydb,ywz.fn),(yaW,yum.fn),(ya1,ywA.fn),(ycP,yoj.fn),(ya4,yun.fn),(yci,ypg.fn),(ycu,ymQ.fn),(ycG,yB7.fn),(ybZ,yok.fn),(ybE,ylw.fn),(yfF,ywB.fn),(yeh,yyB.fn),(ybq,yyC.fn),(ycw,ywC.fn),(yji,yB8.fn),(ycQ,yol.fn),(yf1,yB9.fn),(yjj,yCa.fn),(ycA,yyD.fn),(ydc,yyE.fn),(ycc,yyF.fn),(yfh,yyG.fn),(ydY,ynv.fn),(ylv,yyH.fn),(ygA,yyI.fn),(ydd,yph.fn),(ydt,yjk.fn),(ye4,yz5.fn),(ybc,yhN.fn),(yfG,ywD.fn),(ycR,yom.fn),(yei,yyJ.fn),(ydH,yyK.fn),(ycx,ypi.fn),(yaS,yic.fn),(yd2,yk7.fn),(ycy,yj8.fn),(yc3,yCE.fn),(ygj,ynw.fn),(ye5,yz8.fn),(yfH,ywE.fn),(ygB,yDk.fn),(ydU,yrI.fn),(yfi,yyM.fn),(yaF,yrv.fn),(yfI,ywF.fn),(yej,ytt.fn),(ygL,yrJ.fn)]
def quiL:List Nat:=[ygw,yds,yfg,ygx,yjh,ygy,ydT,yc2,ybu,ybB,ybJ,yda,ydL,ybv,ybC,yfD,ygz,yaN,ybD,ybK,yfE,ydb,yaW,ya1,ycP,ya4,yci,ycu,ycG,ybZ,ybE,yfF,yeh,ybq,ycw,yet,yeu,yji,ycQ,yf1,yjj,ycA,ydc,ycc,yfh,ygA,ydd,ye4,yfG,ycR,yei,ydH,ye5,yfH,ygB,ydU,yfi,yaF,yfI,yej,ygL,(ycx+4000000)]
def cloL:yeg:=[(ybJ,1,8),(yaF,8,64)]
def gloL:List (Nat×PV):=[]
def E (ef:Es):Env:=(ylt yet yeu tab quiL cloL gloL ef)
def E0C:Env:=ykT yet yeu tab quiL cloL gloL
def yBa:List Nat:=[]
abbrev EG (e:Es):Prop:=EffG E yBa e
theorem ybd:EG []:=⟨fun _ _ _ _ h=>(by cases h),fun _ _ _ _=>rfl⟩
theorem okU {e:Es} (he:EG e) {P:EP} {S:SE} {d n:Nat} {t:TFn} {s:Sg} {w:s.W} (hq:EqW S d t s w) (hS:SEOk P S) (hR:yhM P S.E (yjd S d) t.body) (hl:LpOk P S.E S.lp [] t.body) (hE:S.E=E e:=by rfl) (hs:ysq yet yeu cloL n=false:=by kernel_rfl) (hm:memN yBa n=false:=by kernel_rfl) (hf:S.E.fns n=some t.fn:=by kernel_rfl) (hu:S.E.qui n=true:=by kernel_rfl) (hn:S.E.nl n=false:=by kernel_rfl):∀ as K,s.pw w as K→∃ r,K r∧AnsP P n as r:=okW hq hS hR hl (fun _=>by rw [hE];exact ya8 hs _) (by rw [hE];exact he.num _ hm) hf hu hn
abbrev ycj:Type:=Ls→(Ls→Prop)→Prop
def yde (p0:Ls) (K:Ls→Prop):Prop:=yws 1 8 p0 K
def yon (w:Ls→(Ls→Prop)→Prop) (as:Ls) (K:PV→Prop):Prop:=ypb w as K
def yoo (as:Ls) (K:PV→Prop):Prop:=ypc 1 8 as K
theorem yop (e:Es) (_:EG e):OkF (E e) yoo ybJ:=yvE (by kernel_rfl) (by kernel_rfl) (by kernel_rfl)
abbrev yax:Type:=Ls→(Ls→Prop)→Prop
def yaG (p0:Ls) (K:Ls→Prop):Prop:=yws 8 64 p0 K
def ydu (w:Ls→(Ls→Prop)→Prop) (as:Ls) (K:PV→Prop):Prop:=ypb w as K
def yf2 (as:Ls) (K:PV→Prop):Prop:=ypc 8 64 as K
theorem ydv (e:Es) (_:EG e):OkF (E e) yf2 yaF:=yvE (by kernel_rfl) (by kernel_rfl) (by kernel_rfl)
abbrev yvF:Type:=Int→Int→Int→(Int→Int→Prop)→Prop
abbrev yvG:Type:=Int→Int→Int→(Int→Int→Prop)→Prop
theorem yz9 (e:Es) (_:EG e):OkF (E e) yog yet:=yB4
theorem yAa (e:Es) (_:EG e):OkF (E e) yoi yeu:=yB5 (by kernel_rfl)
end Go.Pf.Vc
namespace Go.Pf.Vc
open Go Go.Pf
set_option maxRecDepth 100000
abbrev yaw:Type:=Int→(Int→Prop)→Prop
def yiv (p0:Int) (K:Int→Prop):Prop :=
 (cbr (decide (p0<(0:Int)))
 (K (IntKind.u64.wrap ((0:Int)-(IntKind.u64.wrap p0))))
 (K (IntKind.u64.wrap p0)))
def ydf:yaw:=yiv
def pt0:VPt:=vI IntKind.i64
def pt1:LPt:=lC pt0 lN
def yuo:Sg:=⟨pt1,Int→Prop,fun K=>(fun r0=>K (.int .u64 r0))⟩
def yup (e:Es):SE:=sE (E e) [] lp0
theorem yuq (e:Es):EqW (yup e) 6 ywx yuo yiv:=fun _ _=>by kernel_rfl
theorem yeW (e:Es) (he:EG e):OkF (E e) (yuo.pw ydf) yaN:=okU he (yuq e) (yar (Sub.uni _) trivial trivial he.ok) yhM.flat (yah (by kernel_rfl))
abbrev yan:Type:=Int→Int→(Int→Prop)→Prop
def ydV (x0:Int→Int→Bool→Prop):Nat→Int→Int→Prop
 | 0,_,_=>False
 | n+1,i0,i1 =>
 (cbr (decide (i1>(0:Int)))
 (asr (!(decide (i1=(0:Int))))
 (ydV x0 n i1 (Int.tmod i0 i1)))
 (x0 i0 i1 false))
def ykg (p0 p1:Int) (K:Int→Prop):Prop :=
 (∃ n:Nat,ydV
 (fun a _ _=>(K a))
 n p0 p1)
def ybV:yan:=ykg
def pt2:VPt:=vI IntKind.u64
def pt3:LPt:=lC pt2 (lC pt2 lN)
def ywG:Sg:=⟨pt3,Int→Prop,fun K=>(fun r0=>K (.int .u64 r0))⟩
def yrK (Q:Qx):Int→Int→Bool→Prop:=(fun i0 i1 b2=>Q (.exit 0) [(0,.v (.int .u64 i0)),(1,.v (.int .u64 i1)),(6,.v (.bool b2))] [])
def ylx (Q:Qx):List St:=[⟨(pS hN (fV 0 pt2 (fV 1 pt2 fN)) fN),ydV (yrK Q)⟩]
def ypj:LP:=lpS [(32725300,ylx)]
def ykh (e:Es):SE:=sE (E e) [] (ypj)
theorem ynx (e:Es) (he:EG e):SEOk (Uni (E e)) (ykh e):=yar (Sub.uni _) trivial trivial he.ok
theorem yqo (e:Es):ycZ (ykh e) 5 a yjY false (ylx):=fun _=>⟨fun _=>by kernel_rfl,fun _ _=>by kernel_rfl,trivial⟩
theorem yqp (e:Es) (he:EG e):LpT (Uni (E e)) (ypj) [] 32725300 (.loop 32725300 yjY):=fun _ _ _=>ylr.st (Sub.uni _) (yaD (ynx e he) 5) (YOk.no _ _) (yah (by kernel_rfl)) (yqo e _)
theorem ywH (e:Es):EqW (ykh e) 6 yyA ywG ykg:=fun _ _=>by kernel_rfl
theorem yhb (e:Es) (he:EG e):OkF (E e) (ywG.pw ybV) ybD:=okU he (ywH e) (ynx e he) yhM.flat (ybp (l:=[(32725300,.loop 32725300 yjY)]) ⟨yqp e he,trivial⟩ (by kernel_rfl))
abbrev ycS:Type:=Bool→Int→Int→(Int→Int→Int→Prop)→Prop
def ygM (p0:Bool) (p1 p2:Int) (K:Int→Int→Int→Prop):Prop :=
 (cbr (decide ((if p2>p1 then p2 else p1)>(1000000000000000000:Int)))
 (K (0:Int) (0:Int) (16:Int))
 (cbr p0
 (K (IntKind.i64.wrap ((0:Int)-(IntKind.i64.wrap p1))) (IntKind.i64.wrap p2) (0:Int))
 (K (IntKind.i64.wrap p1) (IntKind.i64.wrap p2) (0:Int))))
def ybL:ycS:=ygM
def yrL:Sg:=⟨(lC vB pt3),Int→Int→Int→Prop,fun K=>(fun r0 r1 r2=>K (.tup [(.agg [(.int .i64 r0),(.int .i64 r1)]),(.int .i64 r2)]))⟩
def yrM (e:Es):SE:=sE (E e) [] lp0
theorem yrN (e:Es):EqW (yrM e) 6 yts yrL ygM:=fun _ _=>by kernel_rfl
theorem ygN (e:Es) (he:EG e):OkF (E e) (yrL.pw ybL) ybK:=okU he (yrN e) (yar (Sub.uni _) trivial trivial he.ok) yhM.flat (yah (by kernel_rfl))
abbrev yki:Type:=Int→Int→(Int→Int→Int→Prop)→Prop
def yiw (a0:yaw) (a1:yan) (a2:ycS) (p0 p1:Int) (K:Int→Int→Int→Prop):Prop :=
 (cbr (p1 ==(0:Int))
 (K (0:Int) (0:Int) (18:Int))
 (a0 p0 (fun b =>
 (a0 p1 (fun c =>
 (a1 b c (fun a =>
 (asr (!(decide (a=(0:Int))))
 (asr (!(decide (a=(0:Int))))
 (a2 ((decide (p0<(0:Int))) !=(decide (p1<(0:Int)))) (IntKind.u64.wrap (Int.tdiv b a)) (IntKind.u64.wrap (Int.tdiv c a)) (fun d e f =>
 (K d e f))))))))))))
def ydM:yki:=yiw ydf ybV ybL
def pt4:LPt:=lC pt0 pt1
def yur:Sg:=⟨pt4,Int→Int→Int→Prop,fun K=>(fun r0 r1 r2=>K (.tup [(.agg [(.int .i64 r0),(.int .i64 r1)]),(.int .i64 r2)]))⟩
def yus (e:Es) (a0:yaw) (a1:yan) (a2:ycS):SE:=sE (E e) [(yaN,yuo.pw a0),(ybD,ywG.pw a1),(ybK,yrL.pw a2)] lp0
theorem yut (e:Es) (a0 a1 a2):EqW (yus e a0 a1 a2) 6 ywy yur (yiw a0 a1 a2):=fun _ _=>by kernel_rfl
theorem yny (e:Es) (he:EG e):OkF (E e) (yur.pw ydM) yfE:=okU he (yut e _ _ _) (yar (Sub.uni _) ⟨(yeW e he),(yhb e he),(ygN e he),trivial⟩ trivial he.ok) yhM.flat (yah (by kernel_rfl))
def yhP (a0:yaw) (a1:yan) (p0 p1:Int) (K:Int→Prop):Prop :=
 (cbr (decide (p1<(1:Int)))
 (K (8:Int))
 (a0 p0 (fun a =>
 (cbr (decide ((if (IntKind.u64.wrap p1)>a then (IntKind.u64.wrap p1) else a)>(1000000000000000000:Int)))
 (K (8:Int))
 (a0 p0 (fun b =>
 (a1 b (IntKind.u64.wrap p1) (fun c =>
 (cbr (decide (c>(1:Int)))
 (K (8:Int))
 (K (0:Int)))))))))))
def yaE:yan:=yhP ydf ybV
def pt5:VPt:=vA pt4
def ytu:Sg:=⟨(lC pt5 lN),Int→Prop,fun K=>(fun r0=>K (.int .i64 r0))⟩
def ytv (e:Es) (a0:yaw) (a1:yan):SE:=sE (E e) [(yaN,yuo.pw a0),(ybD,ywG.pw a1)] lp0
theorem ytw (e:Es) (a0 a1):EqW (ytv e a0 a1) 6 yum ytu (yhP a0 a1):=fun _ _=>by kernel_rfl
theorem ycT (e:Es) (he:EG e):OkF (E e) (ytu.pw yaE) yaW:=okU he (ytw e _ _) (yar (Sub.uni _) ⟨(yeW e he),(yhb e he),trivial⟩ trivial he.ok) yhM.flat (yah (by kernel_rfl))
abbrev yaq:Type:=Ls→(Int→Prop)→Prop
def ybj (x0:Int→Prop) (x1:Int→Ls→Int→Int→Bool→Prop):Nat→Int→Ls→Int→Int→Prop
 | 0,_,_,_,_=>False
 | n+1,i0,l1,i2,i3 =>
 (cbr (decide (i3<i2))
 (asr (decide ((0:Int)≤i3))
 (asr (decide (i3<(((List.length l1):Nat):Int)))
 (asr (conf (.one (.i .i64)) (List.getD l1 (i3.toNat) .nils))
 (cbr ((yaa (List.getD l1 (i3.toNat) .nils)) != i0)
 (x0 (yaa (List.getD l1 (i3.toNat) .nils)))
 (ybj x0 x1 n i0 l1 i2 (IntKind.i64.wrap (i3+(1:Int))))))))
 (x1 i0 l1 i2 i3 false))
def yeI (p0:Ls) (K:Int→Prop):Prop :=
 (∃ n:Nat,ybj
 (fun a=>(K a))
 (fun b _ _ _ _=>(K b))
 n (0:Int) p0 (((List.length p0):Nat):Int) (0:Int))
def ydN:yaq:=yeI
def pt6:LPt:=lC vD lN
def ydm:Sg:=⟨pt6,Int→Prop,fun K=>(fun r0=>K (.int .i64 r0))⟩
def ykj (Q:Qx):Int→Prop:=(fun i0=>Q .ret [(2,.v (.int .i64 i0))] [])
def ykk (Q:Qx):Int→Ls→Int→Int→Bool→Prop:=(fun i0 l1 i2 i3 b4=>Q (.exit 0) [(3,.v (.int .i64 i0)),(6,.v (.data l1)),(7,.v (.int .i64 i2)),(8,.v (.int .i64 i3)),(9,.v (.bool b4))] [])
def pt7:Pat Frm:=fV 7 pt0 (fV 8 pt0 fN)
def pt8:Pat Sta:=pS hN (fV 3 pt0 (fV 6 vD pt7)) fN
def yfV (Q:Qx):List St:=[⟨pt8,ybj (ykj Q) (ykk Q)⟩]
def ygV:LP:=lpS [(38508400,yfV)]
def yeJ (e:Es):SE:=sE (E e) [] (ygV)
theorem ygC (e:Es) (he:EG e):SEOk (Uni (E e)) (yeJ e):=yar (Sub.uni _) trivial trivial he.ok
theorem yjl (e:Es):ycZ (yeJ e) 5 a yjZ false (yfV):=fun _=>⟨fun _=>by kernel_rfl,fun _ _=>by kernel_rfl,trivial⟩
theorem yjm (e:Es) (he:EG e):LpT (Uni (E e)) (ygV) [] 38508400 (.loop 38508400 yjZ):=fun _ _ _=>ylr.st (Sub.uni _) (yaD (ygC e he) 5) (YOk.no _ _) (yah (by kernel_rfl)) (yjl e _)
theorem ymR (e:Es):EqW (yeJ e) 6 yoj ydm yeI:=fun _ _=>by kernel_rfl
theorem ymS (e:Es) (he:EG e):OkF (E e) (ydm.pw ydN) ycP:=okU he (ymR e) (ygC e he) yhM.flat (ybp (l:=[(38508400,.loop 38508400 yjZ)]) ⟨yjm e he,trivial⟩ (by kernel_rfl))
abbrev ybt:Type:=Int→Int→Int→Int→(Int→Prop)→Prop
def yhQ (a0:yan) (a1:yaq) (p0 p1 p2 p3:Int) (K:Int→Prop):Prop :=
 (a0 p0 p1 (fun a =>
 (a0 p2 p3 (fun b =>
 (a1 ([(.int .i64 a),(.int .i64 b)]:Ls) (fun c =>
 (K c)))))))
def ycD:ybt:=yhQ yaE ydN
def pt9:LPt:=lC pt5 (lC pt5 lN)
def ytx:Sg:=⟨pt9,Int→Prop,fun K=>(fun r0=>K (.int .i64 r0))⟩
def yty (e:Es) (a0:yan) (a1:yaq):SE:=sE (E e) [(yaW,ytu.pw a0),(ycP,ydm.pw a1)] lp0
theorem ytz (e:Es) (a0 a1):EqW (yty e a0 a1) 6 yun ytx (yhQ a0 a1):=fun _ _=>by kernel_rfl
theorem yek (e:Es) (he:EG e):OkF (E e) (ytx.pw ycD) ya4:=okU he (ytz e _ _) (yar (Sub.uni _) ⟨(ycT e he),(ymS e he),trivial⟩ trivial he.ok) yhM.flat (yah (by kernel_rfl))
abbrev yck:Type:=Int→(Bool→Prop)→Prop
def ye7 (p0:Int) (K:Bool→Prop):Prop :=
 (K (p0 != p0))
def yfJ:yck:=ye7
def yoq:Sg:=⟨pt1,Bool→Prop,fun K=>(fun r0=>K (.bool r0))⟩
def yor (e:Es):SE:=sE (E e) [] lp0
theorem yos (e:Es):EqW (yor e) 6 ypg yoq ye7:=fun _ _=>by kernel_rfl
theorem yot (e:Es) (he:EG e):OkF (E e) (yoq.pw yfJ) yci:=okU he (yos e) (yar (Sub.uni _) trivial trivial he.ok) yhM.flat (yah (by kernel_rfl))
def yel (a0:yck) (p0 p1:Int) (K:Int→Prop):Prop :=
 (a0 p0 (fun b =>
 (a0 p1 (fun a =>
 (cbr b
 (cbr a
 (K (0:Int))
 (K (-1:Int)))
 (cbr a
 (K (1:Int))
 (cbr (decide (p0<p1))
 (K (-1:Int))
 (cbr (decide (p0>p1))
 (K (1:Int))
 (K (0:Int))))))))))
def ydn:yan:=yel yfJ
def yly:Sg:=⟨pt4,Int→Prop,fun K=>(fun r0=>K (.int .i64 r0))⟩
def ylz (e:Es) (a0:yck):SE:=sE (E e) [(yci,yoq.pw a0)] lp0
theorem ylA (e:Es) (a0):EqW (ylz e a0) 6 ymQ yly (yel a0):=fun _ _=>by kernel_rfl
theorem ylB (e:Es) (he:EG e):OkF (E e) (yly.pw ydn) ycu:=okU he (ylA e _) (yar (Sub.uni _) ⟨(yot e he),trivial⟩ trivial he.ok) yhM.flat (yah (by kernel_rfl))
abbrev yf3:Type:=Int→Int→(Int→Int→Prop)→Prop
def you (p0 p1:Int) (K:Int→Int→Prop):Prop :=
 (K (IntKind.u64.wrap ((IntKind.u64.wrap ((IntKind.u64.wrap ((Int.fdiv p0 4294967296)*(Int.fdiv p1 4294967296)))+(Int.fdiv (IntKind.u64.wrap ((IntKind.u64.wrap ((Int.fdiv p0 4294967296)*(IntKind.u64.wrap (BitVec.ofInt IntKind.u64.bits p1&&&BitVec.ofInt IntKind.u64.bits (4294967295:Int)).toNat)))+(Int.fdiv (IntKind.u64.wrap ((IntKind.u64.wrap (BitVec.ofInt IntKind.u64.bits p0&&&BitVec.ofInt IntKind.u64.bits (4294967295:Int)).toNat)*(IntKind.u64.wrap (BitVec.ofInt IntKind.u64.bits p1&&&BitVec.ofInt IntKind.u64.bits (4294967295:Int)).toNat))) 4294967296))) 4294967296)))+(Int.fdiv (IntKind.u64.wrap ((IntKind.u64.wrap (BitVec.ofInt IntKind.u64.bits (IntKind.u64.wrap ((IntKind.u64.wrap ((Int.fdiv p0 4294967296)*(IntKind.u64.wrap (BitVec.ofInt IntKind.u64.bits p1&&&BitVec.ofInt IntKind.u64.bits (4294967295:Int)).toNat)))+(Int.fdiv (IntKind.u64.wrap ((IntKind.u64.wrap (BitVec.ofInt IntKind.u64.bits p0&&&BitVec.ofInt IntKind.u64.bits (4294967295:Int)).toNat)*(IntKind.u64.wrap (BitVec.ofInt IntKind.u64.bits p1&&&BitVec.ofInt IntKind.u64.bits (4294967295:Int)).toNat))) 4294967296)))&&&BitVec.ofInt IntKind.u64.bits (4294967295:Int)).toNat)+(IntKind.u64.wrap ((IntKind.u64.wrap (BitVec.ofInt IntKind.u64.bits p0&&&BitVec.ofInt IntKind.u64.bits (4294967295:Int)).toNat)*(Int.fdiv p1 4294967296))))) 4294967296))) (IntKind.u64.wrap (p0*p1)))
def yev:yf3:=you
def yAb:Sg:=⟨pt3,Int→Int→Prop,fun K=>(fun r0 r1=>K (.tup [(.int .u64 r0),(.int .u64 r1)]))⟩
def yAc (e:Es):SE:=sE (E e) [] lp0
theorem yAd (e:Es):EqW (yAc e) 6 yB7 yAb you:=fun _ _=>by kernel_rfl
theorem yov (e:Es) (he:EG e):OkF (E e) (yAb.pw yev) ycG:=okU he (yAd e) (yar (Sub.uni _) trivial trivial he.ok) yhM.flat (yah (by kernel_rfl))
def yeK (p0:Int) (K:Bool→Prop):Prop :=
 (K (p0 != p0))
def ye8:yck:=yeK
def ymT:Sg:=⟨(lC pt2 lN),Bool→Prop,fun K=>(fun r0=>K (.bool r0))⟩
def ymU (e:Es):SE:=sE (E e) [] lp0
theorem ymV (e:Es):EqW (ymU e) 6 yok ymT yeK:=fun _ _=>by kernel_rfl
theorem ymW (e:Es) (he:EG e):OkF (E e) (ymT.pw ye8) ybZ:=okU he (ymV e) (yar (Sub.uni _) trivial trivial he.ok) yhM.flat (yah (by kernel_rfl))
def yd3 (a0:yck) (p0 p1:Int) (K:Int→Prop):Prop :=
 (a0 p0 (fun b =>
 (a0 p1 (fun a =>
 (cbr b
 (cbr a
 (K (0:Int))
 (K (-1:Int)))
 (cbr a
 (K (1:Int))
 (cbr (decide (p0<p1))
 (K (-1:Int))
 (cbr (decide (p0>p1))
 (K (1:Int))
 (K (0:Int))))))))))
def ydg:yan:=yd3 ye8
def yk8:Sg:=⟨pt3,Int→Prop,fun K=>(fun r0=>K (.int .i64 r0))⟩
def yk9 (e:Es) (a0:yck):SE:=sE (E e) [(ybZ,ymT.pw a0)] lp0
theorem yla (e:Es) (a0):EqW (yk9 e a0) 6 ylw yk8 (yd3 a0):=fun _ _=>by kernel_rfl
theorem ylb (e:Es) (he:EG e):OkF (E e) (yk8.pw ydg) ybE:=okU he (yla e _) (yar (Sub.uni _) ⟨(ymW e he),trivial⟩ trivial he.ok) yhM.flat (yah (by kernel_rfl))
def ycH (x0:Int→Prop) (x1:Int→Ls→Int→Int→Bool→Prop):Nat→Int→Ls→Int→Int→Prop
 | 0,_,_,_,_=>False
 | n+1,i0,l1,i2,i3 =>
 (cbr (decide (i3<i2))
 (asr (decide ((0:Int)≤i3))
 (asr (decide (i3<(((List.length l1):Nat):Int)))
 (asr (conf (.one (.i .i64)) (List.getD l1 (i3.toNat) .nils))
 (cbr ((yaa (List.getD l1 (i3.toNat) .nils)) != i0)
 (x0 (yaa (List.getD l1 (i3.toNat) .nils)))
 (ycH x0 x1 n i0 l1 i2 (IntKind.i64.wrap (i3+(1:Int))))))))
 (x1 i0 l1 i2 i3 false))
def yix (p0:Ls) (K:Int→Prop):Prop :=
 (∃ n:Nat,ycH
 (fun a=>(K a))
 (fun b _ _ _ _=>(K b))
 n (0:Int) p0 (((List.length p0):Nat):Int) (0:Int))
def yhc:yaq:=yix
def yqq (Q:Qx):Int→Prop:=(fun i0=>Q .ret [(2,.v (.int .i64 i0))] [])
def yqr (Q:Qx):Int→Ls→Int→Int→Bool→Prop:=(fun i0 l1 i2 i3 b4=>Q (.exit 0) [(3,.v (.int .i64 i0)),(6,.v (.data l1)),(7,.v (.int .i64 i2)),(8,.v (.int .i64 i3)),(9,.v (.bool b4))] [])
def ykU (Q:Qx):List St:=[⟨pt8,ycH (yqq Q) (yqr Q)⟩]
def ynz:LP:=lpS [(53260600,ykU)]
def yiy (e:Es):SE:=sE (E e) [] (ynz)
theorem ylC (e:Es) (he:EG e):SEOk (Uni (E e)) (yiy e):=yar (Sub.uni _) trivial trivial he.ok
theorem ypk (e:Es):ycZ (yiy e) 5 a yj0 false (ykU):=fun _=>⟨fun _=>by kernel_rfl,fun _ _=>by kernel_rfl,trivial⟩
theorem ypl (e:Es) (he:EG e):LpT (Uni (E e)) (ynz) [] 53260600 (.loop 53260600 yj0):=fun _ _ _=>ylr.st (Sub.uni _) (yaD (ylC e he) 5) (YOk.no _ _) (yah (by kernel_rfl)) (ypk e _)
theorem yuu (e:Es):EqW (yiy e) 6 ywB ydm yix:=fun _ _=>by kernel_rfl
theorem yuv (e:Es) (he:EG e):OkF (E e) (ydm.pw yhc) yfF:=okU he (yuu e) (ylC e he) yhM.flat (ybp (l:=[(53260600,.loop 53260600 yj0)]) ⟨ypl e he,trivial⟩ (by kernel_rfl))
abbrev ygD:Type:=Int→Int→Int→Int→(Int→Int→Prop)→Prop
def ykl (a0:ybt) (a1:yan) (a2:yaw) (a3:yf3) (a4:yan) (a5:yaq) (p0 p1 p2 p3:Int) (K:Int→Int→Prop):Prop :=
 (a0 p0 p1 p2 p3 (fun a =>
 (cbr (a !=(0:Int))
 (K (0:Int) a)
 (cbr ((decide (p0<(0:Int))) !=(decide (p2<(0:Int))))
 (a1 p0 p2 (fun c =>
 (K c (0:Int))))
 (a2 p0 (fun d =>
 (a3 d (IntKind.u64.wrap p3) (fun e f =>
 (a2 p2 (fun g =>
 (a3 g (IntKind.u64.wrap p1) (fun h i =>
 (a4 e h (fun j =>
 (a4 f i (fun k =>
 (a5 ([(.int .i64 j),(.int .i64 k)]:Ls) (fun b =>
 (cbr (decide (p0<(0:Int)))
 (K (IntKind.i64.wrap ((0:Int)-b)) (0:Int))
 (K b (0:Int)))))))))))))))))))))
def ydI:ygD:=ykl ycD ydn ydf yev ydg yhc
def ywI:Sg:=⟨pt9,Int→Int→Prop,fun K=>(fun r0 r1=>K (.tup [(.int .i64 r0),(.int .i64 r1)]))⟩
def ywJ (e:Es) (a0:ybt) (a1:yan) (a2:yaw) (a3:yf3) (a4:yan) (a5:yaq):SE:=sE (E e) [(ya4,ytx.pw a0),(ycu,yly.pw a1),(yaN,yuo.pw a2),(ycG,yAb.pw a3),(ybE,yk8.pw a4),(yfF,ydm.pw a5)] lp0
theorem ywK (e:Es) (a0 a1 a2 a3 a4 a5):EqW (ywJ e a0 a1 a2 a3 a4 a5) 6 yyB ywI (ykl a0 a1 a2 a3 a4 a5):=fun _ _=>by kernel_rfl
theorem ykm (e:Es) (he:EG e):OkF (E e) (ywI.pw ydI) yeh:=okU he (ywK e _ _ _ _ _ _) (yar (Sub.uni _) ⟨(yek e he),(ylB e he),(yeW e he),(yov e he),(ylb e he),(yuv e he),trivial⟩ trivial he.ok) yhM.flat (yah (by kernel_rfl))
def yow (p0:Int) (K:Int→Prop):Prop :=
 (cbr (decide (p0≥(4294967296:Int)))
 (cbr (decide ((Int.fdiv p0 4294967296)≥(65536:Int)))
 (cbr (decide ((Int.fdiv (Int.fdiv p0 4294967296) 65536)≥(256:Int)))
 (asr (decide ((0:Int)≤(IntKind.u8.wrap (Int.fdiv (Int.fdiv (Int.fdiv p0 4294967296) 65536) 256))))
 (asr (decide ((IntKind.u8.wrap (Int.fdiv (Int.fdiv (Int.fdiv p0 4294967296) 65536) 256))<(256:Int)))
 (K (IntKind.i64.wrap ((56:Int)+(IntKind.i64.wrap (yaa (List.getD yfB ((IntKind.u8.wrap (Int.fdiv (Int.fdiv (Int.fdiv p0 4294967296) 65536) 256)).toNat) .nils))))))))
 (asr (decide ((0:Int)≤(IntKind.u8.wrap (Int.fdiv (Int.fdiv p0 4294967296) 65536))))
 (asr (decide ((IntKind.u8.wrap (Int.fdiv (Int.fdiv p0 4294967296) 65536))<(256:Int)))
 (K (IntKind.i64.wrap ((48:Int)+(IntKind.i64.wrap (yaa (List.getD yfB ((IntKind.u8.wrap (Int.fdiv (Int.fdiv p0 4294967296) 65536)).toNat) .nils)))))))))
 (cbr (decide ((Int.fdiv p0 4294967296)≥(256:Int)))
 (asr (decide ((0:Int)≤(IntKind.u8.wrap (Int.fdiv (Int.fdiv p0 4294967296) 256))))
 (asr (decide ((IntKind.u8.wrap (Int.fdiv (Int.fdiv p0 4294967296) 256))<(256:Int)))
 (K (IntKind.i64.wrap ((40:Int)+(IntKind.i64.wrap (yaa (List.getD yfB ((IntKind.u8.wrap (Int.fdiv (Int.fdiv p0 4294967296) 256)).toNat) .nils))))))))
 (asr (decide ((0:Int)≤(IntKind.u8.wrap (Int.fdiv p0 4294967296))))
 (asr (decide ((IntKind.u8.wrap (Int.fdiv p0 4294967296))<(256:Int)))
 (K (IntKind.i64.wrap ((32:Int)+(IntKind.i64.wrap (yaa (List.getD yfB ((IntKind.u8.wrap (Int.fdiv p0 4294967296)).toNat) .nils))))))))))
 (cbr (decide (p0≥(65536:Int)))
 (cbr (decide ((Int.fdiv p0 65536)≥(256:Int)))
 (asr (decide ((0:Int)≤(IntKind.u8.wrap (Int.fdiv (Int.fdiv p0 65536) 256))))
 (asr (decide ((IntKind.u8.wrap (Int.fdiv (Int.fdiv p0 65536) 256))<(256:Int)))
 (K (IntKind.i64.wrap ((24:Int)+(IntKind.i64.wrap (yaa (List.getD yfB ((IntKind.u8.wrap (Int.fdiv (Int.fdiv p0 65536) 256)).toNat) .nils))))))))
 (asr (decide ((0:Int)≤(IntKind.u8.wrap (Int.fdiv p0 65536))))
 (asr (decide ((IntKind.u8.wrap (Int.fdiv p0 65536))<(256:Int)))
 (K (IntKind.i64.wrap ((16:Int)+(IntKind.i64.wrap (yaa (List.getD yfB ((IntKind.u8.wrap (Int.fdiv p0 65536)).toNat) .nils)))))))))
 (cbr (decide (p0≥(256:Int)))
 (asr (decide ((0:Int)≤(IntKind.u8.wrap (Int.fdiv p0 256))))
 (asr (decide ((IntKind.u8.wrap (Int.fdiv p0 256))<(256:Int)))
 (K (IntKind.i64.wrap ((8:Int)+(IntKind.i64.wrap (yaa (List.getD yfB ((IntKind.u8.wrap (Int.fdiv p0 256)).toNat) .nils))))))))
 (asr (decide ((0:Int)≤(IntKind.u8.wrap p0)))
 (asr (decide ((IntKind.u8.wrap p0)<(256:Int)))
 (K (IntKind.i64.wrap ((0:Int)+(IntKind.i64.wrap (yaa (List.getD yfB ((IntKind.u8.wrap p0).toNat) .nils)))))))))))
def ymJ:yaw:=yow
def ytA:Sg:=⟨(lC pt2 lN),Int→Prop,fun K=>(fun r0=>K (.int .i64 r0))⟩
def yAe (e:Es):SE:=sE (E e) [] lp0
theorem yAf (e:Es):EqW (yAe e) 6 yB8 ytA yow:=fun _ _=>by kernel_rfl
theorem yAg (e:Es) (he:EG e):OkF (E e) (ytA.pw ymJ) yji:=okU he (yAf e) (yar (Sub.uni _) trivial trivial he.ok) yhM.flat (yah (by kernel_rfl))
def yeL (a0:yaw) (p0:Int) (K:Int→Prop):Prop :=
 (a0 p0 (fun a =>
 (K (IntKind.i64.wrap ((64:Int)-a)))))
def ybe:yaw:=yeL ymJ
def ymX (e:Es) (a0:yaw):SE:=sE (E e) [(yji,ytA.pw a0)] lp0
theorem ymY (e:Es) (a0):EqW (ymX e a0) 6 yol ytA (yeL a0):=fun _ _=>by kernel_rfl
theorem ymZ (e:Es) (he:EG e):OkF (E e) (ytA.pw ybe) ycQ:=okU he (ymY e _) (yar (Sub.uni _) ⟨(yAg e he),trivial⟩ trivial he.ok) yhM.flat (yah (by kernel_rfl))
abbrev yjn:Type:=Int→Int→Int→(Int→Int→Prop)→Prop
mutual
def ygk (a0:yaw) (a:Int→Int→Int→Int→Int→Int→Int→Int→Int→Bool→Prop) (b:Int→Int→Int→Int→Int→Int→Int→Int→Int→Bool→Prop):Nat→Int→Int→Int→Int→Int→Int→Int→Int→Int→Prop
 | 0,_,_,_,_,_,_,_,_,_=>False
 | c+1,i0,i1,i2,i3,i4,i5,i6,i7,i8 =>
 (cbr (decide (i7≥(4294967296:Int)))
 (cbr (decide ((IntKind.u64.wrap (i8+i2))≥(4294967296:Int)))
 (a i0 i1 i2 i3 i4 i5 i6 (IntKind.u64.wrap (i7-(1:Int))) (IntKind.u64.wrap (i8+i2)) true)
 (ycE a0 a b c i0 i1 i2 i3 i4 i5 i6 (IntKind.u64.wrap (i7-(1:Int))) (IntKind.u64.wrap (i8+i2)) false))
 (cbr (decide ((IntKind.u64.wrap (i7*i3))>(IntKind.u64.wrap ((IntKind.u64.wrap ((4294967296:Int)*i8))+i5))))
 (cbr (decide ((IntKind.u64.wrap (i8+i2))≥(4294967296:Int)))
 (a i0 i1 i2 i3 i4 i5 i6 (IntKind.u64.wrap (i7-(1:Int))) (IntKind.u64.wrap (i8+i2)) true)
 (ycE a0 a b c i0 i1 i2 i3 i4 i5 i6 (IntKind.u64.wrap (i7-(1:Int))) (IntKind.u64.wrap (i8+i2)) false))
 (b i0 i1 i2 i3 i4 i5 i6 i7 i8 false)))
def ycE (a0:yaw) (a:Int→Int→Int→Int→Int→Int→Int→Int→Int→Bool→Prop) (b:Int→Int→Int→Int→Int→Int→Int→Int→Int→Bool→Prop):Nat→Int→Int→Int→Int→Int→Int→Int→Int→Int→Bool→Prop
 | 0,_,_,_,_,_,_,_,_,_,_=>False
 | c+1,i0,i1,i2,i3,i4,i5,i6,i7,i8,_ =>
 (cbr (decide (i7≥(4294967296:Int)))
 (cbr (decide ((IntKind.u64.wrap (i8+i2))≥(4294967296:Int)))
 (a i0 i1 i2 i3 i4 i5 i6 (IntKind.u64.wrap (i7-(1:Int))) (IntKind.u64.wrap (i8+i2)) true)
 (ycE a0 a b c i0 i1 i2 i3 i4 i5 i6 (IntKind.u64.wrap (i7-(1:Int))) (IntKind.u64.wrap (i8+i2)) false))
 (cbr (decide ((IntKind.u64.wrap (i7*i3))>(IntKind.u64.wrap ((IntKind.u64.wrap ((4294967296:Int)*i8))+i5))))
 (cbr (decide ((IntKind.u64.wrap (i8+i2))≥(4294967296:Int)))
 (a i0 i1 i2 i3 i4 i5 i6 (IntKind.u64.wrap (i7-(1:Int))) (IntKind.u64.wrap (i8+i2)) true)
 (ycE a0 a b c i0 i1 i2 i3 i4 i5 i6 (IntKind.u64.wrap (i7-(1:Int))) (IntKind.u64.wrap (i8+i2)) false))
 (b i0 i1 i2 i3 i4 i5 i6 i7 i8 false)))
end
mutual
def ydZ (a0:yaw) (a:Int→Int→Int→Int→Int→Int→Int→Int→Int→Bool→Prop) (b:Int→Int→Int→Int→Int→Int→Int→Int→Int→Bool→Prop):Nat→Int→Int→Int→Int→Int→Int→Int→Int→Int→Prop
 | 0,_,_,_,_,_,_,_,_,_=>False
 | c+1,i0,i1,i2,i3,i4,i5,i6,i7,i8 =>
 (cbr (decide (i8≥(4294967296:Int)))
 (cbr (decide ((IntKind.u64.wrap (i6+i2))≥(4294967296:Int)))
 (a i0 i1 i2 i3 i4 i5 (IntKind.u64.wrap (i6+i2)) i7 (IntKind.u64.wrap (i8-(1:Int))) true)
 (ycF a0 a b c i0 i1 i2 i3 i4 i5 (IntKind.u64.wrap (i6+i2)) i7 (IntKind.u64.wrap (i8-(1:Int))) false))
 (cbr (decide ((IntKind.u64.wrap (i8*i3))>(IntKind.u64.wrap ((IntKind.u64.wrap ((4294967296:Int)*i6))+i4))))
 (cbr (decide ((IntKind.u64.wrap (i6+i2))≥(4294967296:Int)))
 (a i0 i1 i2 i3 i4 i5 (IntKind.u64.wrap (i6+i2)) i7 (IntKind.u64.wrap (i8-(1:Int))) true)
 (ycF a0 a b c i0 i1 i2 i3 i4 i5 (IntKind.u64.wrap (i6+i2)) i7 (IntKind.u64.wrap (i8-(1:Int))) false))
 (b i0 i1 i2 i3 i4 i5 i6 i7 i8 false)))
def ycF (a0:yaw) (a:Int→Int→Int→Int→Int→Int→Int→Int→Int→Bool→Prop) (b:Int→Int→Int→Int→Int→Int→Int→Int→Int→Bool→Prop):Nat→Int→Int→Int→Int→Int→Int→Int→Int→Int→Bool→Prop
 | 0,_,_,_,_,_,_,_,_,_,_=>False
 | c+1,i0,i1,i2,i3,i4,i5,i6,i7,i8,_ =>
 (cbr (decide (i8≥(4294967296:Int)))
 (cbr (decide ((IntKind.u64.wrap (i6+i2))≥(4294967296:Int)))
 (a i0 i1 i2 i3 i4 i5 (IntKind.u64.wrap (i6+i2)) i7 (IntKind.u64.wrap (i8-(1:Int))) true)
 (ycF a0 a b c i0 i1 i2 i3 i4 i5 (IntKind.u64.wrap (i6+i2)) i7 (IntKind.u64.wrap (i8-(1:Int))) false))
 (cbr (decide ((IntKind.u64.wrap (i8*i3))>(IntKind.u64.wrap ((IntKind.u64.wrap ((4294967296:Int)*i6))+i4))))
 (cbr (decide ((IntKind.u64.wrap (i6+i2))≥(4294967296:Int)))
 (a i0 i1 i2 i3 i4 i5 (IntKind.u64.wrap (i6+i2)) i7 (IntKind.u64.wrap (i8-(1:Int))) true)
 (ycF a0 a b c i0 i1 i2 i3 i4 i5 (IntKind.u64.wrap (i6+i2)) i7 (IntKind.u64.wrap (i8-(1:Int))) false))
 (b i0 i1 i2 i3 i4 i5 i6 i7 i8 false)))
end
def yox (a0:yaw) (p0 p1 p2:Int) (K:Int→Int→Prop):Prop :=
 (cbr (p2 ==(0:Int))
 False
 (cbr (decide (p2≤p0))
 False
 (cbr (p0 ==(0:Int))
 (asr (!(decide (p2=(0:Int))))
 (asr (!(decide (p2=(0:Int))))
 (K (IntKind.u64.wrap (Int.tdiv p1 p2)) (Int.tmod p1 p2))))
 (a0 p2 (fun a =>
 (asr (!(decide ((IntKind.u64.wrap a)<(0:Int))))
 (asr (!(decide ((IntKind.u64.wrap a)<(0:Int))))
 (asr (!(decide ((IntKind.u64.wrap ((64:Int)-(IntKind.u64.wrap a)))<(0:Int))))
 (asr (!(decide ((IntKind.u64.wrap a)<(0:Int))))
 (asr (!(decide ((Int.fdiv (IntKind.u64.wrap (p2*2 ^ (min (IntKind.u64.wrap a).toNat IntKind.u64.bits))) 4294967296)=(0:Int))))
 (∃ u:Nat,ygk a0
 (fun b v c w h i x d _ _=>(asr (!(decide (c=(0:Int))))
 (∃ l:Nat,ydZ a0
 (fun y m _ _ z A _ B n _=>(asr (!(decide (m<(0:Int))))
 (K (IntKind.u64.wrap ((IntKind.u64.wrap (A*(4294967296:Int)))+n)) (Int.fdiv (IntKind.u64.wrap ((IntKind.u64.wrap ((IntKind.u64.wrap (B*(4294967296:Int)))+z))-(IntKind.u64.wrap (n*y)))) (2 ^ (min m.toNat IntKind.u64.bits))))))
 (fun C o _ _ D E _ F p _=>(asr (!(decide (o<(0:Int))))
 (K (IntKind.u64.wrap ((IntKind.u64.wrap (E*(4294967296:Int)))+p)) (Int.fdiv (IntKind.u64.wrap ((IntKind.u64.wrap ((IntKind.u64.wrap (F*(4294967296:Int)))+D))-(IntKind.u64.wrap (p*C)))) (2 ^ (min o.toNat IntKind.u64.bits))))))
 l b v c w x d (IntKind.u64.wrap ((IntKind.u64.wrap ((IntKind.u64.wrap ((IntKind.u64.wrap (h*(4294967296:Int)))+i))-(IntKind.u64.wrap (d*b))))-(IntKind.u64.wrap ((IntKind.u64.wrap (Int.tdiv (IntKind.u64.wrap ((IntKind.u64.wrap ((IntKind.u64.wrap (h*(4294967296:Int)))+i))-(IntKind.u64.wrap (d*b)))) c))*c)))) (IntKind.u64.wrap ((IntKind.u64.wrap ((IntKind.u64.wrap (h*(4294967296:Int)))+i))-(IntKind.u64.wrap (d*b)))) (IntKind.u64.wrap (Int.tdiv (IntKind.u64.wrap ((IntKind.u64.wrap ((IntKind.u64.wrap (h*(4294967296:Int)))+i))-(IntKind.u64.wrap (d*b)))) c)))))
 (fun e G f H j k I g _ _=>(asr (!(decide (f=(0:Int))))
 (∃ l:Nat,ydZ a0
 (fun J q _ _ L M _ N r _=>(asr (!(decide (q<(0:Int))))
 (K (IntKind.u64.wrap ((IntKind.u64.wrap (M*(4294967296:Int)))+r)) (Int.fdiv (IntKind.u64.wrap ((IntKind.u64.wrap ((IntKind.u64.wrap (N*(4294967296:Int)))+L))-(IntKind.u64.wrap (r*J)))) (2 ^ (min q.toNat IntKind.u64.bits))))))
 (fun O s _ _ Q R _ S t _=>(asr (!(decide (s<(0:Int))))
 (K (IntKind.u64.wrap ((IntKind.u64.wrap (R*(4294967296:Int)))+t)) (Int.fdiv (IntKind.u64.wrap ((IntKind.u64.wrap ((IntKind.u64.wrap (S*(4294967296:Int)))+Q))-(IntKind.u64.wrap (t*O)))) (2 ^ (min s.toNat IntKind.u64.bits))))))
 l e G f H I g (IntKind.u64.wrap ((IntKind.u64.wrap ((IntKind.u64.wrap ((IntKind.u64.wrap (j*(4294967296:Int)))+k))-(IntKind.u64.wrap (g*e))))-(IntKind.u64.wrap ((IntKind.u64.wrap (Int.tdiv (IntKind.u64.wrap ((IntKind.u64.wrap ((IntKind.u64.wrap (j*(4294967296:Int)))+k))-(IntKind.u64.wrap (g*e)))) f))*f)))) (IntKind.u64.wrap ((IntKind.u64.wrap ((IntKind.u64.wrap (j*(4294967296:Int)))+k))-(IntKind.u64.wrap (g*e)))) (IntKind.u64.wrap (Int.tdiv (IntKind.u64.wrap ((IntKind.u64.wrap ((IntKind.u64.wrap (j*(4294967296:Int)))+k))-(IntKind.u64.wrap (g*e)))) f)))))
 u (IntKind.u64.wrap (p2*2 ^ (min (IntKind.u64.wrap a).toNat IntKind.u64.bits))) (IntKind.u64.wrap a) (Int.fdiv (IntKind.u64.wrap (p2*2 ^ (min (IntKind.u64.wrap a).toNat IntKind.u64.bits))) 4294967296) (IntKind.u64.wrap (BitVec.ofInt IntKind.u64.bits (IntKind.u64.wrap (p2*2 ^ (min (IntKind.u64.wrap a).toNat IntKind.u64.bits)))&&&BitVec.ofInt IntKind.u64.bits (4294967295:Int)).toNat) (IntKind.u64.wrap (BitVec.ofInt IntKind.u64.bits (IntKind.u64.wrap (p0*2 ^ (min (IntKind.u64.wrap a).toNat IntKind.u64.bits)))|||BitVec.ofInt IntKind.u64.bits (Int.fdiv p1 (2 ^ (min (IntKind.u64.wrap ((64:Int)-(IntKind.u64.wrap a))).toNat IntKind.u64.bits)))).toNat) (Int.fdiv (IntKind.u64.wrap (p1*2 ^ (min (IntKind.u64.wrap a).toNat IntKind.u64.bits))) 4294967296) (IntKind.u64.wrap (BitVec.ofInt IntKind.u64.bits (IntKind.u64.wrap (p1*2 ^ (min (IntKind.u64.wrap a).toNat IntKind.u64.bits)))&&&BitVec.ofInt IntKind.u64.bits (4294967295:Int)).toNat) (IntKind.u64.wrap (Int.tdiv (IntKind.u64.wrap (BitVec.ofInt IntKind.u64.bits (IntKind.u64.wrap (p0*2 ^ (min (IntKind.u64.wrap a).toNat IntKind.u64.bits)))|||BitVec.ofInt IntKind.u64.bits (Int.fdiv p1 (2 ^ (min (IntKind.u64.wrap ((64:Int)-(IntKind.u64.wrap a))).toNat IntKind.u64.bits)))).toNat) (Int.fdiv (IntKind.u64.wrap (p2*2 ^ (min (IntKind.u64.wrap a).toNat IntKind.u64.bits))) 4294967296))) (IntKind.u64.wrap ((IntKind.u64.wrap (BitVec.ofInt IntKind.u64.bits (IntKind.u64.wrap (p0*2 ^ (min (IntKind.u64.wrap a).toNat IntKind.u64.bits)))|||BitVec.ofInt IntKind.u64.bits (Int.fdiv p1 (2 ^ (min (IntKind.u64.wrap ((64:Int)-(IntKind.u64.wrap a))).toNat IntKind.u64.bits)))).toNat)-(IntKind.u64.wrap ((IntKind.u64.wrap (Int.tdiv (IntKind.u64.wrap (BitVec.ofInt IntKind.u64.bits (IntKind.u64.wrap (p0*2 ^ (min (IntKind.u64.wrap a).toNat IntKind.u64.bits)))|||BitVec.ofInt IntKind.u64.bits (Int.fdiv p1 (2 ^ (min (IntKind.u64.wrap ((64:Int)-(IntKind.u64.wrap a))).toNat IntKind.u64.bits)))).toNat) (Int.fdiv (IntKind.u64.wrap (p2*2 ^ (min (IntKind.u64.wrap a).toNat IntKind.u64.bits))) 4294967296)))*(Int.fdiv (IntKind.u64.wrap (p2*2 ^ (min (IntKind.u64.wrap a).toNat IntKind.u64.bits))) 4294967296))))))))))))))))
def yfj:yjn:=yox ybe
def yAh:Sg:=⟨(lC pt2 pt3),Int→Int→Prop,fun K=>(fun r0 r1=>K (.tup [(.int .u64 r0),(.int .u64 r1)]))⟩
def ynA (Q:Qx):Int→Int→Int→Int→Int→Int→Int→Int→Int→Bool→Prop:=(fun i0 i1 i2 i3 i4 i5 i6 i7 i8 b9=>Q (.exit 0) [(2,.v (.int .u64 i0)),(8,.v (.int .u64 i1)),(9,.v (.int .u64 i2)),(10,.v (.int .u64 i3)),(11,.v (.int .u64 i4)),(13,.v (.int .u64 i5)),(14,.v (.int .u64 i6)),(15,.v (.int .u64 i7)),(16,.v (.int .u64 i8)),(85,.v (.bool b9))] [])
def ynB (Q:Qx):Int→Int→Int→Int→Int→Int→Int→Int→Int→Bool→Prop:=(fun i0 i1 i2 i3 i4 i5 i6 i7 i8 b9=>Q (.exit 0) [(2,.v (.int .u64 i0)),(8,.v (.int .u64 i1)),(9,.v (.int .u64 i2)),(10,.v (.int .u64 i3)),(11,.v (.int .u64 i4)),(13,.v (.int .u64 i5)),(14,.v (.int .u64 i6)),(15,.v (.int .u64 i7)),(16,.v (.int .u64 i8)),(78,.v (.bool b9))] [])
def ynC (Q:Qx):Int→Int→Int→Int→Int→Int→Int→Int→Int→Bool→Prop:=(fun i0 i1 i2 i3 i4 i5 i6 i7 i8 b9=>Q (.exit 2) [(2,.v (.int .u64 i0)),(8,.v (.int .u64 i1)),(9,.v (.int .u64 i2)),(10,.v (.int .u64 i3)),(14,.v (.int .u64 i4)),(15,.v (.int .u64 i5)),(16,.v (.int .u64 i6)),(17,.v (.int .u64 i7)),(18,.v (.int .u64 i8)),(120,.v (.bool b9))] [])
def ynD (Q:Qx):Int→Int→Int→Int→Int→Int→Int→Int→Int→Bool→Prop:=(fun i0 i1 i2 i3 i4 i5 i6 i7 i8 b9=>Q (.exit 2) [(2,.v (.int .u64 i0)),(8,.v (.int .u64 i1)),(9,.v (.int .u64 i2)),(10,.v (.int .u64 i3)),(14,.v (.int .u64 i4)),(15,.v (.int .u64 i5)),(16,.v (.int .u64 i6)),(17,.v (.int .u64 i7)),(18,.v (.int .u64 i8)),(113,.v (.bool b9))] [])
def ypm (a0:yaw) (Q:Qx):List St:=[⟨(pS hN (fV 2 pt2 (fV 8 pt2 (fV 9 pt2 (fV 10 pt2 (fV 11 pt2 (fV 13 pt2 (fV 14 pt2 (fV 15 pt2 (fV 16 pt2 fN))))))))) fN),ygk a0 (ynA Q) (ynB Q)⟩,⟨(pS hN (fV 2 pt2 (fV 8 pt2 (fV 9 pt2 (fV 10 pt2 (fV 11 pt2 (fV 13 pt2 (fV 14 pt2 (fV 15 pt2 (fV 16 pt2 (fV 85 vB fN)))))))))) fN),ycE a0 (ynA Q) (ynB Q)⟩]
def ypn (a0:yaw) (Q:Qx):List St:=[⟨(pS hN (fV 2 pt2 (fV 8 pt2 (fV 9 pt2 (fV 10 pt2 (fV 14 pt2 (fV 15 pt2 (fV 16 pt2 (fV 17 pt2 (fV 18 pt2 fN))))))))) fN),ydZ a0 (ynC Q) (ynD Q)⟩,⟨(pS hN (fV 2 pt2 (fV 8 pt2 (fV 9 pt2 (fV 10 pt2 (fV 14 pt2 (fV 15 pt2 (fV 16 pt2 (fV 17 pt2 (fV 18 pt2 (fV 120 vB fN)))))))))) fN),ycF a0 (ynC Q) (ynD Q)⟩]
def yoy (a0:yaw):LP:=lpS [(60530100,ypm a0),(60530101,ypn a0)]
def ykn (e:Es) (a0:yaw):SE:=sE (E e) [(ycQ,ytA.pw a0)] (yoy a0)
theorem ylD (e:Es) (he:EG e):SEOk (Uni (E e)) (ykn e ybe):=yar (Sub.uni _) ⟨(ymZ e he),trivial⟩ trivial he.ok
theorem ytB (e:Es) (a0):ycZ (ykn e a0) 5 a yj1 false (ypm a0):=fun _=>⟨fun _=>by kernel_rfl,fun _ _=>by kernel_rfl,fun _=>by kernel_rfl,fun _ _=>by kernel_rfl,trivial⟩
theorem ytC (e:Es) (he:EG e):LpT (Uni (E e)) (yoy ybe) [] 60530100 (.loop 60530100 yj1):=fun _ _ _=>ylr.st (Sub.uni _) (yaD (ylD e he) 5) (YOk.no _ _) (yah (by kernel_rfl)) (ytB e _ _)
theorem ytD (e:Es) (a0):ycZ (ykn e a0) 5 a yj2 false (ypn a0):=fun _=>⟨fun _=>by kernel_rfl,fun _ _=>by kernel_rfl,fun _=>by kernel_rfl,fun _ _=>by kernel_rfl,trivial⟩
theorem ytE (e:Es) (he:EG e):LpT (Uni (E e)) (yoy ybe) [] 60530101 (.loop 60530101 yj2):=fun _ _ _=>ylr.st (Sub.uni _) (yaD (ylD e he) 5) (YOk.no _ _) (yah (by kernel_rfl)) (ytD e _ _)
theorem yAi (e:Es) (a0):EqW (ykn e a0) 6 yB9 yAh (yox a0):=fun _ _=>by kernel_rfl
theorem ytF (e:Es) (he:EG e):OkF (E e) (yAh.pw yfj) yf1:=okU he (yAi e _) (ylD e he) yhM.flat (ybp (l:=[(60530100,.loop 60530100 yj1),(60530101,.loop 60530101 yj2)]) ⟨ytC e he,ytE e he,trivial⟩ (by kernel_rfl))
abbrev yqs:Type:=Int→Int→Int→(Int→Prop)→Prop
def yoz (a0:yjn) (p0 p1 p2:Int) (K:Int→Prop):Prop :=
 (asr (!(decide (p2=(0:Int))))
 (a0 (Int.tmod p0 p2) p1 p2 (fun _ a =>
 (K a))))
def yf4:yqs:=yoz yfj
def yAj:Sg:=⟨(lC pt2 pt3),Int→Prop,fun K=>(fun r0=>K (.int .u64 r0))⟩
def yAk (e:Es) (a0:yjn):SE:=sE (E e) [(yf1,yAh.pw a0)] lp0
theorem yAl (e:Es) (a0):EqW (yAk e a0) 6 yCa yAj (yoz a0):=fun _ _=>by kernel_rfl
theorem yAm (e:Es) (he:EG e):OkF (E e) (yAj.pw yf4) yjj:=okU he (yAl e _) (yar (Sub.uni _) ⟨(ytF e he),trivial⟩ trivial he.ok) yhM.flat (yah (by kernel_rfl))
abbrev yai:Type:=Int→Int→Int→Int→(Int→Int→Int→Prop)→Prop
def yko (a0:ybt) (a1:yan) (a2:yaw) (a3:yf3) (a4:yvF) (a5:yqs) (a6:yjn) (a7:ycS) (a8:yvG) (p0 p1 p2 p3:Int) (K:Int→Int→Int→Prop):Prop :=
 (a0 p0 p1 p2 p3 (fun z =>
 (cbr (z !=(0:Int))
 (K (0:Int) (0:Int) z)
 (a1 (IntKind.u64.wrap p1) (IntKind.u64.wrap p3) (fun a =>
 (a2 p0 (fun A =>
 (asr (!(decide (a=(0:Int))))
 (a3 A (IntKind.u64.wrap (Int.tdiv (IntKind.u64.wrap p3) a)) (fun b i =>
 (a2 p2 (fun B =>
 (asr (!(decide (a=(0:Int))))
 (a3 B (IntKind.u64.wrap (Int.tdiv (IntKind.u64.wrap p1) a)) (fun c j =>
 (cbr ((decide (p0<(0:Int))) ==(decide (p2<(0:Int))))
 (a4 i j (0:Int) (fun k C =>
 (a4 b c C (fun d _ =>
 (cbr (d ==(0:Int))
 (cbr (k ==(0:Int))
 (K (0:Int) (1:Int) (0:Int))
 (a5 d k a (fun D =>
 (a1 D a (fun p =>
 (cbr (decide (d≥p))
 (K (0:Int) (0:Int) (16:Int))
 (a6 d k p (fun E _ =>
 (asr (!(decide (a=(0:Int))))
 (asr (!(decide (p=(0:Int))))
 (a3 (IntKind.u64.wrap (Int.tdiv (IntKind.u64.wrap p1) a)) (IntKind.u64.wrap (Int.tdiv (IntKind.u64.wrap p3) p)) (fun F G =>
 (cbr (decide (F>(0:Int)))
 (K (0:Int) (0:Int) (16:Int))
 (a7 (decide (p0<(0:Int))) E G (fun H I J =>
 (K H I J))))))))))))))))
 (a5 d k a (fun L =>
 (a1 L a (fun q =>
 (cbr (decide (d≥q))
 (K (0:Int) (0:Int) (16:Int))
 (a6 d k q (fun M _ =>
 (asr (!(decide (a=(0:Int))))
 (asr (!(decide (q=(0:Int))))
 (a3 (IntKind.u64.wrap (Int.tdiv (IntKind.u64.wrap p1) a)) (IntKind.u64.wrap (Int.tdiv (IntKind.u64.wrap p3) q)) (fun N O =>
 (cbr (decide (N>(0:Int)))
 (K (0:Int) (0:Int) (16:Int))
 (a7 (decide (p0<(0:Int))) M O (fun Q R S =>
 (K Q R S))))))))))))))))))))
 (cbr (decide (b<c))
 (a8 j i (0:Int) (fun l T =>
 (a8 c b T (fun e _ =>
 (cbr (e ==(0:Int))
 (cbr (l ==(0:Int))
 (K (0:Int) (1:Int) (0:Int))
 (a5 e l a (fun U =>
 (a1 U a (fun r =>
 (cbr (decide (e≥r))
 (K (0:Int) (0:Int) (16:Int))
 (a6 e l r (fun V _ =>
 (asr (!(decide (a=(0:Int))))
 (asr (!(decide (r=(0:Int))))
 (a3 (IntKind.u64.wrap (Int.tdiv (IntKind.u64.wrap p1) a)) (IntKind.u64.wrap (Int.tdiv (IntKind.u64.wrap p3) r)) (fun W X =>
 (cbr (decide (W>(0:Int)))
 (K (0:Int) (0:Int) (16:Int))
 (a7 (!(decide (p0<(0:Int)))) V X (fun Y Z va =>
 (K Y Z va))))))))))))))))
 (a5 e l a (fun vb =>
 (a1 vb a (fun s =>
 (cbr (decide (e≥s))
 (K (0:Int) (0:Int) (16:Int))
 (a6 e l s (fun vc _ =>
 (asr (!(decide (a=(0:Int))))
 (asr (!(decide (s=(0:Int))))
 (a3 (IntKind.u64.wrap (Int.tdiv (IntKind.u64.wrap p1) a)) (IntKind.u64.wrap (Int.tdiv (IntKind.u64.wrap p3) s)) (fun vd ve =>
 (cbr (decide (vd>(0:Int)))
 (K (0:Int) (0:Int) (16:Int))
 (a7 (!(decide (p0<(0:Int)))) vc ve (fun vf vg vh =>
 (K vf vg vh))))))))))))))))))))
 (cbr (b == c)
 (cbr (decide (i<j))
 (a8 j i (0:Int) (fun m vi =>
 (a8 c b vi (fun f _ =>
 (cbr (f ==(0:Int))
 (cbr (m ==(0:Int))
 (K (0:Int) (1:Int) (0:Int))
 (a5 f m a (fun vj =>
 (a1 vj a (fun t =>
 (cbr (decide (f≥t))
 (K (0:Int) (0:Int) (16:Int))
 (a6 f m t (fun vk _ =>
 (asr (!(decide (a=(0:Int))))
 (asr (!(decide (t=(0:Int))))
 (a3 (IntKind.u64.wrap (Int.tdiv (IntKind.u64.wrap p1) a)) (IntKind.u64.wrap (Int.tdiv (IntKind.u64.wrap p3) t)) (fun vl vm =>
 (cbr (decide (vl>(0:Int)))
 (K (0:Int) (0:Int) (16:Int))
 (a7 (!(decide (p0<(0:Int)))) vk vm (fun vn vo vp =>
 (K vn vo vp))))))))))))))))
 (a5 f m a (fun vq =>
 (a1 vq a (fun u =>
 (cbr (decide (f≥u))
 (K (0:Int) (0:Int) (16:Int))
 (a6 f m u (fun vr _ =>
 (asr (!(decide (a=(0:Int))))
 (asr (!(decide (u=(0:Int))))
 (a3 (IntKind.u64.wrap (Int.tdiv (IntKind.u64.wrap p1) a)) (IntKind.u64.wrap (Int.tdiv (IntKind.u64.wrap p3) u)) (fun vs vt =>
 (cbr (decide (vs>(0:Int)))
 (K (0:Int) (0:Int) (16:Int))
 (a7 (!(decide (p0<(0:Int)))) vr vt (fun vu vv vw =>
 (K vu vv vw))))))))))))))))))))
 (a8 i j (0:Int) (fun n vx =>
 (a8 b c vx (fun g _ =>
 (cbr (g ==(0:Int))
 (cbr (n ==(0:Int))
 (K (0:Int) (1:Int) (0:Int))
 (a5 g n a (fun vy =>
 (a1 vy a (fun v =>
 (cbr (decide (g≥v))
 (K (0:Int) (0:Int) (16:Int))
 (a6 g n v (fun vz _ =>
 (asr (!(decide (a=(0:Int))))
 (asr (!(decide (v=(0:Int))))
 (a3 (IntKind.u64.wrap (Int.tdiv (IntKind.u64.wrap p1) a)) (IntKind.u64.wrap (Int.tdiv (IntKind.u64.wrap p3) v)) (fun vA vB =>
 (cbr (decide (vA>(0:Int)))
 (K (0:Int) (0:Int) (16:Int))
 (a7 (decide (p0<(0:Int))) vz vB (fun vC vD vE =>
 (K vC vD vE))))))))))))))))
 (a5 g n a (fun vF =>
 (a1 vF a (fun w =>
 (cbr (decide (g≥w))
 (K (0:Int) (0:Int) (16:Int))
 (a6 g n w (fun vG _ =>
 (asr (!(decide (a=(0:Int))))
 (asr (!(decide (w=(0:Int))))
 (a3 (IntKind.u64.wrap (Int.tdiv (IntKind.u64.wrap p1) a)) (IntKind.u64.wrap (Int.tdiv (IntKind.u64.wrap p3) w)) (fun vH vI =>
 (cbr (decide (vH>(0:Int)))
 (K (0:Int) (0:Int) (16:Int))
 (a7 (decide (p0<(0:Int))) vG vI (fun vJ vK vL =>
 (K vJ vK vL)))))))))))))))))))))
 (a8 i j (0:Int) (fun o vM =>
 (a8 b c vM (fun h _ =>
 (cbr (h ==(0:Int))
 (cbr (o ==(0:Int))
 (K (0:Int) (1:Int) (0:Int))
 (a5 h o a (fun vN =>
 (a1 vN a (fun x =>
 (cbr (decide (h≥x))
 (K (0:Int) (0:Int) (16:Int))
 (a6 h o x (fun vO _ =>
 (asr (!(decide (a=(0:Int))))
 (asr (!(decide (x=(0:Int))))
 (a3 (IntKind.u64.wrap (Int.tdiv (IntKind.u64.wrap p1) a)) (IntKind.u64.wrap (Int.tdiv (IntKind.u64.wrap p3) x)) (fun vP vQ =>
 (cbr (decide (vP>(0:Int)))
 (K (0:Int) (0:Int) (16:Int))
 (a7 (decide (p0<(0:Int))) vO vQ (fun vR vS vT =>
 (K vR vS vT))))))))))))))))
 (a5 h o a (fun vU =>
 (a1 vU a (fun y =>
 (cbr (decide (h≥y))
 (K (0:Int) (0:Int) (16:Int))
 (a6 h o y (fun vV _ =>
 (asr (!(decide (a=(0:Int))))
 (asr (!(decide (y=(0:Int))))
 (a3 (IntKind.u64.wrap (Int.tdiv (IntKind.u64.wrap p1) a)) (IntKind.u64.wrap (Int.tdiv (IntKind.u64.wrap p3) y)) (fun vW vX =>
 (cbr (decide (vW>(0:Int)))
 (K (0:Int) (0:Int) (16:Int))
 (a7 (decide (p0<(0:Int))) vV vX (fun vY vZ v0 =>
 (K vY vZ v0))))))))))))))))))))))))))))))))))))))
def ya5:yai:=yko ycD ybV ydf yev yhq yf4 yfj ybL yhr
def yhd:Sg:=⟨pt9,Int→Int→Int→Prop,fun K=>(fun r0 r1 r2=>K (.tup [(.agg [(.int .i64 r0),(.int .i64 r1)]),(.int .i64 r2)]))⟩
def ywL (e:Es) (a0:ybt) (a1:yan) (a2:yaw) (a3:yf3) (a4:yvF) (a5:yqs) (a6:yjn) (a7:ycS) (a8:yvG):SE:=sE (E e) [(ya4,ytx.pw a0),(ybD,ywG.pw a1),(yaN,yuo.pw a2),(ycG,yAb.pw a3),(yet,yof a4),(yjj,yAj.pw a5),(yf1,yAh.pw a6),(ybK,yrL.pw a7),(yeu,yoh a8)] lp0
theorem ywM (e:Es) (a0 a1 a2 a3 a4 a5 a6 a7 a8):EqW (ywL e a0 a1 a2 a3 a4 a5 a6 a7 a8) 6 yyD yhd (yko a0 a1 a2 a3 a4 a5 a6 a7 a8):=fun _ _=>by kernel_rfl
theorem yfK (e:Es) (he:EG e):OkF (E e) (yhd.pw ya5) ycA:=okU he (ywM e _ _ _ _ _ _ _ _ _) (yar (Sub.uni _) ⟨(yek e he),(yhb e he),(yeW e he),(yov e he),(yz9 e he),(yAm e he),(ytF e he),(ygN e he),(yAa e he),trivial⟩ trivial he.ok) yhM.flat (yah (by kernel_rfl))
def ykp (a0:ybt) (a1:yai) (p0 p1 p2 p3:Int) (K:Int→Int→Int→Prop):Prop :=
 (a0 p0 p1 p2 p3 (fun a =>
 (cbr (a !=(0:Int))
 (K (0:Int) (0:Int) a)
 (a1 p0 p1 (IntKind.i64.wrap ((0:Int)-p2)) p3 (fun b c d =>
 (K b c d))))))
def ybf:yai:=ykp ycD ya5
def ywN (e:Es) (a0:ybt) (a1:yai):SE:=sE (E e) [(ya4,ytx.pw a0),(ycA,yhd.pw a1)] lp0
theorem ywO (e:Es) (a0 a1):EqW (ywN e a0 a1) 6 yyE yhd (ykp a0 a1):=fun _ _=>by kernel_rfl
theorem yhe (e:Es) (he:EG e):OkF (E e) (yhd.pw ybf) ydc:=okU he (ywO e _ _) (yar (Sub.uni _) ⟨(yek e he),(yfK e he),trivial⟩ trivial he.ok) yhM.flat (yah (by kernel_rfl))
def ykq (a0:ybt) (a1:yaw) (a2:yan) (a3:yf3) (a4:ycS) (p0 p1 p2 p3:Int) (K:Int→Int→Int→Prop):Prop :=
 (a0 p0 p1 p2 p3 (fun d =>
 (cbr (d !=(0:Int))
 (K (0:Int) (0:Int) d)
 (a1 p0 (fun e =>
 (a1 p2 (fun f =>
 (a2 e (IntKind.u64.wrap p3) (fun a =>
 (a2 f (IntKind.u64.wrap p1) (fun b =>
 (asr (!(decide (a=(0:Int))))
 (asr (!(decide (b=(0:Int))))
 (a3 (IntKind.u64.wrap (Int.tdiv e a)) (IntKind.u64.wrap (Int.tdiv f b)) (fun h c =>
 (asr (!(decide (b=(0:Int))))
 (asr (!(decide (a=(0:Int))))
 (a3 (IntKind.u64.wrap (Int.tdiv (IntKind.u64.wrap p1) b)) (IntKind.u64.wrap (Int.tdiv (IntKind.u64.wrap p3) a)) (fun i g =>
 (cbr (decide ((IntKind.u64.wrap (h+i))>(0:Int)))
 (K (0:Int) (0:Int) (16:Int))
 (cbr (decide (c>(0:Int)))
 (a4 ((decide (p0<(0:Int))) !=(decide (p2<(0:Int)))) c g (fun j k l =>
 (K j k l)))
 (a4 false c g (fun m n o =>
 (K m n o))))))))))))))))))))))))
def ya6:yai:=ykq ycD ydf ybV yev ybL
def ywP (e:Es) (a0:ybt) (a1:yaw) (a2:yan) (a3:yf3) (a4:ycS):SE:=sE (E e) [(ya4,ytx.pw a0),(yaN,yuo.pw a1),(ybD,ywG.pw a2),(ycG,yAb.pw a3),(ybK,yrL.pw a4)] lp0
theorem ywQ (e:Es) (a0 a1 a2 a3 a4):EqW (ywP e a0 a1 a2 a3 a4) 6 yyF yhd (ykq a0 a1 a2 a3 a4):=fun _ _=>by kernel_rfl
theorem yfL (e:Es) (he:EG e):OkF (E e) (yhd.pw ya6) ycc:=okU he (ywQ e _ _ _ _ _) (yar (Sub.uni _) ⟨(yek e he),(yeW e he),(yhb e he),(yov e he),(ygN e he),trivial⟩ trivial he.ok) yhM.flat (yah (by kernel_rfl))
def ykr (a0:ybt) (a1:yai) (p0 p1 p2 p3:Int) (K:Int→Int→Int→Prop):Prop :=
 (a0 p0 p1 p2 p3 (fun a =>
 (cbr (a !=(0:Int))
 (K (0:Int) (0:Int) a)
 (cbr (p2 ==(0:Int))
 (K (0:Int) (0:Int) (18:Int))
 (cbr (decide (p2<(0:Int)))
 (a1 p0 p1 (IntKind.i64.wrap ((0:Int)-p3)) (IntKind.i64.wrap ((0:Int)-p2)) (fun b c d =>
 (K b c d)))
 (a1 p0 p1 p3 p2 (fun e f g =>
 (K e f g))))))))
def ycd:yai:=ykr ycD ya6
def ywR (e:Es) (a0:ybt) (a1:yai):SE:=sE (E e) [(ya4,ytx.pw a0),(ycc,yhd.pw a1)] lp0
theorem ywS (e:Es) (a0 a1):EqW (ywR e a0 a1) 6 yyG yhd (ykr a0 a1):=fun _ _=>by kernel_rfl
theorem yks (e:Es) (he:EG e):OkF (E e) (yhd.pw ycd) yfh:=okU he (ywS e _ _) (yar (Sub.uni _) ⟨(yek e he),(yfL e he),trivial⟩ trivial he.ok) yhM.flat (yah (by kernel_rfl))
end Go.Pf.Vc
namespace Go.Pf.Vc
open Go Go.Pf
set_option linter.unusedVariables false
theorem ytG (p0:Int) (p1:Int) (r0:Int) (r1:Int) (r2:Int) (h:∀ K:Int→Int→Int→Prop,K r0 r1 r2→ydM p0 p1 K) (K:Int→Int→Int→Prop):ydM p0 p1 K=K r0 r1 r2 :=
 propext ⟨fun k=>detC (yny [] ybd) (as:=[(.int .i64 p0),(.int .i64 p1)]) (x:=(.tup [(.agg [(.int .i64 r0),(.int .i64 r1)]),(.int .i64 r2)])) (fun K' k'=>h (fun r0 r1 r2=>K' (.tup [(.agg [(.int .i64 r0),(.int .i64 r1)]),(.int .i64 r2)])) k') (K:=fun x=>match x with | (.tup [(.agg [(.int .i64 r0),(.int .i64 r1)]),(.int .i64 r2)])=>K r0 r1 r2 | _=>False) k,h K⟩
theorem yrO (p0:Int) (p1:Int) (r0:Int) (h:∀ K:Int→Prop,K r0→yaE p0 p1 K) (K:Int→Prop):yaE p0 p1 K=K r0 :=
 propext ⟨fun k=>detC (ycT [] ybd) (as:=[(.agg [(.int .i64 p0),(.int .i64 p1)])]) (x:=(.int .i64 r0)) (fun K' k'=>h (fun r0=>K' (.int .i64 r0)) k') (K:=fun x=>match x with | (.int .i64 r0)=>K r0 | _=>False) k,h K⟩
theorem yuw (p0:Int) (p1:Int) (p2:Int) (p3:Int) (r0:Int) (r1:Int) (h:∀ K:Int→Int→Prop,K r0 r1→ydI p0 p1 p2 p3 K) (K:Int→Int→Prop):ydI p0 p1 p2 p3 K=K r0 r1 :=
 propext ⟨fun k=>detC (ykm [] ybd) (as:=[(.agg [(.int .i64 p0),(.int .i64 p1)]),(.agg [(.int .i64 p2),(.int .i64 p3)])]) (x:=(.tup [(.int .i64 r0),(.int .i64 r1)])) (fun K' k'=>h (fun r0 r1=>K' (.tup [(.int .i64 r0),(.int .i64 r1)])) k') (K:=fun x=>match x with | (.tup [(.int .i64 r0),(.int .i64 r1)])=>K r0 r1 | _=>False) k,h K⟩
theorem yux (p0:Int) (p1:Int) (p2:Int) (p3:Int) (r0:Int) (r1:Int) (r2:Int) (h:∀ K:Int→Int→Int→Prop,K r0 r1 r2→ya5 p0 p1 p2 p3 K) (K:Int→Int→Int→Prop):ya5 p0 p1 p2 p3 K=K r0 r1 r2 :=
 propext ⟨fun k=>detC (yfK [] ybd) (as:=[(.agg [(.int .i64 p0),(.int .i64 p1)]),(.agg [(.int .i64 p2),(.int .i64 p3)])]) (x:=(.tup [(.agg [(.int .i64 r0),(.int .i64 r1)]),(.int .i64 r2)])) (fun K' k'=>h (fun r0 r1 r2=>K' (.tup [(.agg [(.int .i64 r0),(.int .i64 r1)]),(.int .i64 r2)])) k') (K:=fun x=>match x with | (.tup [(.agg [(.int .i64 r0),(.int .i64 r1)]),(.int .i64 r2)])=>K r0 r1 r2 | _=>False) k,h K⟩
theorem yuy (p0:Int) (p1:Int) (p2:Int) (p3:Int) (r0:Int) (r1:Int) (r2:Int) (h:∀ K:Int→Int→Int→Prop,K r0 r1 r2→ybf p0 p1 p2 p3 K) (K:Int→Int→Int→Prop):ybf p0 p1 p2 p3 K=K r0 r1 r2 :=
 propext ⟨fun k=>detC (yhe [] ybd) (as:=[(.agg [(.int .i64 p0),(.int .i64 p1)]),(.agg [(.int .i64 p2),(.int .i64 p3)])]) (x:=(.tup [(.agg [(.int .i64 r0),(.int .i64 r1)]),(.int .i64 r2)])) (fun K' k'=>h (fun r0 r1 r2=>K' (.tup [(.agg [(.int .i64 r0),(.int .i64 r1)]),(.int .i64 r2)])) k') (K:=fun x=>match x with | (.tup [(.agg [(.int .i64 r0),(.int .i64 r1)]),(.int .i64 r2)])=>K r0 r1 r2 | _=>False) k,h K⟩
theorem yuz (p0:Int) (p1:Int) (p2:Int) (p3:Int) (r0:Int) (r1:Int) (r2:Int) (h:∀ K:Int→Int→Int→Prop,K r0 r1 r2→ya6 p0 p1 p2 p3 K) (K:Int→Int→Int→Prop):ya6 p0 p1 p2 p3 K=K r0 r1 r2 :=
 propext ⟨fun k=>detC (yfL [] ybd) (as:=[(.agg [(.int .i64 p0),(.int .i64 p1)]),(.agg [(.int .i64 p2),(.int .i64 p3)])]) (x:=(.tup [(.agg [(.int .i64 r0),(.int .i64 r1)]),(.int .i64 r2)])) (fun K' k'=>h (fun r0 r1 r2=>K' (.tup [(.agg [(.int .i64 r0),(.int .i64 r1)]),(.int .i64 r2)])) k') (K:=fun x=>match x with | (.tup [(.agg [(.int .i64 r0),(.int .i64 r1)]),(.int .i64 r2)])=>K r0 r1 r2 | _=>False) k,h K⟩
theorem yuA (p0:Int) (p1:Int) (p2:Int) (p3:Int) (r0:Int) (r1:Int) (r2:Int) (h:∀ K:Int→Int→Int→Prop,K r0 r1 r2→ycd p0 p1 p2 p3 K) (K:Int→Int→Int→Prop):ycd p0 p1 p2 p3 K=K r0 r1 r2 :=
 propext ⟨fun k=>detC (yks [] ybd) (as:=[(.agg [(.int .i64 p0),(.int .i64 p1)]),(.agg [(.int .i64 p2),(.int .i64 p3)])]) (x:=(.tup [(.agg [(.int .i64 r0),(.int .i64 r1)]),(.int .i64 r2)])) (fun K' k'=>h (fun r0 r1 r2=>K' (.tup [(.agg [(.int .i64 r0),(.int .i64 r1)]),(.int .i64 r2)])) k') (K:=fun x=>match x with | (.tup [(.agg [(.int .i64 r0),(.int .i64 r1)]),(.int .i64 r2)])=>K r0 r1 r2 | _=>False) k,h K⟩
end Go.Pf.Vc
namespace Go.Pf.Vc
open Go Go.Pf
set_option maxRecDepth 100000
def ybN (x0:Ls→Int→Int→Bool→Prop):Nat→Ls→Int→Int→Prop
 | 0,_,_,_=>False
 | n+1,l0,i1,i2 =>
 (cbr (decide (i2<(((List.length l0):Nat):Int)))
 (asr (decide ((0:Int)≤i2))
 (asr (decide (i2<(((List.length l0):Nat):Int)))
 (asr (conf (.one (.i .i64)) (List.getD l0 (i2.toNat) .nils))
 (ybN x0 n l0 (if (yaa (List.getD l0 (i2.toNat) .nils))<i1 then (yaa (List.getD l0 (i2.toNat) .nils)) else i1) (IntKind.i64.wrap (i2+(1:Int)))))))
 (x0 l0 i1 i2 false))
def yf5 (p0:Ls) (K:Int→Prop):Prop :=
 (cbr (decide ((((List.length p0):Nat):Int)<(1:Int)))
 False
 (asr (decide ((0:Int)<(((List.length p0):Nat):Int)))
 (asr (conf (.one (.i .i64)) (List.getD p0 0 .nils))
 (∃ n:Nat,ybN
 (fun _ a _ _=>(K a))
 n p0 (yaa (List.getD p0 0 .nils)) (1:Int)))))
def yc4:yaq:=yf5
def ym0 (Q:Qx):Ls→Int→Int→Bool→Prop:=(fun l0 i1 i2 b3=>Q (.exit 0) [(0,.v (.data l0)),(3,.v (.int .i64 i1)),(4,.v (.int .i64 i2)),(15,.v (.bool b3))] [])
def pt10:Pat Sta:=pS hN (fV 0 vD (fV 3 pt0 (fV 4 pt0 fN))) fN
def yhR (Q:Qx):List St:=[⟨pt10,ybN (ym0 Q)⟩]
def yjo:LP:=lpS [(10434000,yhR)]
def yf6 (e:Es):SE:=sE (E e) [] (yjo)
theorem yid (e:Es) (he:EG e):SEOk (Uni (E e)) (yf6 e):=yar (Sub.uni _) trivial trivial he.ok
theorem ylE (e:Es):ycZ (yf6 e) 5 a yjR false (yhR):=fun _=>⟨fun _=>by kernel_rfl,fun _ _=>by kernel_rfl,trivial⟩
theorem ylF (e:Es) (he:EG e):LpT (Uni (E e)) (yjo) [] 10434000 (.loop 10434000 yjR):=fun _ _ _=>ylr.st (Sub.uni _) (yaD (yid e he) 5) (YOk.no _ _) (yah (by kernel_rfl)) (ylE e _)
theorem yqt (e:Es):EqW (yf6 e) 6 yrG ydm yf5:=fun _ _=>by kernel_rfl
theorem yqu (e:Es) (he:EG e):OkF (E e) (ydm.pw yc4) ydT:=okU he (yqt e) (yid e he) yhM.flat (ybp (l:=[(10434000,.loop 10434000 yjR)]) ⟨ylF e he,trivial⟩ (by kernel_rfl))
def ybO (x0:Ls→Int→Int→Bool→Prop):Nat→Ls→Int→Int→Prop
 | 0,_,_,_=>False
 | n+1,l0,i1,i2 =>
 (cbr (decide (i2<(((List.length l0):Nat):Int)))
 (asr (decide ((0:Int)≤i2))
 (asr (decide (i2<(((List.length l0):Nat):Int)))
 (asr (conf (.one (.i .i64)) (List.getD l0 (i2.toNat) .nils))
 (ybO x0 n l0 (if (yaa (List.getD l0 (i2.toNat) .nils))>i1 then (yaa (List.getD l0 (i2.toNat) .nils)) else i1) (IntKind.i64.wrap (i2+(1:Int)))))))
 (x0 l0 i1 i2 false))
def yf7 (p0:Ls) (K:Int→Prop):Prop :=
 (cbr (decide ((((List.length p0):Nat):Int)<(1:Int)))
 False
 (asr (decide ((0:Int)<(((List.length p0):Nat):Int)))
 (asr (conf (.one (.i .i64)) (List.getD p0 0 .nils))
 (∃ n:Nat,ybO
 (fun _ a _ _=>(K a))
 n p0 (yaa (List.getD p0 0 .nils)) (1:Int)))))
def yc5:yaq:=yf7
def ym1 (Q:Qx):Ls→Int→Int→Bool→Prop:=(fun l0 i1 i2 b3=>Q (.exit 0) [(0,.v (.data l0)),(3,.v (.int .i64 i1)),(4,.v (.int .i64 i2)),(15,.v (.bool b3))] [])
def yhS (Q:Qx):List St:=[⟨pt10,ybO (ym1 Q)⟩]
def yjp:LP:=lpS [(64079100,yhS)]
def yf8 (e:Es):SE:=sE (E e) [] (yjp)
theorem yie (e:Es) (he:EG e):SEOk (Uni (E e)) (yf8 e):=yar (Sub.uni _) trivial trivial he.ok
theorem ylG (e:Es):ycZ (yf8 e) 5 a yjS false (yhS):=fun _=>⟨fun _=>by kernel_rfl,fun _ _=>by kernel_rfl,trivial⟩
theorem ylH (e:Es) (he:EG e):LpT (Uni (E e)) (yjp) [] 64079100 (.loop 64079100 yjS):=fun _ _ _=>ylr.st (Sub.uni _) (yaD (yie e he) 5) (YOk.no _ _) (yah (by kernel_rfl)) (ylG e _)
theorem yqv (e:Es):EqW (yf8 e) 6 yrH ydm yf7:=fun _ _=>by kernel_rfl
theorem yqw (e:Es) (he:EG e):OkF (E e) (ydm.pw yc5) yc2:=okU he (yqv e) (yie e he) yhM.flat (ybp (l:=[(64079100,.loop 64079100 yjS)]) ⟨ylH e he,trivial⟩ (by kernel_rfl))
abbrev yam:Type:=Int→Ls→Ls→(Int→Prop)→Prop
def ycI (a0:yaq) (a1:yaq) (x0:Int→Prop) (x1:Int→Ls→Ls→Int→Int→Bool→Prop):Nat→Int→Ls→Ls→Int→Int→Prop
 | 0,_,_,_,_,_=>False
 | n+1,i0,l1,l2,i3,i4 =>
 (cbr (decide (i4<i3))
 (asr (decide ((0:Int)≤i4))
 (asr (decide (i4<(((List.length l1):Nat):Int)))
 (asr (conf (.one (.i .i64)) (List.getD l1 (i4.toNat) .nils))
 (asr (decide ((0:Int)≤(IntKind.i64.wrap (i4+(1:Int)))))
 (asr (decide ((IntKind.i64.wrap (i4+(1:Int)))<(((List.length l1):Nat):Int)))
 (asr (conf (.one (.i .i64)) (List.getD l1 ((IntKind.i64.wrap (i4+(1:Int))).toNat) .nils))
 (cbr (decide ((yaa (List.getD l1 (i4.toNat) .nils))≥(yaa (List.getD l1 ((IntKind.i64.wrap (i4+(1:Int))).toNat) .nils))))
 (x0 (8:Int))
 (ycI a0 a1 x0 x1 n i0 l1 l2 i3 (IntKind.i64.wrap (i4+(1:Int)))))))))))
 (x1 i0 l1 l2 i3 i4 false))
def yiz (a0:yaq) (a1:yaq) (p0:Int) (p1 p2:Ls) (K:Int→Prop):Prop :=
 (cbr (decide (p0>(1000:Int)))
 (K (4:Int))
 (cbr (decide ((((List.length p1):Nat):Int)>(40:Int)))
 (K (4:Int))
 (cbr (decide (p0<(1:Int)))
 (K (8:Int))
 (cbr (decide ((((List.length p1):Nat):Int)<(2:Int)))
 (K (8:Int))
 (cbr ((((List.length p2):Nat):Int) !=(IntKind.i64.wrap ((((List.length p1):Nat):Int)-(1:Int))))
 (K (8:Int))
 (asr (decide ((0:Int)<(((List.length p1):Nat):Int)))
 (asr (conf (.one (.i .i64)) (List.getD p1 0 .nils))
 (cbr ((yaa (List.getD p1 0 .nils)) !=(0:Int))
 (K (8:Int))
 (asr (decide ((0:Int)≤(IntKind.i64.wrap ((((List.length p1):Nat):Int)-(1:Int)))))
 (asr (decide ((IntKind.i64.wrap ((((List.length p1):Nat):Int)-(1:Int)))<(((List.length p1):Nat):Int)))
 (asr (conf (.one (.i .i64)) (List.getD p1 ((IntKind.i64.wrap ((((List.length p1):Nat):Int)-(1:Int))).toNat) .nils))
 (cbr ((yaa (List.getD p1 ((IntKind.i64.wrap ((((List.length p1):Nat):Int)-(1:Int))).toNat) .nils)) != p0)
 (K (8:Int))
 (∃ n:Nat,ycI a0 a1
 (fun b=>(K b))
 (fun _ _ a _ _ _=>(a0 a (fun c =>
 (cbr (decide (c<(0:Int)))
 (K (8:Int))
 (a1 a (fun d =>
 (cbr (decide (d>(12:Int)))
 (K (8:Int))
 (a1 a (fun e =>
 (cbr (e ==(0:Int))
 (K (8:Int))
 (K (0:Int))))))))))))
 n p0 p1 p2 (IntKind.i64.wrap ((((List.length p1):Nat):Int)-(1:Int))) (0:Int))))))))))))))
def yau:yam:=yiz yc4 yc5
def pt11:VPt:=vA (lC pt0 (lC vD pt6))
def pt12:LPt:=lC pt11 lN
def ynE:Sg:=⟨pt12,Int→Prop,fun K=>(fun r0=>K (.int .i64 r0))⟩
def yqx (Q:Qx):Int→Prop:=(fun i0=>Q .ret [(2,.v (.int .i64 i0))] [])
def yqy (Q:Qx):Int→Ls→Ls→Int→Int→Bool→Prop:=(fun i0 l1 l2 i3 i4 b5=>Q (.exit 0) [(1,.box (.agg [(.int .i64 i0),(.data l1),(.data l2)])),(49,.v (.int .i64 i3)),(50,.v (.int .i64 i4)),(51,.v (.bool b5))] [])
def ykV (a0:yaq) (a1:yaq) (Q:Qx):List St:=[⟨(pS hN (fX 1 pt11 (fV 49 pt0 (fV 50 pt0 fN))) fN),ycI a0 a1 (yqx Q) (yqy Q)⟩]
def ynF (a0:yaq) (a1:yaq):LP:=lpS [(87419700,ykV a0 a1)]
def yiA (e:Es) (a0:yaq) (a1:yaq):SE:=sE (E e) [(ydT,ydm.pw a0),(yc2,ydm.pw a1)] (ynF a0 a1)
theorem ylI (e:Es) (he:EG e):SEOk (Uni (E e)) (yiA e yc4 yc5):=yar (Sub.uni _) ⟨(yqu e he),(yqw e he),trivial⟩ trivial he.ok
theorem ypo (e:Es) (a0 a1):ycZ (yiA e a0 a1) 5 a yjT false (ykV a0 a1):=fun _=>⟨fun _=>by kernel_rfl,fun _ _=>by kernel_rfl,trivial⟩
theorem ypp (e:Es) (he:EG e):LpT (Uni (E e)) (ynF yc4 yc5) [] 87419700 (.loop 87419700 yjT):=fun _ _ _=>ylr.st (Sub.uni _) (yaD (ylI e he) 5) (YOk.no _ _) (yah (by kernel_rfl)) (ypo e _ _ _)
theorem yuB (e:Es) (a0 a1):EqW (yiA e a0 a1) 6 ywt ynE (yiz a0 a1):=fun _ _=>by kernel_rfl
theorem yd0 (e:Es) (he:EG e):OkF (E e) (ynE.pw yau) ybu:=okU he (yuB e _ _) (ylI e he) yhM.flat (ybp (l:=[(87419700,.loop 87419700 yjT)]) ⟨ypp e he,trivial⟩ (by kernel_rfl))
abbrev ykt:Type:=Int→Ls→Ls→(Int→Int→Prop)→Prop
def ycJ (a0:yam) (x0:Int→Ls→Ls→Int→Ls→Int→Int→Bool→Prop):Nat→Int→Ls→Ls→Int→Ls→Int→Int→Prop
 | 0,_,_,_,_,_,_,_=>False
 | n+1,i0,l1,l2,i3,l4,i5,i6 =>
 (cbr (decide (i6<i5))
 (asr (decide ((0:Int)≤i6))
 (asr (decide (i6<(((List.length l4):Nat):Int)))
 (asr (conf (.one (.i .i64)) (List.getD l4 (i6.toNat) .nils))
 (asr (decide ((0:Int)≤(IntKind.i64.wrap (i6+(1:Int)))))
 (asr (decide ((IntKind.i64.wrap (i6+(1:Int)))<(((List.length l1):Nat):Int)))
 (asr (conf (.one (.i .i64)) (List.getD l1 ((IntKind.i64.wrap (i6+(1:Int))).toNat) .nils))
 (asr (decide ((0:Int)≤i6))
 (asr (decide (i6<(((List.length l1):Nat):Int)))
 (asr (conf (.one (.i .i64)) (List.getD l1 (i6.toNat) .nils))
 (ycJ a0 x0 n i0 l1 l2 (IntKind.i64.wrap (i3+(IntKind.i64.wrap ((yaa (List.getD l4 (i6.toNat) .nils))*(IntKind.i64.wrap ((yaa (List.getD l1 ((IntKind.i64.wrap (i6+(1:Int))).toNat) .nils))-(yaa (List.getD l1 (i6.toNat) .nils)))))))) l4 i5 (IntKind.i64.wrap (i6+(1:Int)))))))))))))
 (x0 i0 l1 l2 i3 l4 i5 i6 false))
def ygl (a0:yam) (p0:Int) (p1 p2:Ls) (K:Int→Int→Prop):Prop :=
 (a0 p0 p1 p2 (fun a =>
 (cbr (a !=(0:Int))
 (K (0:Int) a)
 (∃ n:Nat,ycJ a0
 (fun _ _ _ b _ _ _ _=>(K b (0:Int)))
 n p0 p1 p2 (0:Int) p2 (((List.length p2):Nat):Int) (0:Int)))))
def ydO:ykt:=ygl yau
def yuC:Sg:=⟨pt12,Int→Int→Prop,fun K=>(fun r0 r1=>K (.tup [(.int .i64 r0),(.int .i64 r1)]))⟩
def yqz (Q:Qx):Int→Ls→Ls→Int→Ls→Int→Int→Bool→Prop:=(fun i0 l1 l2 i3 l4 i5 i6 b7=>Q (.exit 0) [(1,.box (.agg [(.int .i64 i0),(.data l1),(.data l2)])),(5,.v (.int .i64 i3)),(14,.v (.data l4)),(15,.v (.int .i64 i5)),(16,.v (.int .i64 i6)),(17,.v (.bool b7))] [])
def pt13:Pat Frm:=fV 16 pt0 fN
def pt14:Pat Frm:=fV 14 vD (fV 15 pt0 pt13)
def ykW (a0:yam) (Q:Qx):List St:=[⟨(pS hN (fX 1 pt11 (fV 5 pt0 pt14)) fN),ycJ a0 (yqz Q)⟩]
def ynG (a0:yam):LP:=lpS [(45203600,ykW a0)]
def yiB (e:Es) (a0:yam):SE:=sE (E e) [(ybu,ynE.pw a0)] (ynG a0)
theorem ylJ (e:Es) (he:EG e):SEOk (Uni (E e)) (yiB e yau):=yar (Sub.uni _) ⟨(yd0 e he),trivial⟩ trivial he.ok
theorem ypq (e:Es) (a0):ycZ (yiB e a0) 5 a yjX false (ykW a0):=fun _=>⟨fun _=>by kernel_rfl,fun _ _=>by kernel_rfl,trivial⟩
theorem ypr (e:Es) (he:EG e):LpT (Uni (E e)) (ynG yau) [] 45203600 (.loop 45203600 yjX):=fun _ _ _=>ylr.st (Sub.uni _) (yaD (ylJ e he) 5) (YOk.no _ _) (yah (by kernel_rfl)) (ypq e _ _)
theorem yuD (e:Es) (a0):EqW (yiB e a0) 6 yww yuC (ygl a0):=fun _ _=>by kernel_rfl
theorem ynH (e:Es) (he:EG e):OkF (E e) (yuC.pw ydO) yfD:=okU he (yuD e _) (ylJ e he) yhM.flat (ybp (l:=[(45203600,.loop 45203600 yjX)]) ⟨ypr e he,trivial⟩ (by kernel_rfl))
abbrev yab:Type:=Int→(Int→Int→Prop)→Prop
def ynI (p0:Int) (K:Int→Int→Prop):Prop :=
 (K p0 (1:Int))
def ybw:yab:=ynI
def yiC:Sg:=⟨pt1,Int→Int→Prop,fun K=>(fun r0 r1=>K (.agg [(.int .i64 r0),(.int .i64 r1)]))⟩
def yuE (e:Es):SE:=sE (E e) [] lp0
theorem yuF (e:Es):EqW (yuE e) 6 ywA yiC ynI:=fun _ _=>by kernel_rfl
theorem ygm (e:Es) (he:EG e):OkF (E e) (yiC.pw ybw) ya1:=okU he (yuF e) (yar (Sub.uni _) trivial trivial he.ok) yhM.flat (yah (by kernel_rfl))
abbrev yat:Type:=Int→Int→Int→Int→(Bool→Prop)→Prop
def yku (a0:ygD) (p0 p1 p2 p3:Int) (K:Bool→Prop):Prop :=
 (a0 p0 p1 p2 p3 (fun a _ =>
 (K (decide (a<(0:Int))))))
def ybF:yat:=yku ydI
def yps:Sg:=⟨pt9,Bool→Prop,fun K=>(fun r0=>K (.bool r0))⟩
def ywT (e:Es) (a0:ygD):SE:=sE (E e) [(yeh,ywI.pw a0)] lp0
theorem ywU (e:Es) (a0):EqW (ywT e a0) 6 yyC yps (yku a0):=fun _ _=>by kernel_rfl
theorem yhf (e:Es) (he:EG e):OkF (E e) (yps.pw ybF) ybq:=okU he (ywU e _) (yar (Sub.uni _) ⟨(ykm e he),trivial⟩ trivial he.ok) yhM.flat (yah (by kernel_rfl))
abbrev ybx:Type:=Int→Ls→Ls→Int→Int→(Bool→Prop)→Prop
def yiD (a0:yan) (a1:yab) (a2:yat) (p0:Int) (_ _:Ls) (p3 p4:Int) (K:Bool→Prop):Prop :=
 (a0 p3 p4 (fun a =>
 (cbr (a ==(0:Int))
 (cbr (decide (p3≥(0:Int)))
 (a1 p0 (fun b c =>
 (a2 b c p3 p4 (fun d =>
 (K (!d))))))
 (K false))
 (K false))))
def yby:ybx:=yiD yaE ybw ybF
def yuG:Sg:=⟨(lC pt11 (lC pt5 lN)),Bool→Prop,fun K=>(fun r0=>K (.bool r0))⟩
def yuH (e:Es) (a0:yan) (a1:yab) (a2:yat):SE:=sE (E e) [(yaW,ytu.pw a0),(ya1,yiC.pw a1),(ybq,yps.pw a2)] lp0
theorem yuI (e:Es) (a0 a1 a2):EqW (yuH e a0 a1 a2) 6 ywC yuG (yiD a0 a1 a2):=fun _ _=>by kernel_rfl
theorem yiE (e:Es) (he:EG e):OkF (E e) (yuG.pw yby) ycw:=okU he (yuI e _ _ _) (yar (Sub.uni _) ⟨(ycT e he),(ygm e he),(yhf e he),trivial⟩ trivial he.ok) yhM.flat (yah (by kernel_rfl))
abbrev yfk:Type:=Int→Ls→Ls→Int→Int→Int→Int→(Int→Int→Int→Prop)→Prop
def yaU (a0:yam) (a1:ybx) (a2:yan) (a3:yab) (a4:yat) (a5:yai) (a6:yai) (a7:yai) (a8:yai) (x0:Int→Int→Int→Int→Int→Int→Prop) (x1:Int→Int→Int→Int→Int→Int→Ls→Ls→Int→Int→Ls→Int→Int→Bool→Prop):Nat→Int→Int→Int→Int→Int→Int→Ls→Ls→Int→Int→Ls→Int→Int→Prop
 | 0,_,_,_,_,_,_,_,_,_,_,_,_,_=>False
 | n+1,i0,i1,i2,i3,i4,i5,l6,l7,i8,i9,l10,i11,i12 =>
 (cbr (decide (i12<i11))
 (asr (decide ((0:Int)≤i12))
 (asr (decide (i12<(((List.length l10):Nat):Int)))
 (asr (conf (.one (.i .i64)) (List.getD l10 (i12.toNat) .nils))
 (asr (decide ((0:Int)≤(IntKind.i64.wrap (i12+(1:Int)))))
 (asr (decide ((IntKind.i64.wrap (i12+(1:Int)))<(((List.length l6):Nat):Int)))
 (asr (conf (.one (.i .i64)) (List.getD l6 ((IntKind.i64.wrap (i12+(1:Int))).toNat) .nils))
 (a3 (yaa (List.getD l6 ((IntKind.i64.wrap (i12+(1:Int))).toNat) .nils)) (fun a b =>
 (a4 i8 i9 a b (fun s =>
 (cbr (!s)
 (yaU a0 a1 a2 a3 a4 a5 a6 a7 a8 x0 x1 n i0 i1 i2 i3 i4 i5 l6 l7 i8 i9 l10 i11 (IntKind.i64.wrap (i12+(1:Int))))
 (a3 (0:Int) (fun j k =>
 (cbr (decide ((yaa (List.getD l10 (i12.toNat) .nils))>(0:Int)))
 (a5 a b i8 i9 (fun t u l =>
 (cbr (l !=(0:Int))
 (x0 i0 i1 i2 i3 i4 l)
 (a3 (yaa (List.getD l10 (i12.toNat) .nils)) (fun v w =>
 (a6 t u v w (fun m o p =>
 (cbr (p !=(0:Int))
 (x0 i0 i1 i2 i3 i4 p)
 (cbr ((yaa (List.getD l10 (i12.toNat) .nils)) ==(0:Int))
 (yaU a0 a1 a2 a3 a4 a5 a6 a7 a8 x0 x1 n i0 i1 i2 i3 i4 i5 l6 l7 a b l10 i11 (IntKind.i64.wrap (i12+(1:Int))))
 (a4 m o i0 i1 (fun x =>
 (cbr x
 (a5 i0 i1 m o (fun e f c =>
 (cbr (c !=(0:Int))
 (cbr (c !=(0:Int))
 (x0 e f i2 i3 c (0:Int))
 (yaU a0 a1 a2 a3 a4 a5 a6 a7 a8 x0 x1 n e f i2 i3 c i5 l6 l7 a b l10 i11 (IntKind.i64.wrap (i12+(1:Int)))))
 (cbr (c !=(0:Int))
 (x0 e f i2 i3 (6:Int) (0:Int))
 (yaU a0 a1 a2 a3 a4 a5 a6 a7 a8 x0 x1 n e f i2 i3 (6:Int) i5 l6 l7 a b l10 i11 (IntKind.i64.wrap (i12+(1:Int))))))))
 (a3 (yaa (List.getD l10 (i12.toNat) .nils)) (fun y z =>
 (a7 i0 i1 y z (fun A B q =>
 (cbr (q ==(0:Int))
 (a8 i8 i9 A B (fun C D E =>
 (x0 i0 i1 C D E (0:Int))))
 (x0 i0 i1 i2 i3 q (0:Int)))))))))))))))))))
 (cbr ((yaa (List.getD l10 (i12.toNat) .nils)) ==(0:Int))
 (yaU a0 a1 a2 a3 a4 a5 a6 a7 a8 x0 x1 n i0 i1 i2 i3 i4 i5 l6 l7 a b l10 i11 (IntKind.i64.wrap (i12+(1:Int))))
 (a4 j k i0 i1 (fun F =>
 (cbr F
 (a5 i0 i1 j k (fun g h d =>
 (cbr (d !=(0:Int))
 (cbr (d !=(0:Int))
 (x0 g h i2 i3 d (0:Int))
 (yaU a0 a1 a2 a3 a4 a5 a6 a7 a8 x0 x1 n g h i2 i3 d i5 l6 l7 a b l10 i11 (IntKind.i64.wrap (i12+(1:Int)))))
 (cbr (d !=(0:Int))
 (x0 g h i2 i3 (6:Int) (0:Int))
 (yaU a0 a1 a2 a3 a4 a5 a6 a7 a8 x0 x1 n g h i2 i3 (6:Int) i5 l6 l7 a b l10 i11 (IntKind.i64.wrap (i12+(1:Int))))))))
 (a3 (yaa (List.getD l10 (i12.toNat) .nils)) (fun G H =>
 (a7 i0 i1 G H (fun I J r =>
 (cbr (r ==(0:Int))
 (a8 i8 i9 I J (fun K L M =>
 (x0 i0 i1 K L M (0:Int))))
 (x0 i0 i1 i2 i3 r (0:Int)))))))))))))))))))))))))
 (x1 i0 i1 i2 i3 i4 i5 l6 l7 i8 i9 l10 i11 i12 false))
def ykv (a0:yam) (a1:ybx) (a2:yan) (a3:yab) (a4:yat) (a5:yai) (a6:yai) (a7:yai) (a8:yai) (p0:Int) (p1 p2:Ls) (p3 p4 p5 p6:Int) (K:Int→Int→Int→Prop):Prop :=
 (a0 p0 p1 p2 (fun b =>
 (cbr (b !=(0:Int))
 (K (0:Int) (0:Int) b)
 (a1 p0 p1 p2 p3 p4 (fun g =>
 (cbr (!g)
 (K (0:Int) (0:Int) (2:Int))
 (a2 p5 p6 (fun h =>
 (cbr (h !=(0:Int))
 (K (0:Int) (0:Int) (2:Int))
 (cbr (decide (p5<(0:Int)))
 (K (0:Int) (0:Int) (2:Int))
 (cbr (p5 ==(0:Int))
 (K p3 p4 (0:Int))
 (∃ n:Nat,yaU a0 a1 a2 a3 a4 a5 a6 a7 a8
 (fun _ _ c d e a=>(cbr (a !=(0:Int))
 (cbr (a !=(0:Int))
 (K (0:Int) (0:Int) a)
 (K c d (0:Int)))
 (cbr (e !=(0:Int))
 (K (0:Int) (0:Int) e)
 (K c d (0:Int)))))
 (fun _ _ i j f _ _ _ _ _ _ _ _ _=>(cbr (f !=(0:Int))
 (K (0:Int) (0:Int) f)
 (K i j (0:Int))))
 n p5 p6 (0:Int) (0:Int) (6:Int) p0 p1 p2 p3 p4 p2 (((List.length p2):Nat):Int) (0:Int)))))))))))))
def yfl:yfk:=ykv yau yby yaE ybw ybF ybf ya6 ycd ya5
def ypt:Sg:=⟨(lC pt11 pt9),Int→Int→Int→Prop,fun K=>(fun r0 r1 r2=>K (.tup [(.agg [(.int .i64 r0),(.int .i64 r1)]),(.int .i64 r2)]))⟩
def yrP (Q:Qx):Int→Int→Int→Int→Int→Int→Prop:=(fun i0 i1 i2 i3 i4 i5=>Q .ret [(6,.v (.int .i64 i5))] [⟨false,true,2,([(.agg [(.int .i64 i0),(.int .i64 i1)])]:Ls)⟩,⟨false,true,2,([(.agg [(.int .i64 i2),(.int .i64 i3)])]:Ls)⟩,⟨false,true,1,([(.int .i64 i4)]:Ls)⟩])
def yrQ (Q:Qx):Int→Int→Int→Int→Int→Int→Ls→Ls→Int→Int→Ls→Int→Int→Bool→Prop:=(fun i0 i1 i2 i3 i4 i5 l6 l7 i8 i9 l10 i11 i12 b13=>Q (.exit 0) [(2,.v (.fn (.func ydY) [] [(.ptr 0 1 0 0),(.ptr 2 1 0 0),(.ptr 1 1 0 0)])),(3,.box (.agg [(.int .i64 i5),(.data l6),(.data l7)])),(4,.box (.agg [(.int .i64 i8),(.int .i64 i9)])),(14,.v (.data l10)),(15,.v (.int .i64 i11)),(16,.v (.int .i64 i12)),(17,.v (.bool b13))] [⟨false,true,2,([(.agg [(.int .i64 i0),(.int .i64 i1)])]:Ls)⟩,⟨false,true,2,([(.agg [(.int .i64 i2),(.int .i64 i3)])]:Ls)⟩,⟨false,true,1,([(.int .i64 i4)]:Ls)⟩])
def pt15:RPt:=rC pt0 rN
def pt16:VPt:=vP 0 0 (nK 1) (nK 0)
def pt17:VPt:=vP 2 0 (nK 1) (nK 0)
def pt18:VPt:=vP 1 0 (nK 1) (nK 0)
def ylK (a0:yam) (a1:ybx) (a2:yan) (a3:yab) (a4:yat) (a5:yai) (a6:yai) (a7:yai) (a8:yai) (Q:Qx):List St:=[⟨(pS (hB false true 2 (rC pt5 rN) (hB false true 2 (rC pt5 rN) (hB false true 1 pt15 hN))) (fV 2 (vF ydY lN (lC pt16 (lC pt17 (lC pt18 lN)))) (fX 3 pt11 (fX 4 pt5 pt14))) fN),yaU a0 a1 a2 a3 a4 a5 a6 a7 a8 (yrP Q) (yrQ Q)⟩]
def ykw (a0:yam) (a1:ybx) (a2:yan) (a3:yab) (a4:yat) (a5:yai) (a6:yai) (a7:yai) (a8:yai):LP:=lpS [(41613500,ylK a0 a1 a2 a3 a4 a5 a6 a7 a8)]
def ypu (e:Es) (a0:yam) (a1:ybx) (a2:yan) (a3:yab) (a4:yat) (a5:yai) (a6:yai) (a7:yai) (a8:yai):SE:=⟨(E e),ygT [(ybu,ynE.pw a0),(ycw,yuG.pw a1),(yaW,ytu.pw a2),(ya1,yiC.pw a3),(ybq,yps.pw a4),(ydc,yhd.pw a5),(ycc,yhd.pw a6),(yfh,yhd.pw a7),(ycA,yhd.pw a8)],ygU [(ydY,ynv)],ykw a0 a1 a2 a3 a4 a5 a6 a7 a8,fun _=>none⟩
def ypv (e:Es) (a0:yam) (a1:ybx) (a2:yan) (a3:yab) (a4:yat) (a5:yai) (a6:yai) (a7:yai) (a8:yai):SE:=⟨(E e),ygT [(ybu,ynE.pw a0),(ycw,yuG.pw a1),(yaW,ytu.pw a2),(ya1,yiC.pw a3),(ybq,yps.pw a4),(ydc,yhd.pw a5),(ycc,yhd.pw a6),(yfh,yhd.pw a7),(ycA,yhd.pw a8)],ygU [(ylv,yyH),(ydY,ynv)],ykw a0 a1 a2 a3 a4 a5 a6 a7 a8,fun _=>none⟩
theorem yuJ (e:Es) (he:EG e):SEOk (Uni (E e)) (ypu e yau yby yaE ybw ybF ybf ya6 ycd ya5):=yar (Sub.uni _) ⟨(yd0 e he),(yiE e he),(ycT e he),(ygm e he),(yhf e he),(yhe e he),(yfL e he),(yks e he),(yfK e he),trivial⟩ ⟨⟨by kernel_rfl,by kernel_rfl,rfl,fun as=>ya8 (by kernel_rfl) as,he.num _ (by kernel_rfl),by kernel_rfl,(yah (by kernel_rfl))⟩,trivial⟩ he.ok
theorem yqA (e:Es) (a0 a1 a2 a3 a4 a5 a6 a7 a8):ycZ (ypu e a0 a1 a2 a3 a4 a5 a6 a7 a8) 5 a yj4 false (ylK a0 a1 a2 a3 a4 a5 a6 a7 a8):=fun _=>⟨fun _=>by kernel_rfl,fun _ _=>by kernel_rfl,trivial⟩
theorem yqB (e:Es) (he:EG e):LpT (Uni (E e)) (ykw yau yby yaE ybw ybF ybf ya6 ycd ya5) [] 41613500 (.loop 41613500 yj4):=fun _ _ _=>ylr.st (Sub.uni _) (yaD (yuJ e he) 5) (YOk.no _ _) (yah (by kernel_rfl)) (yqA e _ _ _ _ _ _ _ _ _ _)
theorem yuK (e:Es) (he:EG e):SEOk (Uni (E e)) (ypv e yau yby yaE ybw ybF ybf ya6 ycd ya5):=yar (Sub.uni _) ⟨(yd0 e he),(yiE e he),(ycT e he),(ygm e he),(yhf e he),(yhe e he),(yfL e he),(yks e he),(yfK e he),trivial⟩ ⟨⟨by kernel_rfl,by kernel_rfl,rfl,fun as=>ya8 (by kernel_rfl) as,he.num _ (by kernel_rfl),by kernel_rfl,(ybp (l:=[(41613500,.loop 41613500 yj4)]) ⟨yqB e he,trivial⟩ (by kernel_rfl))⟩,⟨by kernel_rfl,by kernel_rfl,rfl,fun as=>ya8 (by kernel_rfl) as,he.num _ (by kernel_rfl),by kernel_rfl,(yah (by kernel_rfl))⟩,trivial⟩ he.ok
theorem ywV (e:Es) (a0 a1 a2 a3 a4 a5 a6 a7 a8):EqW (ypv e a0 a1 a2 a3 a4 a5 a6 a7 a8) 6 yyI ypt (ykv a0 a1 a2 a3 a4 a5 a6 a7 a8):=fun _ _=>by kernel_rfl
theorem ypw (e:Es) (he:EG e):OkF (E e) (ypt.pw yfl) ygA:=okU he (ywV e _ _ _ _ _ _ _ _ _) (yuK e he) yhM.flat (yah (by kernel_rfl))
def yaC (a0:yam) (a1:ybx) (a2:yat) (a3:yab) (a4:yai) (a5:yai) (a6:yai) (x0:Int→Int→Int→Prop) (x1:Int→Ls→Ls→Int→Int→Int→Int→Int→Int→Int→Int→Ls→Int→Int→Bool→Prop):Nat→Int→Ls→Ls→Int→Int→Int→Int→Int→Int→Int→Int→Ls→Int→Int→Prop
 | 0,_,_,_,_,_,_,_,_,_,_,_,_,_,_=>False
 | n+1,i0,l1,l2,i3,i4,i5,i6,i7,i8,i9,i10,l11,i12,i13 =>
 (cbr (decide (i13<i12))
 (asr (decide ((0:Int)≤i13))
 (asr (decide (i13<(((List.length l11):Nat):Int)))
 (asr (conf (.one (.i .i64)) (List.getD l11 (i13.toNat) .nils))
 (asr (decide ((0:Int)≤(IntKind.i64.wrap (i13+(1:Int)))))
 (asr (decide ((IntKind.i64.wrap (i13+(1:Int)))<(((List.length l1):Nat):Int)))
 (asr (conf (.one (.i .i64)) (List.getD l1 ((IntKind.i64.wrap (i13+(1:Int))).toNat) .nils))
 (a3 (yaa (List.getD l1 ((IntKind.i64.wrap (i13+(1:Int))).toNat) .nils)) (fun a b =>
 (a2 i3 i4 a b (fun j =>
 (cbr j
 (cbr ((yaa (List.getD l11 (i13.toNat) .nils)) ==(0:Int))
 (a2 i9 i10 i3 i4 (fun k =>
 (cbr k
 (yaC a0 a1 a2 a3 a4 a5 a6 x0 x1 n i0 l1 l2 i3 i4 i5 i6 i7 i8 i3 i4 l11 i12 (IntKind.i64.wrap (i13+(1:Int))))
 (yaC a0 a1 a2 a3 a4 a5 a6 x0 x1 n i0 l1 l2 i3 i4 i5 i6 i7 i8 i9 i10 l11 i12 (IntKind.i64.wrap (i13+(1:Int)))))))
 (a2 i9 i10 i3 i4 (fun l =>
 (cbr (!l)
 (a2 i9 i10 i3 i4 (fun m =>
 (cbr m
 (yaC a0 a1 a2 a3 a4 a5 a6 x0 x1 n i0 l1 l2 i3 i4 i5 i6 i7 i8 i3 i4 l11 i12 (IntKind.i64.wrap (i13+(1:Int))))
 (yaC a0 a1 a2 a3 a4 a5 a6 x0 x1 n i0 l1 l2 i3 i4 i5 i6 i7 i8 i9 i10 l11 i12 (IntKind.i64.wrap (i13+(1:Int)))))))
 (a4 i3 i4 i9 i10 (fun o p c =>
 (cbr (c !=(0:Int))
 (x0 (0:Int) (0:Int) c)
 (a3 (yaa (List.getD l11 (i13.toNat) .nils)) (fun q r =>
 (a5 o p q r (fun s t d =>
 (cbr (d !=(0:Int))
 (x0 (0:Int) (0:Int) d)
 (a6 i7 i8 s t (fun u v e =>
 (cbr (e !=(0:Int))
 (x0 (0:Int) (0:Int) e)
 (yaC a0 a1 a2 a3 a4 a5 a6 x0 x1 n i0 l1 l2 i3 i4 i5 i6 u v i3 i4 l11 i12 (IntKind.i64.wrap (i13+(1:Int)))))))))))))))))))
 (cbr ((yaa (List.getD l11 (i13.toNat) .nils)) ==(0:Int))
 (a2 i9 i10 a b (fun w =>
 (cbr w
 (yaC a0 a1 a2 a3 a4 a5 a6 x0 x1 n i0 l1 l2 i3 i4 i5 i6 i7 i8 a b l11 i12 (IntKind.i64.wrap (i13+(1:Int))))
 (yaC a0 a1 a2 a3 a4 a5 a6 x0 x1 n i0 l1 l2 i3 i4 i5 i6 i7 i8 i9 i10 l11 i12 (IntKind.i64.wrap (i13+(1:Int)))))))
 (a2 i9 i10 a b (fun x =>
 (cbr (!x)
 (a2 i9 i10 a b (fun y =>
 (cbr y
 (yaC a0 a1 a2 a3 a4 a5 a6 x0 x1 n i0 l1 l2 i3 i4 i5 i6 i7 i8 a b l11 i12 (IntKind.i64.wrap (i13+(1:Int))))
 (yaC a0 a1 a2 a3 a4 a5 a6 x0 x1 n i0 l1 l2 i3 i4 i5 i6 i7 i8 i9 i10 l11 i12 (IntKind.i64.wrap (i13+(1:Int)))))))
 (a4 a b i9 i10 (fun z A f =>
 (cbr (f !=(0:Int))
 (x0 (0:Int) (0:Int) f)
 (a3 (yaa (List.getD l11 (i13.toNat) .nils)) (fun B C =>
 (a5 z A B C (fun D E g =>
 (cbr (g !=(0:Int))
 (x0 (0:Int) (0:Int) g)
 (a6 i7 i8 D E (fun F G h =>
 (cbr (h !=(0:Int))
 (x0 (0:Int) (0:Int) h)
 (yaC a0 a1 a2 a3 a4 a5 a6 x0 x1 n i0 l1 l2 i3 i4 i5 i6 F G a b l11 i12 (IntKind.i64.wrap (i13+(1:Int))))))))))))))))))))))))))))))
 (x1 i0 l1 l2 i3 i4 i5 i6 i7 i8 i9 i10 l11 i12 i13 false))
def yiF (a0:yam) (a1:ybx) (a2:yat) (a3:yab) (a4:yai) (a5:yai) (a6:yai) (p0:Int) (p1 p2:Ls) (p3 p4 p5 p6:Int) (K:Int→Int→Int→Prop):Prop :=
 (a0 p0 p1 p2 (fun a =>
 (cbr (a !=(0:Int))
 (K (0:Int) (0:Int) a)
 (a1 p0 p1 p2 p3 p4 (fun b =>
 (cbr (!b)
 (K (0:Int) (0:Int) (2:Int))
 (a1 p0 p1 p2 p5 p6 (fun c =>
 (cbr (!c)
 (K (0:Int) (0:Int) (2:Int))
 (a2 p5 p6 p3 p4 (fun d =>
 (cbr d
 (K (0:Int) (0:Int) (2:Int))
 (a3 (0:Int) (fun e f =>
 (∃ n:Nat,yaC a0 a1 a2 a3 a4 a5 a6
 (fun g h i=>(K g h i))
 (fun _ _ _ _ _ _ _ j k _ _ _ _ _ _=>(K j k (0:Int)))
 n p0 p1 p2 p5 p6 (0:Int) (0:Int) e f p3 p4 p2 (((List.length p2):Nat):Int) (0:Int))))))))))))))))
def yew:yfk:=yiF yau yby ybF ybw ybf ya6 ya5
def yqC (Q:Qx):Int→Int→Int→Prop:=(fun i0 i1 i2=>Q .ret [(6,.box (.agg [(.int .i64 i0),(.int .i64 i1)])),(7,.v (.int .i64 i2))] [])
def yqD (Q:Qx):Int→Ls→Ls→Int→Int→Int→Int→Int→Int→Int→Int→Ls→Int→Int→Bool→Prop:=(fun i0 l1 l2 i3 i4 i5 i6 i7 i8 i9 i10 l11 i12 i13 b14=>Q (.exit 0) [(3,.box (.agg [(.int .i64 i0),(.data l1),(.data l2)])),(5,.box (.agg [(.int .i64 i3),(.int .i64 i4)])),(6,.box (.agg [(.int .i64 i5),(.int .i64 i6)])),(9,.box (.agg [(.int .i64 i7),(.int .i64 i8)])),(10,.box (.agg [(.int .i64 i9),(.int .i64 i10)])),(42,.v (.data l11)),(43,.v (.int .i64 i12)),(44,.v (.int .i64 i13)),(45,.v (.bool b14))] [])
def ykX (a0:yam) (a1:ybx) (a2:yat) (a3:yab) (a4:yai) (a5:yai) (a6:yai) (Q:Qx):List St:=[⟨(pS hN (fX 3 pt11 (fX 5 pt5 (fX 6 pt5 (fX 9 pt5 (fX 10 pt5 (fV 42 vD (fV 43 pt0 (fV 44 pt0 fN)))))))) fN),yaC a0 a1 a2 a3 a4 a5 a6 (yqC Q) (yqD Q)⟩]
def ynJ (a0:yam) (a1:ybx) (a2:yat) (a3:yab) (a4:yai) (a5:yai) (a6:yai):LP:=lpS [(85339800,ykX a0 a1 a2 a3 a4 a5 a6)]
def yiG (e:Es) (a0:yam) (a1:ybx) (a2:yat) (a3:yab) (a4:yai) (a5:yai) (a6:yai):SE:=sE (E e) [(ybu,ynE.pw a0),(ycw,yuG.pw a1),(ybq,yps.pw a2),(ya1,yiC.pw a3),(ydc,yhd.pw a4),(ycc,yhd.pw a5),(ycA,yhd.pw a6)] (ynJ a0 a1 a2 a3 a4 a5 a6)
theorem ylL (e:Es) (he:EG e):SEOk (Uni (E e)) (yiG e yau yby ybF ybw ybf ya6 ya5):=yar (Sub.uni _) ⟨(yd0 e he),(yiE e he),(yhf e he),(ygm e he),(yhe e he),(yfL e he),(yfK e he),trivial⟩ trivial he.ok
theorem ypx (e:Es) (a0 a1 a2 a3 a4 a5 a6):ycZ (yiG e a0 a1 a2 a3 a4 a5 a6) 5 a yj5 false (ykX a0 a1 a2 a3 a4 a5 a6):=fun _=>⟨fun _=>by kernel_rfl,fun _ _=>by kernel_rfl,trivial⟩
theorem ypy (e:Es) (he:EG e):LpT (Uni (E e)) (ynJ yau yby ybF ybw ybf ya6 ya5) [] 85339800 (.loop 85339800 yj5):=fun _ _ _=>ylr.st (Sub.uni _) (yaD (ylL e he) 5) (YOk.no _ _) (yah (by kernel_rfl)) (ypx e _ _ _ _ _ _ _ _)
theorem yuL (e:Es) (a0 a1 a2 a3 a4 a5 a6):EqW (yiG e a0 a1 a2 a3 a4 a5 a6) 6 ywD ypt (yiF a0 a1 a2 a3 a4 a5 a6):=fun _ _=>by kernel_rfl
theorem ynK (e:Es) (he:EG e):OkF (E e) (ypt.pw yew) yfG:=okU he (yuL e _ _ _ _ _ _ _) (ylL e he) yhM.flat (ybp (l:=[(85339800,.loop 85339800 yj5)]) ⟨ypy e he,trivial⟩ (by kernel_rfl))
end Go.Pf.Vc
namespace Go.Pf.Vc
open Go Go.Pf
set_option linter.unusedVariables false
theorem ytH (p0:Int) (p1:Ls) (p2:Ls) (r0:Int) (h:∀ K:Int→Prop,K r0→yau p0 p1 p2 K) (K:Int→Prop):yau p0 p1 p2 K=K r0 :=
 propext ⟨fun k=>detC (yd0 [] ybd) (as:=[(.agg [(.int .i64 p0),(.data p1),(.data p2)])]) (x:=(.int .i64 r0)) (fun K' k'=>h (fun r0=>K' (.int .i64 r0)) k') (K:=fun x=>match x with | (.int .i64 r0)=>K r0 | _=>False) k,h K⟩
theorem ytI (p0:Int) (p1:Ls) (p2:Ls) (r0:Int) (r1:Int) (h:∀ K:Int→Int→Prop,K r0 r1→ydO p0 p1 p2 K) (K:Int→Int→Prop):ydO p0 p1 p2 K=K r0 r1 :=
 propext ⟨fun k=>detC (ynH [] ybd) (as:=[(.agg [(.int .i64 p0),(.data p1),(.data p2)])]) (x:=(.tup [(.int .i64 r0),(.int .i64 r1)])) (fun K' k'=>h (fun r0 r1=>K' (.tup [(.int .i64 r0),(.int .i64 r1)])) k') (K:=fun x=>match x with | (.tup [(.int .i64 r0),(.int .i64 r1)])=>K r0 r1 | _=>False) k,h K⟩
theorem yuM (p0:Int) (p1:Ls) (p2:Ls) (p3:Int) (p4:Int) (p5:Int) (p6:Int) (r0:Int) (r1:Int) (r2:Int) (h:∀ K:Int→Int→Int→Prop,K r0 r1 r2→yfl p0 p1 p2 p3 p4 p5 p6 K) (K:Int→Int→Int→Prop):yfl p0 p1 p2 p3 p4 p5 p6 K=K r0 r1 r2 :=
 propext ⟨fun k=>detC (ypw [] ybd) (as:=[(.agg [(.int .i64 p0),(.data p1),(.data p2)]),(.agg [(.int .i64 p3),(.int .i64 p4)]),(.agg [(.int .i64 p5),(.int .i64 p6)])]) (x:=(.tup [(.agg [(.int .i64 r0),(.int .i64 r1)]),(.int .i64 r2)])) (fun K' k'=>h (fun r0 r1 r2=>K' (.tup [(.agg [(.int .i64 r0),(.int .i64 r1)]),(.int .i64 r2)])) k') (K:=fun x=>match x with | (.tup [(.agg [(.int .i64 r0),(.int .i64 r1)]),(.int .i64 r2)])=>K r0 r1 r2 | _=>False) k,h K⟩
theorem ytJ (p0:Int) (p1:Ls) (p2:Ls) (p3:Int) (p4:Int) (p5:Int) (p6:Int) (r0:Int) (r1:Int) (r2:Int) (h:∀ K:Int→Int→Int→Prop,K r0 r1 r2→yew p0 p1 p2 p3 p4 p5 p6 K) (K:Int→Int→Int→Prop):yew p0 p1 p2 p3 p4 p5 p6 K=K r0 r1 r2 :=
 propext ⟨fun k=>detC (ynK [] ybd) (as:=[(.agg [(.int .i64 p0),(.data p1),(.data p2)]),(.agg [(.int .i64 p3),(.int .i64 p4)]),(.agg [(.int .i64 p5),(.int .i64 p6)])]) (x:=(.tup [(.agg [(.int .i64 r0),(.int .i64 r1)]),(.int .i64 r2)])) (fun K' k'=>h (fun r0 r1 r2=>K' (.tup [(.agg [(.int .i64 r0),(.int .i64 r1)]),(.int .i64 r2)])) k') (K:=fun x=>match x with | (.tup [(.agg [(.int .i64 r0),(.int .i64 r1)]),(.int .i64 r2)])=>K r0 r1 r2 | _=>False) k,h K⟩
end Go.Pf.Vc
namespace Go.Pf.Vc
open Go Go.Pf
set_option maxRecDepth 100000
abbrev yaO:Type:=Ls→Ls→(Int→Prop)→Prop
def yc6 (a0:yam) (a:Int→Prop) (b:Ls→Ls→Ls→Int→Int→Bool→Prop):Nat→Ls→Ls→Ls→Int→Int→Prop
 | 0,_,_,_,_,_=>False
 | e+1,l0,l1,l2,i3,i4 =>
 (cbr (decide (i4<i3))
 (asr (decide ((0:Int)≤i4))
 (asr (decide (i4<(((List.length l2):Nat):Int)))
 (asr (conf (.agg [.i .i64,.d,.d]) (List.getD l2 (i4.toNat) .nils))
 (a0 (yaa (yae (List.getD l2 (i4.toNat) .nils) 0)) (yc0 (yae (List.getD l2 (i4.toNat) .nils) 1)) (yc0 (yae (List.getD l2 (i4.toNat) .nils) 2)) (fun c =>
 (cbr (c !=(0:Int))
 (a c)
 (yc6 a0 a b e l0 l1 l2 i3 (IntKind.i64.wrap (i4+(1:Int))))))))))
 (b l0 l1 l2 i3 i4 false))
def yco (a0:yam) (a:Int→Prop) (b:Ls→Ls→Ls→Int→Int→Bool→Prop):Nat→Ls→Ls→Ls→Int→Int→Prop
 | 0,_,_,_,_,_=>False
 | c+1,l0,l1,l2,i3,i4 =>
 (cbr (decide (i4<i3))
 (asr (decide ((0:Int)≤i4))
 (asr (decide (i4<(((List.length l2):Nat):Int)))
 (asr (conf (.agg [.i .i64,.d,.d]) (List.getD l2 (i4.toNat) .nils))
 (asr (decide ((0:Int)<(((List.length l0):Nat):Int)))
 (asr (conf (.agg [.i .i64,.d,.d]) (List.getD l0 0 .nils))
 (cbr ((yaa (yae (List.getD l2 (i4.toNat) .nils) 0)) !=(yaa (yae (List.getD l0 0 .nils) 0)))
 (a (8:Int))
 (yco a0 a b c l0 l1 l2 i3 (IntKind.i64.wrap (i4+(1:Int))))))))))
 (b l0 l1 l2 i3 i4 false))
def ykx (a0:yam) (p0 p1:Ls) (K:Int→Prop):Prop :=
 (cbr (decide ((((List.length p0):Nat):Int)>(6:Int)))
 (K (4:Int))
 (cbr (decide ((((List.length p1):Nat):Int)>(2000:Int)))
 (K (4:Int))
 (cbr ((((List.length p0):Nat):Int) ==(0:Int))
 (K (8:Int))
 (∃ b:Nat,yc6 a0
 (fun c=>(K c))
 (fun a d _ _ _ _=>(∃ e:Nat,yco a0
 (fun f=>(K f))
 (fun _ _ _ _ _ _=>(K (0:Int)))
 e a d a (((List.length a):Nat):Int) (0:Int)))
 b p0 p1 p0 (((List.length p0):Nat):Int) (0:Int)))))
def ybg:yaO:=ykx yau
def pt19:VPt:=vA (lC vD pt6)
def ypz:Sg:=⟨(lC pt19 lN),Int→Prop,fun K=>(fun r0=>K (.int .i64 r0))⟩
def yrR (Q:Qx):Int→Prop:=(fun i0=>Q .ret [(2,.v (.int .i64 i0))] [])
def yrS (Q:Qx):Ls→Ls→Ls→Int→Int→Bool→Prop:=(fun l0 l1 l2 i3 i4 b5=>Q (.exit 0) [(1,.box (.agg [(.data l0),(.data l1)])),(23,.v (.data l2)),(24,.v (.int .i64 i3)),(25,.v (.int .i64 i4)),(26,.v (.bool b5))] [])
def yrT (Q:Qx):Int→Prop:=(fun i0=>Q .ret [(2,.v (.int .i64 i0))] [])
def yrU (Q:Qx):Ls→Ls→Ls→Int→Int→Bool→Prop:=(fun l0 l1 l2 i3 i4 b5=>Q (.exit 2) [(1,.box (.agg [(.data l0),(.data l1)])),(36,.v (.data l2)),(37,.v (.int .i64 i3)),(38,.v (.int .i64 i4)),(39,.v (.bool b5))] [])
def ylM (a0:yam) (Q:Qx):List St:=[⟨(pS hN (fX 1 pt19 (fV 23 vD (fV 24 pt0 (fV 25 pt0 fN)))) fN),yc6 a0 (yrR Q) (yrS Q)⟩]
def ylN (a0:yam) (Q:Qx):List St:=[⟨(pS hN (fX 1 pt19 (fV 36 vD (fV 37 pt0 (fV 38 pt0 fN)))) fN),yco a0 (yrT Q) (yrU Q)⟩]
def yky (a0:yam):LP:=lpS [(12157600,ylM a0),(12157601,ylN a0)]
def yhg (e:Es) (a0:yam):SE:=sE (E e) [(ybu,ynE.pw a0)] (yky a0)
theorem yiH (e:Es) (he:EG e):SEOk (Uni (E e)) (yhg e yau):=yar (Sub.uni _) ⟨(yd0 e he),trivial⟩ trivial he.ok
theorem yqE (e:Es) (a0):ycZ (yhg e a0) 5 a yjU false (ylM a0):=fun _=>⟨fun _=>by kernel_rfl,fun _ _=>by kernel_rfl,trivial⟩
theorem yqF (e:Es) (he:EG e):LpT (Uni (E e)) (yky yau) [] 12157600 (.loop 12157600 yjU):=fun _ _ _=>ylr.st (Sub.uni _) (yaD (yiH e he) 5) (YOk.no _ _) (yah (by kernel_rfl)) (yqE e _ _)
theorem yqG (e:Es) (a0):ycZ (yhg e a0) 5 a yjV false (ylN a0):=fun _=>⟨fun _=>by kernel_rfl,fun _ _=>by kernel_rfl,trivial⟩
theorem yqH (e:Es) (he:EG e):LpT (Uni (E e)) (yky yau) [] 12157601 (.loop 12157601 yjV):=fun _ _ _=>ylr.st (Sub.uni _) (yaD (yiH e he) 5) (YOk.no _ _) (yah (by kernel_rfl)) (yqG e _ _)
theorem ywW (e:Es) (a0):EqW (yhg e a0) 6 yyy ypz (ykx a0):=fun _ _=>by kernel_rfl
theorem ydP (e:Es) (he:EG e):OkF (E e) (ypz.pw ybg) ybB:=okU he (ywW e _) (yiH e he) yhM.flat (ybp (l:=[(12157600,.loop 12157600 yjU),(12157601,.loop 12157601 yjV)]) ⟨yqF e he,yqH e he,trivial⟩ (by kernel_rfl))
abbrev ydQ:Type:=Ls→(Ls→Prop)→Prop
mutual
def yex (a0:ycj) (x0:Ls→Ls→Int→Int→Bool→Prop) (x1:Ls→Int→Int→Bool→Prop):Nat→Ls→Int→Int→Prop
 | 0,_,_,_=>False
 | n+1,l0,i1,i2 =>
 (cbr (decide (i2<i1))
 (asr (decide ((0:Int)≤i2))
 (asr (decide (i2<(((List.length l0):Nat):Int)))
 (asr (conf (.agg [.i .i64,.d,.d]) (List.getD l0 (i2.toNat) .nils))
 (a0 (yc0 (yae (List.getD l0 (i2.toNat) .nils) 1)) (fun a =>
 (a0 (yc0 (yae (List.getD l0 (i2.toNat) .nils) 2)) (fun b =>
 (asr (decide (1=List.length ([(.agg [(.int .i64 (yaa (yae (List.getD l0 (i2.toNat) .nils) 0))),(.data a),(.data b)])]:Ls))&&decide (1=List.length ([(.agg [(.int .i64 (yaa (yae (List.getD l0 (i2.toNat) .nils) 0))),(.data a),(.data b)])]:Ls)))
 (ycK a0 x0 x1 n ([(.agg [(.int .i64 (yaa (yae (List.getD l0 (i2.toNat) .nils) 0))),(.data a),(.data b)])]:Ls) l0 i1 (IntKind.i64.wrap (i2+(1:Int))))))))))))
 (x1 l0 i1 i2 false))
def ycK (a0:ycj) (x0:Ls→Ls→Int→Int→Bool→Prop) (x1:Ls→Int→Int→Bool→Prop):Nat→Ls→Ls→Int→Int→Prop
 | 0,_,_,_,_=>False
 | n+1,l0,l3,i4,i5 =>
 (cbr (decide (i5<i4))
 (asr (decide ((0:Int)≤i5))
 (asr (decide (i5<(((List.length l3):Nat):Int)))
 (asr (conf (.agg [.i .i64,.d,.d]) (List.getD l3 (i5.toNat) .nils))
 (a0 (yc0 (yae (List.getD l3 (i5.toNat) .nils) 1)) (fun a =>
 (a0 (yc0 (yae (List.getD l3 (i5.toNat) .nils) 2)) (fun b =>
 (asr (decide ((List.length l0)=(List.length l0)))
 (asr (decide ((0+(List.length l0))≤(List.length l0)))
 (asr (!(decide (((0+(List.length l0))+1)≤(List.length l0))))
 (asr (decide ((List.length l0)=(List.length l0)))
 (asr (decide ((((List.length l0)+1)+64)*(56+1)≤room))
 (asr (decide ((List.length (l0++([(.agg [(.int .i64 (yaa (yae (List.getD l3 (i5.toNat) .nils) 0))),(.data a),(.data b)])]:Ls)))=List.length (l0++([(.agg [(.int .i64 (yaa (yae (List.getD l3 (i5.toNat) .nils) 0))),(.data a),(.data b)])]:Ls)))&&decide ((List.length (l0++([(.agg [(.int .i64 (yaa (yae (List.getD l3 (i5.toNat) .nils) 0))),(.data a),(.data b)])]:Ls)))=List.length (l0++([(.agg [(.int .i64 (yaa (yae (List.getD l3 (i5.toNat) .nils) 0))),(.data a),(.data b)])]:Ls))))
 (ycK a0 x0 x1 n (l0++([(.agg [(.int .i64 (yaa (yae (List.getD l3 (i5.toNat) .nils) 0))),(.data a),(.data b)])]:Ls)) l3 i4 (IntKind.i64.wrap (i5+(1:Int)))))))))))))))))
 (x0 l0 l3 i4 i5 false))
end
def yiI (a0:ycj) (p0:Ls) (K:Ls→Prop):Prop :=
 (∃ n:Nat,yex a0
 (fun a _ _ _ _=>(asr (decide ((List.length a)=(List.length a)))
 (asr (decide ((0+(List.length a))≤(List.length a)))
 (K (List.take (List.length a) a)))))
 (fun _ _ _ _=>(K ([]:Ls)))
 n p0 (((List.length p0):Nat):Int) (0:Int))
def ydh:ydQ:=yiI yde
def yuN:Sg:=⟨pt6,Ls→Prop,fun K=>(fun r0=>K (.data r0))⟩
def yjq (Q:Qx):Ls→Ls→Int→Int→Bool→Prop:=(fun l0 l3 i4 i5 b6=>Q (.exit 0) [(3,.v (.own 0 0 (List.length l0) (List.length l0) none)),(6,.v (.data l3)),(7,.v (.int .i64 i4)),(8,.v (.int .i64 i5)),(9,.v (.bool b6))] [⟨false,true,3,l0⟩])
def yjr (Q:Qx):Ls→Int→Int→Bool→Prop:=(fun l0 i1 i2 b3=>Q (.exit 0) [(3,.v .nils),(6,.v (.data l0)),(7,.v (.int .i64 i1)),(8,.v (.int .i64 i2)),(9,.v (.bool b3))] [])
def pt20:VPt:=vW 0 (nK 0) (nT 0) (nT 0)
def ykY (a0:ycj) (Q:Qx):List St:=[⟨(pS hN (fV 3 vNs (fV 6 vD pt7)) fN),yex a0 (yjq Q) (yjr Q)⟩,⟨(pS (hB false true 3 rA hN) (fV 3 pt20 (fV 6 vD pt7)) fN),ycK a0 (yjq Q) (yjr Q)⟩]
def ynL (a0:ycj):LP:=lpS [(94933800,ykY a0)]
def yiJ (e:Es) (a0:ycj):SE:=sE (E e) [(ybJ,yon a0)] (ynL a0)
theorem ylO (e:Es) (he:EG e):SEOk (Uni (E e)) (yiJ e yde):=yar (Sub.uni _) ⟨(yop e he),trivial⟩ trivial he.ok
theorem ypA (e:Es) (a0):ycZ (yiJ e a0) 5 a yjW false (ykY a0):=fun _=>⟨fun _=>by kernel_rfl,fun _ _=>by kernel_rfl,fun _=>by kernel_rfl,fun _ _=>by kernel_rfl,trivial⟩
theorem ypB (e:Es) (he:EG e):LpT (Uni (E e)) (ynL yde) [] 94933800 (.loop 94933800 yjW):=fun _ _ _=>ylr.st (Sub.uni _) (yaD (ylO e he) 5) (YOk.no _ _) (yah (by kernel_rfl)) (ypA e _ _)
theorem yuO (e:Es) (a0):EqW (yiJ e a0) 6 ywu yuN (yiI a0):=fun _ _=>by kernel_rfl
theorem ygn (e:Es) (he:EG e):OkF (E e) (yuN.pw ydh) yda:=okU he (yuO e _) (ylO e he) yhM.flat (ybp (l:=[(94933800,.loop 94933800 yjW)]) ⟨ypB e he,trivial⟩ (by kernel_rfl))
abbrev yaK:Type:=Ls→(Ls→Ls→Int→Prop)→Prop
def ylP (a0:yaO) (a1:ydQ) (p0:Ls) (K:Ls→Ls→Int→Prop):Prop :=
 (a0 p0 ([]:Ls) (fun a =>
 (cbr (a !=(0:Int))
 (K ([]:Ls) ([]:Ls) a)
 (a1 p0 (fun b =>
 (K b ([]:Ls) (0:Int)))))))
def yaJ:yaK:=ylP ybg ydh
def yyN:Sg:=⟨pt6,Ls→Ls→Int→Prop,fun K=>(fun r0 r1 r2=>K (.tup [(.agg [(.data r0),(.data r1)]),(.int .i64 r2)]))⟩
def yyO (e:Es) (a0:yaO) (a1:ydQ):SE:=sE (E e) [(ybB,ypz.pw a0),(yda,yuN.pw a1)] lp0
theorem yyP (e:Es) (a0 a1):EqW (yyO e a0 a1) 6 yz4 yyN (ylP a0 a1):=fun _ _=>by kernel_rfl
theorem yif (e:Es) (he:EG e):OkF (E e) (yyN.pw yaJ) ydL:=okU he (yyP e _ _) (yar (Sub.uni _) ⟨(ydP e he),(ygn e he),trivial⟩ trivial he.ok) yhM.flat (yah (by kernel_rfl))
abbrev yca:Type:=Ls→Ls→Int→(Bool→Prop)→Prop
def yfM (p0 _:Ls) (p2:Int) (K:Bool→Prop):Prop :=
 (cbr (decide (p2≥(0:Int)))
 (K (decide (p2<(((List.length p0):Nat):Int))))
 (K false))
def ycL:yca:=yfM
def ypC:Sg:=⟨(lC pt19 pt1),Bool→Prop,fun K=>(fun r0=>K (.bool r0))⟩
def ypD (e:Es):SE:=sE (E e) [] lp0
theorem ypE (e:Es):EqW (ypD e) 6 yqn ypC yfM:=fun _ _=>by kernel_rfl
theorem yfN (e:Es) (he:EG e):OkF (E e) (ypC.pw ycL) ybC:=okU he (ypE e) (yar (Sub.uni _) trivial trivial he.ok) yhM.flat (yah (by kernel_rfl))
abbrev yaY:Type:=Ls→Ls→Int→(Int→Int→Prop)→Prop
def ykz (a0:yaO) (a1:yca) (a2:ykt) (p0 p1:Ls) (p2:Int) (K:Int→Int→Prop):Prop :=
 (a0 p0 p1 (fun b =>
 (cbr (b !=(0:Int))
 (K (0:Int) b)
 (a1 p0 p1 p2 (fun c =>
 (cbr (!c)
 (K (0:Int) (2:Int))
 (asr (decide ((0:Int)≤p2))
 (asr (decide (p2<(((List.length p0):Nat):Int)))
 (lt (List.getD p0 (p2.toNat) .nils) (fun a =>
 (asr (conf (.agg [.i .i64,.d,.d]) a)
 (a2 (yaa (yae a 0)) (yc0 (yae a 1)) (yc0 (yae a 2)) (fun e f =>
 (K e f))))))))))))))
def ylQ:yaY:=ykz ybg ycL ydO
def ywX:Sg:=⟨(lC pt19 pt1),Int→Int→Prop,fun K=>(fun r0 r1=>K (.tup [(.int .i64 r0),(.int .i64 r1)]))⟩
def ywY (e:Es) (a0:yaO) (a1:yca) (a2:ykt):SE:=sE (E e) [(ybB,ypz.pw a0),(ybC,ypC.pw a1),(yfD,yuC.pw a2)] lp0
theorem ywZ (e:Es) (a0 a1 a2):EqW (ywY e a0 a1 a2) 6 yyz ywX (ykz a0 a1 a2):=fun _ _=>by kernel_rfl
theorem yw0 (e:Es) (he:EG e):OkF (E e) (ywX.pw ylQ) ygz:=okU he (ywZ e _ _ _) (yar (Sub.uni _) ⟨(ydP e he),(yfN e he),(ynH e he),trivial⟩ trivial he.ok) yhM.flat (yah (by kernel_rfl))
abbrev ycl:Type:=Ls→Ls→Int→Int→Int→Int→Int→(Int→Int→Int→Prop)→Prop
def ye9 (a0:yfk) (p0 _:Ls) (p2 p3 p4 p5 p6:Int) (K:Int→Int→Int→Prop):Prop :=
 (asr (decide ((0:Int)≤p2))
 (asr (decide (p2<(((List.length p0):Nat):Int)))
 (asr (conf (.agg [.i .i64,.d,.d]) (List.getD p0 (p2.toNat) .nils))
 (a0 (yaa (yae (List.getD p0 (p2.toNat) .nils) 0)) (yc0 (yae (List.getD p0 (p2.toNat) .nils) 1)) (yc0 (yae (List.getD p0 (p2.toNat) .nils) 2)) p3 p4 p5 p6 (fun a b c =>
 (K a b c))))))
def yfO:ycl:=ye9 yfl
def pt21:LPt:=lC pt19 (lC pt0 pt9)
def yhT:Sg:=⟨pt21,Int→Int→Int→Prop,fun K=>(fun r0 r1 r2=>K (.tup [(.agg [(.int .i64 r0),(.int .i64 r1)]),(.int .i64 r2)]))⟩
def yoA (e:Es) (a0:yfk):SE:=sE (E e) [(ygA,ypt.pw a0)] lp0
theorem yoB (e:Es) (a0):EqW (yoA e a0) 6 yph yhT (ye9 a0):=fun _ _=>by kernel_rfl
theorem yoC (e:Es) (he:EG e):OkF (E e) (yhT.pw yfO) ydd:=okU he (yoB e _) (yar (Sub.uni _) ⟨(ypw e he),trivial⟩ trivial he.ok) yhM.flat (yah (by kernel_rfl))
abbrev yaA:Type:=Ls→Ls→Int→Int→Int→Int→Int→(Ls→Ls→Int→Int→Int→Prop)→Prop
def ylR (a0:yaO) (a1:yca) (a2:ycl) (a3:ydQ) (p0 p1:Ls) (p2 p3 p4 p5 p6:Int) (K:Ls→Ls→Int→Int→Int→Prop):Prop :=
 (a0 p0 p1 (fun c =>
 (cbr (c !=(0:Int))
 (K ([]:Ls) ([]:Ls) (0:Int) (0:Int) c)
 (a1 p0 p1 p2 (fun f =>
 (cbr (!f)
 (K ([]:Ls) ([]:Ls) (0:Int) (0:Int) (2:Int))
 (a2 p0 p1 p2 p3 p4 p5 p6 (fun a b d =>
 (cbr (d !=(0:Int))
 (K ([]:Ls) ([]:Ls) (0:Int) (0:Int) d)
 (cbr (decide ((((List.length p1):Nat):Int)≥(2000:Int)))
 (K ([]:Ls) ([]:Ls) (0:Int) (0:Int) (4:Int))
 (asr (decide ((0:Int)≤(IntKind.i64.wrap ((((List.length p1):Nat):Int)+(1:Int)))))
 (asr (decide ((((IntKind.i64.wrap ((((List.length p1):Nat):Int)+(1:Int))).toNat)+64)*(64+1)≤room))
 (a3 p0 (fun e =>
 (asr (ydp 8 p1)
 (asr (decide ((List.length (List.replicate ((IntKind.i64.wrap ((((List.length p1):Nat):Int)+(1:Int))).toNat) ((.agg [(.int .i64 (0)),(.int .u8 (0)),(.int .i64 (0)),(.int .i64 (0)),(.int .i64 (0)),(.int .i64 (0)),(.int .i64 (0)),(.int .i64 (0))]):PV)))=((IntKind.i64.wrap ((((List.length p1):Nat):Int)+(1:Int))).toNat)))
 (asr (decide (0≤((IntKind.i64.wrap ((((List.length p1):Nat):Int)+(1:Int))).toNat)))
 (cbr (List.isEmpty p1)
 (asr (decide ((List.length (List.replicate ((IntKind.i64.wrap ((((List.length p1):Nat):Int)+(1:Int))).toNat) ((.agg [(.int .i64 (0)),(.int .u8 (0)),(.int .i64 (0)),(.int .i64 (0)),(.int .i64 (0)),(.int .i64 (0)),(.int .i64 (0)),(.int .i64 (0))]):PV)))=((IntKind.i64.wrap ((((List.length p1):Nat):Int)+(1:Int))).toNat)))
 (asr (decide (0≤((IntKind.i64.wrap ((((List.length p1):Nat):Int)+(1:Int))).toNat)))
 (asr (decide (1≤((IntKind.i64.wrap ((((List.length p1):Nat):Int)+(1:Int))).toNat)))
 (asr (decide ((List.length (([(.agg [(.int .i64 p2),(.int .u8 (2:Int)),(.int .i64 p3),(.int .i64 p4),(.int .i64 p5),(.int .i64 p6),(.int .i64 a),(.int .i64 b)])]:Ls)++(List.drop 1 (List.replicate ((IntKind.i64.wrap ((((List.length p1):Nat):Int)+(1:Int))).toNat) ((.agg [(.int .i64 (0)),(.int .u8 (0)),(.int .i64 (0)),(.int .i64 (0)),(.int .i64 (0)),(.int .i64 (0)),(.int .i64 (0)),(.int .i64 (0))]):PV)))))=((IntKind.i64.wrap ((((List.length p1):Nat):Int)+(1:Int))).toNat)))
 (asr (decide (1≤((IntKind.i64.wrap ((((List.length p1):Nat):Int)+(1:Int))).toNat)))
 (K e (List.take 1 (([(.agg [(.int .i64 p2),(.int .u8 (2:Int)),(.int .i64 p3),(.int .i64 p4),(.int .i64 p5),(.int .i64 p6),(.int .i64 a),(.int .i64 b)])]:Ls)++(List.drop 1 (List.replicate ((IntKind.i64.wrap ((((List.length p1):Nat):Int)+(1:Int))).toNat) ((.agg [(.int .i64 (0)),(.int .u8 (0)),(.int .i64 (0)),(.int .i64 (0)),(.int .i64 (0)),(.int .i64 (0)),(.int .i64 (0)),(.int .i64 (0))]):PV))))) a b (0:Int)))))))
 (asr (decide ((0+(List.length p1))≤((IntKind.i64.wrap ((((List.length p1):Nat):Int)+(1:Int))).toNat)))
 (asr (decide ((List.length (p1++(List.drop (0+(List.length p1)) (List.replicate ((IntKind.i64.wrap ((((List.length p1):Nat):Int)+(1:Int))).toNat) ((.agg [(.int .i64 (0)),(.int .u8 (0)),(.int .i64 (0)),(.int .i64 (0)),(.int .i64 (0)),(.int .i64 (0)),(.int .i64 (0)),(.int .i64 (0))]):PV)))))=((IntKind.i64.wrap ((((List.length p1):Nat):Int)+(1:Int))).toNat)))
 (asr (decide ((0+(0+(List.length p1)))≤((IntKind.i64.wrap ((((List.length p1):Nat):Int)+(1:Int))).toNat)))
 (asr (decide (((0+(List.length p1))+1)≤((IntKind.i64.wrap ((((List.length p1):Nat):Int)+(1:Int))).toNat)))
 (asr (decide ((List.length ((List.take (0+(0+(List.length p1))) (p1++(List.drop (0+(List.length p1)) (List.replicate ((IntKind.i64.wrap ((((List.length p1):Nat):Int)+(1:Int))).toNat) ((.agg [(.int .i64 (0)),(.int .u8 (0)),(.int .i64 (0)),(.int .i64 (0)),(.int .i64 (0)),(.int .i64 (0)),(.int .i64 (0)),(.int .i64 (0))]):PV)))))++(([(.agg [(.int .i64 p2),(.int .u8 (2:Int)),(.int .i64 p3),(.int .i64 p4),(.int .i64 p5),(.int .i64 p6),(.int .i64 a),(.int .i64 b)])]:Ls)++(List.drop ((0+(0+(List.length p1)))+1) (p1++(List.drop (0+(List.length p1)) (List.replicate ((IntKind.i64.wrap ((((List.length p1):Nat):Int)+(1:Int))).toNat) ((.agg [(.int .i64 (0)),(.int .u8 (0)),(.int .i64 (0)),(.int .i64 (0)),(.int .i64 (0)),(.int .i64 (0)),(.int .i64 (0)),(.int .i64 (0))]):PV))))))))=((IntKind.i64.wrap ((((List.length p1):Nat):Int)+(1:Int))).toNat)))
 (asr (decide ((0+((0+(List.length p1))+1))≤((IntKind.i64.wrap ((((List.length p1):Nat):Int)+(1:Int))).toNat)))
 (K e (List.take ((0+(List.length p1))+1) ((List.take (0+(0+(List.length p1))) (p1++(List.drop (0+(List.length p1)) (List.replicate ((IntKind.i64.wrap ((((List.length p1):Nat):Int)+(1:Int))).toNat) ((.agg [(.int .i64 (0)),(.int .u8 (0)),(.int .i64 (0)),(.int .i64 (0)),(.int .i64 (0)),(.int .i64 (0)),(.int .i64 (0)),(.int .i64 (0))]):PV)))))++(([(.agg [(.int .i64 p2),(.int .u8 (2:Int)),(.int .i64 p3),(.int .i64 p4),(.int .i64 p5),(.int .i64 p6),(.int .i64 a),(.int .i64 b)])]:Ls)++(List.drop ((0+(0+(List.length p1)))+1) (p1++(List.drop (0+(List.length p1)) (List.replicate ((IntKind.i64.wrap ((((List.length p1):Nat):Int)+(1:Int))).toNat) ((.agg [(.int .i64 (0)),(.int .u8 (0)),(.int .i64 (0)),(.int .i64 (0)),(.int .i64 (0)),(.int .i64 (0)),(.int .i64 (0)),(.int .i64 (0))]):PV)))))))) a b (0:Int))))))))))))))))))))))))))
def ybh:yaA:=ylR ybg ycL yfO ydh
def yrw:Sg:=⟨pt21,Ls→Ls→Int→Int→Int→Prop,fun K=>(fun r0 r1 r2 r3 r4=>K (.tup [(.agg [(.data r0),(.data r1)]),(.agg [(.int .i64 r2),(.int .i64 r3)]),(.int .i64 r4)]))⟩
def yyQ (e:Es) (a0:yaO) (a1:yca) (a2:ycl) (a3:ydQ):SE:=⟨(E e),ygT [(ybB,ypz.pw a0),(ybC,ypC.pw a1),(ydd,yhT.pw a2),(yda,yuN.pw a3)],ygU [(ydt,yjk)],lp0,fun _=>none⟩
theorem yyR (e:Es) (a0 a1 a2 a3):EqW (yyQ e a0 a1 a2 a3) 6 yz5 yrw (ylR a0 a1 a2 a3):=fun _ _=>by kernel_rfl
theorem yig (e:Es) (he:EG e):OkF (E e) (yrw.pw ybh) ye4:=okU he (yyR e _ _ _ _) (yar (Sub.uni _) ⟨(ydP e he),(yfN e he),(yoC e he),(ygn e he),trivial⟩ ⟨⟨by kernel_rfl,by kernel_rfl,rfl,fun as=>ya8 (by kernel_rfl) as,he.num _ (by kernel_rfl),by kernel_rfl,(yah (by kernel_rfl))⟩,trivial⟩ he.ok) yhM.flat (yah (by kernel_rfl))
def yeM (a0:yfk) (p0 _:Ls) (p2 p3 p4 p5 p6:Int) (K:Int→Int→Int→Prop):Prop :=
 (asr (decide ((0:Int)≤p2))
 (asr (decide (p2<(((List.length p0):Nat):Int)))
 (asr (conf (.agg [.i .i64,.d,.d]) (List.getD p0 (p2.toNat) .nils))
 (a0 (yaa (yae (List.getD p0 (p2.toNat) .nils) 0)) (yc0 (yae (List.getD p0 (p2.toNat) .nils) 1)) (yc0 (yae (List.getD p0 (p2.toNat) .nils) 2)) p3 p4 p5 p6 (fun a b c =>
 (K a b c))))))
def yfa:ycl:=yeM yew
def ym2 (e:Es) (a0:yfk):SE:=sE (E e) [(yfG,ypt.pw a0)] lp0
theorem ym3 (e:Es) (a0):EqW (ym2 e a0) 6 yom yhT (yeM a0):=fun _ _=>by kernel_rfl
theorem ym4 (e:Es) (he:EG e):OkF (E e) (yhT.pw yfa) ycR:=okU he (ym3 e _) (yar (Sub.uni _) ⟨(ynK e he),trivial⟩ trivial he.ok) yhM.flat (yah (by kernel_rfl))
def ykA (a0:yaO) (a1:yca) (a2:ycl) (a3:ydQ) (p0 p1:Ls) (p2 p3 p4 p5 p6:Int) (K:Ls→Ls→Int→Int→Int→Prop):Prop :=
 (a0 p0 p1 (fun c =>
 (cbr (c !=(0:Int))
 (K ([]:Ls) ([]:Ls) (0:Int) (0:Int) c)
 (a1 p0 p1 p2 (fun f =>
 (cbr (!f)
 (K ([]:Ls) ([]:Ls) (0:Int) (0:Int) (2:Int))
 (a2 p0 p1 p2 p3 p4 p5 p6 (fun a b d =>
 (cbr (d !=(0:Int))
 (K ([]:Ls) ([]:Ls) (0:Int) (0:Int) d)
 (cbr (decide ((((List.length p1):Nat):Int)≥(2000:Int)))
 (K ([]:Ls) ([]:Ls) (0:Int) (0:Int) (4:Int))
 (asr (decide ((0:Int)≤(IntKind.i64.wrap ((((List.length p1):Nat):Int)+(1:Int)))))
 (asr (decide ((((IntKind.i64.wrap ((((List.length p1):Nat):Int)+(1:Int))).toNat)+64)*(64+1)≤room))
 (a3 p0 (fun e =>
 (asr (ydp 8 p1)
 (asr (decide ((List.length (List.replicate ((IntKind.i64.wrap ((((List.length p1):Nat):Int)+(1:Int))).toNat) ((.agg [(.int .i64 (0)),(.int .u8 (0)),(.int .i64 (0)),(.int .i64 (0)),(.int .i64 (0)),(.int .i64 (0)),(.int .i64 (0)),(.int .i64 (0))]):PV)))=((IntKind.i64.wrap ((((List.length p1):Nat):Int)+(1:Int))).toNat)))
 (asr (decide (0≤((IntKind.i64.wrap ((((List.length p1):Nat):Int)+(1:Int))).toNat)))
 (cbr (List.isEmpty p1)
 (asr (decide ((List.length (List.replicate ((IntKind.i64.wrap ((((List.length p1):Nat):Int)+(1:Int))).toNat) ((.agg [(.int .i64 (0)),(.int .u8 (0)),(.int .i64 (0)),(.int .i64 (0)),(.int .i64 (0)),(.int .i64 (0)),(.int .i64 (0)),(.int .i64 (0))]):PV)))=((IntKind.i64.wrap ((((List.length p1):Nat):Int)+(1:Int))).toNat)))
 (asr (decide (0≤((IntKind.i64.wrap ((((List.length p1):Nat):Int)+(1:Int))).toNat)))
 (asr (decide (1≤((IntKind.i64.wrap ((((List.length p1):Nat):Int)+(1:Int))).toNat)))
 (asr (decide ((List.length (([(.agg [(.int .i64 p2),(.int .u8 (1:Int)),(.int .i64 p3),(.int .i64 p4),(.int .i64 p5),(.int .i64 p6),(.int .i64 a),(.int .i64 b)])]:Ls)++(List.drop 1 (List.replicate ((IntKind.i64.wrap ((((List.length p1):Nat):Int)+(1:Int))).toNat) ((.agg [(.int .i64 (0)),(.int .u8 (0)),(.int .i64 (0)),(.int .i64 (0)),(.int .i64 (0)),(.int .i64 (0)),(.int .i64 (0)),(.int .i64 (0))]):PV)))))=((IntKind.i64.wrap ((((List.length p1):Nat):Int)+(1:Int))).toNat)))
 (asr (decide (1≤((IntKind.i64.wrap ((((List.length p1):Nat):Int)+(1:Int))).toNat)))
 (K e (List.take 1 (([(.agg [(.int .i64 p2),(.int .u8 (1:Int)),(.int .i64 p3),(.int .i64 p4),(.int .i64 p5),(.int .i64 p6),(.int .i64 a),(.int .i64 b)])]:Ls)++(List.drop 1 (List.replicate ((IntKind.i64.wrap ((((List.length p1):Nat):Int)+(1:Int))).toNat) ((.agg [(.int .i64 (0)),(.int .u8 (0)),(.int .i64 (0)),(.int .i64 (0)),(.int .i64 (0)),(.int .i64 (0)),(.int .i64 (0)),(.int .i64 (0))]):PV))))) a b (0:Int)))))))
 (asr (decide ((0+(List.length p1))≤((IntKind.i64.wrap ((((List.length p1):Nat):Int)+(1:Int))).toNat)))
 (asr (decide ((List.length (p1++(List.drop (0+(List.length p1)) (List.replicate ((IntKind.i64.wrap ((((List.length p1):Nat):Int)+(1:Int))).toNat) ((.agg [(.int .i64 (0)),(.int .u8 (0)),(.int .i64 (0)),(.int .i64 (0)),(.int .i64 (0)),(.int .i64 (0)),(.int .i64 (0)),(.int .i64 (0))]):PV)))))=((IntKind.i64.wrap ((((List.length p1):Nat):Int)+(1:Int))).toNat)))
 (asr (decide ((0+(0+(List.length p1)))≤((IntKind.i64.wrap ((((List.length p1):Nat):Int)+(1:Int))).toNat)))
 (asr (decide (((0+(List.length p1))+1)≤((IntKind.i64.wrap ((((List.length p1):Nat):Int)+(1:Int))).toNat)))
 (asr (decide ((List.length ((List.take (0+(0+(List.length p1))) (p1++(List.drop (0+(List.length p1)) (List.replicate ((IntKind.i64.wrap ((((List.length p1):Nat):Int)+(1:Int))).toNat) ((.agg [(.int .i64 (0)),(.int .u8 (0)),(.int .i64 (0)),(.int .i64 (0)),(.int .i64 (0)),(.int .i64 (0)),(.int .i64 (0)),(.int .i64 (0))]):PV)))))++(([(.agg [(.int .i64 p2),(.int .u8 (1:Int)),(.int .i64 p3),(.int .i64 p4),(.int .i64 p5),(.int .i64 p6),(.int .i64 a),(.int .i64 b)])]:Ls)++(List.drop ((0+(0+(List.length p1)))+1) (p1++(List.drop (0+(List.length p1)) (List.replicate ((IntKind.i64.wrap ((((List.length p1):Nat):Int)+(1:Int))).toNat) ((.agg [(.int .i64 (0)),(.int .u8 (0)),(.int .i64 (0)),(.int .i64 (0)),(.int .i64 (0)),(.int .i64 (0)),(.int .i64 (0)),(.int .i64 (0))]):PV))))))))=((IntKind.i64.wrap ((((List.length p1):Nat):Int)+(1:Int))).toNat)))
 (asr (decide ((0+((0+(List.length p1))+1))≤((IntKind.i64.wrap ((((List.length p1):Nat):Int)+(1:Int))).toNat)))
 (K e (List.take ((0+(List.length p1))+1) ((List.take (0+(0+(List.length p1))) (p1++(List.drop (0+(List.length p1)) (List.replicate ((IntKind.i64.wrap ((((List.length p1):Nat):Int)+(1:Int))).toNat) ((.agg [(.int .i64 (0)),(.int .u8 (0)),(.int .i64 (0)),(.int .i64 (0)),(.int .i64 (0)),(.int .i64 (0)),(.int .i64 (0)),(.int .i64 (0))]):PV)))))++(([(.agg [(.int .i64 p2),(.int .u8 (1:Int)),(.int .i64 p3),(.int .i64 p4),(.int .i64 p5),(.int .i64 p6),(.int .i64 a),(.int .i64 b)])]:Ls)++(List.drop ((0+(0+(List.length p1)))+1) (p1++(List.drop (0+(List.length p1)) (List.replicate ((IntKind.i64.wrap ((((List.length p1):Nat):Int)+(1:Int))).toNat) ((.agg [(.int .i64 (0)),(.int .u8 (0)),(.int .i64 (0)),(.int .i64 (0)),(.int .i64 (0)),(.int .i64 (0)),(.int .i64 (0)),(.int .i64 (0))]):PV)))))))) a b (0:Int))))))))))))))))))))))))))
def yaZ:yaA:=ykA ybg ycL yfa ydh
def yw1 (e:Es) (a0:yaO) (a1:yca) (a2:ycl) (a3:ydQ):SE:=⟨(E e),ygT [(ybB,ypz.pw a0),(ybC,ypC.pw a1),(ycR,yhT.pw a2),(yda,yuN.pw a3)],ygU [(ydt,yjk)],lp0,fun _=>none⟩
theorem yw2 (e:Es) (a0 a1 a2 a3):EqW (yw1 e a0 a1 a2 a3) 6 yyJ yrw (ykA a0 a1 a2 a3):=fun _ _=>by kernel_rfl
theorem yhh (e:Es) (he:EG e):OkF (E e) (yrw.pw yaZ) yei:=okU he (yw2 e _ _ _ _) (yar (Sub.uni _) ⟨(ydP e he),(yfN e he),(ym4 e he),(ygn e he),trivial⟩ ⟨⟨by kernel_rfl,by kernel_rfl,rfl,fun as=>ya8 (by kernel_rfl) as,he.num _ (by kernel_rfl),by kernel_rfl,(yah (by kernel_rfl))⟩,trivial⟩ he.ok) yhM.flat (yah (by kernel_rfl))
end Go.Pf.Vc
namespace Go.Pf.Vc
open Go Go.Pf
set_option linter.unusedVariables false
theorem yuP (p0:Ls) (p1:Ls) (r0:Int) (h:∀ K:Int→Prop,K r0→ybg p0 p1 K) (K:Int→Prop):ybg p0 p1 K=K r0 :=
 propext ⟨fun k=>detC (ydP [] ybd) (as:=[(.agg [(.data p0),(.data p1)])]) (x:=(.int .i64 r0)) (fun K' k'=>h (fun r0=>K' (.int .i64 r0)) k') (K:=fun x=>match x with | (.int .i64 r0)=>K r0 | _=>False) k,h K⟩
theorem ytK (p0:Ls) (r0:Ls) (h:∀ K:Ls→Prop,K r0→ydh p0 K) (K:Ls→Prop):ydh p0 K=K r0 :=
 propext ⟨fun k=>detC (ygn [] ybd) (as:=[(.data p0)]) (x:=(.data r0)) (fun K' k'=>h (fun r0=>K' (.data r0)) k') (K:=fun x=>match x with | (.data r0)=>K r0 | _=>False) k,h K⟩
theorem yw3 (p0:Ls) (p1:Ls) (p2:Int) (p3:Int) (p4:Int) (p5:Int) (p6:Int) (r0:Ls) (r1:Ls) (r2:Int) (r3:Int) (r4:Int) (h:∀ K:Ls→Ls→Int→Int→Int→Prop,K r0 r1 r2 r3 r4→ybh p0 p1 p2 p3 p4 p5 p6 K) (K:Ls→Ls→Int→Int→Int→Prop):ybh p0 p1 p2 p3 p4 p5 p6 K=K r0 r1 r2 r3 r4 :=
 propext ⟨fun k=>detC (yig [] ybd) (as:=[(.agg [(.data p0),(.data p1)]),(.int .i64 p2),(.agg [(.int .i64 p3),(.int .i64 p4)]),(.agg [(.int .i64 p5),(.int .i64 p6)])]) (x:=(.tup [(.agg [(.data r0),(.data r1)]),(.agg [(.int .i64 r2),(.int .i64 r3)]),(.int .i64 r4)])) (fun K' k'=>h (fun r0 r1 r2 r3 r4=>K' (.tup [(.agg [(.data r0),(.data r1)]),(.agg [(.int .i64 r2),(.int .i64 r3)]),(.int .i64 r4)])) k') (K:=fun x=>match x with | (.tup [(.agg [(.data r0),(.data r1)]),(.agg [(.int .i64 r2),(.int .i64 r3)]),(.int .i64 r4)])=>K r0 r1 r2 r3 r4 | _=>False) k,h K⟩
theorem yuQ (p0:Ls) (p1:Ls) (p2:Int) (p3:Int) (p4:Int) (p5:Int) (p6:Int) (r0:Ls) (r1:Ls) (r2:Int) (r3:Int) (r4:Int) (h:∀ K:Ls→Ls→Int→Int→Int→Prop,K r0 r1 r2 r3 r4→yaZ p0 p1 p2 p3 p4 p5 p6 K) (K:Ls→Ls→Int→Int→Int→Prop):yaZ p0 p1 p2 p3 p4 p5 p6 K=K r0 r1 r2 r3 r4 :=
 propext ⟨fun k=>detC (yhh [] ybd) (as:=[(.agg [(.data p0),(.data p1)]),(.int .i64 p2),(.agg [(.int .i64 p3),(.int .i64 p4)]),(.agg [(.int .i64 p5),(.int .i64 p6)])]) (x:=(.tup [(.agg [(.data r0),(.data r1)]),(.agg [(.int .i64 r2),(.int .i64 r3)]),(.int .i64 r4)])) (fun K' k'=>h (fun r0 r1 r2 r3 r4=>K' (.tup [(.agg [(.data r0),(.data r1)]),(.agg [(.int .i64 r2),(.int .i64 r3)]),(.int .i64 r4)])) k') (K:=fun x=>match x with | (.tup [(.agg [(.data r0),(.data r1)]),(.agg [(.int .i64 r2),(.int .i64 r3)]),(.int .i64 r4)])=>K r0 r1 r2 r3 r4 | _=>False) k,h K⟩
end Go.Pf.Vc
namespace Go.Pf.Vc
open Go Go.Pf
set_option maxRecDepth 100000
def yvH (p0:Int) (K:Int→Int→Prop):Prop :=
 (K p0 (1:Int))
def yfP:yab:=yvH
def yCb (e:Es):SE:=sE (E e) [] lp0
theorem yCc (e:Es):EqW (yCb e) 6 yDk yiC yvH:=fun _ _=>by kernel_rfl
theorem yvI (e:Es) (he:EG e):OkF (E e) (yiC.pw yfP) ygB:=okU he (yCc e) (yar (Sub.uni _) trivial trivial he.ok) yhM.flat (yah (by kernel_rfl))
end Go.Pf.Vc
namespace Go.Pf.Vc
open Go Go.Pf
set_option maxRecDepth 100000
abbrev yfm:Type:=Int→Ls→Ls→(Bool→Prop)→Prop
def ykB (_:Int) (p1 p2:Ls) (K:Bool→Prop):Prop :=
 (cbr (decide ((((List.length p1):Nat):Int)>(60:Int)))
 (K true)
 (K (decide ((((List.length p2):Nat):Int)>(60:Int)))))
def yem:yfm:=ykB
def yw4:Sg:=⟨pt12,Bool→Prop,fun K=>(fun r0=>K (.bool r0))⟩
def yw5 (e:Es):SE:=sE (E e) [] lp0
theorem yw6 (e:Es):EqW (yw5 e) 6 yyu yw4 ykB:=fun _ _=>by kernel_rfl
theorem yw7 (e:Es) (he:EG e):OkF (E e) (yw4.pw yem) ygw:=okU he (yw6 e) (yar (Sub.uni _) trivial trivial he.ok) yhM.flat (yah (by kernel_rfl))
def ycp (x0:Int→Prop) (x1:Int→Ls→Ls→Bool→Int→Bool→Prop):Nat→Int→Ls→Ls→Bool→Int→Prop
 | 0,_,_,_,_,_=>False
 | n+1,i0,l1,l2,b3,i4 =>
 (cbr (decide (i4<(((List.length l2):Nat):Int)))
 (asr (decide ((0:Int)≤(IntKind.i64.wrap (i4+(1:Int)))))
 (asr (decide ((IntKind.i64.wrap (i4+(1:Int)))<(((List.length l1):Nat):Int)))
 (asr (conf (.one (.i .i64)) (List.getD l1 ((IntKind.i64.wrap (i4+(1:Int))).toNat) .nils))
 (asr (decide ((0:Int)≤i4))
 (asr (decide (i4<(((List.length l1):Nat):Int)))
 (asr (conf (.one (.i .i64)) (List.getD l1 (i4.toNat) .nils))
 (cbr (decide ((yaa (List.getD l1 ((IntKind.i64.wrap (i4+(1:Int))).toNat) .nils))≤(yaa (List.getD l1 (i4.toNat) .nils))))
 (x0 (8:Int))
 (asr (decide ((0:Int)≤i4))
 (asr (decide (i4<(((List.length l2):Nat):Int)))
 (asr (conf (.one (.i .i64)) (List.getD l2 (i4.toNat) .nils))
 (cbr (decide ((yaa (List.getD l2 (i4.toNat) .nils))<(0:Int)))
 (x0 (8:Int))
 (asr (decide ((0:Int)≤i4))
 (asr (decide (i4<(((List.length l2):Nat):Int)))
 (asr (conf (.one (.i .i64)) (List.getD l2 (i4.toNat) .nils))
 (cbr (decide ((yaa (List.getD l2 (i4.toNat) .nils))>(12:Int)))
 (x0 (8:Int))
 (cbr b3
 (ycp x0 x1 n i0 l1 l2 true (IntKind.i64.wrap (i4+(1:Int))))
 (asr (decide ((0:Int)≤i4))
 (asr (decide (i4<(((List.length l2):Nat):Int)))
 (asr (conf (.one (.i .i64)) (List.getD l2 (i4.toNat) .nils))
 (ycp x0 x1 n i0 l1 l2 (decide ((yaa (List.getD l2 (i4.toNat) .nils))>(0:Int))) (IntKind.i64.wrap (i4+(1:Int)))))))))))))))))))))))
 (x1 i0 l1 l2 b3 i4 false))
def ykC (p0:Int) (p1 p2:Ls) (K:Int→Prop):Prop :=
 (cbr (decide (p0>(1000:Int)))
 (K (4:Int))
 (cbr (decide ((((List.length p1):Nat):Int)>(40:Int)))
 (K (4:Int))
 (cbr (decide (p0<(1:Int)))
 (K (8:Int))
 (cbr (decide ((((List.length p1):Nat):Int)<(2:Int)))
 (K (8:Int))
 (cbr ((((List.length p2):Nat):Int) !=(IntKind.i64.wrap ((((List.length p1):Nat):Int)-(1:Int))))
 (K (8:Int))
 (asr (decide ((0:Int)<(((List.length p1):Nat):Int)))
 (asr (conf (.one (.i .i64)) (List.getD p1 0 .nils))
 (cbr ((yaa (List.getD p1 0 .nils)) !=(0:Int))
 (K (8:Int))
 (asr (decide ((0:Int)≤(IntKind.i64.wrap ((((List.length p1):Nat):Int)-(1:Int)))))
 (asr (decide ((IntKind.i64.wrap ((((List.length p1):Nat):Int)-(1:Int)))<(((List.length p1):Nat):Int)))
 (asr (conf (.one (.i .i64)) (List.getD p1 ((IntKind.i64.wrap ((((List.length p1):Nat):Int)-(1:Int))).toNat) .nils))
 (cbr ((yaa (List.getD p1 ((IntKind.i64.wrap ((((List.length p1):Nat):Int)-(1:Int))).toNat) .nils)) != p0)
 (K (8:Int))
 (∃ n:Nat,ycp
 (fun a=>(K a))
 (fun _ _ _ b _ _=>(cbr (!b)
 (K (8:Int))
 (K (0:Int))))
 n p0 p1 p2 false (0:Int))))))))))))))
def ybW:yam:=ykC
def yrV (Q:Qx):Int→Prop:=(fun i0=>Q .ret [(2,.v (.int .i64 i0))] [])
def yrW (Q:Qx):Int→Ls→Ls→Bool→Int→Bool→Prop:=(fun i0 l1 l2 b3 i4 b5=>Q (.exit 0) [(1,.box (.agg [(.int .i64 i0),(.data l1),(.data l2)])),(3,.v (.bool b3)),(4,.v (.int .i64 i4)),(57,.v (.bool b5))] [])
def ylS (Q:Qx):List St:=[⟨(pS hN (fX 1 pt11 (fV 3 vB (fV 4 pt0 fN))) fN),ycp (yrV Q) (yrW Q)⟩]
def ypF:LP:=lpS [(94526800,ylS)]
def ykD (e:Es):SE:=sE (E e) [] (ypF)
theorem ynM (e:Es) (he:EG e):SEOk (Uni (E e)) (ykD e):=yar (Sub.uni _) trivial trivial he.ok
theorem yqI (e:Es):ycZ (ykD e) 5 a yjQ false (ylS):=fun _=>⟨fun _=>by kernel_rfl,fun _ _=>by kernel_rfl,trivial⟩
theorem yqJ (e:Es) (he:EG e):LpT (Uni (E e)) (ypF) [] 94526800 (.loop 94526800 yjQ):=fun _ _ _=>ylr.st (Sub.uni _) (yaD (ynM e he) 5) (YOk.no _ _) (yah (by kernel_rfl)) (yqI e _)
theorem yw8 (e:Es):EqW (ykD e) 6 yyv ynE ykC:=fun _ _=>by kernel_rfl
theorem ypG (e:Es) (he:EG e):OkF (E e) (ynE.pw ybW) yfg:=okU he (yw8 e) (ynM e he) yhM.flat (ybp (l:=[(94526800,.loop 94526800 yjQ)]) ⟨yqJ e he,trivial⟩ (by kernel_rfl))
end Go.Pf.Vc
namespace Go.Pf.Vc
open Go Go.Pf
set_option linter.unusedVariables false
theorem yuR (p0:Int) (p1:Ls) (p2:Ls) (r0:Int) (h:∀ K:Int→Prop,K r0→ybW p0 p1 p2 K) (K:Int→Prop):ybW p0 p1 p2 K=K r0 :=
 propext ⟨fun k=>detC (ypG [] ybd) (as:=[(.agg [(.int .i64 p0),(.data p1),(.data p2)])]) (x:=(.int .i64 r0)) (fun K' k'=>h (fun r0=>K' (.int .i64 r0)) k') (K:=fun x=>match x with | (.int .i64 r0)=>K r0 | _=>False) k,h K⟩
end Go.Pf.Vc
namespace Go.Pf.Vc
open Go Go.Pf
set_option maxRecDepth 100000
abbrev yak:Type:=Ls→(Bool→Prop)→Prop
def ybG (a0:yfm) (x0:Bool→Prop) (x1:Ls→Int→Bool→Prop):Nat→Ls→Int→Prop
 | 0,_,_=>False
 | n+1,l0,i1 =>
 (cbr (decide (i1<(((List.length l0):Nat):Int)))
 (asr (decide ((0:Int)≤i1))
 (asr (decide (i1<(((List.length l0):Nat):Int)))
 (asr (conf (.agg [.i .i64,.d,.d]) (List.getD l0 (i1.toNat) .nils))
 (a0 (yaa (yae (List.getD l0 (i1.toNat) .nils) 0)) (yc0 (yae (List.getD l0 (i1.toNat) .nils) 1)) (yc0 (yae (List.getD l0 (i1.toNat) .nils) 2)) (fun a =>
 (cbr a
 (x0 true)
 (ybG a0 x0 x1 n l0 (IntKind.i64.wrap (i1+(1:Int))))))))))
 (x1 l0 i1 false))
def yfQ (a0:yfm) (p0:Ls) (K:Bool→Prop):Prop :=
 (∃ n:Nat,ybG a0
 (fun a=>(K a))
 (fun b _ _=>(K (decide ((((List.length b):Nat):Int)>(10:Int)))))
 n p0 (0:Int))
def ycM:yak:=yfQ yem
def yfR:Sg:=⟨pt6,Bool→Prop,fun K=>(fun r0=>K (.bool r0))⟩
def ylT (Q:Qx):Bool→Prop:=(fun b0=>Q .ret [(2,.v (.bool b0))] [])
def ylU (Q:Qx):Ls→Int→Bool→Prop:=(fun l0 i1 b2=>Q (.exit 0) [(0,.v (.data l0)),(3,.v (.int .i64 i1)),(7,.v (.bool b2))] [])
def ygW (a0:yfm) (Q:Qx):List St:=[⟨(pS hN (fV 0 vD (fV 3 pt0 fN)) fN),ybG a0 (ylT Q) (ylU Q)⟩]
def yih (a0:yfm):LP:=lpS [(4277600,ygW a0)]
def yfS (e:Es) (a0:yfm):SE:=sE (E e) [(ygw,yw4.pw a0)] (yih a0)
theorem yhU (e:Es) (he:EG e):SEOk (Uni (E e)) (yfS e yem):=yar (Sub.uni _) ⟨(yw7 e he),trivial⟩ trivial he.ok
theorem ylc (e:Es) (a0):ycZ (yfS e a0) 5 a ymG false (ygW a0):=fun _=>⟨fun _=>by kernel_rfl,fun _ _=>by kernel_rfl,trivial⟩
theorem yld (e:Es) (he:EG e):LpT (Uni (E e)) (yih yem) [] 4277600 (.loop 4277600 ymG):=fun _ _ _=>ylr.st (Sub.uni _) (yaD (yhU e he) 5) (YOk.no _ _) (yah (by kernel_rfl)) (ylc e _ _)
theorem ypH (e:Es) (a0):EqW (yfS e a0) 6 yqm yfR (yfQ a0):=fun _ _=>by kernel_rfl
theorem yii (e:Es) (he:EG e):OkF (E e) (yfR.pw ycM) yds:=okU he (ypH e _) (yhU e he) yhM.flat (ybp (l:=[(4277600,.loop 4277600 ymG)]) ⟨yld e he,trivial⟩ (by kernel_rfl))
def yc7 (a0:yam) (a:Int→Prop) (b:Ls→Ls→Int→Bool→Prop):Nat→Ls→Ls→Int→Prop
 | 0,_,_,_=>False
 | c+1,l0,l1,i2 =>
 (cbr (decide (i2<(((List.length l0):Nat):Int)))
 (asr (decide ((0:Int)≤i2))
 (asr (decide (i2<(((List.length l0):Nat):Int)))
 (asr (conf (.agg [.i .i64,.d,.d]) (List.getD l0 (i2.toNat) .nils))
 (a0 (yaa (yae (List.getD l0 (i2.toNat) .nils) 0)) (yc0 (yae (List.getD l0 (i2.toNat) .nils) 1)) (yc0 (yae (List.getD l0 (i2.toNat) .nils) 2)) (fun e =>
 (cbr (e !=(0:Int))
 (asr (decide ((0:Int)≤i2))
 (asr (decide (i2<(((List.length l0):Nat):Int)))
 (asr (conf (.agg [.i .i64,.d,.d]) (List.getD l0 (i2.toNat) .nils))
 (a0 (yaa (yae (List.getD l0 (i2.toNat) .nils) 0)) (yc0 (yae (List.getD l0 (i2.toNat) .nils) 1)) (yc0 (yae (List.getD l0 (i2.toNat) .nils) 2)) (fun f =>
 (a f))))))
 (yc7 a0 a b c l0 l1 (IntKind.i64.wrap (i2+(1:Int))))))))))
 (b l0 l1 i2 false))
def ycq (a0:yam) (a:Int→Prop) (b:Ls→Ls→Int→Bool→Prop):Nat→Ls→Ls→Int→Prop
 | 0,_,_,_=>False
 | c+1,l0,l1,i2 =>
 (cbr (decide (i2<(((List.length l0):Nat):Int)))
 (asr (decide ((0:Int)≤i2))
 (asr (decide (i2<(((List.length l0):Nat):Int)))
 (asr (conf (.agg [.i .i64,.d,.d]) (List.getD l0 (i2.toNat) .nils))
 (asr (decide ((0:Int)<(((List.length l0):Nat):Int)))
 (asr (conf (.agg [.i .i64,.d,.d]) (List.getD l0 0 .nils))
 (cbr ((yaa (yae (List.getD l0 (i2.toNat) .nils) 0)) !=(yaa (yae (List.getD l0 0 .nils) 0)))
 (a (8:Int))
 (ycq a0 a b c l0 l1 (IntKind.i64.wrap (i2+(1:Int))))))))))
 (b l0 l1 i2 false))
def ykE (a0:yam) (p0 p1:Ls) (K:Int→Prop):Prop :=
 (cbr (decide ((((List.length p0):Nat):Int)>(6:Int)))
 (K (4:Int))
 (cbr (decide ((((List.length p1):Nat):Int)>(2000:Int)))
 (K (4:Int))
 (cbr ((((List.length p0):Nat):Int) ==(0:Int))
 (K (8:Int))
 (∃ a:Nat,yc7 a0
 (fun b=>(K b))
 (fun c d _ _=>(∃ e:Nat,ycq a0
 (fun f=>(K f))
 (fun _ _ _ _=>(K (0:Int)))
 e c d (0:Int)))
 a p0 p1 (0:Int)))))
def yfn:yaO:=ykE ybW
def yrX (Q:Qx):Int→Prop:=(fun i0=>Q .ret [(2,.v (.int .i64 i0))] [])
def yrY (Q:Qx):Ls→Ls→Int→Bool→Prop:=(fun l0 l1 i2 b3=>Q (.exit 0) [(1,.box (.agg [(.data l0),(.data l1)])),(3,.v (.int .i64 i2)),(23,.v (.bool b3))] [])
def yrZ (Q:Qx):Int→Prop:=(fun i0=>Q .ret [(2,.v (.int .i64 i0))] [])
def yr0 (Q:Qx):Ls→Ls→Int→Bool→Prop:=(fun l0 l1 i2 b3=>Q (.exit 2) [(1,.box (.agg [(.data l0),(.data l1)])),(4,.v (.int .i64 i2)),(43,.v (.bool b3))] [])
def ylV (a0:yam) (Q:Qx):List St:=[⟨(pS hN (fX 1 pt19 (fV 3 pt0 fN)) fN),yc7 a0 (yrX Q) (yrY Q)⟩]
def ylW (a0:yam) (Q:Qx):List St:=[⟨(pS hN (fX 1 pt19 (fV 4 pt0 fN)) fN),ycq a0 (yrZ Q) (yr0 Q)⟩]
def ykF (a0:yam):LP:=lpS [(6981300,ylV a0),(6981301,ylW a0)]
def yhi (e:Es) (a0:yam):SE:=sE (E e) [(yfg,ynE.pw a0)] (ykF a0)
theorem yiK (e:Es) (he:EG e):SEOk (Uni (E e)) (yhi e ybW):=yar (Sub.uni _) ⟨(ypG e he),trivial⟩ trivial he.ok
theorem yqK (e:Es) (a0):ycZ (yhi e a0) 5 a ymH false (ylV a0):=fun _=>⟨fun _=>by kernel_rfl,fun _ _=>by kernel_rfl,trivial⟩
theorem yqL (e:Es) (he:EG e):LpT (Uni (E e)) (ykF ybW) [] 6981300 (.loop 6981300 ymH):=fun _ _ _=>ylr.st (Sub.uni _) (yaD (yiK e he) 5) (YOk.no _ _) (yah (by kernel_rfl)) (yqK e _ _)
theorem yqM (e:Es) (a0):ycZ (yhi e a0) 5 a ymI false (ylW a0):=fun _=>⟨fun _=>by kernel_rfl,fun _ _=>by kernel_rfl,trivial⟩
theorem yqN (e:Es) (he:EG e):LpT (Uni (E e)) (ykF ybW) [] 6981301 (.loop 6981301 ymI):=fun _ _ _=>ylr.st (Sub.uni _) (yaD (yiK e he) 5) (YOk.no _ _) (yah (by kernel_rfl)) (yqM e _ _)
theorem yw9 (e:Es) (a0):EqW (yhi e a0) 6 yyw ypz (ykE a0):=fun _ _=>by kernel_rfl
theorem ypI (e:Es) (he:EG e):OkF (E e) (ypz.pw yfn) ygx:=okU he (yw9 e _) (yiK e he) yhM.flat (ybp (l:=[(6981300,.loop 6981300 ymH),(6981301,.loop 6981301 ymI)]) ⟨yqL e he,yqN e he,trivial⟩ (by kernel_rfl))
abbrev yas:Type:=Ls→Ls→(Bool→Prop)→Prop
def ybA (x0:Bool→Prop) (x1:Ls→Ls→Int→Bool→Prop):Nat→Ls→Ls→Int→Prop
 | 0,_,_,_=>False
 | n+1,l0,l1,i2 =>
 (cbr (decide (i2<(((List.length l0):Nat):Int)))
 (asr (decide ((0:Int)≤i2))
 (asr (decide (i2<(((List.length l0):Nat):Int)))
 (asr (conf (.agg [.i .i64,.i .u8,.i .i64,.i .i64,.i .i64,.i .i64,.i .i64,.i .i64]) (List.getD l0 (i2.toNat) .nils))
 (asr (decide ((0:Int)≤i2))
 (asr (decide (i2<(((List.length l1):Nat):Int)))
 (asr (conf (.agg [.i .i64,.i .u8,.i .i64,.i .i64,.i .i64,.i .i64,.i .i64,.i .i64]) (List.getD l1 (i2.toNat) .nils))
 (cbr (!(((yaa (yae (List.getD l0 (i2.toNat) .nils) 0)) ==(yaa (yae (List.getD l1 (i2.toNat) .nils) 0)))&&(((yaa (yae (List.getD l0 (i2.toNat) .nils) 1)) ==(yaa (yae (List.getD l1 (i2.toNat) .nils) 1)))&&(((yaa (yae (List.getD l0 (i2.toNat) .nils) 2)) ==(yaa (yae (List.getD l1 (i2.toNat) .nils) 2)))&&(((yaa (yae (List.getD l0 (i2.toNat) .nils) 3)) ==(yaa (yae (List.getD l1 (i2.toNat) .nils) 3)))&&(((yaa (yae (List.getD l0 (i2.toNat) .nils) 4)) ==(yaa (yae (List.getD l1 (i2.toNat) .nils) 4)))&&(((yaa (yae (List.getD l0 (i2.toNat) .nils) 5)) ==(yaa (yae (List.getD l1 (i2.toNat) .nils) 5)))&&(((yaa (yae (List.getD l0 (i2.toNat) .nils) 6)) ==(yaa (yae (List.getD l1 (i2.toNat) .nils) 6)))&&(((yaa (yae (List.getD l0 (i2.toNat) .nils) 7)) ==(yaa (yae (List.getD l1 (i2.toNat) .nils) 7)))&&true)))))))))
 (x0 false)
 (ybA x0 x1 n l0 l1 (IntKind.i64.wrap (i2+(1:Int)))))))))))
 (x1 l0 l1 i2 false))
def ygO (p0 p1:Ls) (K:Bool→Prop):Prop :=
 (cbr ((((List.length p0):Nat):Int) !=(((List.length p1):Nat):Int))
 (K false)
 (∃ n:Nat,ybA
 (fun a=>(K a))
 (fun _ _ _ _=>(K true))
 n p0 p1 (0:Int)))
def yaV:yas:=ygO
def ykZ:Sg:=⟨(lC vD pt6),Bool→Prop,fun K=>(fun r0=>K (.bool r0))⟩
def yoD (Q:Qx):Bool→Prop:=(fun b0=>Q .ret [(4,.v (.bool b0))] [])
def yoE (Q:Qx):Ls→Ls→Int→Bool→Prop:=(fun l0 l1 i2 b3=>Q (.exit 0) [(0,.v (.data l0)),(1,.v (.data l1)),(5,.v (.int .i64 i2)),(14,.v (.bool b3))] [])
def pt22:Pat Sta:=pS hN (fV 0 vD (fV 1 vD (fV 5 pt0 fN))) fN
def yij (Q:Qx):List St:=[⟨pt22,ybA (yoD Q) (yoE Q)⟩]
def yk1:LP:=lpS [(11728400,yij)]
def ygP (e:Es):SE:=sE (E e) [] (yk1)
theorem yjs (e:Es) (he:EG e):SEOk (Uni (E e)) (ygP e):=yar (Sub.uni _) trivial trivial he.ok
theorem ym5 (e:Es):ycZ (ygP e) 5 a ykd false (yij):=fun _=>⟨fun _=>by kernel_rfl,fun _ _=>by kernel_rfl,trivial⟩
theorem ym6 (e:Es) (he:EG e):LpT (Uni (E e)) (yk1) [] 11728400 (.loop 11728400 ykd):=fun _ _ _=>ylr.st (Sub.uni _) (yaD (yjs e he) 5) (YOk.no _ _) (yah (by kernel_rfl)) (ym5 e _)
theorem yr1 (e:Es):EqW (ygP e) 6 ytt ykZ ygO:=fun _ _=>by kernel_rfl
theorem yk2 (e:Es) (he:EG e):OkF (E e) (ykZ.pw yaV) yej:=okU he (yr1 e) (yjs e he) yhM.flat (ybp (l:=[(11728400,.loop 11728400 ykd)]) ⟨ym6 e he,trivial⟩ (by kernel_rfl))
end Go.Pf.Vc
namespace Go.Pf.Vc
open Go Go.Pf
set_option linter.unusedVariables false
theorem yoF (p0:Ls) (r0:Bool) (h:∀ K:Bool→Prop,K r0→ycM p0 K) (K:Bool→Prop):ycM p0 K=K r0 :=
 propext ⟨fun k=>detC (yii [] ybd) (as:=[(.data p0)]) (x:=(.bool r0)) (fun K' k'=>h (fun r0=>K' (.bool r0)) k') (K:=fun x=>match x with | (.bool r0)=>K r0 | _=>False) k,h K⟩
theorem yuS (p0:Ls) (p1:Ls) (r0:Int) (h:∀ K:Int→Prop,K r0→yfn p0 p1 K) (K:Int→Prop):yfn p0 p1 K=K r0 :=
 propext ⟨fun k=>detC (ypI [] ybd) (as:=[(.agg [(.data p0),(.data p1)])]) (x:=(.int .i64 r0)) (fun K' k'=>h (fun r0=>K' (.int .i64 r0)) k') (K:=fun x=>match x with | (.int .i64 r0)=>K r0 | _=>False) k,h K⟩
theorem yqO (p0:Ls) (p1:Ls) (r0:Bool) (h:∀ K:Bool→Prop,K r0→yaV p0 p1 K) (K:Bool→Prop):yaV p0 p1 K=K r0 :=
 propext ⟨fun k=>detC (yk2 [] ybd) (as:=[(.data p0),(.data p1)]) (x:=(.bool r0)) (fun K' k'=>h (fun r0=>K' (.bool r0)) k') (K:=fun x=>match x with | (.bool r0)=>K r0 | _=>False) k,h K⟩
end Go.Pf.Vc
namespace Go.Pf.Vc
open Go Go.Pf
set_option maxRecDepth 100000
def ybP (x0:Ls→Ls→Int→Bool→Prop) (x1:Bool→Prop):Nat→Ls→Ls→Int→Prop
 | 0,_,_,_=>False
 | n+1,l0,l1,i2 =>
 (cbr (decide (i2<(((List.length l0):Nat):Int)))
 (asr (decide ((0:Int)≤i2))
 (asr (decide (i2<(((List.length l0):Nat):Int)))
 (lt (List.getD l0 (i2.toNat) .nils) (fun a =>
 (asr (conf (.agg [.i .i64,.i .i64,.i .i64,.i .i64,.i .i64,.i .i64]) a)
 (asr (decide ((0:Int)≤i2))
 (asr (decide (i2<(((List.length l1):Nat):Int)))
 (lt (List.getD l1 (i2.toNat) .nils) (fun b =>
 (asr (conf (.agg [.i .i64,.i .i64,.i .i64,.i .i64,.i .i64,.i .i64]) b)
 (cbr (!(((yaa (yae a 0)) ==(yaa (yae b 0)))&&(((yaa (yae a 1)) ==(yaa (yae b 1)))&&(((yaa (yae a 2)) ==(yaa (yae b 2)))&&(((yaa (yae a 3)) ==(yaa (yae b 3)))&&(((yaa (yae a 4)) ==(yaa (yae b 4)))&&(((yaa (yae a 5)) ==(yaa (yae b 5)))&&true)))))))
 (x1 false)
 (lt (IntKind.i64.wrap (i2+(1:Int))) (fun c =>
 (ybP x0 x1 n l0 l1 c))))))))))))))
 (x0 l0 l1 i2 false))
def yf9 (p0 p1:Ls) (K:Bool→Prop):Prop :=
 (cbr ((((List.length p0):Nat):Int) !=(((List.length p1):Nat):Int))
 (K false)
 (∃ n:Nat,ybP
 (fun _ _ _ _=>(K true))
 (fun a=>(K a))
 n p0 p1 (0:Int)))
def yc8:yas:=yf9
def ym7 (Q:Qx):Ls→Ls→Int→Bool→Prop:=(fun l0 l1 i2 b3=>Q (.exit 0) [(0,.v (.data l0)),(1,.v (.data l1)),(5,.v (.int .i64 i2)),(14,.v (.bool b3))] [])
def ym8 (Q:Qx):Bool→Prop:=(fun b0=>Q .ret [(4,.v (.bool b0))] [])
def yhV (Q:Qx):List St:=[⟨pt22,ybP (ym7 Q) (ym8 Q)⟩]
def yjt:LP:=lpS [(32519300,yhV)]
def yga (e:Es):SE:=sE (E e) [] (yjt)
theorem yik (e:Es) (he:EG e):SEOk (Uni (E e)) (yga e):=yar (Sub.uni _) trivial trivial he.ok
theorem ylX (e:Es):ycZ (yga e) 5 a ykb false (yhV):=fun _=>⟨fun _=>by kernel_rfl,fun _ _=>by kernel_rfl,trivial⟩
theorem ylY (e:Es) (he:EG e):LpT (Uni (E e)) (yjt) [] 32519300 (.loop 32519300 ykb):=fun _ _ _=>ylr.st (Sub.uni _) (yaD (yik e he) 5) (YOk.no _ _) (yah (by kernel_rfl)) (ylX e _)
theorem yqP (e:Es):EqW (yga e) 6 yrI ykZ yf9:=fun _ _=>by kernel_rfl
theorem yju (e:Es) (he:EG e):OkF (E e) (ykZ.pw yc8) ydU:=okU he (yqP e) (yik e he) yhM.flat (ybp (l:=[(32519300,.loop 32519300 ykb)]) ⟨ylY e he,trivial⟩ (by kernel_rfl))
end Go.Pf.Vc
namespace Go.Pf.Vc
open Go Go.Pf
set_option linter.unusedVariables false
theorem ypJ (p0:Ls) (p1:Ls) (r0:Bool) (h:∀ K:Bool→Prop,K r0→yc8 p0 p1 K) (K:Bool→Prop):yc8 p0 p1 K=K r0 :=
 propext ⟨fun k=>detC (yju [] ybd) (as:=[(.data p0),(.data p1)]) (x:=(.bool r0)) (fun K' k'=>h (fun r0=>K' (.bool r0)) k') (K:=fun x=>match x with | (.bool r0)=>K r0 | _=>False) k,h K⟩
end Go.Pf.Vc
namespace Go.Pf.Vc
open Go Go.Pf
set_option maxRecDepth 100000
def ynN (p0:Int) (K:Int→Int→Prop):Prop :=
 (K p0 (1:Int))
def yao:yab:=ynN
def yuT (e:Es):SE:=sE (E e) [] lp0
theorem yuU (e:Es):EqW (yuT e) 6 ywv yiC ynN:=fun _ _=>by kernel_rfl
theorem yeX (e:Es) (he:EG e):OkF (E e) (yiC.pw yao) ybv:=okU he (yuU e) (yar (Sub.uni _) trivial trivial he.ok) yhM.flat (yah (by kernel_rfl))
def yiL (a0:yaY) (a1:yki) (p0 p1:Ls) (p2:Int) (K:Int→Int→Prop):Prop :=
 (a0 p0 p1 p2 (fun a _ =>
 (a1 a (((List.length p0):Nat):Int) (fun b c _ =>
 (K b c)))))
def ya9:yaY:=yiL ylQ ydM
def yuV:Sg:=⟨(lC pt19 pt1),Int→Int→Prop,fun K=>(fun r0 r1=>K (.agg [(.int .i64 r0),(.int .i64 r1)]))⟩
def yuW (e:Es) (a0:yaY) (a1:yki):SE:=sE (E e) [(ygz,ywX.pw a0),(yfE,yur.pw a1)] lp0
theorem yuX (e:Es) (a0 a1):EqW (yuW e a0 a1) 6 ywz yuV (yiL a0 a1):=fun _ _=>by kernel_rfl
theorem yiM (e:Es) (he:EG e):OkF (E e) (yuV.pw ya9) ydb:=okU he (yuX e _ _) (yar (Sub.uni _) ⟨(yw0 e he),(yny e he),trivial⟩ trivial he.ok) yhM.flat (yah (by kernel_rfl))
def ykG (a0:ygD) (p0 p1 p2 p3:Int) (K:Bool→Prop):Prop :=
 (a0 p0 p1 p2 p3 (fun a _ =>
 (K (decide (a>(0:Int))))))
def ybr:yat:=ykG ydI
def yxa (e:Es) (a0:ygD):SE:=sE (E e) [(yeh,ywI.pw a0)] lp0
theorem yxb (e:Es) (a0):EqW (yxa e a0) 6 yyK yps (ykG a0):=fun _ _=>by kernel_rfl
theorem ykH (e:Es) (he:EG e):OkF (E e) (yps.pw ybr) ydH:=okU he (yxb e _) (yar (Sub.uni _) ⟨(ykm e he),trivial⟩ trivial he.ok) yhM.flat (yah (by kernel_rfl))
abbrev yaT:Type:=Ls→Ls→Ls→Nat→Nat→Nat→Int→Int→(Ls→Ls→Int→Int→Int→Int→Int→Int→Int→Ls→Prop)→Prop
def yaM (a0:yab) (a1:yaA) (a2:yaY) (a3:yat) (a4:yaA) (x0:Ls→Ls→Ls→Int→Int→Int→Int→Int→Int→Int→Int→Nat→Nat→Nat→Int→Int→Int→Int→Int→Int→Nat→Nat→Nat→Int→Int→Bool→Prop) (x1:Ls→Ls→Ls→Int→Int→Int→Int→Int→Int→Int→Int→Nat→Nat→Nat→Int→Int→Int→Int→Int→Int→Int→Int→Nat→Nat→Nat→Int→Int→Bool→Prop) (x2:Ls→Ls→Ls→Int→Int→Int→Int→Int→Int→Int→Int→Int→Int→Int→Int→Int→Int→Int→Prop):Nat→Ls→Ls→Ls→Int→Int→Int→Int→Int→Int→Int→Int→Nat→Nat→Nat→Int→Int→Int→Int→Int→Int→Nat→Nat→Nat→Int→Int→Prop
 | 0,_,_,_,_,_,_,_,_,_,_,_,_,_,_,_,_,_,_,_,_,_,_,_,_,_=>False
 | n+1,l0,l1,l2,i3,i4,i5,i6,i7,i8,i9,i10,n11,n12,n13,i14,i15,i16,i17,i18,i19,n20,n21,n22,i23,i24 =>
 (cbr (decide (i24<i23))
 (jn (fun (g:Ls→Ls→Int→Int→Int→Int→Prop) =>
 (asr (decide ((0:Int)≤i24))
 (asr (decide (i24<((n20:Nat):Int)))
 (asr (decide ((List.length l0)=n21))
 (asr (decide ((0+(i24.toNat))<(List.length l0)))
 (lt (List.getD l0 (0+(i24.toNat)) .nils) (fun a =>
 (asr (conf (.one (.i .i64)) a)
 (cbr (((n11:Nat):Int) ==(1:Int))
 (x1 l0 l1 l2 i3 i4 i5 i6 i7 i8 i9 i10 n11 n12 n13 i14 i15 i16 i17 i18 i19 i24 (yaa a) n20 n21 n22 i23 i24 true)
 (jn (fun (h:Ls→Ls→Int→Prop) =>
 (cbr (decide (i24>(0:Int)))
 (a1 l1 l2 (yaa a) i3 i4 i8 i9 (fun b c s t j =>
 (cbr (j !=(0:Int))
 (x2 l0 l1 l2 i3 i4 i5 i6 i7 i8 i9 i10 (0:Int) (0:Int) (0:Int) (0:Int) (0:Int) (0:Int) j)
 (a2 b c (yaa a) (fun u v =>
 (a3 s t u v (fun w =>
 (cbr (!w)
 (g b c i5 i8 i9 i10)
 (lt (IntKind.i64.wrap (i10+(1:Int))) (fun x =>
 (h b c x)))))))))))
 (h l1 l2 i10)))
 (fun d e k=>(a2 d e (yaa a) (fun y z =>
 (a4 d e (yaa a) i3 i4 y z (fun A B C D f =>
 (jn (fun (l:Ls→Ls→Int→Int→Int→Prop) =>
 (cbr (f ==(0:Int))
 (l A B (yaa a) C D)
 (l d e i5 i8 i9)))
 (fun m o p q r=>(cbr (f !=(0:Int))
 (x2 l0 m o i3 i4 p i6 i7 q r k (0:Int) (0:Int) (0:Int) (0:Int) (0:Int) (0:Int) f)
 (g m o p q r k)))))))))))))))))))
 (fun E F G H I J=>(lt (IntKind.i64.wrap (i24+(1:Int))) (fun K =>
 (yaM a0 a1 a2 a3 a4 x0 x1 x2 n l0 E F i3 i4 G i6 i7 H I J n11 n12 n13 i14 i15 i16 i17 i18 i19 n20 n21 n22 i23 K)))))
 (x0 l0 l1 l2 i3 i4 i5 i6 i7 i8 i9 i10 n11 n12 n13 i14 i15 i16 i17 i18 i19 n20 n21 n22 i23 i24 false))
def yiN (a0:yab) (a1:yaA) (a2:yaY) (a3:yat) (a4:yaA) (p0 p1 p2:Ls) (p3 p4 p5:Nat) (p6 p7:Int) (K:Ls→Ls→Int→Int→Int→Int→Int→Int→Int→Ls→Prop):Prop :=
 (asr (decide ((0:Int)<((p3:Nat):Int)))
 (asr (decide ((List.length p2)=p4))
 (asr (decide (0<(List.length p2)))
 (lt (List.getD p2 0 .nils) (fun a =>
 (asr (conf (.one (.i .i64)) a)
 (asr (decide ((0:Int)<(((List.length p0):Nat):Int)))
 (lt (List.getD p0 0 .nils) (fun b =>
 (asr (conf (.agg [.i .i64,.d,.d]) b)
 (a0 (yaa (yae b 0)) (fun g h =>
 (jn (fun (c:Ls→Ls→Ls→Int→Int→Int→Int→Int→Int→Int→Int→Int→Int→Int→Int→Int→Int→Prop) =>
 (∃ n:Nat,yaM a0 a1 a2 a3 a4
 (fun j k l m o p q r s t u _ _ _ v w x y z A _ _ _ _ _ _=>(c j k l m o p q r s t u v w x y z A))
 (fun B C D E F G H I J L M _ _ _ N O Q R S T _ _ _ _ _ _ _ _=>(c B C D E F G H I J L M N O Q R S T))
 (fun e _ _ _ _ _ _ _ _ _ _ U V W X Y Z va=>(asr (decide ((List.length e)=(List.length p2)))
 (K ([]:Ls) ([]:Ls) U V W X Y Z va e)))
 n p2 p0 p1 p6 p7 (yaa a) p6 p7 g h (0:Int) p3 p4 p5 (0:Int) (0:Int) (0:Int) (0:Int) (0:Int) (0:Int) p3 p4 p5 ((p3:Nat):Int) (0:Int)))
 (fun f vb vc _ _ vd ve vf vg vh vi _ _ _ _ _ _=>(asr (decide ((List.length f)=(List.length p2)))
 (K vb vc vd ve vf vg vh vi (0:Int) f))))))))))))))))
def yaH:yaT:=yiN yao yaZ ya9 ybr ybh
def ygo (w:yaT) (as:Ls) (b:HB) (K:PV→Ls→Prop):Prop :=
 match as,b with
 | [(.agg [(.data p0),(.data p1)]),(.own 0 0 p3 p4 (some p5)),(.agg [(.int .i64 p6),(.int .i64 p7)])],⟨false,true,1,p2⟩=>w p0 p1 p2 p3 p4 p5 p6 p7 (fun r0 r1 r2 r3 r4 r5 r6 r7 r8 r9=>K (.tup [(.agg [(.data r0),(.data r1)]),(.agg [(.int .i64 r2),(.int .i64 r3),(.int .i64 r4),(.int .i64 r5),(.int .i64 r6),(.int .i64 r7)]),(.int .i64 r8)]) r9)
 | _,_=>False
def ynO (as:Ls) (b:HB) (K:PV→Ls→Prop):Prop:=ygo yaH as b K
def yqQ (Q:Qx):Ls→Ls→Ls→Int→Int→Int→Int→Int→Int→Int→Int→Nat→Nat→Nat→Int→Int→Int→Int→Int→Int→Nat→Nat→Nat→Int→Int→Bool→Prop:=(fun l0 l1 l2 i3 i4 i5 i6 i7 i8 i9 i10 n11 n12 n13 i14 i15 i16 i17 i18 i19 n20 n21 n22 i23 i24 b25=>Q (.exit 0) [(1,.v (.own 0 0 n11 n12 (some n13))),(3,.v (.ptr 1 1 0 0)),(5,.v (.ptr 2 1 0 0)),(6,.box (.agg [.nils,.nils])),(7,.box (.agg [(.int .i64 i14),(.int .i64 i15),(.int .i64 i16),(.int .i64 i17),(.int .i64 i18),(.int .i64 i19)])),(9,.v (.ptr 3 1 0 0)),(10,.v (.fn (.func ybc) [] [(.ptr 1 1 0 0),(.ptr 2 1 0 0),(.ptr 3 1 0 0)])),(29,.v (.own 0 0 n20 n21 (some n22))),(30,.v (.int .i64 i23)),(31,.v (.int .i64 i24)),(32,.v (.bool b25))] [⟨false,true,1,l0⟩,⟨false,true,2,([(.agg [(.data l1),(.data l2)])]:Ls)⟩,⟨false,true,2,([(.agg [(.int .i64 i3),(.int .i64 i4)])]:Ls)⟩,⟨false,true,6,([(.agg [(.int .i64 i5),(.int .i64 i6),(.int .i64 i7),(.int .i64 i8),(.int .i64 i9),(.int .i64 i10)])]:Ls)⟩])
def yqR (Q:Qx):Ls→Ls→Ls→Int→Int→Int→Int→Int→Int→Int→Int→Nat→Nat→Nat→Int→Int→Int→Int→Int→Int→Int→Int→Nat→Nat→Nat→Int→Int→Bool→Prop:=(fun l0 l1 l2 i3 i4 i5 i6 i7 i8 i9 i10 n11 n12 n13 i14 i15 i16 i17 i18 i19 i20 i21 n22 n23 n24 i25 i26 b27=>Q (.exit 0) [(1,.v (.own 0 0 n11 n12 (some n13))),(3,.v (.ptr 1 1 0 0)),(5,.v (.ptr 2 1 0 0)),(6,.box (.agg [.nils,.nils])),(7,.box (.agg [(.int .i64 i14),(.int .i64 i15),(.int .i64 i16),(.int .i64 i17),(.int .i64 i18),(.int .i64 i19)])),(9,.v (.ptr 3 1 0 0)),(10,.v (.fn (.func ybc) [] [(.ptr 1 1 0 0),(.ptr 2 1 0 0),(.ptr 3 1 0 0)])),(11,.v (.int .i64 i20)),(12,.v (.int .i64 i21)),(29,.v (.own 0 0 n22 n23 (some n24))),(30,.v (.int .i64 i25)),(31,.v (.int .i64 i26)),(38,.v (.bool b27))] [⟨false,true,1,l0⟩,⟨false,true,2,([(.agg [(.data l1),(.data l2)])]:Ls)⟩,⟨false,true,2,([(.agg [(.int .i64 i3),(.int .i64 i4)])]:Ls)⟩,⟨false,true,6,([(.agg [(.int .i64 i5),(.int .i64 i6),(.int .i64 i7),(.int .i64 i8),(.int .i64 i9),(.int .i64 i10)])]:Ls)⟩])
def yqS (Q:Qx):Ls→Ls→Ls→Int→Int→Int→Int→Int→Int→Int→Int→Int→Int→Int→Int→Int→Int→Int→Prop:=(fun l0 l1 l2 i3 i4 i5 i6 i7 i8 i9 i10 i11 i12 i13 i14 i15 i16 i17=>Q .ret [(6,.box (.agg [.nils,.nils])),(7,.box (.agg [(.int .i64 i11),(.int .i64 i12),(.int .i64 i13),(.int .i64 i14),(.int .i64 i15),(.int .i64 i16)])),(8,.v (.int .i64 i17))] [⟨false,true,1,l0⟩,⟨false,true,2,([(.agg [(.data l1),(.data l2)])]:Ls)⟩,⟨false,true,2,([(.agg [(.int .i64 i3),(.int .i64 i4)])]:Ls)⟩,⟨false,true,6,([(.agg [(.int .i64 i5),(.int .i64 i6),(.int .i64 i7),(.int .i64 i8),(.int .i64 i9),(.int .i64 i10)])]:Ls)⟩])
def pt23:RPt:=rC pt19 rN
def pt24:VPt:=vA (lC pt0 (lC pt0 (lC pt0 (lC pt0 pt4))))
def pt25:RPt:=rC pt24 rN
def pt26:HPt:=hB false true 2 pt23 (hB false true 2 (rC pt5 rN) (hB false true 6 pt25 hN))
def pt27:VPt:=vA (lC vNs (lC vNs lN))
def pt28:VPt:=vP 3 0 (nK 1) (nK 0)
def yk3 (a0:yab) (a1:yaA) (a2:yaY) (a3:yat) (a4:yaA) (Q:Qx):List St:=[⟨(pS (hB false true 1 rA pt26) (fV 1 (vO 0 (nK 0) nV nV nV) (fV 3 pt18 (fV 5 pt17 (fX 6 pt27 (fX 7 pt24 (fV 9 pt28 (fV 10 (vF ybc lN (lC pt18 (lC pt17 (lC pt28 lN)))) (fV 29 (vO 0 (nK 0) nV nV nV) (fV 30 pt0 (fV 31 pt0 fN)))))))))) fN),yaM a0 a1 a2 a3 a4 (yqQ Q) (yqR Q) (yqS Q)⟩]
def ynP (a0:yab) (a1:yaA) (a2:yaY) (a3:yat) (a4:yaA):LP:=lpS [(62467600,yk3 a0 a1 a2 a3 a4)]
def yiO (e:Es) (a0:yab) (a1:yaA) (a2:yaY) (a3:yat) (a4:yaA):SE:=⟨(E e),ygT [(ybv,yiC.pw a0),(yei,yrw.pw a1),(ydb,yuV.pw a2),(ydH,yps.pw a3),(ye4,yrw.pw a4)],ygU [(ybc,yhN)],ynP a0 a1 a2 a3 a4,fun _=>none⟩
theorem ylZ (e:Es) (he:EG e):SEOk (Uni (E e)) (yiO e yao yaZ ya9 ybr ybh):=yar (Sub.uni _) ⟨(yeX e he),(yhh e he),(yiM e he),(ykH e he),(yig e he),trivial⟩ ⟨⟨by kernel_rfl,by kernel_rfl,rfl,fun as=>ya8 (by kernel_rfl) as,he.num _ (by kernel_rfl),by kernel_rfl,(yah (by kernel_rfl))⟩,trivial⟩ he.ok
theorem ypK (e:Es) (a0 a1 a2 a3 a4):ycZ (yiO e a0 a1 a2 a3 a4) 5 a ye6 false (yk3 a0 a1 a2 a3 a4):=fun _=>⟨fun _=>by kernel_rfl,fun _ _=>by kernel_rfl,trivial⟩
theorem ypL (e:Es) (he:EG e):LpT (Uni (E e)) (ynP yao yaZ ya9 ybr ybh) [] 62467600 (.loop 62467600 ye6):=fun _ _ _=>ylr.st (Sub.uni _) (yaD (ylZ e he) 5) (YOk.no _ _) (yah (by kernel_rfl)) (ypK e _ _ _ _ _ _)
theorem yuY (e:Es) (a0 a1 a2 a3 a4 p0 p1 p2 p3 p4 p5 p6 p7 K):WPL (yiO e a0 a1 a2 a3 a4) 6 ypi [(.agg [(.data p0),(.data p1)]),(.own 0 0 p3 p4 (some p5)),(.agg [(.int .i64 p6),(.int .i64 p7)])] ⟨false,true,1,p2⟩ K=yiN a0 a1 a2 a3 a4 p0 p1 p2 p3 p4 p5 p6 p7 (fun r0 r1 r2 r3 r4 r5 r6 r7 r8 r9=>K (.tup [(.agg [(.data r0),(.data r1)]),(.agg [(.int .i64 r2),(.int .i64 r3),(.int .i64 r4),(.int .i64 r5),(.int .i64 r6),(.int .i64 r7)]),(.int .i64 r8)]) r9):=by kernel_rfl
theorem ynQ (e:Es) (he:EG e):OkL (E e) ynO ycx:=by
 intro as b K h
 unfold ynO ygo at h
 split at h
 · exact yFH (ylZ e he) yhM.flat (ybp (l:=[(62467600,.loop 62467600 ye6)]) ⟨ypL e he,trivial⟩ (by kernel_rfl)) (by kernel_rfl) (he.num _ (by kernel_rfl)) ((yuY ..).mpr h)
 · exact h.elim
abbrev yaQ:Type:=Ls→(Ls→Ls→Ls→Int→Prop)→Prop
def ydw (a0:yaK) (a1:yab) (a2:yaT) (a:Ls→Ls→Ls→Nat→Nat→Nat→Ls→Int→Ls→Ls→Nat→Nat→Nat→Int→Int→Bool→Prop):Nat→Ls→Ls→Ls→Nat→Nat→Nat→Ls→Int→Ls→Ls→Nat→Nat→Nat→Int→Int→Prop
 | 0,_,_,_,_,_,_,_,_,_,_,_,_,_,_,_=>False
 | b+1,l0,l1,l2,n3,n4,n5,l6,i7,l8,l9,n10,n11,n12,i13,i14 =>
 (cbr (decide (i14<i13))
 (asr (decide ((0:Int)≤i14))
 (asr (decide (i14<((n10:Nat):Int)))
 (asr (decide ((List.length l1)=n11))
 (asr (decide ((0+(i14.toNat))<(List.length l1)))
 (lt (List.getD l1 (0+(i14.toNat)) .nils) (fun c =>
 (asr (conf (.one (.i .i64)) c)
 (lt (IntKind.i64.wrap (i14+(1:Int))) (fun d =>
 (ydw a0 a1 a2 a b l0 (List.set l1 (0+(i14.toNat)) (.int .i64 i14)) l2 n3 n4 n5 l6 i7 l8 l9 n10 n11 n12 i13 d))))))))))
 (a l0 l1 l2 n3 n4 n5 l6 i7 l8 l9 n10 n11 n12 i13 i14 false))
def ydx (a0:yaK) (a1:yab) (a2:yaT) (a:Ls→Ls→Ls→Ls→Nat→Nat→Nat→Ls→Int→Ls→Ls→Int→Int→Int→Int→Int→Int→Ls→Ls→Int→Int→Int→Int→Int→Int→Nat→Nat→Nat→Int→Int→Bool→Prop) (b:Ls→Ls→Ls→Ls→Nat→Nat→Nat→Ls→Int→Ls→Ls→Int→Int→Int→Int→Int→Int→Ls→Ls→Int→Int→Int→Int→Int→Int→Int→Prop):Nat→Ls→Ls→Ls→Ls→Nat→Nat→Nat→Ls→Int→Ls→Ls→Int→Int→Int→Int→Int→Int→Ls→Ls→Int→Int→Int→Int→Int→Int→Nat→Nat→Nat→Int→Int→Prop
 | 0,_,_,_,_,_,_,_,_,_,_,_,_,_,_,_,_,_,_,_,_,_,_,_,_,_,_,_,_,_,_=>False
 | d+1,l0,l1,l2,l3,n4,n5,n6,l9,i10,l11,l12,i13,i14,i15,i16,i17,i18,l19,l20,i21,i22,i23,i24,i25,i26,n27,n28,n29,i30,i31 =>
 (cbr (decide (i31<i30))
 (asr (decide ((0:Int)≤i31))
 (asr (decide (i31<((n27:Nat):Int)))
 (asr (decide ((List.length l1)=n28))
 (asr (decide ((0+(i31.toNat))<(List.length l1)))
 (lt (List.getD l1 (0+(i31.toNat)) .nils) (fun c =>
 (asr (conf (.one (.i .i64)) c)
 (cbr ((yaa c) == i13)
 (b l0 l1 l2 l3 n4 n5 n6 l9 i10 l11 l12 i13 i14 i15 i16 i17 i18 l19 l20 i21 i22 i23 i24 i25 i26 i31)
 (lt (IntKind.i64.wrap (i31+(1:Int))) (fun e =>
 (asr (decide ((List.length l2)=List.length l2)&&decide ((List.length l2)=List.length l2))
 (ydx a0 a1 a2 a b d l0 l1 l2 l3 n4 n5 n6 l9 i10 l11 l12 i13 i14 i15 i16 i17 i18 l19 l20 i21 i22 i23 i24 i25 i26 n27 n28 n29 i30 e))))))))))))
 (a l0 l1 l2 l3 n4 n5 n6 l9 i10 l11 l12 i13 i14 i15 i16 i17 i18 l19 l20 i21 i22 i23 i24 i25 i26 n27 n28 n29 i30 i31 false))
def ydy (a0:yaK) (a1:yab) (a2:yaT) (a:Ls→Ls→Ls→Ls→Nat→Nat→Nat→Ls→Int→Ls→Ls→Int→Int→Int→Int→Int→Int→Ls→Ls→Int→Int→Int→Int→Int→Int→Nat→Nat→Nat→Int→Int→Bool→Prop) (b:Ls→Ls→Ls→Ls→Nat→Nat→Nat→Ls→Int→Ls→Ls→Int→Int→Int→Int→Int→Int→Ls→Ls→Int→Int→Int→Int→Int→Int→Int→Prop):Nat→Ls→Ls→Ls→Ls→Nat→Nat→Nat→Ls→Int→Ls→Ls→Int→Int→Int→Int→Int→Int→Ls→Ls→Int→Int→Int→Int→Int→Int→Nat→Nat→Nat→Int→Int→Prop
 | 0,_,_,_,_,_,_,_,_,_,_,_,_,_,_,_,_,_,_,_,_,_,_,_,_,_,_,_,_,_,_=>False
 | d+1,l0,l1,l2,l3,n4,n5,n6,l9,i10,l11,l12,i13,i14,i15,i16,i17,i18,l19,l20,i21,i22,i23,i24,i25,i26,n27,n28,n29,i30,i31 =>
 (cbr (decide (i31<i30))
 (asr (decide ((0:Int)≤i31))
 (asr (decide (i31<((n27:Nat):Int)))
 (asr (decide ((List.length l1)=n28))
 (asr (decide ((0+(i31.toNat))<(List.length l1)))
 (lt (List.getD l1 (0+(i31.toNat)) .nils) (fun c =>
 (asr (conf (.one (.i .i64)) c)
 (cbr ((yaa c) == i13)
 (b l0 l1 l2 l3 n4 n5 n6 l9 i10 l11 l12 i13 i14 i15 i16 i17 i18 l19 l20 i21 i22 i23 i24 i25 i26 i31)
 (lt (IntKind.i64.wrap (i31+(1:Int))) (fun e =>
 (asr (decide ((List.length l2)=List.length l2)&&decide ((List.length l2)=List.length l2))
 (ydy a0 a1 a2 a b d l0 l1 l2 l3 n4 n5 n6 l9 i10 l11 l12 i13 i14 i15 i16 i17 i18 l19 l20 i21 i22 i23 i24 i25 i26 n27 n28 n29 i30 e))))))))))))
 (a l0 l1 l2 l3 n4 n5 n6 l9 i10 l11 l12 i13 i14 i15 i16 i17 i18 l19 l20 i21 i22 i23 i24 i25 i26 n27 n28 n29 i30 i31 false))
def ydz (a0:yaK) (a1:yab) (a2:yaT) (b:Ls→Ls→Ls→Ls→Nat→Nat→Nat→Ls→Int→Ls→Ls→Int→Int→Int→Int→Int→Int→Ls→Ls→Int→Int→Int→Int→Int→Int→Nat→Nat→Nat→Int→Int→Bool→Prop):Nat→Ls→Ls→Ls→Ls→Nat→Nat→Nat→Ls→Int→Ls→Ls→Int→Int→Int→Int→Int→Int→Ls→Ls→Int→Int→Int→Int→Int→Int→Nat→Nat→Nat→Int→Int→Prop
 | 0,_,_,_,_,_,_,_,_,_,_,_,_,_,_,_,_,_,_,_,_,_,_,_,_,_,_,_,_,_,_=>False
 | d+1,l0,l1,l2,l3,n4,n5,n6,l9,i10,l11,l12,i13,i14,i15,i16,i17,i18,l19,l20,i21,i22,i23,i24,i25,i26,n27,n28,n29,i30,i31 =>
 (cbr (decide (i31<((n27:Nat):Int)))
 (jn (fun (c:Ls→Int→Prop) =>
 (asr (decide ((0:Int)≤i31))
 (asr (decide (i31<((n27:Nat):Int)))
 (asr (decide ((List.length l1)=n28))
 (asr (decide ((0+(i31.toNat))<(List.length l1)))
 (lt (List.getD l1 (0+(i31.toNat)) .nils) (fun a =>
 (asr (conf (.one (.i .i64)) a)
 (cbr (!((yaa a) == i13))
 (asr (decide ((0:Int)≤i30))
 (asr (decide (i30<((n27:Nat):Int)))
 (asr (decide ((List.length l1)=n28))
 (asr (decide ((0+(i30.toNat))<(List.length l1)))
 (lt (List.getD l1 (0+(i30.toNat)) .nils) (fun e =>
 (asr (conf (.one (.i .i64)) e)
 (lt (IntKind.i64.wrap (i30+(1:Int))) (fun f =>
 (c (List.set l1 (0+(i30.toNat)) (.int .i64 (yaa a))) f))))))))))
 (c l1 i30))))))))))
 (fun g h=>(lt (IntKind.i64.wrap (i31+(1:Int))) (fun j =>
 (asr (decide ((List.length l2)=List.length l2)&&decide ((List.length l2)=List.length l2))
 (ydz a0 a1 a2 b d l0 g l2 l3 n4 n5 n6 l9 i10 l11 l12 i13 i14 i15 i16 i17 i18 l19 l20 i21 i22 i23 i24 i25 i26 n27 n28 n29 h j))))))
 (b l0 l1 l2 l3 n4 n5 n6 l9 i10 l11 l12 i13 i14 i15 i16 i17 i18 l19 l20 i21 i22 i23 i24 i25 i26 n27 n28 n29 i30 i31 false))
def ydA (a0:yaK) (a1:yab) (a2:yaT) (b:Ls→Ls→Ls→Ls→Nat→Nat→Nat→Ls→Int→Ls→Ls→Int→Int→Int→Int→Int→Int→Ls→Ls→Int→Int→Int→Int→Int→Int→Nat→Nat→Nat→Int→Int→Bool→Prop):Nat→Ls→Ls→Ls→Ls→Nat→Nat→Nat→Ls→Int→Ls→Ls→Int→Int→Int→Int→Int→Int→Ls→Ls→Int→Int→Int→Int→Int→Int→Nat→Nat→Nat→Int→Int→Prop
 | 0,_,_,_,_,_,_,_,_,_,_,_,_,_,_,_,_,_,_,_,_,_,_,_,_,_,_,_,_,_,_=>False
 | d+1,l0,l1,l2,l3,n4,n5,n6,l9,i10,l11,l12,i13,i14,i15,i16,i17,i18,l19,l20,i21,i22,i23,i24,i25,i26,n27,n28,n29,i30,i31 =>
 (cbr (decide (i31<((n27:Nat):Int)))
 (jn (fun (c:Ls→Int→Prop) =>
 (asr (decide ((0:Int)≤i31))
 (asr (decide (i31<((n27:Nat):Int)))
 (asr (decide ((List.length l1)=n28))
 (asr (decide ((0+(i31.toNat))<(List.length l1)))
 (lt (List.getD l1 (0+(i31.toNat)) .nils) (fun a =>
 (asr (conf (.one (.i .i64)) a)
 (cbr (!((yaa a) == i13))
 (asr (decide ((0:Int)≤i30))
 (asr (decide (i30<((n27:Nat):Int)))
 (asr (decide ((List.length l1)=n28))
 (asr (decide ((0+(i30.toNat))<(List.length l1)))
 (lt (List.getD l1 (0+(i30.toNat)) .nils) (fun e =>
 (asr (conf (.one (.i .i64)) e)
 (lt (IntKind.i64.wrap (i30+(1:Int))) (fun f =>
 (c (List.set l1 (0+(i30.toNat)) (.int .i64 (yaa a))) f))))))))))
 (c l1 i30))))))))))
 (fun g h=>(lt (IntKind.i64.wrap (i31+(1:Int))) (fun j =>
 (asr (decide ((List.length l2)=List.length l2)&&decide ((List.length l2)=List.length l2))
 (ydA a0 a1 a2 b d l0 g l2 l3 n4 n5 n6 l9 i10 l11 l12 i13 i14 i15 i16 i17 i18 l19 l20 i21 i22 i23 i24 i25 i26 n27 n28 n29 h j))))))
 (b l0 l1 l2 l3 n4 n5 n6 l9 i10 l11 l12 i13 i14 i15 i16 i17 i18 l19 l20 i21 i22 i23 i24 i25 i26 n27 n28 n29 i30 i31 false))
def ycU (a0:yaK) (a1:yab) (a2:yaT) (t:Ls→Ls→Ls→Ls→Nat→Nat→Nat→Ls→Int→Ls→Ls→Nat→Nat→Nat→Int→Int→Bool→Prop) (u:Ls→Ls→Ls→Ls→Nat→Nat→Nat→Ls→Int→Ls→Ls→Int→Int→Int→Int→Int→Int→Prop) (v:Ls→Ls→Ls→Ls→Nat→Nat→Nat→Ls→Int→Ls→Ls→Int→Int→Int→Int→Int→Int→Ls→Ls→Int→Int→Int→Int→Int→Int→Nat→Nat→Nat→Int→Int→Ls→Ls→Int→Bool→Ls→Ls→Int→Int→Int→Int→Int→Int→Bool→Bool→Prop):Nat→Ls→Ls→Ls→Ls→Nat→Nat→Nat→Ls→Int→Ls→Ls→Nat→Nat→Nat→Int→Int→Prop
 | 0,_,_,_,_,_,_,_,_,_,_,_,_,_,_,_,_=>False
 | Y+1,l0,l1,l2,l3,n4,n5,n6,l9,i10,l11,l12,n13,n14,n15,i16,i17 =>
 (cbr (decide (((n13:Nat):Int)>(0:Int)))
 (a2 l11 l12 l1 n13 n14 n15 i16 i17 (fun l j a e f b c g o p =>
 (cbr (o !=(0:Int))
 (u l0 p l2 l3 n4 n5 n6 l9 o l11 l12 a e f b c g)
 (asr (decide ((List.length l2)=(List.length l2)))
 (asr (decide ((0+(List.length l2))≤(List.length l2)))
 (asr (!(decide (((0+(List.length l2))+1)≤(List.length l2))))
 (asr (decide ((List.length l2)=(List.length l2)))
 (asr (decide ((((List.length l2)+1)+64)*(48+1)≤room))
 (asr (decide ((0:Int)≤a))
 (asr (decide (a<((n4:Nat):Int)))
 (asr (decide ((List.length l0)=n5))
 (asr (decide ((0+(a.toNat))<(List.length l0)))
 (lt (List.getD l0 (0+(a.toNat)) .nils) (fun Z =>
 (asr (conf (.one (.d)) Z)
 (cbr ((((List.length (l2++([(.agg [(.int .i64 a),(.int .i64 e),(.int .i64 f),(.int .i64 b),(.int .i64 c),(.int .i64 g)])]:Ls))):Nat):Int) ==(((List.length l3):Nat):Int))
 (v (List.set l0 (0+(a.toNat)) (.data ([(.agg [(.int .i64 e),(.int .i64 f),(.int .i64 b),(.int .i64 c)])]:Ls))) p (l2++([(.agg [(.int .i64 a),(.int .i64 e),(.int .i64 f),(.int .i64 b),(.int .i64 c),(.int .i64 g)])]:Ls)) l3 n4 n5 n6 j i10 l11 l12 a e f b c g l j a e f b c g n13 n14 n15 i16 i17 l j o false l j a e f b c g false true)
 (jn (fun (w:Ls→Ls→Ls→Ls→Nat→Nat→Nat→Ls→Int→Ls→Ls→Int→Int→Int→Int→Int→Int→Ls→Ls→Int→Int→Int→Int→Int→Int→Nat→Nat→Nat→Prop) =>
 (jn (fun (x:Ls→Ls→Ls→Ls→Nat→Nat→Nat→Ls→Int→Ls→Ls→Int→Int→Int→Int→Int→Int→Ls→Ls→Int→Int→Int→Int→Int→Int→Int→Prop) =>
 (asr (decide ((List.length (l2++([(.agg [(.int .i64 a),(.int .i64 e),(.int .i64 f),(.int .i64 b),(.int .i64 c),(.int .i64 g)])]:Ls)))=List.length (l2++([(.agg [(.int .i64 a),(.int .i64 e),(.int .i64 f),(.int .i64 b),(.int .i64 c),(.int .i64 g)])]:Ls)))&&decide ((List.length (l2++([(.agg [(.int .i64 a),(.int .i64 e),(.int .i64 f),(.int .i64 b),(.int .i64 c),(.int .i64 g)])]:Ls)))=List.length (l2++([(.agg [(.int .i64 a),(.int .i64 e),(.int .i64 f),(.int .i64 b),(.int .i64 c),(.int .i64 g)])]:Ls))))
 (∃ va:Nat,ydy a0 a1 a2
 (fun vb vc vd ve vf vg vh vi vj vk vl vm vn vo vp vq vr vs vt vu vv vw vx vy vz _ _ _ _ _ _=>(x vb vc vd ve vf vg vh vi vj vk vl vm vn vo vp vq vr vs vt vu vv vw vx vy vz (-1:Int)))
 (fun vA vB vC vD vE vF vG vH vI vJ vK vL vM vN vO vP vQ vR vS vT vU vV vW vX vY vZ=>(x vA vB vC vD vE vF vG vH vI vJ vK vL vM vN vO vP vQ vR vS vT vU vV vW vX vY vZ))
 va (List.set l0 (0+(a.toNat)) (.data ([(.agg [(.int .i64 e),(.int .i64 f),(.int .i64 b),(.int .i64 c)])]:Ls))) p (l2++([(.agg [(.int .i64 a),(.int .i64 e),(.int .i64 f),(.int .i64 b),(.int .i64 c),(.int .i64 g)])]:Ls)) l3 n4 n5 n6 j i10 l j a e f b c g l j a e f b c g n13 n14 n15 ((n13:Nat):Int) (0:Int))))
 (fun y z k A B C D E F G H I J K L M N O Q R S T U V W q=>(cbr (q ==(-1:Int))
 (w y z k A B C D E F G H I J K L M N O Q R S T U V W n13 n14 n15)
 (lt (IntKind.i64.wrap (q+(1:Int))) (fun v0 =>
 (asr (decide ((List.length k)=List.length k)&&decide ((List.length k)=List.length k))
 (∃ v1:Nat,ydA a0 a1 a2
 (fun v2 n v3 v4 v5 v6 v7 v8 v9 wa wb wc wd we wf wg wh wi wj wk wl wm wn wo wp i r s h _ _=>(jn (fun (X:Ls→Prop) =>
 (asr (decide ((0:Int)≤h))
 (asr (decide (h≤((i:Nat):Int)))
 (asr ((decide (((i:Nat):Int)≤((i:Nat):Int)))||(decide (((i:Nat):Int)≤((s:Nat):Int))))
 (cbr (decide (((((i:Nat):Int)-h).toNat)=0))
 (X n)
 (asr (decide ((List.length n)=r))
 (asr (decide (((0+(h.toNat))+((((i:Nat):Int)-h).toNat))≤r))
 (X ((List.take (0+(h.toNat)) n)++((List.replicate ((((i:Nat):Int)-h).toNat) ((.int .i64 (0)):PV))++(List.drop ((0+(h.toNat))+((((i:Nat):Int)-h).toNat)) n)))))))))))
 (fun wq=>(asr (decide ((0:Int)≤h))
 (asr ((decide (h≤((i:Nat):Int)))||(decide (h≤((s:Nat):Int))))
 (w v2 wq v3 v4 v5 v6 v7 v8 v9 wa wb wc wd we wf wg wh wi wj wk wl wm wn wo wp ((h-(0:Int)).toNat) r (s-0)))))))
 v1 y z k A B C D E F G H I J K L M N O Q R S T U V W n13 n14 n15 q v0))))))))
 (fun wr ws m wt wu wv ww wx wy wz wA _ _ _ _ _ _ _ _ _ _ _ _ _ _ wB wC wD=>(asr (decide ((List.length m)=List.length m)&&decide ((List.length m)=List.length m))
 (ycU a0 a1 a2 t u v Y wr ws m wt wu wv ww wx wy wz wA wB wC wD b c))))))))))))))))))))
 (t l0 l1 l2 l3 n4 n5 n6 l9 i10 l11 l12 n13 n14 n15 i16 i17 false))
def ycV (a0:yaK) (a1:yab) (a2:yaT) (V:Ls→Ls→Ls→Nat→Nat→Nat→Ls→Int→Ls→Ls→Nat→Nat→Nat→Int→Int→Bool→Prop) (W:Ls→Ls→Ls→Nat→Nat→Nat→Ls→Int→Ls→Ls→Int→Int→Int→Int→Int→Int→Prop) (X:Ls→Ls→Ls→Ls→Nat→Nat→Nat→Ls→Int→Ls→Ls→Int→Int→Int→Int→Int→Int→Ls→Ls→Int→Int→Int→Int→Int→Int→Nat→Nat→Nat→Int→Int→Ls→Ls→Int→Bool→Ls→Ls→Int→Int→Int→Int→Int→Int→Bool→Bool→Prop) (Y:Ls→Ls→Ls→Ls→Nat→Nat→Nat→Ls→Int→Ls→Ls→Nat→Nat→Nat→Int→Int→Bool→Prop) (Z:Ls→Ls→Ls→Ls→Nat→Nat→Nat→Ls→Int→Ls→Ls→Int→Int→Int→Int→Int→Int→Prop) (va:Ls→Ls→Ls→Ls→Nat→Nat→Nat→Ls→Int→Ls→Ls→Int→Int→Int→Int→Int→Int→Ls→Ls→Int→Int→Int→Int→Int→Int→Nat→Nat→Nat→Int→Int→Ls→Ls→Int→Bool→Ls→Ls→Int→Int→Int→Int→Int→Int→Bool→Bool→Prop):Nat→Ls→Ls→Ls→Nat→Nat→Nat→Ls→Int→Ls→Ls→Nat→Nat→Nat→Int→Int→Prop
 | 0,_,_,_,_,_,_,_,_,_,_,_,_,_,_,_=>False
 | vb+1,l0,l1,l2,n3,n4,n5,l6,i7,l8,l9,n10,n11,n12,i13,i14 =>
 (cbr (decide (((n10:Nat):Int)>(0:Int)))
 (a2 l8 l9 l1 n10 n11 n12 i13 i14 (fun l j a f g b c h o p =>
 (cbr (o !=(0:Int))
 (W l0 p l2 n3 n4 n5 l6 o l8 l9 a f g b c h)
 (asr (decide ((0:Int)≤a))
 (asr (decide (a<((n3:Nat):Int)))
 (asr (decide ((List.length l0)=n4))
 (asr (decide ((0+(a.toNat))<(List.length l0)))
 (lt (List.getD l0 (0+(a.toNat)) .nils) (fun vc =>
 (asr (conf (.one (.d)) vc)
 (cbr ((1:Int) ==(((List.length l2):Nat):Int))
 (X (List.set l0 (0+(a.toNat)) (.data ([(.agg [(.int .i64 f),(.int .i64 g),(.int .i64 b),(.int .i64 c)])]:Ls))) p ([(.agg [(.int .i64 a),(.int .i64 f),(.int .i64 g),(.int .i64 b),(.int .i64 c),(.int .i64 h)])]:Ls) l2 n3 n4 n5 j i7 l8 l9 a f g b c h l j a f g b c h n10 n11 n12 i13 i14 l j o false l j a f g b c h false true)
 (jn (fun (t:Ls→Ls→Ls→Ls→Nat→Nat→Nat→Ls→Int→Ls→Ls→Int→Int→Int→Int→Int→Int→Ls→Ls→Int→Int→Int→Int→Int→Int→Nat→Nat→Nat→Prop) =>
 (jn (fun (u:Ls→Ls→Ls→Ls→Nat→Nat→Nat→Ls→Int→Ls→Ls→Int→Int→Int→Int→Int→Int→Ls→Ls→Int→Int→Int→Int→Int→Int→Int→Prop) =>
 (asr (decide (1=List.length ([(.agg [(.int .i64 a),(.int .i64 f),(.int .i64 g),(.int .i64 b),(.int .i64 c),(.int .i64 h)])]:Ls))&&decide (1=List.length ([(.agg [(.int .i64 a),(.int .i64 f),(.int .i64 g),(.int .i64 b),(.int .i64 c),(.int .i64 h)])]:Ls)))
 (∃ vd:Nat,ydx a0 a1 a2
 (fun ve vf vg vh vi vj vk vl vm vn vo vp vq vr vs vt vu vv vw vx vy vz vA vB vC _ _ _ _ _ _=>(u ve vf vg vh vi vj vk vl vm vn vo vp vq vr vs vt vu vv vw vx vy vz vA vB vC (-1:Int)))
 (fun vD vE vF vG vH vI vJ vK vL vM vN vO vP vQ vR vS vT vU vV vW vX vY vZ v0 v1 v2=>(u vD vE vF vG vH vI vJ vK vL vM vN vO vP vQ vR vS vT vU vV vW vX vY vZ v0 v1 v2))
 vd (List.set l0 (0+(a.toNat)) (.data ([(.agg [(.int .i64 f),(.int .i64 g),(.int .i64 b),(.int .i64 c)])]:Ls))) p ([(.agg [(.int .i64 a),(.int .i64 f),(.int .i64 g),(.int .i64 b),(.int .i64 c),(.int .i64 h)])]:Ls) l2 n3 n4 n5 j i7 l j a f g b c h l j a f g b c h n10 n11 n12 ((n10:Nat):Int) (0:Int))))
 (fun v w k x y z A B C D E F G H I J K L M N O Q R S T q=>(cbr (q ==(-1:Int))
 (t v w k x y z A B C D E F G H I J K L M N O Q R S T n10 n11 n12)
 (lt (IntKind.i64.wrap (q+(1:Int))) (fun v3 =>
 (asr (decide ((List.length k)=List.length k)&&decide ((List.length k)=List.length k))
 (∃ v4:Nat,ydz a0 a1 a2
 (fun v5 n v6 v7 v8 v9 wa wb wc wd we wf wg wh wi wj wk wl wm wn wo wp wq wr ws i r s e _ _=>(jn (fun (U:Ls→Prop) =>
 (asr (decide ((0:Int)≤e))
 (asr (decide (e≤((i:Nat):Int)))
 (asr ((decide (((i:Nat):Int)≤((i:Nat):Int)))||(decide (((i:Nat):Int)≤((s:Nat):Int))))
 (cbr (decide (((((i:Nat):Int)-e).toNat)=0))
 (U n)
 (asr (decide ((List.length n)=r))
 (asr (decide (((0+(e.toNat))+((((i:Nat):Int)-e).toNat))≤r))
 (U ((List.take (0+(e.toNat)) n)++((List.replicate ((((i:Nat):Int)-e).toNat) ((.int .i64 (0)):PV))++(List.drop ((0+(e.toNat))+((((i:Nat):Int)-e).toNat)) n)))))))))))
 (fun wt=>(asr (decide ((0:Int)≤e))
 (asr ((decide (e≤((i:Nat):Int)))||(decide (e≤((s:Nat):Int))))
 (t v5 wt v6 v7 v8 v9 wa wb wc wd we wf wg wh wi wj wk wl wm wn wo wp wq wr ws ((e-(0:Int)).toNat) r (s-0)))))))
 v4 v w k x y z A B C D E F G H I J K L M N O Q R S T n10 n11 n12 q v3))))))))
 (fun wu wv m ww wx wy wz wA wB wC wD _ _ _ _ _ _ _ _ _ _ _ _ _ _ wE wF wG=>(asr (decide ((List.length m)=List.length m)&&decide ((List.length m)=List.length m))
 (ycU a0 a1 a2 Y Z va vb wu wv m ww wx wy wz wA wB wC wD wE wF wG b c)))))))))))))))
 (V l0 l1 l2 n3 n4 n5 l6 i7 l8 l9 n10 n11 n12 i13 i14 false))
def yil (a0:yaK) (a1:yab) (a2:yaT) (p0:Ls) (K:Ls→Ls→Ls→Int→Prop):Prop :=
 (a0 p0 (fun a L f =>
 (cbr (f !=(0:Int))
 (K ([]:Ls) ([]:Ls) ([]:Ls) f)
 (asr (decide ((0:Int)≤(((List.length p0):Nat):Int)))
 (asr (decide ((((List.length p0):Nat):Int)≤(((List.length p0):Nat):Int)))
 (asr (decide (((List.length p0)+64)*(24+1)≤room))
 (asr (decide ((0:Int)≤(((List.length a):Nat):Int)))
 (asr (decide ((((List.length a):Nat):Int)≤(((List.length a):Nat):Int)))
 (asr (decide (((List.length a)+64)*(8+1)≤room))
 (∃ M:Nat,ydw a0 a1 a2
 (fun N O Q R S T U V W X Y Z va _ _ _=>(a1 (0:Int) (fun vb vc =>
 (∃ vd:Nat,ycV a0 a1 a2
 (fun g ve vf h i vg E j vh vi _ _ _ _ _ _=>(asr (noYH (noY 0) (fun _=>true) [⟨false,true,1,([(.data vf)]:Ls)⟩,⟨false,false,1,([(.agg [(.own 5 0 h i (some vg))])]:Ls)⟩,⟨false,false,1,([.nils]:Ls)⟩,⟨false,true,1,([(.data E)]:Ls)⟩,⟨false,true,1,([(.int .i64 j)]:Ls)⟩,⟨false,true,1,g⟩,⟨false,true,2,([(.agg [(.data vh),(.data vi)])]:Ls)⟩,⟨false,false,1,([(.fn (.func yav) [] [(.ptr 4 1 0 0)])]:Ls)⟩,⟨false,true,1,ve⟩])
 (cbr (j !=(0:Int))
 (K ([]:Ls) ([]:Ls) ([]:Ls) j)
 (asr (decide ((List.length g)=i))
 (asr (decide ((0+h)≤i))
 (K (List.take h g) ([]:Ls) E (0:Int)))))))
 (fun k vj vk l m vl F n vm vn vo vp vq vr vs vt=>(asr (noYH (noY 0) (fun _=>true) [⟨false,true,1,([(.data vk)]:Ls)⟩,⟨false,false,1,([(.agg [(.own 5 0 l m (some vl))])]:Ls)⟩,⟨false,false,1,([.nils]:Ls)⟩,⟨false,true,1,([(.data F)]:Ls)⟩,⟨false,true,1,([(.int .i64 n)]:Ls)⟩,⟨false,true,1,k⟩,⟨false,true,2,([(.agg [(.data vm),(.data vn)])]:Ls)⟩,⟨false,false,1,([(.fn (.func yav) [] [(.ptr 4 1 0 0)])]:Ls)⟩,⟨false,true,1,vj⟩,⟨false,true,6,([(.agg [(.int .i64 vo),(.int .i64 vp),(.int .i64 vq),(.int .i64 vr),(.int .i64 vs),(.int .i64 vt)])]:Ls)⟩])
 (cbr (n !=(0:Int))
 (K ([]:Ls) ([]:Ls) ([]:Ls) n)
 (asr (decide ((List.length k)=m))
 (asr (decide ((0+l)≤m))
 (K (List.take l k) ([]:Ls) F (0:Int)))))))
 (fun o vu b vv p q vw G r vx vy vz vA vB vC vD vE vF vG vH vI vJ vK vL vM _ _ _ _ _ _ _ _ _ _ _ _ _ _ _ _ _ _ _=>(asr (noYH (noY 0) (fun _=>true) [⟨false,true,1,([(.data vv)]:Ls)⟩,⟨false,false,1,([(.agg [(.own 5 0 p q (some vw))])]:Ls)⟩,⟨false,false,1,([(.own 12 0 (List.length b) (List.length b) none)]:Ls)⟩,⟨false,true,1,([(.data G)]:Ls)⟩,⟨false,true,1,([(.int .i64 r)]:Ls)⟩,⟨false,true,1,o⟩,⟨false,true,2,([(.agg [(.data vx),(.data vy)])]:Ls)⟩,⟨false,false,1,([(.fn (.func yav) [] [(.ptr 4 1 0 0)])]:Ls)⟩,⟨false,true,1,vu⟩,⟨false,true,6,([(.agg [(.int .i64 vz),(.int .i64 vA),(.int .i64 vB),(.int .i64 vC),(.int .i64 vD),(.int .i64 vE)])]:Ls)⟩,⟨false,true,2,([(.agg [(.data vF),(.data vG)])]:Ls)⟩,⟨false,true,6,([(.agg [(.int .i64 vH),(.int .i64 vI),(.int .i64 vJ),(.int .i64 vK),(.int .i64 vL),(.int .i64 vM)])]:Ls)⟩,⟨false,true,6,b⟩])
 (cbr (r !=(0:Int))
 (K ([]:Ls) ([]:Ls) ([]:Ls) r)
 (asr (decide ((List.length o)=q))
 (asr (decide ((0+p)≤q))
 (asr (decide ((List.length b)=(List.length b)))
 (asr (decide ((0+(List.length b))≤(List.length b)))
 (K (List.take p o) (List.take (List.length b) b) G (0:Int)))))))))
 (fun s vN c vO t u vP H v vQ vR _ _ _ _ _ _=>(asr (noYH (noY 0) (fun _=>true) [⟨false,true,1,([(.data vO)]:Ls)⟩,⟨false,false,1,([(.agg [(.own 5 0 t u (some vP))])]:Ls)⟩,⟨false,false,1,([(.own 12 0 (List.length c) (List.length c) none)]:Ls)⟩,⟨false,true,1,([(.data H)]:Ls)⟩,⟨false,true,1,([(.int .i64 v)]:Ls)⟩,⟨false,true,1,s⟩,⟨false,true,2,([(.agg [(.data vQ),(.data vR)])]:Ls)⟩,⟨false,false,1,([(.fn (.func yav) [] [(.ptr 4 1 0 0)])]:Ls)⟩,⟨false,true,1,vN⟩,⟨false,true,6,([]:Ls)⟩,⟨false,true,2,([]:Ls)⟩,⟨false,true,6,([]:Ls)⟩,⟨false,true,6,c⟩])
 (cbr (v !=(0:Int))
 (K ([]:Ls) ([]:Ls) ([]:Ls) v)
 (asr (decide ((List.length s)=u))
 (asr (decide ((0+t)≤u))
 (asr (decide ((List.length c)=(List.length c)))
 (asr (decide ((0+(List.length c))≤(List.length c)))
 (K (List.take t s) (List.take (List.length c) c) H (0:Int)))))))))
 (fun w vS d vT x y vU I z vV vW vX vY vZ v0 v1 v2=>(asr (noYH (noY 0) (fun _=>true) [⟨false,true,1,([(.data vT)]:Ls)⟩,⟨false,false,1,([(.agg [(.own 5 0 x y (some vU))])]:Ls)⟩,⟨false,false,1,([(.own 12 0 (List.length d) (List.length d) none)]:Ls)⟩,⟨false,true,1,([(.data I)]:Ls)⟩,⟨false,true,1,([(.int .i64 z)]:Ls)⟩,⟨false,true,1,w⟩,⟨false,true,2,([(.agg [(.data vV),(.data vW)])]:Ls)⟩,⟨false,false,1,([(.fn (.func yav) [] [(.ptr 4 1 0 0)])]:Ls)⟩,⟨false,true,1,vS⟩,⟨false,true,6,([]:Ls)⟩,⟨false,true,2,([]:Ls)⟩,⟨false,true,6,([]:Ls)⟩,⟨false,true,6,d⟩,⟨false,true,6,([(.agg [(.int .i64 vX),(.int .i64 vY),(.int .i64 vZ),(.int .i64 v0),(.int .i64 v1),(.int .i64 v2)])]:Ls)⟩])
 (cbr (z !=(0:Int))
 (K ([]:Ls) ([]:Ls) ([]:Ls) z)
 (asr (decide ((List.length w)=y))
 (asr (decide ((0+x)≤y))
 (asr (decide ((List.length d)=(List.length d)))
 (asr (decide ((0+(List.length d))≤(List.length d)))
 (K (List.take x w) (List.take (List.length d) d) I (0:Int)))))))))
 (fun A v3 e v4 B C v5 J D v6 v7 v8 v9 wa wb wc wd we wf wg wh wi wj wk wl _ _ _ _ _ _ _ _ _ _ _ _ _ _ _ _ _ _ _=>(asr (noYH (noY 0) (fun _=>true) [⟨false,true,1,([(.data v4)]:Ls)⟩,⟨false,false,1,([(.agg [(.own 5 0 B C (some v5))])]:Ls)⟩,⟨false,false,1,([(.own 12 0 (List.length e) (List.length e) none)]:Ls)⟩,⟨false,true,1,([(.data J)]:Ls)⟩,⟨false,true,1,([(.int .i64 D)]:Ls)⟩,⟨false,true,1,A⟩,⟨false,true,2,([(.agg [(.data v6),(.data v7)])]:Ls)⟩,⟨false,false,1,([(.fn (.func yav) [] [(.ptr 4 1 0 0)])]:Ls)⟩,⟨false,true,1,v3⟩,⟨false,true,6,([]:Ls)⟩,⟨false,true,2,([]:Ls)⟩,⟨false,true,6,([]:Ls)⟩,⟨false,true,6,e⟩,⟨false,true,6,([(.agg [(.int .i64 v8),(.int .i64 v9),(.int .i64 wa),(.int .i64 wb),(.int .i64 wc),(.int .i64 wd)])]:Ls)⟩,⟨false,true,2,([(.agg [(.data we),(.data wf)])]:Ls)⟩,⟨false,true,6,([(.agg [(.int .i64 wg),(.int .i64 wh),(.int .i64 wi),(.int .i64 wj),(.int .i64 wk),(.int .i64 wl)])]:Ls)⟩])
 (cbr (D !=(0:Int))
 (K ([]:Ls) ([]:Ls) ([]:Ls) D)
 (asr (decide ((List.length A)=C))
 (asr (decide ((0+B)≤C))
 (asr (decide ((List.length e)=(List.length e)))
 (asr (decide ((0+(List.length e))≤(List.length e)))
 (K (List.take B A) (List.take (List.length e) e) J (0:Int)))))))))
 vd N O Q R S T U V W X Y Z va vb vc))))
 M (List.replicate (List.length p0) ((.data []):PV)) (List.replicate (List.length a) ((.int .i64 (0)):PV)) p0 (List.length p0) (List.length p0) (List.length p0) ([]:Ls) f a L (List.length a) (List.length a) (List.length a) (((List.length a):Nat):Int) (0:Int)))))))))))
def ybM:yaQ:=yil yaJ yao yaH
def yyS:Sg:=⟨pt6,Ls→Ls→Ls→Int→Prop,fun K=>(fun r0 r1 r2 r3=>K (.tup [(.agg [(.data r0)]),(.data r1),(.data r2),(.int .i64 r3)]))⟩
def ytL (Q:Qx):Ls→Ls→Ls→Nat→Nat→Nat→Ls→Int→Ls→Ls→Nat→Nat→Nat→Int→Int→Bool→Prop:=(fun l0 l1 l2 n3 n4 n5 l6 i7 l8 l9 n10 n11 n12 i13 i14 b15=>Q (.exit 0) [(0,.v (.fn (.yield 0) [] [])),(1,.v (.ptr 6 1 0 0)),(2,.v (.ptr 7 1 0 0)),(4,.v (.own 8 0 n10 n11 (some n12))),(15,.v (.int .i64 i13)),(16,.v (.int .i64 i14)),(17,.v (.bool b15))] [⟨false,true,1,([(.data l2)]:Ls)⟩,⟨false,false,1,([(.agg [(.own 5 0 n3 n4 (some n5))])]:Ls)⟩,⟨false,false,1,([.nils]:Ls)⟩,⟨false,true,1,([(.data l6)]:Ls)⟩,⟨false,true,1,([(.int .i64 i7)]:Ls)⟩,⟨false,true,1,l0⟩,⟨false,true,2,([(.agg [(.data l8),(.data l9)])]:Ls)⟩,⟨false,false,1,([(.fn (.func yav) [] [(.ptr 4 1 0 0)])]:Ls)⟩,⟨false,true,1,l1⟩])
def ytM (Q:Qx):Ls→Ls→Ls→Ls→Nat→Nat→Nat→Ls→Int→Ls→Ls→Int→Int→Int→Int→Int→Int→Ls→Ls→Int→Int→Int→Int→Int→Int→Nat→Nat→Nat→Int→Int→Bool→Prop:=(fun l0 l1 l2 l3 n4 n5 n6 l9 i10 l11 l12 i13 i14 i15 i16 i17 i18 l19 l20 i21 i22 i23 i24 i25 i26 n27 n28 n29 i30 i31 b32=>Q (.exit 0) [(0,.v (.own 8 0 n27 n28 (some n29))),(1,.v (.fn (.func yaS) [] [(.ptr 9 1 0 0)])),(7,.v (.int .i64 i30)),(8,.v (.int .i64 i31)),(9,.v (.bool b32))] [⟨false,true,1,([(.data l3)]:Ls)⟩,⟨false,false,1,([(.agg [(.own 5 0 n4 n5 (some n6))])]:Ls)⟩,⟨false,false,1,([(.own 12 0 (List.length l2) (List.length l2) none)]:Ls)⟩,⟨false,true,1,([(.data l9)]:Ls)⟩,⟨false,true,1,([(.int .i64 i10)]:Ls)⟩,⟨false,true,1,l0⟩,⟨false,true,2,([(.agg [(.data l11),(.data l12)])]:Ls)⟩,⟨false,false,1,([(.fn (.func yav) [] [(.ptr 4 1 0 0)])]:Ls)⟩,⟨false,true,1,l1⟩,⟨false,true,6,([(.agg [(.int .i64 i13),(.int .i64 i14),(.int .i64 i15),(.int .i64 i16),(.int .i64 i17),(.int .i64 i18)])]:Ls)⟩,⟨false,true,2,([(.agg [(.data l19),(.data l20)])]:Ls)⟩,⟨false,true,6,([(.agg [(.int .i64 i21),(.int .i64 i22),(.int .i64 i23),(.int .i64 i24),(.int .i64 i25),(.int .i64 i26)])]:Ls)⟩,⟨false,true,6,l2⟩])
def ytN (Q:Qx):Ls→Ls→Ls→Ls→Nat→Nat→Nat→Ls→Int→Ls→Ls→Int→Int→Int→Int→Int→Int→Ls→Ls→Int→Int→Int→Int→Int→Int→Int→Prop:=(fun l0 l1 l2 l3 n4 n5 n6 l9 i10 l11 l12 i13 i14 i15 i16 i17 i18 l19 l20 i21 i22 i23 i24 i25 i26 i27=>Q .ret [(4,.v (.int .i64 i27))] [⟨false,true,1,([(.data l3)]:Ls)⟩,⟨false,false,1,([(.agg [(.own 5 0 n4 n5 (some n6))])]:Ls)⟩,⟨false,false,1,([(.own 12 0 (List.length l2) (List.length l2) none)]:Ls)⟩,⟨false,true,1,([(.data l9)]:Ls)⟩,⟨false,true,1,([(.int .i64 i10)]:Ls)⟩,⟨false,true,1,l0⟩,⟨false,true,2,([(.agg [(.data l11),(.data l12)])]:Ls)⟩,⟨false,false,1,([(.fn (.func yav) [] [(.ptr 4 1 0 0)])]:Ls)⟩,⟨false,true,1,l1⟩,⟨false,true,6,([(.agg [(.int .i64 i13),(.int .i64 i14),(.int .i64 i15),(.int .i64 i16),(.int .i64 i17),(.int .i64 i18)])]:Ls)⟩,⟨false,true,2,([(.agg [(.data l19),(.data l20)])]:Ls)⟩,⟨false,true,6,([(.agg [(.int .i64 i21),(.int .i64 i22),(.int .i64 i23),(.int .i64 i24),(.int .i64 i25),(.int .i64 i26)])]:Ls)⟩,⟨false,true,6,l2⟩])
def ytO (Q:Qx):Ls→Ls→Ls→Ls→Nat→Nat→Nat→Ls→Int→Ls→Ls→Int→Int→Int→Int→Int→Int→Ls→Ls→Int→Int→Int→Int→Int→Int→Nat→Nat→Nat→Int→Int→Bool→Prop:=(fun l0 l1 l2 l3 n4 n5 n6 l9 i10 l11 l12 i13 i14 i15 i16 i17 i18 l19 l20 i21 i22 i23 i24 i25 i26 n27 n28 n29 i30 i31 b32=>Q (.exit 0) [(0,.v (.own 8 0 n27 n28 (some n29))),(1,.v (.fn (.func yaS) [] [(.ptr 13 1 0 0)])),(7,.v (.int .i64 i30)),(8,.v (.int .i64 i31)),(9,.v (.bool b32))] [⟨false,true,1,([(.data l3)]:Ls)⟩,⟨false,false,1,([(.agg [(.own 5 0 n4 n5 (some n6))])]:Ls)⟩,⟨false,false,1,([(.own 12 0 (List.length l2) (List.length l2) none)]:Ls)⟩,⟨false,true,1,([(.data l9)]:Ls)⟩,⟨false,true,1,([(.int .i64 i10)]:Ls)⟩,⟨false,true,1,l0⟩,⟨false,true,2,([(.agg [(.data l11),(.data l12)])]:Ls)⟩,⟨false,false,1,([(.fn (.func yav) [] [(.ptr 4 1 0 0)])]:Ls)⟩,⟨false,true,1,l1⟩,⟨false,true,6,([]:Ls)⟩,⟨false,true,2,([]:Ls)⟩,⟨false,true,6,([]:Ls)⟩,⟨false,true,6,l2⟩,⟨false,true,6,([(.agg [(.int .i64 i13),(.int .i64 i14),(.int .i64 i15),(.int .i64 i16),(.int .i64 i17),(.int .i64 i18)])]:Ls)⟩,⟨false,true,2,([(.agg [(.data l19),(.data l20)])]:Ls)⟩,⟨false,true,6,([(.agg [(.int .i64 i21),(.int .i64 i22),(.int .i64 i23),(.int .i64 i24),(.int .i64 i25),(.int .i64 i26)])]:Ls)⟩])
def ytP (Q:Qx):Ls→Ls→Ls→Ls→Nat→Nat→Nat→Ls→Int→Ls→Ls→Int→Int→Int→Int→Int→Int→Ls→Ls→Int→Int→Int→Int→Int→Int→Int→Prop:=(fun l0 l1 l2 l3 n4 n5 n6 l9 i10 l11 l12 i13 i14 i15 i16 i17 i18 l19 l20 i21 i22 i23 i24 i25 i26 i27=>Q .ret [(4,.v (.int .i64 i27))] [⟨false,true,1,([(.data l3)]:Ls)⟩,⟨false,false,1,([(.agg [(.own 5 0 n4 n5 (some n6))])]:Ls)⟩,⟨false,false,1,([(.own 12 0 (List.length l2) (List.length l2) none)]:Ls)⟩,⟨false,true,1,([(.data l9)]:Ls)⟩,⟨false,true,1,([(.int .i64 i10)]:Ls)⟩,⟨false,true,1,l0⟩,⟨false,true,2,([(.agg [(.data l11),(.data l12)])]:Ls)⟩,⟨false,false,1,([(.fn (.func yav) [] [(.ptr 4 1 0 0)])]:Ls)⟩,⟨false,true,1,l1⟩,⟨false,true,6,([]:Ls)⟩,⟨false,true,2,([]:Ls)⟩,⟨false,true,6,([]:Ls)⟩,⟨false,true,6,l2⟩,⟨false,true,6,([(.agg [(.int .i64 i13),(.int .i64 i14),(.int .i64 i15),(.int .i64 i16),(.int .i64 i17),(.int .i64 i18)])]:Ls)⟩,⟨false,true,2,([(.agg [(.data l19),(.data l20)])]:Ls)⟩,⟨false,true,6,([(.agg [(.int .i64 i21),(.int .i64 i22),(.int .i64 i23),(.int .i64 i24),(.int .i64 i25),(.int .i64 i26)])]:Ls)⟩])
def ytQ (Q:Qx):Ls→Ls→Ls→Ls→Nat→Nat→Nat→Ls→Int→Ls→Ls→Int→Int→Int→Int→Int→Int→Ls→Ls→Int→Int→Int→Int→Int→Int→Nat→Nat→Nat→Int→Int→Bool→Prop:=(fun l0 l1 l2 l3 n4 n5 n6 l9 i10 l11 l12 i13 i14 i15 i16 i17 i18 l19 l20 i21 i22 i23 i24 i25 i26 n27 n28 n29 i30 i31 b32=>Q (.exit 0) [(0,.v (.own 8 0 n27 n28 (some n29))),(1,.v (.fn (.func yaS) [] [(.ptr 9 1 0 0)])),(5,.v (.int .i64 i30)),(6,.v (.int .i64 i31)),(19,.v (.bool b32))] [⟨false,true,1,([(.data l3)]:Ls)⟩,⟨false,false,1,([(.agg [(.own 5 0 n4 n5 (some n6))])]:Ls)⟩,⟨false,false,1,([(.own 12 0 (List.length l2) (List.length l2) none)]:Ls)⟩,⟨false,true,1,([(.data l9)]:Ls)⟩,⟨false,true,1,([(.int .i64 i10)]:Ls)⟩,⟨false,true,1,l0⟩,⟨false,true,2,([(.agg [(.data l11),(.data l12)])]:Ls)⟩,⟨false,false,1,([(.fn (.func yav) [] [(.ptr 4 1 0 0)])]:Ls)⟩,⟨false,true,1,l1⟩,⟨false,true,6,([(.agg [(.int .i64 i13),(.int .i64 i14),(.int .i64 i15),(.int .i64 i16),(.int .i64 i17),(.int .i64 i18)])]:Ls)⟩,⟨false,true,2,([(.agg [(.data l19),(.data l20)])]:Ls)⟩,⟨false,true,6,([(.agg [(.int .i64 i21),(.int .i64 i22),(.int .i64 i23),(.int .i64 i24),(.int .i64 i25),(.int .i64 i26)])]:Ls)⟩,⟨false,true,6,l2⟩])
def ytR (Q:Qx):Ls→Ls→Ls→Ls→Nat→Nat→Nat→Ls→Int→Ls→Ls→Int→Int→Int→Int→Int→Int→Ls→Ls→Int→Int→Int→Int→Int→Int→Nat→Nat→Nat→Int→Int→Bool→Prop:=(fun l0 l1 l2 l3 n4 n5 n6 l9 i10 l11 l12 i13 i14 i15 i16 i17 i18 l19 l20 i21 i22 i23 i24 i25 i26 n27 n28 n29 i30 i31 b32=>Q (.exit 0) [(0,.v (.own 8 0 n27 n28 (some n29))),(1,.v (.fn (.func yaS) [] [(.ptr 13 1 0 0)])),(5,.v (.int .i64 i30)),(6,.v (.int .i64 i31)),(19,.v (.bool b32))] [⟨false,true,1,([(.data l3)]:Ls)⟩,⟨false,false,1,([(.agg [(.own 5 0 n4 n5 (some n6))])]:Ls)⟩,⟨false,false,1,([(.own 12 0 (List.length l2) (List.length l2) none)]:Ls)⟩,⟨false,true,1,([(.data l9)]:Ls)⟩,⟨false,true,1,([(.int .i64 i10)]:Ls)⟩,⟨false,true,1,l0⟩,⟨false,true,2,([(.agg [(.data l11),(.data l12)])]:Ls)⟩,⟨false,false,1,([(.fn (.func yav) [] [(.ptr 4 1 0 0)])]:Ls)⟩,⟨false,true,1,l1⟩,⟨false,true,6,([]:Ls)⟩,⟨false,true,2,([]:Ls)⟩,⟨false,true,6,([]:Ls)⟩,⟨false,true,6,l2⟩,⟨false,true,6,([(.agg [(.int .i64 i13),(.int .i64 i14),(.int .i64 i15),(.int .i64 i16),(.int .i64 i17),(.int .i64 i18)])]:Ls)⟩,⟨false,true,2,([(.agg [(.data l19),(.data l20)])]:Ls)⟩,⟨false,true,6,([(.agg [(.int .i64 i21),(.int .i64 i22),(.int .i64 i23),(.int .i64 i24),(.int .i64 i25),(.int .i64 i26)])]:Ls)⟩])
def ytS (Q:Qx):Ls→Ls→Ls→Nat→Nat→Nat→Ls→Int→Ls→Ls→Nat→Nat→Nat→Int→Int→Bool→Prop:=(fun l0 l1 l2 n3 n4 n5 l6 i7 l8 l9 n10 n11 n12 i13 i14 b15=>Q (.exit 2) [(0,.v (.fn (.yield 0) [] [])),(1,.v (.ptr 6 1 0 0)),(2,.v (.ptr 7 1 0 0)),(4,.v (.own 8 0 n10 n11 (some n12))),(6,.box (.agg [(.int .i64 i13),(.int .i64 i14)])),(27,.v (.bool b15))] [⟨false,true,1,([(.data l2)]:Ls)⟩,⟨false,false,1,([(.agg [(.own 5 0 n3 n4 (some n5))])]:Ls)⟩,⟨false,false,1,([.nils]:Ls)⟩,⟨false,true,1,([(.data l6)]:Ls)⟩,⟨false,true,1,([(.int .i64 i7)]:Ls)⟩,⟨false,true,1,l0⟩,⟨false,true,2,([(.agg [(.data l8),(.data l9)])]:Ls)⟩,⟨false,false,1,([(.fn (.func yav) [] [(.ptr 4 1 0 0)])]:Ls)⟩,⟨false,true,1,l1⟩])
def ytT (Q:Qx):Ls→Ls→Ls→Nat→Nat→Nat→Ls→Int→Ls→Ls→Int→Int→Int→Int→Int→Int→Prop:=(fun l0 l1 l2 n3 n4 n5 l6 i7 l8 l9 i10 i11 i12 i13 i14 i15=>Q .ret [] [⟨false,true,1,([(.data l2)]:Ls)⟩,⟨false,false,1,([(.agg [(.own 5 0 n3 n4 (some n5))])]:Ls)⟩,⟨false,false,1,([.nils]:Ls)⟩,⟨false,true,1,([(.data l6)]:Ls)⟩,⟨false,true,1,([(.int .i64 i7)]:Ls)⟩,⟨false,true,1,l0⟩,⟨false,true,2,([(.agg [(.data l8),(.data l9)])]:Ls)⟩,⟨false,false,1,([(.fn (.func yav) [] [(.ptr 4 1 0 0)])]:Ls)⟩,⟨false,true,1,l1⟩,⟨false,true,6,([(.agg [(.int .i64 i10),(.int .i64 i11),(.int .i64 i12),(.int .i64 i13),(.int .i64 i14),(.int .i64 i15)])]:Ls)⟩])
def ytU (Q:Qx):Ls→Ls→Ls→Ls→Nat→Nat→Nat→Ls→Int→Ls→Ls→Int→Int→Int→Int→Int→Int→Ls→Ls→Int→Int→Int→Int→Int→Int→Nat→Nat→Nat→Int→Int→Ls→Ls→Int→Bool→Ls→Ls→Int→Int→Int→Int→Int→Int→Bool→Bool→Prop:=(fun l0 l1 l2 l3 n4 n5 n6 l9 i10 l11 l12 i13 i14 i15 i16 i17 i18 l19 l20 i21 i22 i23 i24 i25 i26 n27 n28 n29 i30 i31 l32 l33 i34 b35 l36 l37 i38 i39 i40 i41 i42 i43 b44 b45=>Q (.brk 0 0) [(0,.v (.fn (.yield 0) [] [])),(1,.v (.ptr 6 1 0 0)),(2,.v (.ptr 7 1 0 0)),(4,.v (.own 8 0 n27 n28 (some n29))),(6,.box (.agg [(.int .i64 i30),(.int .i64 i31)])),(7,.box (.agg [(.data l32),(.data l33)])),(8,.v (.ptr 9 1 0 0)),(9,.v (.int .i64 i34)),(37,.v (.bool b35)),(41,.v (.fn (.yield 0) [] [])),(42,.v (.agg [(.data l36),(.data l37)])),(43,.v (.agg [(.int .i64 i38),(.int .i64 i39),(.int .i64 i40),(.int .i64 i41),(.int .i64 i42),(.int .i64 i43)])),(44,.v (.bool b44)),(45,.v (.bool b45))] [⟨false,true,1,([(.data l3)]:Ls)⟩,⟨false,false,1,([(.agg [(.own 5 0 n4 n5 (some n6))])]:Ls)⟩,⟨false,false,1,([(.own 12 0 (List.length l2) (List.length l2) none)]:Ls)⟩,⟨false,true,1,([(.data l9)]:Ls)⟩,⟨false,true,1,([(.int .i64 i10)]:Ls)⟩,⟨false,true,1,l0⟩,⟨false,true,2,([(.agg [(.data l11),(.data l12)])]:Ls)⟩,⟨false,false,1,([(.fn (.func yav) [] [(.ptr 4 1 0 0)])]:Ls)⟩,⟨false,true,1,l1⟩,⟨false,true,6,([(.agg [(.int .i64 i13),(.int .i64 i14),(.int .i64 i15),(.int .i64 i16),(.int .i64 i17),(.int .i64 i18)])]:Ls)⟩,⟨false,true,2,([(.agg [(.data l19),(.data l20)])]:Ls)⟩,⟨false,true,6,([(.agg [(.int .i64 i21),(.int .i64 i22),(.int .i64 i23),(.int .i64 i24),(.int .i64 i25),(.int .i64 i26)])]:Ls)⟩,⟨false,true,6,l2⟩])
def yma (Q:Qx):Ls→Ls→Ls→Ls→Nat→Nat→Nat→Ls→Int→Ls→Ls→Nat→Nat→Nat→Int→Int→Bool→Prop:=(fun l0 l1 l2 l3 n4 n5 n6 l9 i10 l11 l12 n13 n14 n15 i16 i17 b18=>Q (.exit 2) [(0,.v (.fn (.yield 0) [] [])),(1,.v (.ptr 6 1 0 0)),(2,.v (.ptr 7 1 0 0)),(4,.v (.own 8 0 n13 n14 (some n15))),(6,.box (.agg [(.int .i64 i16),(.int .i64 i17)])),(27,.v (.bool b18))] [⟨false,true,1,([(.data l3)]:Ls)⟩,⟨false,false,1,([(.agg [(.own 5 0 n4 n5 (some n6))])]:Ls)⟩,⟨false,false,1,([(.own 12 0 (List.length l2) (List.length l2) none)]:Ls)⟩,⟨false,true,1,([(.data l9)]:Ls)⟩,⟨false,true,1,([(.int .i64 i10)]:Ls)⟩,⟨false,true,1,l0⟩,⟨false,true,2,([(.agg [(.data l11),(.data l12)])]:Ls)⟩,⟨false,false,1,([(.fn (.func yav) [] [(.ptr 4 1 0 0)])]:Ls)⟩,⟨false,true,1,l1⟩,⟨false,true,6,([]:Ls)⟩,⟨false,true,2,([]:Ls)⟩,⟨false,true,6,([]:Ls)⟩,⟨false,true,6,l2⟩])
def ymb (Q:Qx):Ls→Ls→Ls→Ls→Nat→Nat→Nat→Ls→Int→Ls→Ls→Int→Int→Int→Int→Int→Int→Prop:=(fun l0 l1 l2 l3 n4 n5 n6 l9 i10 l11 l12 i13 i14 i15 i16 i17 i18=>Q .ret [] [⟨false,true,1,([(.data l3)]:Ls)⟩,⟨false,false,1,([(.agg [(.own 5 0 n4 n5 (some n6))])]:Ls)⟩,⟨false,false,1,([(.own 12 0 (List.length l2) (List.length l2) none)]:Ls)⟩,⟨false,true,1,([(.data l9)]:Ls)⟩,⟨false,true,1,([(.int .i64 i10)]:Ls)⟩,⟨false,true,1,l0⟩,⟨false,true,2,([(.agg [(.data l11),(.data l12)])]:Ls)⟩,⟨false,false,1,([(.fn (.func yav) [] [(.ptr 4 1 0 0)])]:Ls)⟩,⟨false,true,1,l1⟩,⟨false,true,6,([]:Ls)⟩,⟨false,true,2,([]:Ls)⟩,⟨false,true,6,([]:Ls)⟩,⟨false,true,6,l2⟩,⟨false,true,6,([(.agg [(.int .i64 i13),(.int .i64 i14),(.int .i64 i15),(.int .i64 i16),(.int .i64 i17),(.int .i64 i18)])]:Ls)⟩])
end Go.Pf.Vc
