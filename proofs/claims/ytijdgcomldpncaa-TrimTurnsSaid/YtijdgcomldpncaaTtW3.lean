/- Part 3 of what the statement rests on: a verified evaluator over pure values, the conditions of the program's functions, and their plain laws. -/
import Derived.Test.YtijdgcomldpncaaTtW2
namespace Go.Pf.Vc
open Go Go.Pf
def yAb:TFn:=⟨3,[.cell 6 true 2,.tmp 7],(.seq (oQ [O 3 (.boxL t0),O 4 (.boxL t1),O 5 (.boxH true 2 t2),O 6 (.allocL (.agg [(.int .i64 (0)),(.int .i64 (0))])),O 7 (.mv (I 0))] [0,1,2,7]) (.seq (.seq (oQ [oT 12 3 3,O 13 (.call (.f ybd) [t12]),M 8 13] [12,13]) (.seq (oQ [M 14 8,O 15 (.bin .neq t14 (I 0))] [14]) (.cond t15 (.seq (oQ [O 16 (.build [(.int .i64 (0)),(.int .i64 (0))] []),M 17 8,⟨none,(.store 2 t6 t16),none⟩,M 7 17] [3,4,5,8,15,16,17]) .ret) .skip))) (.seq (.seq (.ops [oT 18 3 3,oT 19 2 4,O 20 (.call (.f ycg) [t18,t19]),O 21 (.un .not t20),M 22 21,⟨some 23,(.load true 2 t5),some (22,false)⟩,⟨some 24,(.call (.f ybc) [t23]),some (22,false)⟩,⟨some 25,(.bin .neq t24 (I 0)),some (22,false)⟩,O 26 (.pick t22 (.c (.bool true)) t25),M 27 26,⟨some 28,(.fad 0 t5),some (27,false)⟩,⟨some 29,(.load false 1 t28),some (27,false)⟩,⟨some 30,(.bin .lss t29 (I 0)),some (27,false)⟩,O 31 (.pick t27 (.c (.bool true)) t30)] [⟨5,(.agg [.i .i64,.i .i64]),0⟩,⟨11,(.agg [.i .i64,.i .i64]),0⟩] [] [8,15,18,19,20,21,22,23,24,25,26,27,28,29,30]) (.cond t31 (.seq (oQ [O 32 (.build [(.int .i64 (0)),(.int .i64 (0))] []),⟨none,(.store 2 t6 t32),none⟩,O 7 (.mv (I 2))] [3,4,5,31,32]) .ret) .skip)) (.seq (.seq (.ops [O 33 (.fad 0 t5),oF 34 1 33,O 35 (.bin .eql t34 (I 0))] [⟨1,(.agg [.i .i64,.i .i64]),0⟩] [] [31,33,34]) (.cond t35 (.seq (oQ [oT 36 2 4,⟨none,(.store 2 t6 t36),none⟩,O 7 (.mv (I 0))] [3,4,5,35,36]) .ret) .skip)) (.seq (oQ [O 9 (.allocH true 2 (.agg [(.int .i64 (0)),(.int .i64 (0))]))] [35]) (.seq (.ops [O 10 (.allocH true 1 (.int .i64 (0))),⟨none,(.store 1 t10 (I 6)),none⟩] [⟨1,(.one (.i .i64)),0⟩] [] []) (.seq (oQ [oT 37 3 3,oT 38 2 4,O 39 (.mkFn (.func ydT) [] [t5,t10,t9]),O 40 (.call (.f ylH) [t37,t38,t39]),M 11 40] [3,4,5,37,38,39,40]) (.seq (.seq (oQ [M 41 11,O 42 (.bin .neq t41 (I 0))] [41]) (.cond t42 (.ops [M 43 11,⟨none,(.store 1 t10 t43),none⟩] [⟨1,(.one (.i .i64)),0⟩] [] [11,42,43]) .skip)) (.seq (.seq (.ops [oF 44 1 10,O 45 (.bin .neq t44 (I 0))] [⟨0,(.one (.i .i64)),0⟩] [] [11,42,44]) (.cond t45 (.seq (.ops [O 46 (.build [(.int .i64 (0)),(.int .i64 (0))] []),oF 47 1 10,⟨none,(.store 2 t6 t46),none⟩,M 7 47] [⟨1,(.one (.i .i64)),0⟩] [(0,1),(1,2)] [9,10,45,46,47]) .ret) .skip)) (.seq (.ops [oT 48 2 9,⟨none,(.store 2 t6 t48),none⟩,O 7 (.mv (I 0))] [⟨0,(.agg [.i .i64,.i .i64]),0⟩] [] [9,10,45,48]) .ret))))))))))⟩
def ypM:TFn:=⟨4,[.cell 8 true 2,.tmp 9],(.seq (oQ [O 4 (.boxL t0),O 6 (.boxL t2),O 7 (.boxL t3),O 8 (.allocL (.agg [(.int .i64 (0)),(.int .i64 (0))])),O 9 (.mv (I 0))] [0,2,3,9]) (.seq (.ops [O 10 (.fad 0 t4),O 11 (.fad 0 t10),oF 12 1 11,M 13 1,O 14 (.iad 3 t12 t13),oT 15 3 14,oT 16 2 6,oT 17 2 7,O 18 (.call (.f ygI) [t15,t16,t17]),O 19 (.ext t18 0),O 20 (.ext t18 1),⟨none,(.store 2 t8 t19),none⟩,M 9 20] [⟨2,(.agg [.d,.d]),0⟩,⟨4,(.agg [.i .i64,.d,.d]),0⟩,⟨5,(.agg [.i .i64,.d,.d]),0⟩] [(0,3),(1,3),(2,3),(0,6),(1,6),(2,6),(3,6),(4,6),(5,6),(0,7),(1,7),(2,7),(3,7),(4,7),(5,7),(6,7),(9,10)] [1,4,6,7,10,11,12,13,14,15,16,17,18,19,20]) .ret))⟩
def yjm:TFn:=⟨3,[.cell 6 true 2,.cell 7 true 2,.tmp 8],(.seq (oQ [O 3 (.boxL t0),O 4 (.boxL t1),O 6 (.allocL (.agg [.nils,.nils])),O 7 (.allocL (.agg [(.int .i64 (0)),(.int .i64 (0))])),O 8 (.mv (I 0))] [0,1,8]) (.seq (.seq (.ops [O 13 (.fad 0 t3),oT 14 2 13,O 15 (.call (.f ycj) [t14]),M 9 15] [⟨1,(.agg [.d,.d]),0⟩] [] [13,14,15]) (.seq (oQ [M 16 9,O 17 (.bin .neq t16 (I 0))] [16]) (.cond t17 (.seq (oQ [O 18 (.build [.nils,.nils] []),O 19 (.build [(.int .i64 (0)),(.int .i64 (0))] []),M 20 9,⟨none,(.store 2 t6 t18),none⟩,⟨none,(.store 2 t7 t19),none⟩,M 8 20] [2,3,4,9,17,18,19,20]) .ret) .skip))) (.seq (.seq (.ops [oT 21 2 3,O 22 (.fad 0 t4),oF 23 1 22,O 24 (.call (.f ybj) [t21,t23]),O 25 (.un .not t24)] [⟨2,(.agg [.i .i64,.i .u8,.i .i64,.i .i64,.i .i64,.i .i64,.i .i64,.i .i64]),0⟩] [] [9,17,21,22,23,24]) (.cond t25 (.seq (oQ [O 26 (.build [.nils,.nils] []),O 27 (.build [(.int .i64 (0)),(.int .i64 (0))] []),⟨none,(.store 2 t6 t26),none⟩,⟨none,(.store 2 t7 t27),none⟩,O 8 (.mv (I 2))] [2,3,4,25,26,27]) .ret) .skip)) (.seq (.ops [M 29 2,O 30 (.fad 0 t4),oF 31 1 30,O 32 (.fad 2 t4),oT 33 2 32,O 34 (.fad 4 t4),oT 35 2 34,O 36 (.call t29 [t31,t33,t35]),M 28 36,O 37 (.ext t28 0),O 38 (.ext t28 1),O 10 (.allocL (.agg [(.int .i64 (0)),(.int .i64 (0))])),⟨none,(.store 2 t10 t37),none⟩,M 11 38] [⟨2,(.agg [.i .i64,.i .u8,.i .i64,.i .i64,.i .i64,.i .i64,.i .i64,.i .i64]),0⟩,⟨4,(.agg [.i .i64,.i .u8,.i .i64,.i .i64,.i .i64,.i .i64,.i .i64,.i .i64]),0⟩,⟨6,(.agg [.i .i64,.i .u8,.i .i64,.i .i64,.i .i64,.i .i64,.i .i64,.i .i64]),0⟩] [] [2,25,28,29,30,31,32,33,34,35,36,37,38]) (.seq (.seq (oQ [M 39 11,O 40 (.bin .neq t39 (I 0))] [39]) (.cond t40 (.seq (oQ [O 41 (.build [.nils,.nils] []),O 42 (.build [(.int .i64 (0)),(.int .i64 (0))] []),M 43 11,⟨none,(.store 2 t6 t41),none⟩,⟨none,(.store 2 t7 t42),none⟩,M 8 43] [3,4,10,11,40,41,42,43]) .ret) .skip)) (.seq (.seq (.ops [O 44 (.fad 0 t3),O 45 (.fad 1 t44),oF 46 1 45,O 47 (.len t46),O 48 (.bin .geq t47 (I 2000))] [⟨2,(.agg [.d,.d]),0⟩] [] [11,40,44,45,46,47]) (.cond t48 (.seq (oQ [O 49 (.build [.nils,.nils] []),O 50 (.build [(.int .i64 (0)),(.int .i64 (0))] []),⟨none,(.store 2 t6 t49),none⟩,⟨none,(.store 2 t7 t50),none⟩,O 8 (.mv (I 4))] [3,4,10,48,49,50]) .ret) .skip)) (.seq (.ops [oT 51 2 10,O 52 (.fad 6 t4),⟨none,(.store 2 t52 t51),none⟩] [⟨2,(.agg [.i .i64,.i .u8,.i .i64,.i .i64,.i .i64,.i .i64,.i .i64,.i .i64]),0⟩] [] [48,51,52]) (.seq (.ops [O 53 (.fad 0 t3),O 54 (.fad 1 t53),oF 55 1 54,O 56 (.len t55),O 57 (.bin .add t56 (I 1)),O 58 (.mkSl true 8 64 (.agg [(.int .i64 (0)),(.int .u8 (0)),(.int .i64 (0)),(.int .i64 (0)),(.int .i64 (0)),(.int .i64 (0)),(.int .i64 (0)),(.int .i64 (0))]) (I 0) t57),M 12 58] [⟨2,(.agg [.d,.d]),0⟩] [] [53,54,55,56,57,58]) (.seq (.ops [O 59 (.fad 0 t3),O 60 (.fad 0 t59),oF 61 1 60,O 62 (.call (.f ycZ) [t61]),M 63 12,O 64 (.fad 0 t3),O 65 (.fad 1 t64),oF 66 1 65,O 67 (.app true 8 64 t63 t66),oT 68 8 4,O 69 (.buildD 8 (.agg [(.int .i64 (0)),(.int .u8 (0)),(.int .i64 (0)),(.int .i64 (0)),(.int .i64 (0)),(.int .i64 (0)),(.int .i64 (0)),(.int .i64 (0))]) 1 [(0,t68)]),O 70 (.app true 8 64 t67 t69),O 71 (.build [.nils,.nils] [(0,1,t62),(1,1,t70)]),oT 72 2 10,⟨none,(.store 2 t6 t71),none⟩,⟨none,(.store 2 t7 t72),none⟩,O 8 (.mv (I 0))] [⟨2,(.agg [.d,.d]),0⟩,⟨7,(.agg [.d,.d]),0⟩] [(0,4),(1,4),(2,4),(3,4),(0,5),(1,5),(2,5),(3,5),(4,5),(0,6),(1,6),(2,6),(3,6),(4,6),(0,7),(1,7),(2,7),(3,7),(4,7),(0,9),(1,9),(2,9),(3,9),(4,9),(5,9),(6,9),(7,9),(8,9),(0,10),(1,10),(2,10),(3,10),(4,10),(5,10),(6,10),(7,10),(8,10),(0,13),(1,13),(2,13),(3,13),(4,13),(5,13),(6,13),(7,13),(8,13),(9,13),(10,13),(11,13),(12,13),(13,14)] [3,4,10,12,59,60,61,62,63,64,65,66,67,68,69,70,71,72]) .ret)))))))))⟩
def yCd:TFn:=⟨4,[.cell 8 true 2,.cell 9 true 2,.tmp 10],(.seq (oQ [O 4 (.boxL t0),O 6 (.boxL t2),O 7 (.boxL t3),O 8 (.allocL (.agg [.nils,.nils])),O 9 (.allocL (.agg [(.int .i64 (0)),(.int .i64 (0))])),O 10 (.mv (I 0))] [0,2,3,10]) (.seq (oQ [oT 12 2 4,O 13 (.build [.nils,.nils] [(0,2,t12)]),O 11 (.allocL (.agg [.nils,.nils])),⟨none,(.store 2 t11 t13),none⟩] [4,12,13]) (.seq (oQ [oT 14 2 11,M 15 1,oT 16 2 6,oT 17 2 7,O 18 (.build [(.int .i64 (0)),(.int .u8 (0)),(.int .i64 (0)),(.int .i64 (0)),(.int .i64 (0)),(.int .i64 (0)),(.int .i64 (0)),(.int .i64 (0))] [(0,1,t15),(1,1,(.c (.int .u8 (2)))),(2,2,t16),(4,2,t17)]),oT 19 2 11,O 20 (.mkFn (.func yc1) [t19] []),O 21 (.call (.f ydn) [t14,t18,t20]),O 22 (.ext t21 0),O 23 (.ext t21 1),O 24 (.ext t21 2),⟨none,(.store 2 t8 t22),none⟩,⟨none,(.store 2 t9 t23),none⟩,M 10 24] [1,6,7,11,14,15,16,17,18,19,20,21,22,23,24]) .ret)))⟩
def yuc:TFn:=⟨4,[.tmp 5],(.seq (oQ [O 5 (.mv (I 0))] [5]) (.seq (.ops [oT 10 2 1,M 11 0,oT 12 2 2,oT 13 2 1,M 14 0,O 15 (.call (.f yeq) [t13,t14]),O 16 (.call (.f yhN) [t10,t11,t12,t15]),M 9 16,O 17 (.ext t9 0),O 18 (.ext t9 1),O 19 (.ext t9 2),O 6 (.allocL (.agg [.nils,.nils])),O 7 (.allocL (.agg [(.int .i64 (0)),(.int .i64 (0))])),⟨none,(.store 2 t6 t17),none⟩,⟨none,(.store 2 t7 t18),none⟩,M 8 19] [] [(0,1),(0,2),(1,2),(0,3),(1,3),(2,3),(0,4),(1,4),(2,4),(3,4),(0,5),(1,5),(2,5),(8,9),(8,10),(9,10),(0,11),(1,11),(2,11),(3,11),(4,11),(5,11),(6,11),(7,11),(8,11),(9,11),(10,11),(0,12),(1,12),(2,12),(3,12),(4,12),(5,12),(6,12),(7,12),(8,12),(9,12),(10,12),(11,12),(9,13),(10,13),(10,14)] [2,9,10,11,12,13,14,15,16,17,18,19]) (.seq (.seq (oQ [M 20 8,O 21 (.bin .eql t20 (I 0))] [20]) (.cond t21 (.ops [oT 22 2 6,oT 23 2 7,M 24 0,⟨none,(.store 2 t1 t22),none⟩,O 25 (.fad 3 t3),⟨none,(.store 2 t25 t23),none⟩,O 26 (.fad 0 t3),⟨none,(.store 1 t26 t24),none⟩] [] [(0,1),(0,2),(1,2),(1,3),(2,3),(2,4),(2,5)] [0,1,3,6,7,21,22,23,24,25,26]) .skip)) (.seq (oQ [M 27 8,M 5 27] [0,1,3,6,7,8,21,27]) .ret))))⟩
def t100:Opd:=.t 100
def yj4:TCode:=(.seq (oQ [oX 45 .lss 44 43] []) (.seq (.cond t45 .skip (.exit 0)) (.seq (.block 1 (.seq (.ops [M 46 44,O 47 (.iad 1 t42 t44),oF 48 1 47,M 11 46,M 12 48] [⟨1,(.one (.i .i64)),0⟩,⟨2,(.one (.i .i64)),0⟩] [] [45,46,47,48]) (.seq (.ops [O 49 (.fad 1 t3),oF 50 1 49,M 51 11,O 52 (.bin .add t51 (I 1)),O 53 (.iad 1 t50 t52),oF 54 1 53,O 55 (.call (.f yaL) [t54]),O 13 (.allocL (.agg [(.int .i64 (0)),(.int .i64 (0))])),⟨none,(.store 2 t13 t55),none⟩] [⟨1,(.agg [.i .i64,.d,.d]),0⟩,⟨4,(.one (.i .i64)),0⟩,⟨5,(.one (.i .i64)),0⟩] [] [11,49,50,51,52,53,54,55]) (.seq (.seq (oQ [oT 56 2 5,oT 57 2 13,O 58 (.call (.f ya9) [t56,t57])] [56,57]) (.cond t58 (oQ [oT 59 2 5,⟨none,(.store 2 t13 t59),none⟩] [58,59]) .skip)) (.seq (.seq (oQ [M 60 12,O 61 (.bin .eql t60 (I 0)),M 62 61,⟨some 63,(.load true 2 t10),some (62,false)⟩,⟨some 64,(.load true 2 t13),some (62,false)⟩,⟨some 65,(.call (.f ya9) [t63,t64]),some (62,false)⟩,⟨some 66,(.un .not t65),some (62,false)⟩,O 67 (.pick t62 (.c (.bool true)) t66)] [58,60,61,62,63,64,65,66]) (.cond t67 (.seq (.seq (oQ [oT 68 2 10,oT 69 2 13,O 70 (.call (.f ya9) [t68,t69])] [12,67,68,69]) (.cond t70 (oQ [oT 71 2 13,⟨none,(.store 2 t10 t71),none⟩] [13,70,71]) .skip)) (.exit 1)) .skip)) (.seq (oQ [oT 73 2 13,oT 74 2 10,O 75 (.call (.f yc0) [t73,t74]),M 72 75,O 76 (.ext t72 0),O 77 (.ext t72 1),O 14 (.allocL (.agg [(.int .i64 (0)),(.int .i64 (0))])),⟨none,(.store 2 t14 t76),none⟩,M 15 77] [67,72,73,74,75,76,77]) (.seq (.seq (oQ [M 78 15,O 79 (.bin .neq t78 (I 0))] [78]) (.cond t79 (.seq (oQ [O 80 (.build [(.int .i64 (0)),(.int .i64 (0))] []),M 81 15,⟨none,(.store 2 t6 t80),none⟩,M 7 81] [3,5,9,10,12,13,14,15,42,43,44,79,80,81]) .ret) .skip)) (.seq (.ops [oT 83 2 14,M 84 12,O 85 (.call (.f yaL) [t84]),O 86 (.call (.f ybJ) [t83,t85]),M 82 86,O 87 (.ext t82 0),O 88 (.ext t82 1),O 16 (.allocL (.agg [(.int .i64 (0)),(.int .i64 (0))])),⟨none,(.store 2 t16 t87),none⟩,M 15 88] [] [(0,1),(0,2),(5,6),(0,7),(1,7),(2,7),(3,7),(4,7),(5,7),(6,7),(6,8)] [12,14,79,82,83,84,85,86,87,88]) (.seq (.seq (oQ [M 89 15,O 90 (.bin .neq t89 (I 0))] [89]) (.cond t90 (.seq (oQ [O 91 (.build [(.int .i64 (0)),(.int .i64 (0))] []),M 92 15,⟨none,(.store 2 t6 t91),none⟩,M 7 92] [3,5,9,10,13,15,16,42,43,44,90,91,92]) .ret) .skip)) (.seq (.seq (oQ [oT 94 2 9,oT 95 2 16,O 96 (.call (.f yck) [t94,t95]),M 93 96,O 97 (.ext t93 0),O 98 (.ext t93 1),⟨none,(.store 2 t9 t97),none⟩,M 15 98] [16,90,93,94,95,96,97,98]) (.seq (oQ [M 99 15,O 100 (.bin .neq t99 (I 0))] [99]) (.cond t100 (.seq (oQ [O 101 (.build [(.int .i64 (0)),(.int .i64 (0))] []),M 102 15,⟨none,(.store 2 t6 t101),none⟩,M 7 102] [3,5,9,10,13,15,42,43,44,100,101,102]) .ret) .skip))) (oQ [oT 103 2 13,⟨none,(.store 2 t10 t103),none⟩] [13,15,100,103]))))))))))) (oQ [O 104 (.bin .add t44 (I 1)),M 44 104] [13,70,104]))))
def yxy:TFn:=⟨3,[.cell 6 true 2,.tmp 7],(.seq (oQ [O 3 (.boxL t0),O 4 (.boxL t1),O 5 (.boxL t2),O 6 (.allocL (.agg [(.int .i64 (0)),(.int .i64 (0))])),O 7 (.mv (I 0))] [0,1,2,7]) (.seq (.seq (oQ [oT 17 3 3,O 18 (.call (.f ybd) [t17]),M 8 18] [17,18]) (.seq (oQ [M 19 8,O 20 (.bin .neq t19 (I 0))] [19]) (.cond t20 (.seq (oQ [O 21 (.build [(.int .i64 (0)),(.int .i64 (0))] []),M 22 8,⟨none,(.store 2 t6 t21),none⟩,M 7 22] [3,4,5,8,20,21,22]) .ret) .skip))) (.seq (.seq (oQ [oT 23 3 3,oT 24 2 4,O 25 (.call (.f ycg) [t23,t24]),O 26 (.un .not t25),M 27 26,⟨some 28,(.load true 3 t3),some (27,false)⟩,⟨some 29,(.load true 2 t5),some (27,false)⟩,⟨some 30,(.call (.f ycg) [t28,t29]),some (27,false)⟩,⟨some 31,(.un .not t30),some (27,false)⟩,O 32 (.pick t27 (.c (.bool true)) t31),M 33 32,⟨some 34,(.load true 2 t5),some (33,false)⟩,⟨some 35,(.load true 2 t4),some (33,false)⟩,⟨some 36,(.call (.f ya9) [t34,t35]),some (33,false)⟩,O 37 (.pick t33 (.c (.bool true)) t36)] [8,20,23,24,25,26,27,28,29,30,31,32,33,34,35,36]) (.cond t37 (.seq (oQ [O 38 (.build [(.int .i64 (0)),(.int .i64 (0))] []),⟨none,(.store 2 t6 t38),none⟩,O 7 (.mv (I 2))] [3,4,5,37,38]) .ret) .skip)) (.seq (oQ [O 39 (.call (.f yaL) [(I 0)]),O 9 (.allocL (.agg [(.int .i64 (0)),(.int .i64 (0))])),⟨none,(.store 2 t9 t39),none⟩] [37,39]) (.seq (oQ [oT 40 2 4,O 10 (.allocL (.agg [(.int .i64 (0)),(.int .i64 (0))])),⟨none,(.store 2 t10 t40),none⟩] [4,40]) (.seq (.seq (.ops [O 41 (.fad 2 t3),oF 42 1 41,O 43 (.len t42),O 44 (.mv (I 0))] [⟨1,(.agg [.i .i64,.d,.d]),0⟩] [] [41]) (.block 0 (.loop 85339800 yj4))) (.seq (oQ [oT 105 2 9,⟨none,(.store 2 t6 t105),none⟩,O 7 (.mv (I 0))] [3,5,9,10,42,43,44,45,105]) .ret)))))))⟩
def yoP:TFn:=⟨4,[.cell 8 true 2,.tmp 9],(.seq (oQ [O 4 (.boxL t0),O 6 (.boxL t2),O 7 (.boxL t3),O 8 (.allocL (.agg [(.int .i64 (0)),(.int .i64 (0))])),O 9 (.mv (I 0))] [0,2,3,9]) (.seq (.ops [O 10 (.fad 0 t4),O 11 (.fad 0 t10),oF 12 1 11,M 13 1,O 14 (.iad 3 t12 t13),oT 15 3 14,oT 16 2 6,oT 17 2 7,O 18 (.call (.f yfH) [t15,t16,t17]),O 19 (.ext t18 0),O 20 (.ext t18 1),⟨none,(.store 2 t8 t19),none⟩,M 9 20] [⟨2,(.agg [.d,.d]),0⟩,⟨4,(.agg [.i .i64,.d,.d]),0⟩,⟨5,(.agg [.i .i64,.d,.d]),0⟩] [(0,3),(1,3),(2,3),(0,6),(1,6),(2,6),(3,6),(4,6),(5,6),(0,7),(1,7),(2,7),(3,7),(4,7),(5,7),(6,7),(9,10)] [1,4,6,7,10,11,12,13,14,15,16,17,18,19,20]) .ret))⟩
def yAc:TFn:=⟨4,[.cell 8 true 2,.cell 9 true 2,.tmp 10],(.seq (oQ [O 4 (.boxL t0),O 6 (.boxL t2),O 7 (.boxL t3),O 8 (.allocL (.agg [.nils,.nils])),O 9 (.allocL (.agg [(.int .i64 (0)),(.int .i64 (0))])),O 10 (.mv (I 0))] [0,2,3,10]) (.seq (oQ [oT 12 2 4,O 13 (.build [.nils,.nils] [(0,2,t12)]),O 11 (.allocL (.agg [.nils,.nils])),⟨none,(.store 2 t11 t13),none⟩] [4,12,13]) (.seq (oQ [oT 14 2 11,M 15 1,oT 16 2 6,oT 17 2 7,O 18 (.build [(.int .i64 (0)),(.int .u8 (0)),(.int .i64 (0)),(.int .i64 (0)),(.int .i64 (0)),(.int .i64 (0)),(.int .i64 (0)),(.int .i64 (0))] [(0,1,t15),(1,1,(.c (.int .u8 (1)))),(2,2,t16),(4,2,t17)]),oT 19 2 11,O 20 (.mkFn (.func ycC) [t19] []),O 21 (.call (.f ydn) [t14,t18,t20]),O 22 (.ext t21 0),O 23 (.ext t21 1),O 24 (.ext t21 2),⟨none,(.store 2 t8 t22),none⟩,⟨none,(.store 2 t9 t23),none⟩,M 10 24] [1,6,7,11,14,15,16,17,18,19,20,21,22,23,24]) .ret)))⟩
def yAd:TFn:=⟨2,[.tmp 4],(.seq (oQ [O 2 (.boxL t0),O 3 (.boxL t1),O 4 (.mv (.c (.bool false)))] [0,1,4]) (.seq (oQ [oT 8 2 2,oT 9 2 3,O 10 (.call (.f yea) [t8,t9]),M 7 10,O 11 (.ext t7 0),O 12 (.ext t7 1),M 5 11,M 6 12] [2,3,6,7,8,9,10,11,12]) (.seq (oQ [M 13 5,O 14 (.bin .gtr t13 (I 0)),M 4 14] [5,13,14]) .ret)))⟩
def yj5:TCode:=(.seq (oQ [oX 32 .lss 31 30] []) (.seq (.cond t32 .skip (.exit 0)) (.seq (.block 1 (.seq (.ops [M 33 31,O 34 (.iad 1 t29 t31),oF 35 1 34,M 11 33,M 12 35] [⟨1,(.one (.i .i64)),0⟩,⟨2,(.one (.i .i64)),0⟩] [] [32,33,34,35]) (.seq (.seq (oQ [M 36 1,O 37 (.len t36),O 38 (.bin .eql t37 (I 1))] [36,37]) (.cond t38 (.exit 0) .skip)) (.seq (.seq (oQ [M 39 11,O 40 (.bin .gtr t39 (I 0))] [11,38,39]) (.cond t40 (.seq (.ops [oT 42 2 3,M 43 12,oT 44 2 5,O 45 (.fad 3 t9),oT 46 2 45,O 47 (.call (.f ygJ) [t42,t43,t44,t46]),M 41 47,O 48 (.ext t41 0),O 49 (.ext t41 1),O 50 (.ext t41 2),O 13 (.allocL (.agg [.nils,.nils])),O 14 (.allocL (.agg [(.int .i64 (0)),(.int .i64 (0))])),⟨none,(.store 2 t13 t48),none⟩,⟨none,(.store 2 t14 t49),none⟩,M 15 50] [⟨0,(.agg [.d,.d]),0⟩,⟨2,(.agg [.i .i64,.i .i64]),0⟩,⟨4,(.agg [.i .i64,.i .i64,.i .i64,.i .i64,.i .i64,.i .i64]),0⟩] [] [40,41,42,43,44,45,46,47,48,49,50]) (.seq (.seq (oQ [M 51 15,O 52 (.bin .neq t51 (I 0))] [51]) (.cond t52 (.seq (oQ [O 53 (.build [.nils,.nils] []),O 54 (.build [(.int .i64 (0)),(.int .i64 (0)),(.int .i64 (0)),(.int .i64 (0)),(.int .i64 (0)),(.int .i64 (0))] []),M 55 15,⟨none,(.store 2 t6 t53),none⟩,⟨none,(.store 6 t7 t54),none⟩,M 8 55] [1,3,5,9,10,12,13,14,15,29,30,31,52,53,54,55]) .ret) .skip)) (.seq (.ops [oT 56 2 13,⟨none,(.store 2 t3 t56),none⟩] [⟨1,(.agg [.d,.d]),0⟩] [] [13,15,52,56]) (.seq (.seq (.ops [oT 57 2 14,oT 58 2 3,M 59 12,O 60 (.call (.f yeq) [t58,t59]),O 61 (.call (.f ygK) [t57,t60]),O 62 (.un .not t61)] [⟨1,(.agg [.d,.d]),0⟩] [(0,1),(0,2),(1,2),(0,3)] [14,57,58,59,60,61]) (.cond t62 (.exit 1) .skip)) (.ops [O 63 (.fad 5 t9),oF 64 1 63,O 65 (.bin .add t64 (I 1)),O 66 (.fad 5 t9),⟨none,(.store 1 t66 t65),none⟩] [⟨1,(.agg [.i .i64,.i .i64,.i .i64,.i .i64,.i .i64,.i .i64]),0⟩,⟨4,(.agg [.i .i64,.i .i64,.i .i64,.i .i64,.i .i64,.i .i64]),0⟩] [] [62,63,64,65,66]))))) .skip)) (.seq (oQ [M 67 10,M 68 12,O 69 (.call t67 [t68]),M 16 69] [12,40,67,68,69]) (.seq (oQ [M 70 16,O 71 (.bin .neq t70 (I 0))] [70]) (.cond t71 (.seq (oQ [O 72 (.build [.nils,.nils] []),O 73 (.build [(.int .i64 (0)),(.int .i64 (0)),(.int .i64 (0)),(.int .i64 (0)),(.int .i64 (0)),(.int .i64 (0))] []),M 74 16,⟨none,(.store 2 t6 t72),none⟩,⟨none,(.store 6 t7 t73),none⟩,M 8 74] [1,3,5,9,10,16,29,30,31,71,72,73,74]) .ret) .skip))))))) (oQ [O 75 (.bin .add t31 (I 1)),M 31 75] [12,16,62,71,75]))))
def yxz:TFn:=⟨3,[.cell 6 true 2,.cell 7 true 6,.tmp 8],(.seq (oQ [O 3 (.boxH true 2 t0),O 5 (.boxH true 2 t2),O 6 (.allocL (.agg [.nils,.nils])),O 7 (.allocL (.agg [(.int .i64 (0)),(.int .i64 (0)),(.int .i64 (0)),(.int .i64 (0)),(.int .i64 (0)),(.int .i64 (0))])),O 8 (.mv (I 0))] [0,2,8]) (.seq (.ops [M 17 1,O 18 (.iad 1 t17 (I 0)),oF 19 1 18,oT 20 2 5,O 21 (.fad 0 t3),oF 22 1 21,O 23 (.iad 3 t22 (I 0)),O 24 (.fad 0 t23),oF 25 1 24,O 26 (.call (.f ycf) [t25]),O 27 (.build [(.int .i64 (0)),(.int .i64 (0)),(.int .i64 (0)),(.int .i64 (0)),(.int .i64 (0)),(.int .i64 (0))] [(0,1,t19),(1,2,t20),(3,2,t26)]),O 9 (.allocH true 6 (.agg [(.int .i64 (0)),(.int .i64 (0)),(.int .i64 (0)),(.int .i64 (0)),(.int .i64 (0)),(.int .i64 (0))])),⟨none,(.store 6 t9 t27),none⟩] [⟨1,(.one (.i .i64)),0⟩,⟨2,(.one (.i .i64)),0⟩,⟨3,(.agg [.i .i64,.i .i64]),0⟩,⟨5,(.agg [.d,.d]),0⟩,⟨6,(.agg [.i .i64,.d,.d]),0⟩,⟨8,(.agg [.i .i64,.d,.d]),0⟩,⟨12,(.agg [.i .i64,.i .i64,.i .i64,.i .i64,.i .i64,.i .i64]),0⟩] [(0,3),(1,3),(2,3),(0,4),(1,4),(2,4),(3,4),(0,5),(1,5),(2,5),(3,5),(0,6),(1,6),(2,6),(3,6),(0,7),(1,7),(2,7),(3,7),(0,8),(1,8),(2,8),(3,8),(0,9),(1,9),(2,9),(3,9),(0,11),(1,11),(2,11),(3,11),(4,11),(5,11),(6,11),(7,11),(8,11),(9,11),(10,11)] [17,18,19,20,21,22,23,24,25,26,27]) (.seq (oQ [O 28 (.mkFn (.func ydo) [] [t3,t5,t9]),M 10 28] [28]) (.seq (.seq (oQ [M 29 1,O 30 (.len t29),O 31 (.mv (I 0))] []) (.block 0 (.loop 62467600 yj5))) (.seq (.ops [oT 76 2 3,oT 77 6 9,⟨none,(.store 2 t6 t76),none⟩,⟨none,(.store 6 t7 t77),none⟩,O 8 (.mv (I 0))] [⟨0,(.agg [.d,.d]),0⟩,⟨1,(.agg [.i .i64,.i .i64,.i .i64,.i .i64,.i .i64,.i .i64]),0⟩] [(0,1),(1,2)] [1,3,5,9,10,11,12,29,30,31,32,38,76,77]) .ret)))))⟩
def yid:TFn:=⟨2,[.tmp 3],(.seq (oQ [O 3 (.mv (.c (.bool false)))] [3]) (.seq (oQ [M 4 0,O 5 (.fad 0 t1),oF 6 1 5,oX 7 .eql 4 6,M 3 7] [0,1,4,5,6,7]) .ret))⟩
def yj6:TCode:=(.seq (oQ [oX 9 .lss 8 7] []) (.seq (.cond t9 .skip (.exit 0)) (.seq (.block 1 (.seq (oQ [M 10 8,M 5 10] [9,10]) (.seq (.ops [M 11 1,M 12 0,M 13 5,O 14 (.iad 1 t12 t13),oF 15 1 14,O 16 (.call t11 [t15])] [⟨3,(.one (.i .i64)),0⟩,⟨4,(.one (.i .i64)),0⟩] [] [11,12,13,14,15]) (.cond t16 (.seq (oQ [M 17 5,M 4 17] [0,1,5,7,8,16,17]) .ret) .skip)))) (oQ [O 18 (.bin .add t8 (I 1)),M 8 18] [5,16,18]))))
def ylj:TFn:=⟨2,[.tmp 4],(.seq (oQ [O 4 (.mv (I 0))] [4]) (.seq (.seq (oQ [M 6 0,O 7 (.len t6),O 8 (.mv (I 0))] [6]) (.block 0 (.loop 91326000 yj6))) (.seq (oQ [O 4 (.mv (I (-1)))] [0,1,7,8,9]) .ret)))⟩
def yj7:TCode:=(.seq (.seq (oQ [M 16 6,M 17 0,O 18 (.len t17),oX 19 .lss 16 18] [16,17,18]) (.cond t19 .skip (.exit 0))) (.seq (.block 1 (.seq (.ops [M 22 0,M 23 6,O 24 (.iad 1 t22 t23),oF 25 1 24,M 7 25] [⟨2,(.one (.i .i64)),0⟩,⟨3,(.one (.i .i64)),0⟩] [] [19,22,23,24,25]) (.seq (oQ [M 26 1,M 27 7,O 28 (.call t26 [t27]),O 29 (.un .not t28)] [26,27,28]) (.cond t29 (.seq (.ops [M 30 0,M 31 5,M 32 7,O 33 (.iad 1 t30 t31),⟨none,(.store 1 t33 t32),none⟩] [⟨3,(.one (.i .i64)),0⟩,⟨4,(.one (.i .i64)),0⟩] [] [7,29,30,31,32,33]) (oQ [M 34 5,O 35 (.bin .add t34 (I 1)),M 5 35] [34,35])) .skip)))) (oQ [M 20 6,O 21 (.bin .add t20 (I 1)),M 6 21] [7,20,21,29])))
def yj8:TFn:=⟨2,[.tmp 4],(.seq (oQ [O 4 (.mv (.c .nils))] [4]) (.seq (oQ [M 8 0,M 9 1,O 10 (.call (.f ydX) [t8,t9]),M 5 10] [8,9,10]) (.seq (.seq (oQ [M 11 5,O 12 (.bin .eql t11 (I (-1)))] [11]) (.cond t12 (.seq (oQ [M 13 0,M 4 13] [0,1,5,12,13]) .ret) .skip)) (.seq (.seq (oQ [M 14 5,O 15 (.bin .add t14 (I 1)),M 6 15] [12,14,15]) (.block 0 (.loop 55401000 yj7))) (.seq (oQ [M 36 0,M 37 5,O 38 (.slc 1 t36 (some t37) none none),⟨none,(.clr true 1 (.int .i64 (0)) t38),none⟩] [1,6,19,36,37,38]) (.seq (oQ [M 39 0,M 40 5,O 41 (.slc 1 t39 none (some t40) none),M 4 41] [0,5,39,40,41]) .ret))))))⟩
def yCe:TCode:=(.seq (oQ [oX 17 .lss 16 15] []) (.seq (.cond t17 .skip (.exit 0)) (.seq (.block 1 (.seq (oQ [M 18 16,M 5 18] [17,18]) (.ops [M 19 4,M 20 5,M 21 5,O 22 (.iad 1 t19 t20),⟨none,(.store 1 t22 t21),none⟩] [⟨3,(.one (.i .i64)),0⟩,⟨4,(.one (.i .i64)),0⟩] [] [5,19,20,21,22]))) (oQ [O 23 (.bin .add t16 (I 1)),M 16 23] [23]))))
def yCf:TCode:=(.seq (.seq (oQ [M 25 4,O 26 (.len t25),O 27 (.bin .gtr t26 (I 0))] [25,26]) (.cond t27 .skip (.exit 2))) (.seq (.block 3 (.seq (.ops [oT 29 2 1,M 30 4,oT 31 2 6,O 32 (.call (.f ydF) [t29,t30,t31]),M 28 32,O 33 (.ext t28 0),O 34 (.ext t28 1),O 35 (.ext t28 2),O 7 (.allocL (.agg [.nils,.nils])),O 8 (.allocH true 6 (.agg [(.int .i64 (0)),(.int .i64 (0)),(.int .i64 (0)),(.int .i64 (0)),(.int .i64 (0)),(.int .i64 (0))])),⟨none,(.store 2 t7 t33),none⟩,⟨none,(.store 6 t8 t34),none⟩,M 9 35] [⟨11,(.agg [.i .i64,.i .i64,.i .i64,.i .i64,.i .i64,.i .i64]),0⟩] [] [27,28,29,30,31,32,33,34,35]) (.seq (.seq (oQ [M 36 9,O 37 (.bin .neq t36 (I 0))] [36]) (.cond t37 (.seq (oQ [oF 38 1 2,M 39 9,O 40 (.call t38 [t39])] [0,1,2,4,6,7,8,9,37,38,39,40]) .ret) .skip)) (.seq (.yret (.seq (.ops [M 41 0,oT 42 2 7,oT 43 6 8,O 44 (.call t41 [t42,t43]),O 45 (.un .not t44)] [] [9,37,41,42,43,44]) (.cond t45 .ret .skip)) [M 41 0,oT 42 2 7,oT 43 6 8] 44 t41 [t42,t43] 45 [9,37,41,42,43,44]) (.seq (.ops [oT 46 2 7,O 47 (.fad 3 t8),oT 48 2 47,⟨none,(.store 2 t1 t46),none⟩,⟨none,(.store 2 t6 t48),none⟩] [⟨2,(.agg [.i .i64,.i .i64,.i .i64,.i .i64,.i .i64,.i .i64]),0⟩] [(0,1),(0,2),(1,3),(2,3)] [7,45,46,47,48]) (oQ [M 49 4,O 50 (.mkFn (.func yaI) [] [t8]),O 51 (.call (.f ych) [t49,t50]),M 4 51] [8,49,50,51])))))) (.seq (oQ [oT 52 2 6] [6]) (oQ [O 6 (.allocL (.agg [(.int .i64 (0)),(.int .i64 (0))])),⟨none,(.store 2 t6 t52),none⟩] [52]))))
def yFs:TFn:=⟨3,[],(.seq (oQ [O 10 (.fad 0 t1),oF 11 1 10,O 12 (.len t11),O 13 (.mkSl true 1 8 (.int .i64 (0)) t12 t12),M 4 13] [10,11,12,13]) (.seq (.seq (oQ [M 14 4,O 15 (.len t14),O 16 (.mv (I 0))] [14]) (.block 0 (.loopG 34581400 yCe))) (.seq (oQ [O 24 (.call (.f ycf) [(I 0)]),O 6 (.allocL (.agg [(.int .i64 (0)),(.int .i64 (0))])),⟨none,(.store 2 t6 t24),none⟩] [15,16,17,24]) (.block 2 (.loopG 34581401 yCf)))))⟩
def ynX:TFn:=⟨2,[.tmp 4],(.seq (oQ [O 2 (.boxH true 2 t0),O 3 (.boxH false 1 t1),O 4 (.mv (.c .nilf))] [0,1,4]) (.seq (oQ [O 5 (.mkFn (.func ycN) [] [t2,t3]),M 4 5] [2,3,5]) .ret))⟩
def yj9:TCode:=(.seq (oQ [oX 17 .lss 16 15] []) (.seq (.cond t17 .skip (.exit 0)) (.seq (.block 1 (.seq (oQ [M 18 16,M 5 18] [17,18]) (.ops [M 19 4,M 20 5,M 21 5,O 22 (.iad 1 t19 t20),⟨none,(.store 1 t22 t21),none⟩] [⟨3,(.one (.i .i64)),0⟩,⟨4,(.one (.i .i64)),0⟩] [] [5,19,20,21,22]))) (oQ [O 23 (.bin .add t16 (I 1)),M 16 23] [23]))))
def yka:TCode:=(.seq (.seq (oQ [M 25 4,O 26 (.len t25),O 27 (.bin .gtr t26 (I 0))] [25,26]) (.cond t27 .skip (.exit 2))) (.seq (.block 3 (.seq (.ops [oT 29 2 1,M 30 4,oT 31 2 6,O 32 (.call (.f ydF) [t29,t30,t31]),M 28 32,O 33 (.ext t28 0),O 34 (.ext t28 1),O 35 (.ext t28 2),O 7 (.allocL (.agg [.nils,.nils])),O 8 (.allocH true 6 (.agg [(.int .i64 (0)),(.int .i64 (0)),(.int .i64 (0)),(.int .i64 (0)),(.int .i64 (0)),(.int .i64 (0))])),⟨none,(.store 2 t7 t33),none⟩,⟨none,(.store 6 t8 t34),none⟩,M 9 35] [⟨11,(.agg [.i .i64,.i .i64,.i .i64,.i .i64,.i .i64,.i .i64]),0⟩] [] [27,28,29,30,31,32,33,34,35]) (.seq (.seq (oQ [M 36 9,O 37 (.bin .neq t36 (I 0))] [36]) (.cond t37 (.seq (oQ [oF 38 1 2,M 39 9,O 40 (.call t38 [t39])] [0,1,2,4,6,7,8,9,37,38,39,40]) .ret) .skip)) (.seq (.yret (.seq (.ops [M 41 0,oT 42 2 7,oT 43 6 8,O 44 (.call t41 [t42,t43]),O 45 (.un .not t44)] [] [9,37,41,42,43,44]) (.cond t45 .ret .skip)) [M 41 0,oT 42 2 7,oT 43 6 8] 44 t41 [t42,t43] 45 [9,37,41,42,43,44]) (.seq (.ops [oT 46 2 7,O 47 (.fad 3 t8),oT 48 2 47,⟨none,(.store 2 t1 t46),none⟩,⟨none,(.store 2 t6 t48),none⟩] [⟨2,(.agg [.i .i64,.i .i64,.i .i64,.i .i64,.i .i64,.i .i64]),0⟩] [(0,1),(0,2),(1,3),(2,3)] [7,45,46,47,48]) (oQ [M 49 4,O 50 (.mkFn (.func yaI) [] [t8]),O 51 (.call (.f ych) [t49,t50]),M 4 51] [8,49,50,51])))))) (.seq (oQ [oT 52 2 6] [6]) (oQ [O 6 (.allocL (.agg [(.int .i64 (0)),(.int .i64 (0))])),⟨none,(.store 2 t6 t52),none⟩] [52]))))
def yr3:TCode:=(.seq (oQ [O 10 (.fad 0 t1),oF 11 1 10,O 12 (.len t11),O 13 (.mkSl true 1 8 (.int .i64 (0)) t12 t12),M 4 13] [10,11,12,13]) (.seq (.seq (oQ [M 14 4,O 15 (.len t14),O 16 (.mv (I 0))] [14]) (.block 0 (.loopG 82399400 yj9))) (.seq (oQ [O 24 (.call (.f ycf) [(I 0)]),O 6 (.allocL (.agg [(.int .i64 (0)),(.int .i64 (0))])),⟨none,(.store 2 t6 t24),none⟩] [15,16,17,24]) (.block 2 (.loopG 82399401 yka)))))
def ycl:TCode:=(.seq (.ops [O 7 (.allocH true 2 (.agg [(.data []),(.data [])])),⟨none,(.store 2 t7 t25),none⟩] [⟨1,(.agg [.d,.d]),0⟩] [] [24,25]) (.ops [O 8 (.allocH true 6 (.agg [(.int .i64 (0)),(.int .i64 (0)),(.int .i64 (0)),(.int .i64 (0)),(.int .i64 (0)),(.int .i64 (0))])),⟨none,(.store 6 t8 t26),none⟩] [⟨1,(.agg [.i .i64,.i .i64,.i .i64,.i .i64,.i .i64,.i .i64]),0⟩] [] [26]))
def ycm:TCode:=(.block 1 (.seq (.ops [oF 27 1 3,oT 28 6 8,O 29 (.buildD 6 (.agg [(.int .i64 (0)),(.int .i64 (0)),(.int .i64 (0)),(.int .i64 (0)),(.int .i64 (0)),(.int .i64 (0))]) 1 [(0,t28)]),O 30 (.app true 6 48 t27 t29),⟨none,(.store 1 t3 t30),none⟩] [⟨1,(.agg [.i .i64,.i .i64,.i .i64,.i .i64,.i .i64,.i .i64]),0⟩] [] [27,28,29,30]) (.seq (.ops [O 31 (.fad 1 t7),oF 32 1 31,⟨none,(.store 1 t4 t32),none⟩] [⟨1,(.agg [.d,.d]),0⟩,⟨2,(.one (.d)),0⟩] [] [7,31,32]) (.seq (.ops [O 33 (.fad 0 t2),oF 34 1 33,O 35 (.fad 0 t8),oF 36 1 35,O 37 (.fad 1 t8),oT 38 2 37,O 39 (.fad 3 t8),oT 40 2 39,O 41 (.build [(.int .i64 (0)),(.int .i64 (0)),(.int .i64 (0)),(.int .i64 (0))] [(0,2,t38),(2,2,t40)]),O 42 (.buildD 4 (.agg [(.int .i64 (0)),(.int .i64 (0)),(.int .i64 (0)),(.int .i64 (0))]) 1 [(0,t41)]),O 43 (.iad 1 t34 t36),⟨none,(.store 1 t43 t42),none⟩] [⟨3,(.agg [.i .i64,.i .i64,.i .i64,.i .i64,.i .i64,.i .i64]),0⟩,⟨5,(.agg [.i .i64,.i .i64,.i .i64,.i .i64,.i .i64,.i .i64]),0⟩,⟨7,(.agg [.i .i64,.i .i64,.i .i64,.i .i64,.i .i64,.i .i64]),0⟩,⟨10,(.one (.d)),0⟩,⟨11,(.one (.d)),0⟩] [] [8,33,34,35,36,37,38,39,40,41,42,43]) (.seq (.ops [oF 44 1 3,O 45 (.len t44),oF 46 1 1,O 47 (.len t46),oX 48 .eql 45 47] [⟨2,(.one (.d)),0⟩] [] [1,44,45,46,47]) (.cond t48 (.exit 0) .skip))))))
def yAe:TCode:=(.rangeF (.t 24) ycN 3 yr3 [25,26] ycl ycm)
def yCg:TFn:=⟨1,[.cell 2 true 1,.cell 3 false 1,.cell 4 false 1,.cell 5 false 1],(.seq (oQ [O 1 (.boxH true 1 t0),O 2 (.allocH false 1 (.agg [.nils])),O 3 (.allocH false 1 .nils),O 4 (.allocH true 1 (.data [])),O 5 (.allocH true 1 (.int .i64 (0)))] [0]) (.seq (.ops [oF 10 1 1,O 11 (.call (.f yf3) [t10]),M 9 11,O 12 (.ext t9 0),O 13 (.ext t9 1),O 6 (.allocL (.agg [.nils,.nils])),⟨none,(.store 2 t6 t12),none⟩,⟨none,(.store 1 t5 t13),none⟩] [⟨0,(.one (.d)),0⟩,⟨7,(.one (.i .i64)),0⟩] [] [9,10,11,12,13]) (.seq (.seq (.ops [oF 14 1 5,O 15 (.bin .neq t14 (I 0))] [⟨0,(.one (.i .i64)),0⟩] [] [14]) (.cond t15 (.seq (.ops [O 16 (.build [.nils] []),oF 17 1 5,⟨none,(.store 1 t2 t16),none⟩,⟨none,(.store 1 t3 (.c .nils)),none⟩,⟨none,(.store 1 t4 (.c .nils)),none⟩,⟨none,(.store 1 t5 t17),none⟩] [⟨1,(.one (.i .i64)),0⟩,⟨4,(.one (.d)),0⟩,⟨5,(.one (.i .i64)),0⟩] [(0,1),(1,2),(1,3),(1,4)] [1,6,15,16,17]) .ret) .skip)) (.seq (.ops [oF 18 1 1,O 19 (.len t18),O 20 (.mkSl true 1 24 (.data []) t19 t19),O 21 (.fad 0 t2),⟨none,(.store 1 t21 t20),none⟩] [⟨0,(.one (.d)),0⟩] [] [15,18,19,20,21]) (.seq .skip (.seq (.seq (oQ [oT 22 2 6,O 23 (.mkFn (.func yat) [] [t5]),O 24 (.call (.f ygs) [t22,t23])] [6,22,23]) (.block 0 (.rangeF t24 ycN 3 yr3 [25,26] ycl ycm))) (.seq (.seq (.ops [oF 49 1 5,O 50 (.bin .neq t49 (I 0))] [⟨0,(.one (.i .i64)),0⟩] [] [1,24,48,49]) (.cond t50 (.seq (.ops [O 51 (.build [.nils] []),oF 52 1 5,⟨none,(.store 1 t2 t51),none⟩,⟨none,(.store 1 t3 (.c .nils)),none⟩,⟨none,(.store 1 t4 (.c .nils)),none⟩,⟨none,(.store 1 t5 t52),none⟩] [⟨1,(.one (.i .i64)),0⟩,⟨4,(.one (.d)),0⟩,⟨5,(.one (.i .i64)),0⟩] [(0,1),(1,2),(1,3),(1,4)] [50,51,52]) .ret) .skip)) (.seq (.ops [oT 53 1 2,oF 54 1 3,oF 55 1 4,⟨none,(.store 1 t2 t53),none⟩,⟨none,(.store 1 t3 t54),none⟩,⟨none,(.store 1 t4 t55),none⟩,⟨none,(.store 1 t5 (I 0)),none⟩] [⟨2,(.one (.d)),0⟩,⟨5,(.one (.d)),0⟩,⟨6,(.one (.i .i64)),0⟩] [(0,1),(0,2),(1,2),(1,3),(2,3),(2,4)] [50,53,54,55]) .ret))))))))⟩
def yxA:TFn:=⟨1,[.tmp 2,.tmp 3],(.seq (oQ [O 2 (.mv (I 0)),O 3 (.mv (I 0))] [2,3]) (.seq (.seq (oQ [M 4 0,O 5 (.bin .lss t4 (I 1)),M 6 5,⟨some 7,(.mv t0),some (6,false)⟩,⟨some 8,(.bin .gtr t7 (I 6)),some (6,false)⟩,O 9 (.pick t6 (.c (.bool true)) t8)] [4,5,6,7,8]) (.cond t9 (.seq (oQ [O 2 (.mv (I 0)),O 3 (.mv (I 2))] [0,9]) .ret) .skip)) (.seq (oQ [M 10 0,M 11 0,oX 12 .mul 10 11,O 13 (.bin .sub t12 (I 1)),M 2 13,O 3 (.mv (I 0))] [0,9,10,11,12,13]) .ret)))⟩
def yF7:TFn:=⟨1,[.cell 2 true 2],(.seq (oQ [O 2 (.allocL (.agg [(.int .i64 (0)),(.int .i64 (0))]))] []) (.seq (oQ [M 3 0,O 4 (.build [(.int .i64 (0)),(.int .i64 (0))] [(0,1,t3),(1,1,(I 1))]),⟨none,(.store 2 t2 t4),none⟩] [0,3,4]) .ret))⟩
def ykb:TCode:=(.seq (.seq (oQ [M 11 5,M 12 0,O 13 (.len t12),oX 14 .lss 11 13] [11,12,13]) (.cond t14 .skip (.exit 0))) (.seq (.block 1 (.seq (.ops [M 17 0,M 18 5,O 19 (.iad 6 t17 t18),oT 20 6 19,M 21 1,M 22 5,O 23 (.iad 6 t21 t22),oT 24 6 23,O 25 (.eqA true 6 [(0,(some .i64)),(1,(some .i64)),(2,(some .i64)),(3,(some .i64)),(4,(some .i64)),(5,(some .i64))] t20 t24)] [⟨2,(.agg [.i .i64,.i .i64,.i .i64,.i .i64,.i .i64,.i .i64]),0⟩,⟨3,(.agg [.i .i64,.i .i64,.i .i64,.i .i64,.i .i64,.i .i64]),0⟩,⟨6,(.agg [.i .i64,.i .i64,.i .i64,.i .i64,.i .i64,.i .i64]),0⟩,⟨7,(.agg [.i .i64,.i .i64,.i .i64,.i .i64,.i .i64,.i .i64]),0⟩] [(0,1),(0,4),(1,4),(2,4),(3,4),(0,5),(1,5),(2,5),(3,5),(4,5),(0,6),(1,6),(2,6),(3,6),(0,7),(1,7),(2,7),(3,7)] [14,17,18,19,20,21,22,23,24]) (.cond t25 (.seq (oQ [O 4 (.mv (.c (.bool false)))] [0,1,5,25]) .ret) .skip))) (oQ [M 15 5,O 16 (.bin .add t15 (I 1)),M 5 16] [15,16,25])))
def ysq:TFn:=⟨2,[.tmp 4],(.seq (oQ [O 4 (.mv (.c (.bool false)))] [4]) (.seq (.seq (oQ [M 6 0,O 7 (.len t6),M 8 1,O 9 (.len t8),oX 10 .neq 7 9] [6,7,8,9]) (.cond t10 (.seq (oQ [O 4 (.mv (.c (.bool false)))] [0,1,10]) .ret) .skip)) (.seq (.seq (oQ [O 5 (.mv (I 0))] [10]) (.block 0 (.loop 32519300 ykb))) (.seq (oQ [O 4 (.mv (.c (.bool true)))] [0,1,5,14]) .ret))))⟩
def yAf:TFn:=⟨0,[.tmp 0],(.seq (oQ [O 0 (.mv (.c (.bool false)))] [0]) (.seq (oQ [O 12 (.call (.f ygG) []),O 13 (.call (.f yeX) [t12]),M 11 13,O 14 (.ext t11 0),O 15 (.ext t11 1),O 16 (.ext t11 2),O 17 (.ext t11 3),O 1 (.allocL (.agg [.nils])),⟨none,(.store 1 t1 t14),none⟩,M 2 15,M 3 16,M 4 17] [1,11,12,13,14,15,16,17]) (.seq (oQ [O 19 (.call (.f yfI) [(I 3)]),M 18 19,O 20 (.ext t18 0),O 21 (.ext t18 1),M 5 20,M 6 21] [18,19,20,21]) (.seq (oQ [O 22 (.call (.f ycD) [(I 0)]),O 23 (.build [(.int .i64 (0)),(.int .i64 (0))] [(0,1,(I 2)),(1,1,(I 3))]),O 24 (.build [(.int .i64 (0)),(.int .i64 (0))] [(0,1,(I 8)),(1,1,(I 3))]),O 25 (.call (.f ycD) [(I 6)]),O 7 (.allocL (.agg [(.int .i64 (0)),(.int .i64 (0))])),O 8 (.allocL (.agg [(.int .i64 (0)),(.int .i64 (0))])),O 9 (.allocL (.agg [(.int .i64 (0)),(.int .i64 (0))])),O 10 (.allocL (.agg [(.int .i64 (0)),(.int .i64 (0))])),⟨none,(.store 2 t7 t22),none⟩,⟨none,(.store 2 t8 t23),none⟩,⟨none,(.store 2 t9 t24),none⟩,⟨none,(.store 2 t10 t25),none⟩] [22,23,24,25]) (.seq (oQ [M 26 4,O 27 (.bin .eql t26 (I 0)),M 28 27,⟨some 29,(.mv t2),some (28,true)⟩,⟨some 30,(.load true 2 t7),some (28,true)⟩,⟨some 31,(.load true 2 t8),some (28,true)⟩,⟨some 32,(.build [(.int .i64 (0)),(.int .i64 (0)),(.int .i64 (0)),(.int .i64 (0)),(.int .i64 (0)),(.int .i64 (0))] [(0,1,(I 2)),(1,2,t30),(3,2,t31),(5,1,(I 1))]),some (28,true)⟩,⟨some 33,(.load true 2 t8),some (28,true)⟩,⟨some 34,(.load true 2 t9),some (28,true)⟩,⟨some 35,(.build [(.int .i64 (0)),(.int .i64 (0)),(.int .i64 (0)),(.int .i64 (0)),(.int .i64 (0)),(.int .i64 (0))] [(0,1,(I 0)),(1,2,t33),(3,2,t34)]),some (28,true)⟩,⟨some 36,(.load true 2 t9),some (28,true)⟩,⟨some 37,(.load true 2 t10),some (28,true)⟩,⟨some 38,(.build [(.int .i64 (0)),(.int .i64 (0)),(.int .i64 (0)),(.int .i64 (0)),(.int .i64 (0)),(.int .i64 (0))] [(0,1,(I 1)),(1,2,t36),(3,2,t37)]),some (28,true)⟩,⟨some 39,(.buildD 6 (.agg [(.int .i64 (0)),(.int .i64 (0)),(.int .i64 (0)),(.int .i64 (0)),(.int .i64 (0)),(.int .i64 (0))]) 3 [(0,t32),(1,t35),(2,t38)]),some (28,true)⟩,⟨some 40,(.call (.f ydP) [t29,t39]),some (28,true)⟩,O 41 (.pick t28 t40 (.c (.bool false))),M 42 41,⟨some 43,(.mv t3),some (42,true)⟩,⟨some 44,(.len t43),some (42,true)⟩,⟨some 45,(.bin .eql t44 (I 6)),some (42,true)⟩,O 46 (.pick t42 t45 (.c (.bool false))),M 47 46,⟨some 48,(.mv t6),some (47,true)⟩,⟨some 49,(.bin .eql t48 (I 0)),some (47,true)⟩,O 50 (.pick t47 t49 (.c (.bool false))),M 51 50,⟨some 52,(.mv t5),some (51,true)⟩,⟨some 53,(.bin .eql t52 (I 8)),some (51,true)⟩,O 54 (.pick t51 t53 (.c (.bool false))),M 0 54] [2,3,4,5,6,7,8,9,10,26,27,28,29,30,31,32,33,34,35,36,37,38,39,40,41,42,43,44,45,46,47,48,49,50,51,52,53,54]) .ret)))))⟩
def yEI:TFn:=⟨1,[.tmp 2],(.seq (oQ [O 2 (.mv (.c (.int .u64 (0))))] [2]) (.seq (.seq (oQ [M 3 0,O 4 (.bin .lss t3 (I 0))] [3]) (.cond t4 (.seq (oQ [M 5 0,O 6 (.bin .add t5 (I 1)),O 7 (.un .neg t6),O 8 (.conv .u64 t7),O 9 (.bin .add t8 (.c (.int .u64 (1)))),M 2 9] [0,4,5,6,7,8,9]) .ret) .skip)) (.seq (oQ [M 10 0,O 11 (.conv .u64 t10),M 2 11] [0,4,10,11]) .ret)))⟩
def ykc:TCode:=(.seq (.seq (oQ [M 5 1,O 6 (.bin .neq t5 (.c (.int .u64 (0))))] [5]) (.cond t6 .skip (.exit 0))) (.block 1 (.ops [M 7 1,M 8 0,M 9 1,oX 10 .rem 8 9,M 0 7,M 1 10] [] [(0,1),(0,2),(1,2),(0,3),(2,4),(3,4)] [6,7,8,9,10])))
def yEJ:TFn:=⟨2,[.tmp 4],(.seq (oQ [O 4 (.mv (.c (.int .u64 (0))))] [4]) (.seq (.block 0 (.loop 16774900 ykc)) (.seq (oQ [M 11 0,M 4 11] [0,1,6,11]) .ret)))⟩
def yAg:TFn:=⟨1,[.tmp 2],(.seq (oQ [O 1 (.boxL t0),O 2 (.mv (I 0))] [0,2]) (.seq (.seq (.ops [O 3 (.fad 1 t1),oF 4 1 3,O 5 (.bin .lss t4 (I 1)),M 6 5,⟨some 7,(.fad 1 t1),some (6,false)⟩,⟨some 8,(.load false 1 t7),some (6,false)⟩,⟨some 9,(.bin .gtr t8 (I 1000000000000000000)),some (6,false)⟩,O 10 (.pick t6 (.c (.bool true)) t9),M 11 10,⟨some 12,(.fad 0 t1),some (11,false)⟩,⟨some 13,(.load false 1 t12),some (11,false)⟩,⟨some 14,(.bin .lss t13 (I (-1000000000000000000))),some (11,false)⟩,O 15 (.pick t11 (.c (.bool true)) t14),M 16 15,⟨some 17,(.fad 0 t1),some (16,false)⟩,⟨some 18,(.load false 1 t17),some (16,false)⟩,⟨some 19,(.bin .gtr t18 (I 1000000000000000000)),some (16,false)⟩,O 20 (.pick t16 (.c (.bool true)) t19),M 21 20,⟨some 22,(.fad 0 t1),some (21,false)⟩,⟨some 23,(.load false 1 t22),some (21,false)⟩,⟨some 24,(.call (.f ya2) [t23]),some (21,false)⟩,⟨some 25,(.fad 1 t1),some (21,false)⟩,⟨some 26,(.load false 1 t25),some (21,false)⟩,⟨some 27,(.conv .u64 t26),some (21,false)⟩,⟨some 28,(.call (.f ycs) [t24,t27]),some (21,false)⟩,⟨some 29,(.bin .neq t28 (.c (.int .u64 (1)))),some (21,false)⟩,O 30 (.pick t21 (.c (.bool true)) t29)] [⟨1,(.agg [.i .i64,.i .i64]),0⟩,⟨5,(.agg [.i .i64,.i .i64]),0⟩,⟨10,(.agg [.i .i64,.i .i64]),0⟩,⟨15,(.agg [.i .i64,.i .i64]),0⟩,⟨20,(.agg [.i .i64,.i .i64]),0⟩,⟨23,(.agg [.i .i64,.i .i64]),0⟩] [(19,22),(20,22),(21,22),(19,23),(20,23),(21,23),(19,24),(20,24),(21,24)] [1,3,4,5,6,7,8,9,10,11,12,13,14,15,16,17,18,19,20,21,22,23,24,25,26,27,28,29]) (.cond t30 (.seq (oQ [O 2 (.mv (I 8))] [30]) .ret) .skip)) (.seq (oQ [O 2 (.mv (I 0))] [30]) .ret)))⟩
def yAh:TFn:=⟨2,[.cell 4 true 2],(.seq (oQ [O 4 (.allocL (.agg [(.int .u64 (0)),(.int .u64 (0))]))] []) (.seq (oQ [M 12 0,O 13 (.bin .shr t12 (.c (.int .u64 (32)))),M 14 0,O 15 (.bin .and t14 (.c (.int .u64 (4294967295)))),M 5 13,M 6 15] [0,12,13,14,15]) (.seq (oQ [M 16 1,O 17 (.bin .shr t16 (.c (.int .u64 (32)))),M 18 1,O 19 (.bin .and t18 (.c (.int .u64 (4294967295)))),M 7 17,M 8 19] [1,16,17,18,19]) (.seq (oQ [M 20 6,M 21 8,oX 22 .mul 20 21,M 23 5,M 24 8,oX 25 .mul 23 24,M 9 22,M 10 25] [8,20,21,22,23,24,25]) (.seq (oQ [M 26 10,O 27 (.bin .and t26 (.c (.int .u64 (4294967295)))),M 28 6,M 29 7,oX 30 .mul 28 29,oX 31 .add 27 30,M 32 9,O 33 (.bin .shr t32 (.c (.int .u64 (32)))),oX 34 .add 31 33,M 11 34] [6,26,27,28,29,30,31,32,33,34]) (.seq (oQ [M 35 5,M 36 7,oX 37 .mul 35 36,M 38 10,O 39 (.bin .shr t38 (.c (.int .u64 (32)))),oX 40 .add 37 39,M 41 11,O 42 (.bin .shr t41 (.c (.int .u64 (32)))),oX 43 .add 40 42,M 44 11,O 45 (.bin .shl t44 (.c (.int .u64 (32)))),M 46 9,O 47 (.bin .and t46 (.c (.int .u64 (4294967295)))),oX 48 .or 45 47,O 49 (.build [(.int .u64 (0)),(.int .u64 (0))] [(0,1,t43),(1,1,t48)]),⟨none,(.store 2 t4 t49),none⟩] [5,7,9,10,11,35,36,37,38,39,40,41,42,43,44,45,46,47,48,49]) .ret))))))⟩
def yCh:TFn:=⟨2,[.tmp 4],(.seq (oQ [O 2 (.boxL t0),O 3 (.boxL t1),O 4 (.mv (.c (.bool false)))] [0,1,4]) (.seq (.ops [O 5 (.fad 0 t2),oF 6 1 5,O 7 (.fad 0 t3),oF 8 1 7,oX 9 .lss 6 8,M 10 9,⟨some 11,(.fad 0 t2),some (10,false)⟩,⟨some 12,(.load false 1 t11),some (10,false)⟩,⟨some 13,(.fad 0 t3),some (10,false)⟩,⟨some 14,(.load false 1 t13),some (10,false)⟩,⟨some 15,(.bin .eql t12 t14),some (10,false)⟩,⟨some 16,(.mv t15),some (10,false)⟩,⟨some 17,(.fad 1 t2),some (16,true)⟩,⟨some 18,(.load false 1 t17),some (16,true)⟩,⟨some 19,(.fad 1 t3),some (16,true)⟩,⟨some 20,(.load false 1 t19),some (16,true)⟩,⟨some 21,(.bin .lss t18 t20),some (16,true)⟩,⟨some 22,(.pick t16 t21 (.c (.bool false))),some (10,false)⟩,O 23 (.pick t10 (.c (.bool true)) t22),M 4 23] [⟨1,(.agg [.i .u64,.i .u64]),0⟩,⟨3,(.agg [.i .u64,.i .u64]),0⟩,⟨7,(.agg [.i .u64,.i .u64]),0⟩,⟨9,(.agg [.i .u64,.i .u64]),0⟩,⟨13,(.agg [.i .u64,.i .u64]),0⟩,⟨15,(.agg [.i .u64,.i .u64]),0⟩] [] [2,3,5,6,7,8,9,10,11,12,13,14,15,16,17,18,19,20,21,22,23]) .ret))⟩
def yCi:TFn:=⟨2,[.tmp 4],(.seq (oQ [O 2 (.boxL t0),O 3 (.boxL t1),O 4 (.mv (.c (.bool false)))] [0,1,4]) (.seq (.seq (.ops [O 7 (.fad 0 t2),oF 8 1 7,O 9 (.bin .lss t8 (I 0)),O 10 (.fad 0 t3),oF 11 1 10,O 12 (.bin .lss t11 (I 0)),O 13 (.eqB true t9 t12)] [⟨1,(.agg [.i .i64,.i .i64]),0⟩,⟨4,(.agg [.i .i64,.i .i64]),0⟩] [] [7,8,9,10,11,12]) (.cond t13 (.seq (.ops [O 14 (.fad 0 t2),oF 15 1 14,O 16 (.bin .lss t15 (I 0)),M 4 16] [⟨1,(.agg [.i .i64,.i .i64]),0⟩] [] [2,3,13,14,15,16]) .ret) .skip)) (.seq (.ops [O 17 (.fad 0 t2),oF 18 1 17,O 19 (.call (.f ya2) [t18]),O 20 (.fad 1 t3),oF 21 1 20,O 22 (.conv .u64 t21),O 23 (.call (.f ybm) [t19,t22]),O 24 (.fad 0 t3),oF 25 1 24,O 26 (.call (.f ya2) [t25]),O 27 (.fad 1 t2),oF 28 1 27,O 29 (.conv .u64 t28),O 30 (.call (.f ybm) [t26,t29]),O 5 (.allocL (.agg [(.int .u64 (0)),(.int .u64 (0))])),O 6 (.allocL (.agg [(.int .u64 (0)),(.int .u64 (0))])),⟨none,(.store 2 t5 t23),none⟩,⟨none,(.store 2 t6 t30),none⟩] [⟨1,(.agg [.i .i64,.i .i64]),0⟩,⟨4,(.agg [.i .i64,.i .i64]),0⟩,⟨8,(.agg [.i .i64,.i .i64]),0⟩,⟨11,(.agg [.i .i64,.i .i64]),0⟩] [(0,3),(1,3),(2,3),(0,4),(1,4),(2,4),(0,5),(1,5),(2,5),(0,7),(1,7),(2,7),(3,7),(4,7),(5,7),(6,7),(0,8),(1,8),(2,8),(3,8),(4,8),(5,8),(6,8),(0,10),(1,10),(2,10),(3,10),(4,10),(5,10),(6,10),(7,10),(8,10),(9,10),(0,11),(1,11),(2,11),(3,11),(4,11),(5,11),(6,11),(7,11),(8,11),(9,11),(0,12),(1,12),(2,12),(3,12),(4,12),(5,12),(6,12),(7,12),(8,12),(9,12),(0,14),(1,14),(2,14),(3,14),(4,14),(5,14),(6,14),(7,14),(8,14),(9,14),(10,14),(11,14),(12,14),(13,14),(0,15),(1,15),(2,15),(3,15),(4,15),(5,15),(6,15),(7,15),(8,15),(9,15),(10,15),(11,15),(12,15),(13,15),(14,15)] [3,13,17,18,19,20,21,22,23,24,25,26,27,28,29,30]) (.seq (.seq (.ops [O 31 (.fad 0 t2),oF 32 1 31,O 33 (.bin .lss t32 (I 0))] [⟨1,(.agg [.i .i64,.i .i64]),0⟩] [] [2,31,32]) (.cond t33 (.seq (oQ [oT 34 2 6,oT 35 2 5,O 36 (.call (.f yeb) [t34,t35]),M 4 36] [5,6,33,34,35,36]) .ret) .skip)) (.seq (oQ [oT 37 2 5,oT 38 2 6,O 39 (.call (.f yeb) [t37,t38]),M 4 39] [5,6,33,37,38,39]) .ret)))))⟩
def yAi:TFn:=⟨2,[.tmp 4],(.seq (oQ [O 3 (.boxL t1),O 4 (.mv (.c (.bool false)))] [1,4]) (.seq (.ops [oT 5 2 3,O 6 (.call (.f yc2) [t5]),O 7 (.bin .eql t6 (I 0)),M 8 7,⟨some 9,(.fad 0 t3),some (8,true)⟩,⟨some 10,(.load false 1 t9),some (8,true)⟩,⟨some 11,(.bin .geq t10 (I 0)),some (8,true)⟩,O 12 (.pick t8 t11 (.c (.bool false))),M 13 12,⟨some 14,(.mv t0),some (13,true)⟩,⟨some 15,(.call (.f ycD) [t14]),some (13,true)⟩,⟨some 16,(.load true 2 t3),some (13,true)⟩,⟨some 17,(.call (.f ybG) [t15,t16]),some (13,true)⟩,⟨some 18,(.un .not t17),some (13,true)⟩,O 19 (.pick t13 t18 (.c (.bool false))),M 4 19] [⟨5,(.agg [.i .i64,.i .i64]),0⟩] [(9,11),(10,11)] [0,3,5,6,7,8,9,10,11,12,13,14,15,16,17,18,19]) .ret))⟩
def yAj:TFn:=⟨2,[.cell 4 true 2],(.seq (oQ [O 2 (.boxL t0),O 3 (.boxL t1),O 4 (.allocL (.agg [(.int .i64 (0)),(.int .i64 (0))]))] [0,1]) (.seq (.seq (oQ [oT 5 2 2,oT 6 2 3,O 7 (.call (.f ybG) [t5,t6])] [5,6]) (.cond t7 (.seq (oQ [oT 8 2 3,⟨none,(.store 2 t4 t8),none⟩] [2,3,7,8]) .ret) .skip)) (.seq (oQ [oT 9 2 2,⟨none,(.store 2 t4 t9),none⟩] [2,3,7,9]) .ret)))⟩
def yxB:TFn:=⟨2,[.cell 4 true 2],(.seq (oQ [O 2 (.boxL t0),O 3 (.boxL t1),O 4 (.allocL (.agg [(.int .i64 (0)),(.int .i64 (0))]))] [0,1]) (.seq (.seq (oQ [oT 5 2 2,oT 6 2 3,O 7 (.call (.f ybG) [t5,t6])] [5,6]) (.cond t7 (.seq (oQ [oT 8 2 2,⟨none,(.store 2 t4 t8),none⟩] [2,3,7,8]) .ret) .skip)) (.seq (oQ [oT 9 2 3,⟨none,(.store 2 t4 t9),none⟩] [2,3,7,9]) .ret)))⟩
def yCj:TFn:=⟨2,[.tmp 4],(.seq (oQ [O 2 (.boxL t0),O 3 (.boxL t1),O 4 (.mv (I 0))] [0,1,4]) (.seq (.seq (oQ [oT 5 2 2,O 6 (.call (.f yc2) [t5]),O 7 (.bin .neq t6 (I 0))] [5,6]) (.cond t7 (.seq (oQ [oT 8 2 2,O 9 (.call (.f yc2) [t8]),M 4 9] [2,3,7,8,9]) .ret) .skip)) (.seq (oQ [oT 10 2 3,O 11 (.call (.f yc2) [t10]),M 4 11] [2,3,7,10,11]) .ret)))⟩
def yEK:TFn:=⟨1,[.cell 2 true 2],(.seq (oQ [O 1 (.boxL t0),O 2 (.allocL (.agg [(.int .i64 (0)),(.int .i64 (0))]))] [0]) (.seq (.ops [O 3 (.fad 0 t1),oF 4 1 3,O 5 (.un .neg t4),O 6 (.fad 0 t1),⟨none,(.store 1 t6 t5),none⟩] [⟨1,(.agg [.i .i64,.i .i64]),0⟩,⟨4,(.agg [.i .i64,.i .i64]),0⟩] [] [3,4,5,6]) (.seq (oQ [oT 7 2 1,⟨none,(.store 2 t2 t7),none⟩] [1,7]) .ret)))⟩
def yCk:TFn:=⟨2,[.cell 4 true 2],(.seq (oQ [O 2 (.boxL t0),O 3 (.boxL t1),O 4 (.allocL (.agg [(.int .u64 (0)),(.int .u64 (0))]))] [0,1]) (.seq (.ops [O 7 (.fad 1 t2),oF 8 1 7,O 9 (.fad 1 t3),oF 10 1 9,oX 11 .add 8 10,M 5 11] [⟨1,(.agg [.i .u64,.i .u64]),0⟩,⟨3,(.agg [.i .u64,.i .u64]),0⟩] [] [7,8,9,10,11]) (.seq (.ops [O 12 (.fad 0 t2),oF 13 1 12,O 14 (.fad 0 t3),oF 15 1 14,oX 16 .add 13 15,M 6 16] [⟨1,(.agg [.i .u64,.i .u64]),0⟩,⟨3,(.agg [.i .u64,.i .u64]),0⟩] [] [3,12,13,14,15,16]) (.seq (.seq (.ops [M 17 5,O 18 (.fad 1 t2),oF 19 1 18,oX 20 .lss 17 19] [⟨2,(.agg [.i .u64,.i .u64]),0⟩] [] [2,17,18,19]) (.cond t20 (oQ [M 21 6,O 22 (.bin .add t21 (.c (.int .u64 (1)))),M 6 22] [20,21,22]) .skip)) (.seq (oQ [M 23 6,M 24 5,O 25 (.build [(.int .u64 (0)),(.int .u64 (0))] [(0,1,t23),(1,1,t24)]),⟨none,(.store 2 t4 t25),none⟩] [5,6,20,23,24,25]) .ret)))))⟩
def yAk:TFn:=⟨2,[.cell 4 true 2],(.seq (oQ [O 2 (.boxL t0),O 3 (.boxL t1),O 4 (.allocL (.agg [(.int .u64 (0)),(.int .u64 (0))]))] [0,1]) (.seq (.ops [O 6 (.fad 0 t2),oF 7 1 6,O 8 (.fad 0 t3),oF 9 1 8,oX 10 .sub 7 9,M 5 10] [⟨1,(.agg [.i .u64,.i .u64]),0⟩,⟨3,(.agg [.i .u64,.i .u64]),0⟩] [] [6,7,8,9,10]) (.seq (.seq (.ops [O 11 (.fad 1 t2),oF 12 1 11,O 13 (.fad 1 t3),oF 14 1 13,oX 15 .lss 12 14] [⟨1,(.agg [.i .u64,.i .u64]),0⟩,⟨3,(.agg [.i .u64,.i .u64]),0⟩] [] [11,12,13,14]) (.cond t15 (oQ [M 16 5,O 17 (.bin .sub t16 (.c (.int .u64 (1)))),M 5 17] [15,16,17]) .skip)) (.seq (.ops [M 18 5,O 19 (.fad 1 t2),oF 20 1 19,O 21 (.fad 1 t3),oF 22 1 21,oX 23 .sub 20 22,O 24 (.build [(.int .u64 (0)),(.int .u64 (0))] [(0,1,t18),(1,1,t23)]),⟨none,(.store 2 t4 t24),none⟩] [⟨2,(.agg [.i .u64,.i .u64]),0⟩,⟨4,(.agg [.i .u64,.i .u64]),0⟩] [] [2,3,5,15,18,19,20,21,22,23,24]) .ret))))⟩
def ykd:TCode:=(.seq (.seq (oQ [M 10 8,O 11 (.bin .geq t10 (I 0))] [10]) (.cond t11 .skip (.exit 0))) (.seq (.block 1 (.seq (.ops [O 14 (.fad 1 t2),oF 15 1 14,M 16 8,O 17 (.bin .and t16 (I 63)),oX 18 .shr 15 17,O 19 (.bin .and t18 (.c (.int .u64 (1)))),M 9 19] [⟨1,(.agg [.i .u64,.i .u64]),0⟩] [] [11,14,15,16,17,18,19]) (.seq (.seq (oQ [M 20 8,O 21 (.bin .geq t20 (I 64))] [20]) (.cond t21 (.ops [O 22 (.fad 0 t2),oF 23 1 22,M 24 8,O 25 (.bin .and t24 (I 63)),oX 26 .shr 23 25,O 27 (.bin .and t26 (.c (.int .u64 (1)))),M 9 27] [⟨1,(.agg [.i .u64,.i .u64]),0⟩] [] [21,22,23,24,25,26,27]) .skip)) (.seq (oQ [M 28 7,O 29 (.bin .shl t28 (.c (.int .u64 (1)))),M 30 9,oX 31 .or 29 30,M 7 31] [9,21,28,29,30,31]) (.seq (oQ [oT 32 2 6,oT 33 2 6,O 34 (.call (.f yeY) [t32,t33]),⟨none,(.store 2 t6 t34),none⟩] [32,33,34]) (.seq (oQ [M 35 7,M 36 1,oX 37 .geq 35 36] [35,36]) (.cond t37 (.seq (oQ [M 38 7,M 39 1,oX 40 .sub 38 39,M 7 40] [37,38,39,40]) (.ops [O 41 (.fad 1 t6),oF 42 1 41,O 43 (.bin .or t42 (.c (.int .u64 (1)))),O 44 (.fad 1 t6),⟨none,(.store 1 t44 t43),none⟩] [⟨1,(.agg [.i .u64,.i .u64]),0⟩,⟨4,(.agg [.i .u64,.i .u64]),0⟩] [] [41,42,43,44])) .skip))))))) (oQ [M 12 8,O 13 (.bin .sub t12 (I 1)),M 8 13] [12,13,37])))
def yAl:TFn:=⟨2,[.cell 4 true 2,.tmp 5],(.seq (oQ [O 2 (.boxL t0),O 4 (.allocL (.agg [(.int .u64 (0)),(.int .u64 (0))])),O 5 (.mv (.c (.int .u64 (0))))] [0,5]) (.seq (oQ [O 6 (.allocL (.agg [(.int .u64 (0)),(.int .u64 (0))]))] []) (.seq (oQ [O 7 (.mv (.c (.int .u64 (0))))] []) (.seq (.seq (oQ [O 8 (.mv (I 127))] []) (.block 0 (.loop 22549700 ykd))) (.seq (oQ [oT 45 2 6,M 46 7,⟨none,(.store 2 t4 t45),none⟩,M 5 46] [1,2,6,7,8,11,45,46]) .ret)))))⟩
end Go.Pf.Vc
namespace Go.Pf.Vc
open Go Go.Pf
def yCl:TFn:=⟨3,[.cell 6 true 2,.tmp 7],(.seq (oQ [O 4 (.boxL t1),O 5 (.boxL t2),O 6 (.allocL (.agg [(.int .i64 (0)),(.int .i64 (0))])),O 7 (.mv (I 0))] [1,2,7]) (.seq (.seq (.ops [O 9 (.fad 0 t4),oF 10 1 9,O 11 (.bin .gtr t10 (.c (.int .u64 (0)))),M 12 11,⟨some 13,(.fad 0 t5),some (12,false)⟩,⟨some 14,(.load false 1 t13),some (12,false)⟩,⟨some 15,(.bin .gtr t14 (.c (.int .u64 (0)))),some (12,false)⟩,O 16 (.pick t12 (.c (.bool true)) t15),M 17 16,⟨some 18,(.fad 1 t4),some (17,false)⟩,⟨some 19,(.load false 1 t18),some (17,false)⟩,⟨some 20,(.bin .gtr t19 (.c (.int .u64 (1000000000000000000)))),some (17,false)⟩,O 21 (.pick t17 (.c (.bool true)) t20),M 22 21,⟨some 23,(.fad 1 t5),some (22,false)⟩,⟨some 24,(.load false 1 t23),some (22,false)⟩,⟨some 25,(.bin .gtr t24 (.c (.int .u64 (1000000000000000000)))),some (22,false)⟩,O 26 (.pick t22 (.c (.bool true)) t25)] [⟨1,(.agg [.i .u64,.i .u64]),0⟩,⟨5,(.agg [.i .u64,.i .u64]),0⟩,⟨10,(.agg [.i .u64,.i .u64]),0⟩,⟨15,(.agg [.i .u64,.i .u64]),0⟩] [] [9,10,11,12,13,14,15,16,17,18,19,20,21,22,23,24,25]) (.cond t26 (.seq (oQ [O 27 (.build [(.int .i64 (0)),(.int .i64 (0))] []),⟨none,(.store 2 t6 t27),none⟩,O 7 (.mv (I 16))] [0,4,5,26,27]) .ret) .skip)) (.seq (.ops [O 28 (.fad 1 t4),oF 29 1 28,O 30 (.conv .i64 t29),O 31 (.fad 1 t5),oF 32 1 31,O 33 (.conv .i64 t32),O 34 (.build [(.int .i64 (0)),(.int .i64 (0))] [(0,1,t30),(1,1,t33)]),O 8 (.allocL (.agg [(.int .i64 (0)),(.int .i64 (0))])),⟨none,(.store 2 t8 t34),none⟩] [⟨1,(.agg [.i .u64,.i .u64]),0⟩,⟨4,(.agg [.i .u64,.i .u64]),0⟩] [] [4,5,26,28,29,30,31,32,33,34]) (.seq (.seq (oQ [M 35 0] [0]) (.cond t35 (.ops [O 36 (.fad 0 t8),oF 37 1 36,O 38 (.un .neg t37),O 39 (.fad 0 t8),⟨none,(.store 1 t39 t38),none⟩] [⟨1,(.agg [.i .i64,.i .i64]),0⟩,⟨4,(.agg [.i .i64,.i .i64]),0⟩] [] [35,36,37,38,39]) .skip)) (.seq (oQ [oT 40 2 8,⟨none,(.store 2 t6 t40),none⟩,O 7 (.mv (I 0))] [8,35,40]) .ret)))))⟩
def t96:Opd:=.t 96
def yEL:TFn:=⟨2,[.cell 4 true 2,.tmp 5],(.seq (oQ [O 2 (.boxL t0),O 3 (.boxL t1),O 4 (.allocL (.agg [(.int .i64 (0)),(.int .i64 (0))])),O 5 (.mv (I 0))] [0,1,5]) (.seq (.seq (oQ [oT 16 2 2,oT 17 2 3,O 18 (.call (.f ybU) [t16,t17]),O 19 (.bin .neq t18 (I 0))] [16,17,18]) (.cond t19 (.seq (oQ [O 20 (.build [(.int .i64 (0)),(.int .i64 (0))] []),oT 21 2 2,oT 22 2 3,O 23 (.call (.f ybU) [t21,t22]),⟨none,(.store 2 t4 t20),none⟩,M 5 23] [2,3,19,20,21,22,23]) .ret) .skip)) (.seq (.ops [O 24 (.fad 1 t2),oF 25 1 24,O 26 (.conv .u64 t25),O 27 (.fad 1 t3),oF 28 1 27,O 29 (.conv .u64 t28),O 30 (.call (.f ycs) [t26,t29]),M 6 30] [⟨1,(.agg [.i .i64,.i .i64]),0⟩,⟨4,(.agg [.i .i64,.i .i64]),0⟩] [] [19,24,25,26,27,28,29,30]) (.seq (.ops [O 31 (.fad 0 t2),oF 32 1 31,O 33 (.call (.f ya2) [t32]),O 34 (.fad 1 t3),oF 35 1 34,O 36 (.conv .u64 t35),M 37 6,oX 38 .quo 36 37,O 39 (.call (.f ybm) [t33,t38]),O 40 (.fad 0 t3),oF 41 1 40,O 42 (.call (.f ya2) [t41]),O 43 (.fad 1 t2),oF 44 1 43,O 45 (.conv .u64 t44),M 46 6,oX 47 .quo 45 46,O 48 (.call (.f ybm) [t42,t47]),O 7 (.allocL (.agg [(.int .u64 (0)),(.int .u64 (0))])),O 8 (.allocL (.agg [(.int .u64 (0)),(.int .u64 (0))])),⟨none,(.store 2 t7 t39),none⟩,⟨none,(.store 2 t8 t48),none⟩] [⟨1,(.agg [.i .i64,.i .i64]),0⟩,⟨4,(.agg [.i .i64,.i .i64]),0⟩,⟨10,(.agg [.i .i64,.i .i64]),0⟩,⟨13,(.agg [.i .i64,.i .i64]),0⟩] [(0,3),(1,3),(2,3),(0,4),(1,4),(2,4),(0,5),(1,5),(2,5),(0,6),(1,6),(2,6),(3,6),(4,6),(5,6),(0,7),(1,7),(2,7),(0,9),(1,9),(2,9),(3,9),(4,9),(5,9),(6,9),(7,9),(8,9),(0,10),(1,10),(2,10),(3,10),(4,10),(5,10),(6,10),(7,10),(8,10),(0,12),(1,12),(2,12),(3,12),(4,12),(5,12),(6,12),(7,12),(8,12),(9,12),(10,12),(11,12),(0,13),(1,13),(2,13),(3,13),(4,13),(5,13),(6,13),(7,13),(8,13),(9,13),(10,13),(11,13),(0,14),(1,14),(2,14),(3,14),(4,14),(5,14),(6,14),(7,14),(8,14),(9,14),(10,14),(11,14),(0,15),(1,15),(2,15),(3,15),(4,15),(5,15),(6,15),(7,15),(8,15),(9,15),(10,15),(11,15),(12,15),(13,15),(14,15),(0,16),(1,16),(2,16),(3,16),(4,16),(5,16),(6,16),(7,16),(8,16),(9,16),(10,16),(11,16),(0,18),(1,18),(2,18),(3,18),(4,18),(5,18),(6,18),(7,18),(8,18),(9,18),(10,18),(11,18),(12,18),(13,18),(14,18),(15,18),(16,18),(17,18),(0,19),(1,19),(2,19),(3,19),(4,19),(5,19),(6,19),(7,19),(8,19),(9,19),(10,19),(11,19),(12,19),(13,19),(14,19),(15,19),(16,19),(17,19),(18,19)] [31,32,33,34,35,36,37,38,39,40,41,42,43,44,45,46,47,48]) (.seq (.ops [O 49 (.fad 0 t2),oF 50 1 49,O 51 (.bin .lss t50 (I 0)),M 9 51] [⟨1,(.agg [.i .i64,.i .i64]),0⟩] [] [49,50,51]) (.seq (oQ [oT 52 2 7,oT 53 2 8,O 54 (.call (.f yeY) [t52,t53]),O 10 (.allocL (.agg [(.int .u64 (0)),(.int .u64 (0))])),⟨none,(.store 2 t10 t54),none⟩] [52,53,54]) (.seq (.seq (.ops [O 55 (.fad 0 t2),oF 56 1 55,O 57 (.bin .lss t56 (I 0)),O 58 (.fad 0 t3),oF 59 1 58,O 60 (.bin .lss t59 (I 0)),O 61 (.eqB true t57 t60)] [⟨1,(.agg [.i .i64,.i .i64]),0⟩,⟨4,(.agg [.i .i64,.i .i64]),0⟩] [] [55,56,57,58,59,60]) (.cond t61 (.seq (oQ [oT 62 2 7,oT 63 2 8,O 64 (.call (.f yfd) [t62,t63]),⟨none,(.store 2 t10 t64),none⟩] [61,62,63,64]) (.seq (oQ [oT 65 2 7,oT 66 2 8,O 67 (.call (.f yeb) [t65,t66])] [65,66]) (.cond t67 (.seq (oQ [oT 68 2 8,oT 69 2 7,O 70 (.call (.f yfd) [t68,t69]),⟨none,(.store 2 t10 t70),none⟩] [7,8,9,67,68,69,70]) (.ops [O 71 (.fad 0 t3),oF 72 1 71,O 73 (.bin .lss t72 (I 0)),M 9 73] [⟨1,(.agg [.i .i64,.i .i64]),0⟩] [] [71,72,73])) .skip))) .skip)) (.seq (.seq (oQ [oT 74 2 10,O 75 (.build [(.int .u64 (0)),(.int .u64 (0))] []),O 76 (.eqA false 2 [(0,(some .u64)),(1,(some .u64))] t74 t75)] [7,8,61,67,74,75]) (.cond t76 (.seq (oQ [O 77 (.build [(.int .i64 (0)),(.int .i64 (0))] [(1,1,(I 1))]),⟨none,(.store 2 t4 t77),none⟩,O 5 (.mv (I 0))] [2,3,6,9,10,76,77]) .ret) .skip)) (.seq (oQ [oT 79 2 10,M 80 6,O 81 (.call (.f yfe) [t79,t80]),M 78 81,O 82 (.ext t78 0),O 83 (.ext t78 1),O 11 (.allocL (.agg [(.int .u64 (0)),(.int .u64 (0))])),⟨none,(.store 2 t11 t82),none⟩,M 12 83] [11,76,78,79,80,81,82,83]) (.seq (oQ [M 84 12,M 85 6,O 86 (.call (.f ycs) [t84,t85]),M 13 86] [12,84,85,86]) (.seq (oQ [oT 88 2 10,M 89 13,O 90 (.call (.f yfe) [t88,t89]),M 87 90,O 91 (.ext t87 0),O 92 (.ext t87 1),O 14 (.allocL (.agg [(.int .u64 (0)),(.int .u64 (0))])),⟨none,(.store 2 t14 t91),none⟩,M 15 92] [10,15,87,88,89,90,91,92]) (.seq (.ops [M 93 9,oT 94 2 14,O 95 (.fad 1 t2),oF 96 1 95,O 97 (.conv .u64 t96),M 98 6,oX 99 .quo 97 98,O 100 (.fad 1 t3),oF 101 1 100,O 102 (.conv .u64 t101),M 103 13,oX 104 .quo 102 103,O 105 (.call (.f ybm) [t99,t104]),O 106 (.call (.f ydG) [t93,t94,t105]),O 107 (.ext t106 0),O 108 (.ext t106 1),⟨none,(.store 2 t4 t107),none⟩,M 5 108] [⟨3,(.agg [.i .i64,.i .i64]),0⟩,⟨8,(.agg [.i .i64,.i .i64]),0⟩] [(0,1),(0,2),(1,2),(0,3),(1,3),(0,4),(1,4),(0,5),(1,5),(2,5),(3,5),(4,5),(0,6),(1,6),(0,7),(1,7),(2,7),(3,7),(4,7),(5,7),(6,7),(0,8),(1,8),(2,8),(3,8),(4,8),(5,8),(6,8),(0,9),(1,9),(2,9),(3,9),(4,9),(5,9),(6,9),(0,10),(1,10),(2,10),(3,10),(4,10),(5,10),(6,10),(7,10),(8,10),(9,10),(0,11),(1,11),(2,11),(3,11),(4,11),(5,11),(6,11),(0,12),(1,12),(14,15)] [2,3,6,9,13,14,93,94,95,96,97,98,99,100,101,102,103,104,105,106,107,108]) .ret))))))))))))⟩
def yEM:TFn:=⟨2,[.cell 4 true 2,.tmp 5],(.seq (oQ [O 2 (.boxL t0),O 3 (.boxL t1),O 4 (.allocL (.agg [(.int .i64 (0)),(.int .i64 (0))])),O 5 (.mv (I 0))] [0,1,5]) (.seq (.seq (oQ [oT 6 2 2,oT 7 2 3,O 8 (.call (.f ybU) [t6,t7]),O 9 (.bin .neq t8 (I 0))] [6,7,8]) (.cond t9 (.seq (oQ [O 10 (.build [(.int .i64 (0)),(.int .i64 (0))] []),oT 11 2 2,oT 12 2 3,O 13 (.call (.f ybU) [t11,t12]),⟨none,(.store 2 t4 t10),none⟩,M 5 13] [2,3,9,10,11,12,13]) .ret) .skip)) (.seq (.ops [oT 14 2 2,oT 15 2 3,O 16 (.call (.f yjj) [t15]),O 17 (.call (.f yf5) [t14,t16]),O 18 (.ext t17 0),O 19 (.ext t17 1),⟨none,(.store 2 t4 t18),none⟩,M 5 19] [] [(0,1),(0,2),(4,5)] [2,3,9,14,15,16,17,18,19]) .ret)))⟩
def yEN:TFn:=⟨2,[.cell 4 true 2,.tmp 5],(.seq (oQ [O 2 (.boxL t0),O 3 (.boxL t1),O 4 (.allocL (.agg [(.int .i64 (0)),(.int .i64 (0))])),O 5 (.mv (I 0))] [0,1,5]) (.seq (.seq (oQ [oT 8 2 2,oT 9 2 3,O 10 (.call (.f ybU) [t8,t9]),O 11 (.bin .neq t10 (I 0))] [8,9,10]) (.cond t11 (.seq (oQ [O 12 (.build [(.int .i64 (0)),(.int .i64 (0))] []),oT 13 2 2,oT 14 2 3,O 15 (.call (.f ybU) [t13,t14]),⟨none,(.store 2 t4 t12),none⟩,M 5 15] [2,3,11,12,13,14,15]) .ret) .skip)) (.seq (.ops [O 16 (.fad 0 t2),oF 17 1 16,O 18 (.call (.f ya2) [t17]),O 19 (.fad 1 t3),oF 20 1 19,O 21 (.conv .u64 t20),O 22 (.call (.f ycs) [t18,t21]),O 23 (.fad 0 t3),oF 24 1 23,O 25 (.call (.f ya2) [t24]),O 26 (.fad 1 t2),oF 27 1 26,O 28 (.conv .u64 t27),O 29 (.call (.f ycs) [t25,t28]),M 6 22,M 7 29] [⟨1,(.agg [.i .i64,.i .i64]),0⟩,⟨4,(.agg [.i .i64,.i .i64]),0⟩,⟨8,(.agg [.i .i64,.i .i64]),0⟩,⟨11,(.agg [.i .i64,.i .i64]),0⟩] [(0,3),(1,3),(2,3),(0,4),(1,4),(2,4),(0,5),(1,5),(2,5),(0,7),(1,7),(2,7),(3,7),(4,7),(5,7),(6,7),(0,8),(1,8),(2,8),(3,8),(4,8),(5,8),(6,8),(0,10),(1,10),(2,10),(3,10),(4,10),(5,10),(6,10),(7,10),(8,10),(9,10),(0,11),(1,11),(2,11),(3,11),(4,11),(5,11),(6,11),(7,11),(8,11),(9,11),(0,12),(1,12),(2,12),(3,12),(4,12),(5,12),(6,12),(7,12),(8,12),(9,12)] [11,16,17,18,19,20,21,22,23,24,25,26,27,28,29]) (.seq (.ops [O 30 (.fad 0 t2),oF 31 1 30,O 32 (.bin .lss t31 (I 0)),O 33 (.fad 0 t3),oF 34 1 33,O 35 (.bin .lss t34 (I 0)),O 36 (.eqB true t32 t35),M 37 36,⟨some 38,(.fad 0 t2),some (37,true)⟩,⟨some 39,(.load false 1 t38),some (37,true)⟩,⟨some 40,(.bin .neq t39 (I 0)),some (37,true)⟩,O 41 (.pick t37 t40 (.c (.bool false))),M 42 41,⟨some 43,(.fad 0 t3),some (42,true)⟩,⟨some 44,(.load false 1 t43),some (42,true)⟩,⟨some 45,(.bin .neq t44 (I 0)),some (42,true)⟩,O 46 (.pick t42 t45 (.c (.bool false))),O 47 (.fad 0 t2),oF 48 1 47,O 49 (.call (.f ya2) [t48]),M 50 6,oX 51 .quo 49 50,O 52 (.fad 0 t3),oF 53 1 52,O 54 (.call (.f ya2) [t53]),M 55 7,oX 56 .quo 54 55,O 57 (.call (.f ybm) [t51,t56]),O 58 (.fad 1 t2),oF 59 1 58,O 60 (.conv .u64 t59),M 61 7,oX 62 .quo 60 61,O 63 (.fad 1 t3),oF 64 1 63,O 65 (.conv .u64 t64),M 66 6,oX 67 .quo 65 66,O 68 (.call (.f ybm) [t62,t67]),O 69 (.call (.f ydG) [t46,t57,t68]),O 70 (.ext t69 0),O 71 (.ext t69 1),⟨none,(.store 2 t4 t70),none⟩,M 5 71] [⟨1,(.agg [.i .i64,.i .i64]),0⟩,⟨4,(.agg [.i .i64,.i .i64]),0⟩,⟨9,(.agg [.i .i64,.i .i64]),0⟩,⟨14,(.agg [.i .i64,.i .i64]),0⟩,⟨18,(.agg [.i .i64,.i .i64]),0⟩,⟨23,(.agg [.i .i64,.i .i64]),0⟩,⟨29,(.agg [.i .i64,.i .i64]),0⟩,⟨34,(.agg [.i .i64,.i .i64]),0⟩] [(0,3),(1,3),(2,3),(0,4),(1,4),(2,4),(0,5),(1,5),(2,5),(0,17),(1,17),(2,17),(3,17),(4,17),(5,17),(6,17),(7,17),(8,17),(9,17),(10,17),(11,17),(12,17),(13,17),(14,17),(15,17),(16,17),(0,18),(1,18),(2,18),(3,18),(4,18),(5,18),(6,18),(7,18),(8,18),(9,18),(10,18),(11,18),(12,18),(13,18),(14,18),(15,18),(16,18),(13,19),(14,19),(15,19),(16,19),(0,20),(1,20),(2,20),(3,20),(4,20),(5,20),(6,20),(7,20),(8,20),(9,20),(10,20),(11,20),(12,20),(13,20),(14,20),(15,20),(16,20),(17,20),(18,20),(19,20),(13,21),(14,21),(15,21),(16,21),(0,22),(1,22),(2,22),(3,22),(4,22),(5,22),(6,22),(7,22),(8,22),(9,22),(10,22),(11,22),(12,22),(13,22),(14,22),(15,22),(16,22),(17,22),(18,22),(19,22),(20,22),(21,22),(0,23),(1,23),(2,23),(3,23),(4,23),(5,23),(6,23),(7,23),(8,23),(9,23),(10,23),(11,23),(12,23),(13,23),(14,23),(15,23),(16,23),(17,23),(18,23),(19,23),(20,23),(21,23),(13,24),(14,24),(15,24),(16,24),(20,24),(21,24),(0,25),(1,25),(2,25),(3,25),(4,25),(5,25),(6,25),(7,25),(8,25),(9,25),(10,25),(11,25),(12,25),(13,25),(14,25),(15,25),(16,25),(17,25),(18,25),(19,25),(20,25),(21,25),(22,25),(23,25),(24,25),(13,26),(14,26),(15,26),(16,26),(20,26),(21,26),(13,27),(14,27),(15,27),(16,27),(0,28),(1,28),(2,28),(3,28),(4,28),(5,28),(6,28),(7,28),(8,28),(9,28),(10,28),(11,28),(12,28),(13,28),(14,28),(15,28),(16,28),(17,28),(18,28),(19,28),(20,28),(21,28),(22,28),(23,28),(24,28),(25,28),(26,28),(27,28),(0,29),(1,29),(2,29),(3,29),(4,29),(5,29),(6,29),(7,29),(8,29),(9,29),(10,29),(11,29),(12,29),(13,29),(14,29),(15,29),(16,29),(17,29),(18,29),(19,29),(20,29),(21,29),(22,29),(23,29),(24,29),(25,29),(26,29),(27,29),(0,30),(1,30),(2,30),(3,30),(4,30),(5,30),(6,30),(7,30),(8,30),(9,30),(10,30),(11,30),(12,30),(13,30),(14,30),(15,30),(16,30),(17,30),(18,30),(19,30),(20,30),(21,30),(22,30),(23,30),(24,30),(25,30),(26,30),(27,30),(0,31),(1,31),(2,31),(3,31),(4,31),(5,31),(6,31),(7,31),(8,31),(9,31),(10,31),(11,31),(12,31),(13,31),(14,31),(15,31),(16,31),(17,31),(18,31),(19,31),(20,31),(21,31),(22,31),(23,31),(24,31),(25,31),(26,31),(27,31),(28,31),(29,31),(30,31),(0,32),(1,32),(2,32),(3,32),(4,32),(5,32),(6,32),(7,32),(8,32),(9,32),(10,32),(11,32),(12,32),(13,32),(14,32),(15,32),(16,32),(17,32),(18,32),(19,32),(20,32),(21,32),(22,32),(23,32),(24,32),(25,32),(26,32),(27,32),(0,33),(1,33),(2,33),(3,33),(4,33),(5,33),(6,33),(7,33),(8,33),(9,33),(10,33),(11,33),(12,33),(13,33),(14,33),(15,33),(16,33),(17,33),(18,33),(19,33),(20,33),(21,33),(22,33),(23,33),(24,33),(25,33),(26,33),(27,33),(28,33),(29,33),(30,33),(31,33),(32,33),(0,34),(1,34),(2,34),(3,34),(4,34),(5,34),(6,34),(7,34),(8,34),(9,34),(10,34),(11,34),(12,34),(13,34),(14,34),(15,34),(16,34),(17,34),(18,34),(19,34),(20,34),(21,34),(22,34),(23,34),(24,34),(25,34),(26,34),(27,34),(28,34),(29,34),(30,34),(31,34),(32,34),(0,35),(1,35),(2,35),(3,35),(4,35),(5,35),(6,35),(7,35),(8,35),(9,35),(10,35),(11,35),(12,35),(13,35),(14,35),(15,35),(16,35),(17,35),(18,35),(19,35),(20,35),(21,35),(22,35),(23,35),(24,35),(25,35),(26,35),(27,35),(28,35),(29,35),(30,35),(31,35),(32,35),(0,36),(1,36),(2,36),(3,36),(4,36),(5,36),(6,36),(7,36),(8,36),(9,36),(10,36),(11,36),(12,36),(13,36),(14,36),(15,36),(16,36),(17,36),(18,36),(19,36),(20,36),(21,36),(22,36),(23,36),(24,36),(25,36),(26,36),(27,36),(28,36),(29,36),(30,36),(31,36),(32,36),(33,36),(34,36),(35,36),(0,37),(1,37),(2,37),(3,37),(4,37),(5,37),(6,37),(7,37),(8,37),(9,37),(10,37),(11,37),(12,37),(13,37),(14,37),(15,37),(16,37),(17,37),(18,37),(19,37),(20,37),(21,37),(22,37),(23,37),(24,37),(25,37),(26,37),(27,37),(28,37),(29,37),(30,37),(31,37),(32,37),(13,38),(14,38),(15,38),(16,38),(40,41)] [2,3,6,7,30,31,32,33,34,35,36,37,38,39,40,41,42,43,44,45,46,47,48,49,50,51,52,53,54,55,56,57,58,59,60,61,62,63,64,65,66,67,68,69,70,71]) .ret))))⟩
def yAm:TFn:=⟨4,[.cell 8 true 2,.tmp 9],(.seq (oQ [O 4 (.boxL t0),O 6 (.boxL t2),O 7 (.boxL t3),O 8 (.allocL (.agg [(.int .i64 (0)),(.int .i64 (0))])),O 9 (.mv (I 0))] [0,2,3,9]) (.seq (.ops [oT 14 2 6,O 15 (.fad 1 t4),oF 16 1 15,M 17 1,O 18 (.iad 1 t16 t17),oF 19 1 18,O 20 (.call (.f ycD) [t19]),O 21 (.call (.f ygL) [t14,t20]),oT 22 2 7,O 23 (.fad 1 t4),oF 24 1 23,M 25 1,O 26 (.bin .add t25 (I 1)),O 27 (.iad 1 t24 t26),oF 28 1 27,O 29 (.call (.f ycD) [t28]),O 30 (.call (.f yfJ) [t22,t29]),O 10 (.allocL (.agg [(.int .i64 (0)),(.int .i64 (0))])),O 11 (.allocL (.agg [(.int .i64 (0)),(.int .i64 (0))])),⟨none,(.store 2 t10 t21),none⟩,⟨none,(.store 2 t11 t30),none⟩] [⟨2,(.agg [.i .i64,.d,.d]),0⟩,⟨4,(.one (.i .i64)),0⟩,⟨5,(.one (.i .i64)),0⟩,⟨10,(.agg [.i .i64,.d,.d]),0⟩,⟨13,(.one (.i .i64)),0⟩,⟨14,(.one (.i .i64)),0⟩] [(0,1),(0,2),(0,3),(1,3),(2,3),(0,4),(0,5),(0,6),(0,8),(1,8),(2,8),(3,8),(4,8),(5,8),(6,8),(7,8),(0,9),(1,9),(2,9),(3,9),(4,9),(5,9),(6,9),(7,9),(8,9),(0,10),(1,10),(2,10),(3,10),(4,10),(5,10),(6,10),(7,10),(8,10),(0,11),(1,11),(2,11),(3,11),(4,11),(5,11),(6,11),(7,11),(8,11),(9,11),(10,11),(0,12),(1,12),(2,12),(3,12),(4,12),(5,12),(6,12),(7,12),(8,12),(9,12),(10,12),(0,13),(1,13),(2,13),(3,13),(4,13),(5,13),(6,13),(7,13),(8,13),(0,14),(1,14),(2,14),(3,14),(4,14),(5,14),(6,14),(7,14),(8,14),(8,15),(0,17),(1,17),(2,17),(3,17),(4,17),(5,17),(6,17),(7,17),(8,17),(9,17),(10,17),(11,17),(12,17),(13,17),(14,17),(15,17),(16,17),(0,18),(1,18),(2,18),(3,18),(4,18),(5,18),(6,18),(7,18),(8,18),(9,18),(10,18),(11,18),(12,18),(13,18),(14,18),(15,18),(16,18),(17,18)] [6,7,14,15,16,17,18,19,20,21,22,23,24,25,26,27,28,29,30]) (.seq (.seq (.ops [oT 31 2 10,oT 32 2 11,O 33 (.call (.f ybG) [t31,t32]),O 34 (.un .not t33),M 35 34,⟨some 36,(.fad 2 t4),some (35,false)⟩,⟨some 37,(.load false 1 t36),some (35,false)⟩,⟨some 38,(.mv t1),some (35,false)⟩,⟨some 39,(.iad 1 t37 t38),some (35,false)⟩,⟨some 40,(.load false 1 t39),some (35,false)⟩,⟨some 41,(.bin .eql t40 (I 0)),some (35,false)⟩,O 42 (.pick t35 (.c (.bool true)) t41)] [⟨6,(.agg [.i .i64,.d,.d]),0⟩,⟨8,(.one (.i .i64)),0⟩,⟨9,(.one (.i .i64)),0⟩] [] [31,32,33,34,35,36,37,38,39,40,41]) (.cond t42 (.seq (oQ [O 43 (.build [(.int .i64 (0)),(.int .i64 (0))] [(1,1,(I 1))]),⟨none,(.store 2 t8 t43),none⟩,O 9 (.mv (I 0))] [1,4,10,11,42,43]) .ret) .skip)) (.seq (oQ [oT 45 2 11,oT 46 2 10,O 47 (.call (.f yjk) [t45,t46]),M 44 47,O 48 (.ext t44 0),O 49 (.ext t44 1),O 12 (.allocL (.agg [(.int .i64 (0)),(.int .i64 (0))])),⟨none,(.store 2 t12 t48),none⟩,M 13 49] [10,11,42,44,45,46,47,48,49]) (.seq (.seq (oQ [M 50 13,O 51 (.bin .neq t50 (I 0))] [50]) (.cond t51 (.seq (oQ [O 52 (.build [(.int .i64 (0)),(.int .i64 (0))] []),M 53 13,⟨none,(.store 2 t8 t52),none⟩,M 9 53] [1,4,12,13,51,52,53]) .ret) .skip)) (.seq (.ops [oT 54 2 12,O 55 (.fad 2 t4),oF 56 1 55,M 57 1,O 58 (.iad 1 t56 t57),oF 59 1 58,O 60 (.call (.f ycD) [t59]),O 61 (.call (.f yjl) [t54,t60]),O 62 (.ext t61 0),O 63 (.ext t61 1),⟨none,(.store 2 t8 t62),none⟩,M 9 63] [⟨2,(.agg [.i .i64,.d,.d]),0⟩,⟨4,(.one (.i .i64)),0⟩,⟨5,(.one (.i .i64)),0⟩] [(0,1),(0,2),(0,3),(1,3),(2,3),(0,4),(0,5),(0,6),(8,9)] [1,4,12,13,51,54,55,56,57,58,59,60,61,62,63]) .ret))))))⟩
def yke:TCode:=(.seq (.seq (.ops [M 37 9,O 38 (.fad 2 t3),oF 39 1 38,O 40 (.len t39),oX 41 .lss 37 40] [⟨2,(.agg [.i .i64,.d,.d]),0⟩] [] [37,38,39,40]) (.cond t41 .skip (.exit 0))) (.seq (.block 1 (.seq (oQ [oT 45 3 3,M 46 9,oT 47 2 4,oT 48 2 5,O 49 (.call (.f ygM) [t45,t46,t47,t48]),M 44 49,O 50 (.ext t44 0),O 51 (.ext t44 1),O 10 (.allocL (.agg [(.int .i64 (0)),(.int .i64 (0))])),⟨none,(.store 2 t10 t50),none⟩,M 11 51] [41,44,45,46,47,48,49,50,51]) (.seq (.seq (oQ [M 52 11,O 53 (.bin .neq t52 (I 0))] [52]) (.cond t53 (.seq (oQ [O 54 (.build [(.int .i64 (0)),(.int .i64 (0))] []),M 55 11,⟨none,(.store 2 t6 t54),none⟩,M 7 55] [3,4,5,8,9,10,11,53,54,55]) .ret) .skip)) (.seq (oQ [oT 57 2 8,oT 58 2 10,O 59 (.call (.f yf5) [t57,t58]),M 56 59,O 60 (.ext t56 0),O 61 (.ext t56 1),⟨none,(.store 2 t8 t60),none⟩,M 11 61] [10,53,56,57,58,59,60,61]) (.seq (oQ [M 62 11,O 63 (.bin .neq t62 (I 0))] [62]) (.cond t63 (.seq (oQ [O 64 (.build [(.int .i64 (0)),(.int .i64 (0))] []),M 65 11,⟨none,(.store 2 t6 t64),none⟩,M 7 65] [3,4,5,8,9,11,63,64,65]) .ret) .skip)))))) (oQ [M 42 9,O 43 (.bin .add t42 (I 1)),M 9 43] [11,42,43,63])))
def yAn:TFn:=⟨3,[.cell 6 true 2,.tmp 7],(.seq (oQ [O 3 (.boxL t0),O 4 (.boxL t1),O 5 (.boxL t2),O 6 (.allocL (.agg [(.int .i64 (0)),(.int .i64 (0))])),O 7 (.mv (I 0))] [0,1,2,7]) (.seq (.seq (oQ [oT 12 3 3,O 13 (.call (.f ycY) [t12]),O 14 (.bin .neq t13 (I 0))] [12,13]) (.cond t14 (.seq (oQ [O 15 (.build [(.int .i64 (0)),(.int .i64 (0))] []),oT 16 3 3,O 17 (.call (.f ycY) [t16]),⟨none,(.store 2 t6 t15),none⟩,M 7 17] [3,4,5,14,15,16,17]) .ret) .skip)) (.seq (.seq (.ops [O 18 (.fad 0 t3),oF 19 1 18,oT 20 2 4,O 21 (.call (.f yfc) [t19,t20]),O 22 (.un .not t21),M 23 22,⟨some 24,(.fad 0 t3),some (23,false)⟩,⟨some 25,(.load false 1 t24),some (23,false)⟩,⟨some 26,(.load true 2 t5),some (23,false)⟩,⟨some 27,(.call (.f yfc) [t25,t26]),some (23,false)⟩,⟨some 28,(.un .not t27),some (23,false)⟩,O 29 (.pick t23 (.c (.bool true)) t28),M 30 29,⟨some 31,(.load true 2 t5),some (30,false)⟩,⟨some 32,(.load true 2 t4),some (30,false)⟩,⟨some 33,(.call (.f ybG) [t31,t32]),some (30,false)⟩,O 34 (.pick t30 (.c (.bool true)) t33)] [⟨1,(.agg [.i .i64,.d,.d]),0⟩,⟨7,(.agg [.i .i64,.d,.d]),0⟩] [] [14,18,19,20,21,22,23,24,25,26,27,28,29,30,31,32,33]) (.cond t34 (.seq (oQ [O 35 (.build [(.int .i64 (0)),(.int .i64 (0))] []),⟨none,(.store 2 t6 t35),none⟩,O 7 (.mv (I 2))] [3,4,5,34,35]) .ret) .skip)) (.seq (oQ [O 36 (.build [(.int .i64 (0)),(.int .i64 (0))] [(1,1,(I 1))]),O 8 (.allocL (.agg [(.int .i64 (0)),(.int .i64 (0))])),⟨none,(.store 2 t8 t36),none⟩] [34,36]) (.seq (.seq (oQ [O 9 (.mv (I 0))] []) (.block 0 (.loop 92446900 yke))) (.seq (oQ [oT 66 2 8,⟨none,(.store 2 t6 t66),none⟩,O 7 (.mv (I 0))] [3,4,5,8,9,41,66]) .ret))))))⟩
def ykf:TCode:=(.seq (.seq (.ops [M 5 4,O 6 (.fad 2 t1),oF 7 1 6,O 8 (.len t7),oX 9 .lss 5 8] [⟨2,(.agg [.i .i64,.d,.d]),0⟩] [] [5,6,7,8]) (.cond t9 .skip (.exit 0))) (.seq (.block 1 (.ops [M 12 3,O 13 (.fad 2 t1),oF 14 1 13,M 15 4,O 16 (.iad 1 t14 t15),oF 17 1 16,O 18 (.fad 1 t1),oF 19 1 18,M 20 4,O 21 (.bin .add t20 (I 1)),O 22 (.iad 1 t19 t21),oF 23 1 22,O 24 (.fad 1 t1),oF 25 1 24,M 26 4,O 27 (.iad 1 t25 t26),oF 28 1 27,oX 29 .sub 23 28,oX 30 .mul 17 29,oX 31 .add 12 30,M 3 31] [⟨2,(.agg [.i .i64,.d,.d]),0⟩,⟨4,(.one (.i .i64)),0⟩,⟨5,(.one (.i .i64)),0⟩,⟨7,(.agg [.i .i64,.d,.d]),0⟩,⟨10,(.one (.i .i64)),0⟩,⟨11,(.one (.i .i64)),0⟩,⟨13,(.agg [.i .i64,.d,.d]),0⟩,⟨15,(.one (.i .i64)),0⟩,⟨16,(.one (.i .i64)),0⟩] [(0,1),(0,2),(0,3),(1,3),(2,3),(0,4),(0,5),(0,6),(1,6),(2,6),(3,6),(4,6),(5,6),(0,7),(1,7),(2,7),(3,7),(4,7),(5,7),(0,8),(1,8),(2,8),(3,8),(4,8),(5,8),(6,8),(7,8),(0,9),(1,9),(2,9),(3,9),(4,9),(5,9),(6,9),(7,9),(0,10),(1,10),(2,10),(3,10),(4,10),(5,10),(0,11),(1,11),(2,11),(3,11),(4,11),(5,11),(0,12),(1,12),(2,12),(3,12),(4,12),(5,12),(6,12),(7,12),(8,12),(9,12),(10,12),(11,12),(0,13),(1,13),(2,13),(3,13),(4,13),(5,13),(6,13),(7,13),(8,13),(9,13),(10,13),(11,13),(0,14),(1,14),(2,14),(3,14),(4,14),(5,14),(6,14),(7,14),(8,14),(9,14),(10,14),(11,14),(12,14),(13,14),(0,15),(1,15),(2,15),(3,15),(4,15),(5,15),(6,15),(7,15),(8,15),(9,15),(10,15),(11,15),(0,16),(1,16),(2,16),(3,16),(4,16),(5,16),(6,16),(7,16),(8,16),(9,16),(10,16),(11,16),(0,17),(1,17),(2,17),(3,17),(4,17),(5,17),(0,18)] [9,12,13,14,15,16,17,18,19,20,21,22,23,24,25,26,27,28,29,30,31])) (oQ [M 10 4,O 11 (.bin .add t10 (I 1)),M 4 11] [10,11])))
def yAo:TFn:=⟨1,[.tmp 2],(.seq (oQ [O 1 (.boxL t0),O 2 (.mv (I 0))] [0,2]) (.seq (oQ [O 3 (.mv (I 0))] []) (.seq (.seq (oQ [O 4 (.mv (I 0))] []) (.block 0 (.loop 21661800 ykf))) (.seq (oQ [M 32 3,M 2 32] [1,3,4,9,32]) .ret))))⟩
def yCm:TFn:=⟨2,[.cell 4 true 2,.tmp 5],(.seq (oQ [O 4 (.allocL (.agg [(.int .i64 (0)),(.int .i64 (0))])),O 5 (.mv (I 0))] [5]) (.seq (.seq (oQ [M 9 1,O 10 (.bin .eql t9 (I 0))] [9]) (.cond t10 (.seq (oQ [O 11 (.build [(.int .i64 (0)),(.int .i64 (0))] []),⟨none,(.store 2 t4 t11),none⟩,O 5 (.mv (I 18))] [0,1,10,11]) .ret) .skip)) (.seq (oQ [M 12 0,O 13 (.call (.f ya2) [t12]),M 14 1,O 15 (.call (.f ya2) [t14]),M 6 13,M 7 15] [10,12,13,14,15]) (.seq (oQ [M 16 6,M 17 7,O 18 (.call (.f ycs) [t16,t17]),M 8 18] [16,17,18]) (.seq (.ops [M 19 0,O 20 (.bin .lss t19 (I 0)),M 21 1,O 22 (.bin .lss t21 (I 0)),O 23 (.eqB true t20 t22),M 24 6,M 25 8,oX 26 .quo 24 25,O 27 (.build [(.int .u64 (0)),(.int .u64 (0))] [(1,1,t26)]),M 28 7,M 29 8,oX 30 .quo 28 29,O 31 (.build [(.int .u64 (0)),(.int .u64 (0))] [(1,1,t30)]),O 32 (.call (.f ydG) [t23,t27,t31]),O 33 (.ext t32 0),O 34 (.ext t32 1),⟨none,(.store 2 t4 t33),none⟩,M 5 34] [] [(0,2),(1,2),(0,3),(1,3),(0,5),(1,5),(2,5),(3,5),(4,5),(0,6),(1,6),(2,6),(3,6),(4,6),(5,6),(0,7),(1,7),(2,7),(3,7),(4,7),(0,8),(1,8),(2,8),(3,8),(4,8),(0,9),(1,9),(2,9),(3,9),(4,9),(5,9),(6,9),(7,9),(8,9),(0,10),(1,10),(2,10),(3,10),(4,10),(5,10),(6,10),(7,10),(8,10),(9,10),(0,11),(1,11),(2,11),(3,11),(4,11),(5,11),(6,11),(7,11),(8,11),(0,12),(1,12),(2,12),(3,12),(4,12),(5,12),(6,12),(7,12),(8,12),(14,15)] [0,1,6,7,8,19,20,21,22,23,24,25,26,27,28,29,30,31,32,33,34]) .ret)))))⟩
def yAp:TFn:=⟨2,[.cell 4 true 2],(.seq (oQ [O 2 (.boxL t0),O 4 (.allocL (.agg [(.int .i64 (0)),(.int .i64 (0))]))] [0]) (.seq (.ops [O 8 (.fad 0 t2),oF 9 1 8,M 10 1,O 11 (.iad 3 t9 t10),oT 12 3 11,O 13 (.call (.f ygO) [t12]),O 14 (.fad 0 t2),oF 15 1 14,O 16 (.len t15),O 17 (.call (.f yhO) [t13,t16]),M 7 17,O 18 (.ext t7 0),O 19 (.ext t7 1),O 5 (.allocL (.agg [(.int .i64 (0)),(.int .i64 (0))])),⟨none,(.store 2 t5 t18),none⟩,M 6 19] [⟨1,(.agg [.d,.d]),0⟩,⟨3,(.agg [.i .i64,.d,.d]),0⟩,⟨4,(.agg [.i .i64,.d,.d]),0⟩,⟨7,(.agg [.d,.d]),0⟩] [(0,2),(1,2),(0,6),(1,6),(2,6),(3,6),(4,6),(5,6),(0,7),(1,7),(2,7),(3,7),(4,7),(5,7),(0,8),(1,8),(2,8),(3,8),(4,8),(5,8),(11,12),(0,13),(1,13),(2,13),(3,13),(4,13),(5,13),(6,13),(7,13),(8,13),(9,13),(10,13),(11,13),(12,13),(12,14)] [1,2,6,7,8,9,10,11,12,13,14,15,16,17,18,19]) (.seq (oQ [oT 20 2 5,⟨none,(.store 2 t4 t20),none⟩] [5,20]) .ret)))⟩
def t115:Opd:=.t 115
def t126:Opd:=.t 126
def t128:Opd:=.t 128
def t136:Opd:=.t 136
def t139:Opd:=.t 139
def t141:Opd:=.t 141
def t142:Opd:=.t 142
def t144:Opd:=.t 144
def t146:Opd:=.t 146
def t147:Opd:=.t 147
def t149:Opd:=.t 149
def t150:Opd:=.t 150
def t151:Opd:=.t 151
def ym8:TCode:=(.seq (.seq (oQ [M 45 9,M 46 4,O 47 (.len t46),oX 48 .lss 45 47] [45,46,47]) (.cond t48 .skip (.exit 0))) (.seq (.block 1 (.seq (.ops [M 51 4,M 52 9,O 53 (.iad 6 t51 t52),oT 54 6 53,O 10 (.allocL (.agg [(.int .i64 (0)),(.int .i64 (0)),(.int .i64 (0)),(.int .i64 (0)),(.int .i64 (0)),(.int .i64 (0))])),⟨none,(.store 6 t10 t54),none⟩] [⟨2,(.agg [.i .i64,.i .i64,.i .i64,.i .i64,.i .i64,.i .i64]),0⟩,⟨3,(.agg [.i .i64,.i .i64,.i .i64,.i .i64,.i .i64,.i .i64]),0⟩] [] [48,51,52,53,54]) (.seq (.seq (.ops [O 55 (.fad 0 t10),oF 56 1 55,O 57 (.bin .lss t56 (I 0)),M 58 57,⟨some 59,(.fad 0 t10),some (58,false)⟩,⟨some 60,(.load false 1 t59),some (58,false)⟩,⟨some 61,(.mv t0),some (58,false)⟩,⟨some 62,(.len t61),some (58,false)⟩,⟨some 63,(.bin .geq t60 t62),some (58,false)⟩,O 64 (.pick t58 (.c (.bool true)) t63),M 65 64,⟨some 66,(.mv t8),some (65,false)⟩,⟨some 67,(.fad 0 t10),some (65,false)⟩,⟨some 68,(.load false 1 t67),some (65,false)⟩,⟨some 69,(.iad 1 t66 t68),some (65,false)⟩,⟨some 70,(.load false 1 t69),some (65,false)⟩,O 71 (.pick t65 (.c (.bool true)) t70),M 72 71,⟨some 73,(.fad 1 t10),some (72,false)⟩,⟨some 74,(.load true 2 t73),some (72,false)⟩,⟨some 75,(.load true 2 t7),some (72,false)⟩,⟨some 76,(.eqA true 2 [(0,(some .i64)),(1,(some .i64))] t74 t75),some (72,false)⟩,O 77 (.pick t72 (.c (.bool true)) t76),M 78 77,⟨some 79,(.fad 5 t10),some (78,false)⟩,⟨some 80,(.load false 1 t79),some (78,false)⟩,⟨some 81,(.bin .lss t80 (I 0)),some (78,false)⟩,O 82 (.pick t78 (.c (.bool true)) t81),M 83 82,⟨some 84,(.fad 5 t10),some (83,false)⟩,⟨some 85,(.load false 1 t84),some (83,false)⟩,⟨some 86,(.mv t0),some (83,false)⟩,⟨some 87,(.len t86),some (83,false)⟩,⟨some 88,(.bin .sub t87 (I 1)),some (83,false)⟩,⟨some 89,(.mv t9),some (83,false)⟩,⟨some 90,(.bin .sub t88 t89),some (83,false)⟩,⟨some 91,(.bin .gtr t85 t90),some (83,false)⟩,O 92 (.pick t83 (.c (.bool true)) t91),M 93 92,⟨some 94,(.fad 0 t3),some (93,false)⟩,⟨some 95,(.load false 1 t94),some (93,false)⟩,⟨some 96,(.fad 0 t10),some (93,false)⟩,⟨some 97,(.load false 1 t96),some (93,false)⟩,⟨some 98,(.iad 1 t95 t97),some (93,false)⟩,⟨some 99,(.load false 1 t98),some (93,false)⟩,⟨some 100,(.len t99),some (93,false)⟩,⟨some 101,(.bin .neq t100 (I 1)),some (93,false)⟩,O 102 (.pick t93 (.c (.bool true)) t101),M 103 102,⟨some 104,(.fad 0 t3),some (103,false)⟩,⟨some 105,(.load false 1 t104),some (103,false)⟩,⟨some 106,(.fad 0 t10),some (103,false)⟩,⟨some 107,(.load false 1 t106),some (103,false)⟩,⟨some 108,(.iad 1 t105 t107),some (103,false)⟩,⟨some 109,(.load false 1 t108),some (103,false)⟩,⟨some 110,(.iad 4 t109 (I 0)),some (103,false)⟩,⟨some 111,(.load true 4 t110),some (103,false)⟩,⟨some 112,(.fad 1 t10),some (103,false)⟩,⟨some 113,(.load true 2 t112),some (103,false)⟩,⟨some 114,(.fad 3 t10),some (103,false)⟩,⟨some 115,(.load true 2 t114),some (103,false)⟩,⟨some 116,(.build [(.int .i64 (0)),(.int .i64 (0)),(.int .i64 (0)),(.int .i64 (0))] [(0,2,t113),(2,2,t115)]),some (103,false)⟩,⟨some 117,(.eqA true 4 [(0,(some .i64)),(1,(some .i64)),(2,(some .i64)),(3,(some .i64))] t111 t116),some (103,false)⟩,O 118 (.pick t103 (.c (.bool true)) t117)] [⟨1,(.agg [.i .i64,.i .i64,.i .i64,.i .i64,.i .i64,.i .i64]),0⟩,⟨5,(.agg [.i .i64,.i .i64,.i .i64,.i .i64,.i .i64,.i .i64]),0⟩,⟨13,(.agg [.i .i64,.i .i64,.i .i64,.i .i64,.i .i64,.i .i64]),0⟩,⟨14,(.one (.b)),0⟩,⟨15,(.one (.b)),0⟩,⟨19,(.agg [.i .i64,.i .i64,.i .i64,.i .i64,.i .i64,.i .i64]),0⟩,⟨25,(.agg [.i .i64,.i .i64,.i .i64,.i .i64,.i .i64,.i .i64]),0⟩,⟨30,(.agg [.i .i64,.i .i64,.i .i64,.i .i64,.i .i64,.i .i64]),0⟩,⟨40,(.agg [.d]),0⟩,⟨42,(.agg [.i .i64,.i .i64,.i .i64,.i .i64,.i .i64,.i .i64]),0⟩,⟨43,(.one (.d)),0⟩,⟨44,(.one (.d)),0⟩,⟨50,(.agg [.d]),0⟩,⟨52,(.agg [.i .i64,.i .i64,.i .i64,.i .i64,.i .i64,.i .i64]),0⟩,⟨53,(.one (.d)),0⟩,⟨54,(.one (.d)),0⟩,⟨55,(.agg [.i .i64,.i .i64,.i .i64,.i .i64]),0⟩,⟨56,(.agg [.i .i64,.i .i64,.i .i64,.i .i64]),0⟩,⟨58,(.agg [.i .i64,.i .i64,.i .i64,.i .i64,.i .i64,.i .i64]),0⟩,⟨60,(.agg [.i .i64,.i .i64,.i .i64,.i .i64,.i .i64,.i .i64]),0⟩] [(4,6),(5,6),(4,7),(5,7),(11,12),(11,13),(18,20),(19,20),(29,31),(30,31),(29,32),(30,32),(29,33),(30,33),(29,34),(30,34),(31,34),(32,34),(33,34),(29,35),(30,35),(39,41),(40,41),(39,42),(40,42),(49,51),(50,51),(49,52),(50,52),(49,57),(50,57),(51,57),(52,57),(53,57),(54,57),(55,57),(56,57),(49,58),(50,58),(51,58),(52,58),(53,58),(54,58),(55,58),(56,58),(49,59),(50,59),(51,59),(52,59),(53,59),(54,59),(55,59),(56,59),(57,59),(58,59),(49,60),(50,60),(51,60),(52,60),(53,60),(54,60),(55,60),(56,60),(57,60),(58,60),(49,61),(50,61),(51,61),(52,61),(53,61),(54,61),(55,61),(56,61)] [55,56,57,58,59,60,61,62,63,64,65,66,67,68,69,70,71,72,73,74,75,76,77,78,79,80,81,82,83,84,85,86,87,88,89,90,91,92,93,94,95,96,97,98,99,100,101,102,103,104,105,106,107,108,109,110,111,112,113,114,115,116,117]) (.cond t118 (.seq (oQ [O 2 (.mv (.c (.bool false)))] [0,3,4,7,8,9,10,118]) .ret) .skip)) (.seq (.ops [M 119 8,O 120 (.fad 0 t10),oF 121 1 120,O 122 (.iad 1 t119 t121),⟨none,(.store 1 t122 (.c (.bool true))),none⟩] [⟨2,(.agg [.i .i64,.i .i64,.i .i64,.i .i64,.i .i64,.i .i64]),0⟩,⟨3,(.one (.b)),0⟩,⟨4,(.one (.b)),0⟩] [] [118,119,120,121,122]) (.seq (.ops [M 124 0,O 125 (.fad 0 t10),oF 126 1 125,O 127 (.iad 3 t124 t126),oT 128 3 127,O 129 (.fad 1 t10),oT 130 2 129,O 131 (.fad 3 t10),oT 132 2 131,O 133 (.call (.f ygN) [t128,t130,t132]),M 123 133,O 134 (.ext t123 0),O 135 (.ext t123 1),O 11 (.allocL (.agg [(.int .i64 (0)),(.int .i64 (0))])),⟨none,(.store 2 t11 t134),none⟩,M 12 135] [⟨2,(.agg [.i .i64,.i .i64,.i .i64,.i .i64,.i .i64,.i .i64]),0⟩,⟨3,(.agg [.i .i64,.d,.d]),0⟩,⟨4,(.agg [.i .i64,.d,.d]),0⟩,⟨6,(.agg [.i .i64,.i .i64,.i .i64,.i .i64,.i .i64,.i .i64]),0⟩,⟨8,(.agg [.i .i64,.i .i64,.i .i64,.i .i64,.i .i64,.i .i64]),0⟩] [(0,1),(0,2),(0,5),(1,5),(2,5),(3,5),(4,5),(0,6),(1,6),(2,6),(3,6),(4,6),(0,7),(1,7),(2,7),(3,7),(4,7),(5,7),(6,7),(0,8),(1,8),(2,8),(3,8),(4,8),(5,8),(6,8),(11,12),(0,13),(1,13),(2,13),(3,13),(4,13),(5,13),(6,13),(7,13),(8,13),(9,13),(10,13),(11,13),(12,13),(12,14)] [123,124,125,126,127,128,129,130,131,132,133,134,135]) (.seq (.seq (.ops [M 136 12,O 137 (.bin .neq t136 (I 0)),M 138 137,⟨some 139,(.mv t9),some (138,false)⟩,⟨some 140,(.bin .add t139 (I 1)),some (138,false)⟩,⟨some 141,(.mv t4),some (138,false)⟩,⟨some 142,(.len t141),some (138,false)⟩,⟨some 143,(.bin .lss t140 t142),some (138,false)⟩,⟨some 144,(.mv t143),some (138,false)⟩,⟨some 145,(.load true 2 t11),some (144,true)⟩,⟨some 146,(.mv t0),some (144,true)⟩,⟨some 147,(.build [.nils,.nils] [(0,1,t146)]),some (144,true)⟩,⟨some 148,(.fad 0 t10),some (144,true)⟩,⟨some 149,(.load false 1 t148),some (144,true)⟩,⟨some 150,(.call (.f ygP) [t147,t149]),some (144,true)⟩,⟨some 151,(.eqA true 2 [(0,(some .i64)),(1,(some .i64))] t145 t150),some (144,true)⟩,⟨some 152,(.pick t144 t151 (.c (.bool false))),some (138,false)⟩,O 153 (.pick t138 (.c (.bool true)) t152)] [⟨13,(.agg [.i .i64,.i .i64,.i .i64,.i .i64,.i .i64,.i .i64]),0⟩] [(3,5),(4,5),(3,6),(4,6),(9,10),(9,11),(9,12),(10,12),(11,12),(9,13),(10,13),(11,13),(9,14)] [11,12,136,137,138,139,140,141,142,143,144,145,146,147,148,149,150,151,152]) (.cond t153 (.seq (oQ [O 2 (.mv (.c (.bool false)))] [0,3,4,7,8,9,10,153]) .ret) .skip)) (.ops [O 154 (.fad 3 t10),oT 155 2 154,⟨none,(.store 2 t7 t155),none⟩] [⟨1,(.agg [.i .i64,.i .i64,.i .i64,.i .i64,.i .i64,.i .i64]),0⟩] [] [10,153,154,155]))))))) (oQ [M 49 9,O 50 (.bin .add t49 (I 1)),M 9 50] [49,50])))
def t160:Opd:=.t 160
def t161:Opd:=.t 161
def t163:Opd:=.t 163
def t164:Opd:=.t 164
def ysr:TFn:=⟨1,[.tmp 2],(.seq (oQ [O 2 (.mv (.c (.bool false)))] [2]) (.seq (.seq (oQ [M 13 0,O 14 (.call (.f yjg) [t13]),O 15 (.un .not t14)] [13,14]) (.cond t15 (.seq (oQ [O 16 (.call (.f yfb) []),M 2 16] [0,15,16]) .ret) .skip)) (.seq (oQ [M 18 0,O 19 (.call (.f yeX) [t18]),M 17 19,O 20 (.ext t17 0),O 21 (.ext t17 1),O 22 (.ext t17 2),O 23 (.ext t17 3),O 3 (.allocL (.agg [.nils])),⟨none,(.store 1 t3 t20),none⟩,M 4 21,M 5 22,M 6 23] [5,15,17,18,19,20,21,22,23]) (.seq (.seq (.ops [M 24 6,O 25 (.bin .neq t24 (I 0)),M 26 25,⟨some 27,(.mv t4),some (26,false)⟩,⟨some 28,(.len t27),some (26,false)⟩,⟨some 29,(.mv t0),some (26,false)⟩,⟨some 30,(.len t29),some (26,false)⟩,⟨some 31,(.bin .neq t28 t30),some (26,false)⟩,O 32 (.pick t26 (.c (.bool true)) t31),M 33 32,⟨some 34,(.fad 0 t3),some (33,false)⟩,⟨some 35,(.load false 1 t34),some (33,false)⟩,⟨some 36,(.len t35),some (33,false)⟩,⟨some 37,(.mv t0),some (33,false)⟩,⟨some 38,(.len t37),some (33,false)⟩,⟨some 39,(.bin .neq t36 t38),some (33,false)⟩,O 40 (.pick t33 (.c (.bool true)) t39)] [⟨11,(.agg [.d]),0⟩] [] [6,24,25,26,27,28,29,30,31,32,33,34,35,36,37,38,39]) (.cond t40 (.seq (oQ [O 2 (.mv (.c (.bool false)))] [0,3,4,40]) .ret) .skip)) (.seq (oQ [O 41 (.call (.f ycD) [(I 0)]),O 7 (.allocL (.agg [(.int .i64 (0)),(.int .i64 (0))])),⟨none,(.store 2 t7 t41),none⟩] [40,41]) (.seq (oQ [M 42 0,O 43 (.len t42),O 44 (.mkSl true 1 1 (.bool false) t43 t43),M 8 44] [42,43,44]) (.seq (.seq (oQ [O 9 (.mv (I 0))] []) (.block 0 (.loop 7689000 ym8))) (.seq (.ops [oT 156 2 7,M 157 0,O 158 (.iad 3 t157 (I 0)),O 159 (.fad 0 t158),oF 160 1 159,O 161 (.call (.f ycD) [t160]),O 162 (.eqA false 2 [(0,(some .i64)),(1,(some .i64))] t156 t161),M 163 162,⟨some 164,(.call (.f yfb) []),some (163,true)⟩,O 165 (.pick t163 t164 (.c (.bool false))),M 2 165] [⟨2,(.agg [.i .i64,.d,.d]),0⟩,⟨4,(.agg [.i .i64,.d,.d]),0⟩] [(0,1),(0,2),(0,3),(0,4),(0,5)] [0,3,4,7,8,9,48,156,157,158,159,160,161,162,163,164,165]) .ret))))))))⟩
def tab:List (Nat×AFn):=[(ygE,yzX.fn),(ydm,yqX.fn),(ycY,yzY.fn),(ygF,yzZ.fn),(yjg,yED.fn),(ygG,yz0.fn),(ydO,yso.fn),(ycM,ysp.fn),(ybd,yxo.fn),(ycj,yz1.fn),(ybt,yDI.fn),(ycZ,yxp.fn),(yf3,yCc.fn),(yat,ypK.fn),(ycf,yxq.fn),(ybj,yqY.fn),(yfE,yxr.fn),(ygH,yz2.fn),(yaG,yxs.fn),(ybk,yz3.fn),(ybu,yub.fn),(yfF,yxt.fn),(yeq,yxu.fn),(ybc,yvb.fn),(yaL,yxv.fn),(ycA,yoM.fn),(yaR,yvc.fn),(ybP,ypL.fn),(ycd,yno.fn),(ycr,yEE.fn),(ybF,yoN.fn),(ybl,ylI.fn),(yfG,yxw.fn),(yea,yz4.fn),(ya9,yz5.fn),(ycg,yxx.fn),(yjh,yEF.fn),(ycB,yoO.fn),(yf4,yEG.fn),(yji,yEH.fn),(yck,yz6.fn),(yc0,yz7.fn),(ybJ,yz8.fn),(yfa,yz9.fn),(ydT,ynW.fn),(ylH,yAa.fn),(ygI,yAb.fn),(yc1,ypM.fn),(ydn,yjm.fn),(yhN,yCd.fn),(ydo,yuc.fn),(yfH,yxy.fn),(ycC,yoP.fn),(ygJ,yAc.fn),(ygK,yAd.fn),(ydF,yxz.fn),(yaI,yid.fn),(ydX,ylj.fn),(ych,yj8.fn),(ycN,yFs.fn),(ygs,ynX.fn),(yeX,yCg.fn),(yfI,yxA.fn),(ycD,yF7.fn),(ydP,ysq.fn),(yfb,yAf.fn),(ya2,yEI.fn),(ycs,yEJ.fn),(yc2,yAg.fn),(ybm,yAh.fn),(yeb,yCh.fn),(ybG,yCi.fn),(yfc,yAi.fn),(ygL,yAj.fn),(yfJ,yxB.fn),(ybU,yCj.fn),(yjj,yEK.fn),(yeY,yCk.fn),(yfd,yAk.fn),(yfe,yAl.fn),(ydG,yCl.fn),(yf5,yEL.fn),(yjk,yEM.fn),(yjl,yEN.fn),(ygM,yAm.fn),(ygN,yAn.fn),(ygO,yAo.fn),(yhO,yCm.fn),(ygP,yAp.fn),(ygX,ysr.fn)]
def quiL:List Nat:=[ygE,ydm,ycY,ygF,yjg,ygG,ydO,ycM,ybd,ycj,ybt,ycZ,yf3,ycf,ybj,yfE,ygH,yaG,ybk,ybu,yfF,yeq,ybc,yaL,ycA,yaR,ybP,ycd,ycr,ybF,ybl,yfG,yea,ya9,ycg,yer,yet,yjh,ycB,yf4,yji,yck,yc0,ybJ,yfa,ygI,yc1,yhN,yfH,ycC,ygJ,ygK,yeX,yfI,ycD,ydP,yfb,ya2,ycs,yc2,ybm,yeb,ybG,yfc,ygL,yfJ,ybU,yjj,yeY,yfd,yfe,ydG,yf5,yjk,yjl,ygM,ygN,ygO,yhO,ygP,ygX,(ydF+4000000)]
def cloL:yd9:=[(ybt,1,8)]
def gloL:List (Nat×PV):=[]
def E (ef:Es):Env:=(ylF yer yet tab quiL cloL gloL ef)
def E0C:Env:=ylb yer yet tab quiL cloL gloL
def yDJ:List Nat:=[]
abbrev EG (e:Es):Prop:=EffG E yDJ e
theorem yaP:EG []:=⟨fun _ _ _ _ h=>(by cases h),fun _ _ _ _=>rfl⟩
theorem okU {e:Es} (he:EG e) {P:EP} {S:SE} {d n:Nat} {t:TFn} {s:Sg} {w:s.W} (hq:EqW S d t s w) (hS:SEOk P S) (hR:yhM P S.E (yjc S d) t.body) (hl:LpOk P S.E S.lp [] t.body) (hE:S.E=E e:=by rfl) (hs:ys7 yer yet cloL n=false:=by kernel_rfl) (hm:memN yDJ n=false:=by kernel_rfl) (hf:S.E.fns n=some t.fn:=by kernel_rfl) (hu:S.E.qui n=true:=by kernel_rfl) (hn:S.E.nl n=false:=by kernel_rfl):∀ as K,s.pw w as K→∃ r,K r∧AnsP P n as r:=okW hq hS hR hl (fun _=>by rw [hE];exact ybi hs _) (by rw [hE];exact he.num _ hm) hf hu hn
abbrev ybQ:Type:=Ls→(Ls→Prop)→Prop
def yc3 (p0:Ls) (K:Ls→Prop):Prop:=yDF 1 8 p0 K
def yoQ (w:Ls→(Ls→Prop)→Prop) (as:Ls) (K:PV→Prop):Prop:=yt7 w as K
def yoR (as:Ls) (K:PV→Prop):Prop:=yt8 1 8 as K
theorem yoS (e:Es) (_:EG e):OkF (E e) yoR ybt:=yEA (by kernel_rfl) (by kernel_rfl) (by kernel_rfl)
abbrev ywv:Type:=Int→Int→Int→(Int→Int→Prop)→Prop
abbrev yww:Type:=Int→Int→Int→(Int→Int→Prop)→Prop
theorem yCn (e:Es) (_:EG e):OkF (E e) yoJ yer:=yEB
theorem yCo (e:Es) (_:EG e):OkF (E e) yoL yet:=yEC (by kernel_rfl)
end Go.Pf.Vc
namespace Go.Pf.Vc
open Go Go.Pf
set_option maxRecDepth 100000
abbrev yao:Type:=Int→(Int→Prop)→Prop
def yiv (p0:Int) (K:Int→Prop):Prop :=
 (cbr (decide (p0<(0:Int)))
 (K (IntKind.u64.wrap ((0:Int)-(IntKind.u64.wrap p0))))
 (K (IntKind.u64.wrap p0)))
def yc4:yao:=yiv
def pt0:VPt:=vI IntKind.i64
def pt1:LPt:=lC pt0 lN
def ynY:Sg:=⟨pt1,Int→Prop,fun K=>(fun r0=>K (.int .u64 r0))⟩
def yvd (e:Es):SE:=sE (E e) [] lp0
theorem yve (e:Es):EqW (yvd e) 6 yxs ynY yiv:=fun _ _=>by kernel_rfl
theorem yeP (e:Es) (he:EG e):OkF (E e) (ynY.pw yc4) yaG:=okU he (yve e) (yak (Sub.uni _) trivial trivial he.ok) yhM.flat (yae (by kernel_rfl))
abbrev yam:Type:=Int→Int→(Int→Prop)→Prop
def ydQ (x0:Int→Int→Bool→Prop):Nat→Int→Int→Prop
 | 0,_,_=>False
 | n+1,i0,i1 =>
 (cbr (decide (i1>(0:Int)))
 (asr (!(decide (i1=(0:Int))))
 (ydQ x0 n i1 (Int.tmod i0 i1)))
 (x0 i0 i1 false))
def ykg (p0 p1:Int) (K:Int→Prop):Prop :=
 (∃ n:Nat,ydQ
 (fun a _ _=>(K a))
 n p0 p1)
def ybA:yam:=ykg
def pt2:VPt:=vI IntKind.u64
def pt3:LPt:=lC pt2 lN
def pt4:LPt:=lC pt2 pt3
def ypN:Sg:=⟨pt4,Int→Prop,fun K=>(fun r0=>K (.int .u64 r0))⟩
def yss (Q:Qx):Int→Int→Bool→Prop:=(fun i0 i1 b2=>Q (.exit 0) [(0,.v (.int .u64 i0)),(1,.v (.int .u64 i1)),(6,.v (.bool b2))] [])
def pt5:Pat Sta:=pS hN (fV 0 pt2 (fV 1 pt2 fN)) fN
def ylJ (Q:Qx):List St:=[⟨pt5,ydQ (yss Q)⟩]
def ypO:LP:=lpS [(32725300,ylJ)]
def ykh (e:Es):SE:=sE (E e) [] (ypO)
theorem ynZ (e:Es) (he:EG e):SEOk (Uni (E e)) (ykh e):=yak (Sub.uni _) trivial trivial he.ok
theorem yqZ (e:Es):ycX (ykh e) 5 a yjX false (ylJ):=fun _=>⟨fun _=>by kernel_rfl,fun _ _=>by kernel_rfl,trivial⟩
theorem yq0 (e:Es) (he:EG e):LpT (Uni (E e)) (ypO) [] 32725300 (.loop 32725300 yjX):=fun _ _ _=>ylD.st (Sub.uni _) (yaz (ynZ e he) 5) (YOk.no _ _) (yae (by kernel_rfl)) (yqZ e _)
theorem yxC (e:Es):EqW (ykh e) 6 yz3 ypN ykg:=fun _ _=>by kernel_rfl
theorem yhc (e:Es) (he:EG e):OkF (E e) (ypN.pw ybA) ybk:=okU he (yxC e) (ynZ e he) yhM.flat (ya8 (l:=[(32725300,.loop 32725300 yjX)]) ⟨yq0 e he,trivial⟩ (by kernel_rfl))
abbrev ycE:Type:=Bool→Int→Int→(Int→Int→Int→Prop)→Prop
def ygY (p0:Bool) (p1 p2:Int) (K:Int→Int→Int→Prop):Prop :=
 (cbr (decide ((if p2>p1 then p2 else p1)>(1000000000000000000:Int)))
 (K (0:Int) (0:Int) (16:Int))
 (cbr p0
 (K (IntKind.i64.wrap ((0:Int)-(IntKind.i64.wrap p1))) (IntKind.i64.wrap p2) (0:Int))
 (K (IntKind.i64.wrap p1) (IntKind.i64.wrap p2) (0:Int))))
def ybv:ycE:=ygY
def yst:Sg:=⟨(lC vB pt4),Int→Int→Int→Prop,fun K=>(fun r0 r1 r2=>K (.tup [(.agg [(.int .i64 r0),(.int .i64 r1)]),(.int .i64 r2)]))⟩
def ysu (e:Es):SE:=sE (E e) [] lp0
theorem ysv (e:Es):EqW (ysu e) 6 yub yst ygY:=fun _ _=>by kernel_rfl
theorem ygZ (e:Es) (he:EG e):OkF (E e) (yst.pw ybv) ybu:=okU he (ysv e) (yak (Sub.uni _) trivial trivial he.ok) yhM.flat (yae (by kernel_rfl))
abbrev yeu:Type:=Int→Int→(Int→Int→Int→Prop)→Prop
def yiw (a0:yao) (a1:yam) (a2:ycE) (p0 p1:Int) (K:Int→Int→Int→Prop):Prop :=
 (cbr (p1 ==(0:Int))
 (K (0:Int) (0:Int) (18:Int))
 (a0 p0 (fun b =>
 (a0 p1 (fun c =>
 (a1 b c (fun a =>
 (asr (!(decide (a=(0:Int))))
 (asr (!(decide (a=(0:Int))))
 (a2 ((decide (p0<(0:Int))) !=(decide (p1<(0:Int)))) (IntKind.u64.wrap (Int.tdiv b a)) (IntKind.u64.wrap (Int.tdiv c a)) (fun d e f =>
 (K d e f))))))))))))
def ydH:yeu:=yiw yc4 ybA ybv
def pt6:LPt:=lC pt0 pt1
def yn2:Sg:=⟨pt6,Int→Int→Int→Prop,fun K=>(fun r0 r1 r2=>K (.tup [(.agg [(.int .i64 r0),(.int .i64 r1)]),(.int .i64 r2)]))⟩
def yvf (e:Es) (a0:yao) (a1:yam) (a2:ycE):SE:=sE (E e) [(yaG,ynY.pw a0),(ybk,ypN.pw a1),(ybu,yst.pw a2)] lp0
theorem yvg (e:Es) (a0 a1 a2):EqW (yvf e a0 a1 a2) 6 yxt yn2 (yiw a0 a1 a2):=fun _ _=>by kernel_rfl
theorem yn3 (e:Es) (he:EG e):OkF (E e) (yn2.pw ydH) yfF:=okU he (yvg e _ _ _) (yak (Sub.uni _) ⟨(yeP e he),(yhc e he),(ygZ e he),trivial⟩ trivial he.ok) yhM.flat (yae (by kernel_rfl))
def yhP (a0:yao) (a1:yam) (p0 p1:Int) (K:Int→Prop):Prop :=
 (cbr (decide (p1<(1:Int)))
 (K (8:Int))
 (a0 p0 (fun a =>
 (cbr (decide ((if (IntKind.u64.wrap p1)>a then (IntKind.u64.wrap p1) else a)>(1000000000000000000:Int)))
 (K (8:Int))
 (a0 p0 (fun b =>
 (a1 b (IntKind.u64.wrap p1) (fun c =>
 (cbr (decide (c>(1:Int)))
 (K (8:Int))
 (K (0:Int)))))))))))
def yaS:yam:=yhP yc4 ybA
def pt7:VPt:=vA pt6
def pt8:LPt:=lC pt7 lN
def ylK:Sg:=⟨pt8,Int→Prop,fun K=>(fun r0=>K (.int .i64 r0))⟩
def yud (e:Es) (a0:yao) (a1:yam):SE:=sE (E e) [(yaG,ynY.pw a0),(ybk,ypN.pw a1)] lp0
theorem yue (e:Es) (a0 a1):EqW (yud e a0 a1) 6 yvb ylK (yhP a0 a1):=fun _ _=>by kernel_rfl
theorem yec (e:Es) (he:EG e):OkF (E e) (ylK.pw yaS) ybc:=okU he (yue e _ _) (yak (Sub.uni _) ⟨(yeP e he),(yhc e he),trivial⟩ trivial he.ok) yhM.flat (yae (by kernel_rfl))
abbrev yar:Type:=Ls→(Int→Prop)→Prop
def ya3 (x0:Int→Prop) (x1:Int→Ls→Int→Int→Bool→Prop):Nat→Int→Ls→Int→Int→Prop
 | 0,_,_,_,_=>False
 | n+1,i0,l1,i2,i3 =>
 (cbr (decide (i3<i2))
 (asr (decide ((0:Int)≤i3))
 (asr (decide (i3<(((List.length l1):Nat):Int)))
 (asr (conf (.one (.i .i64)) (List.getD l1 (i3.toNat) .nils))
 (cbr ((yab (List.getD l1 (i3.toNat) .nils)) != i0)
 (x0 (yab (List.getD l1 (i3.toNat) .nils)))
 (ya3 x0 x1 n i0 l1 i2 (IntKind.i64.wrap (i3+(1:Int))))))))
 (x1 i0 l1 i2 i3 false))
def yeE (p0:Ls) (K:Int→Prop):Prop :=
 (∃ n:Nat,ya3
 (fun a=>(K a))
 (fun b _ _ _ _=>(K b))
 n (0:Int) p0 (((List.length p0):Nat):Int) (0:Int))
def ydI:yar:=yeE
def pt9:LPt:=lC vD lN
def ydh:Sg:=⟨pt9,Int→Prop,fun K=>(fun r0=>K (.int .i64 r0))⟩
def yki (Q:Qx):Int→Prop:=(fun i0=>Q .ret [(2,.v (.int .i64 i0))] [])
def ykj (Q:Qx):Int→Ls→Int→Int→Bool→Prop:=(fun i0 l1 i2 i3 b4=>Q (.exit 0) [(3,.v (.int .i64 i0)),(6,.v (.data l1)),(7,.v (.int .i64 i2)),(8,.v (.int .i64 i3)),(9,.v (.bool b4))] [])
def pt10:Pat Frm:=fV 7 pt0 (fV 8 pt0 fN)
def pt11:Pat Sta:=pS hN (fV 3 pt0 (fV 6 vD pt10)) fN
def yfX (Q:Qx):List St:=[⟨pt11,ya3 (yki Q) (ykj Q)⟩]
def yg4:LP:=lpS [(38508400,yfX)]
def yeF (e:Es):SE:=sE (E e) [] (yg4)
theorem ygQ (e:Es) (he:EG e):SEOk (Uni (E e)) (yeF e):=yak (Sub.uni _) trivial trivial he.ok
theorem yjn (e:Es):ycX (yeF e) 5 a yjY false (yfX):=fun _=>⟨fun _=>by kernel_rfl,fun _ _=>by kernel_rfl,trivial⟩
theorem yjo (e:Es) (he:EG e):LpT (Uni (E e)) (yg4) [] 38508400 (.loop 38508400 yjY):=fun _ _ _=>ylD.st (Sub.uni _) (yaz (ygQ e he) 5) (YOk.no _ _) (yae (by kernel_rfl)) (yjn e _)
theorem ynp (e:Es):EqW (yeF e) 6 yoM ydh yeE:=fun _ _=>by kernel_rfl
theorem ynq (e:Es) (he:EG e):OkF (E e) (ydh.pw ydI) ycA:=okU he (ynp e) (ygQ e he) yhM.flat (ya8 (l:=[(38508400,.loop 38508400 yjY)]) ⟨yjo e he,trivial⟩ (by kernel_rfl))
abbrev yaB:Type:=Int→Int→Int→Int→(Int→Prop)→Prop
def yhQ (a0:yam) (a1:yar) (p0 p1 p2 p3:Int) (K:Int→Prop):Prop :=
 (a0 p0 p1 (fun a =>
 (a0 p2 p3 (fun b =>
 (a1 ([(.int .i64 a),(.int .i64 b)]:Ls) (fun c =>
 (K c)))))))
def ycn:yaB:=yhQ yaS ydI
def pt12:LPt:=lC pt7 pt8
def ylL:Sg:=⟨pt12,Int→Prop,fun K=>(fun r0=>K (.int .i64 r0))⟩
def yuf (e:Es) (a0:yam) (a1:yar):SE:=sE (E e) [(ybc,ylK.pw a0),(ycA,ydh.pw a1)] lp0
theorem yug (e:Es) (a0 a1):EqW (yuf e a0 a1) 6 yvc ylL (yhQ a0 a1):=fun _ _=>by kernel_rfl
theorem yed (e:Es) (he:EG e):OkF (E e) (ylL.pw ycn) yaR:=okU he (yug e _ _) (yak (Sub.uni _) ⟨(yec e he),(ynq e he),trivial⟩ trivial he.ok) yhM.flat (yae (by kernel_rfl))
abbrev ybR:Type:=Int→(Bool→Prop)→Prop
def yeZ (p0:Int) (K:Bool→Prop):Prop :=
 (K (p0 != p0))
def yfK:ybR:=yeZ
def yoT:Sg:=⟨pt1,Bool→Prop,fun K=>(fun r0=>K (.bool r0))⟩
def yoU (e:Es):SE:=sE (E e) [] lp0
theorem yoV (e:Es):EqW (yoU e) 6 ypL yoT yeZ:=fun _ _=>by kernel_rfl
theorem yoW (e:Es) (he:EG e):OkF (E e) (yoT.pw yfK) ybP:=okU he (yoV e) (yak (Sub.uni _) trivial trivial he.ok) yhM.flat (yae (by kernel_rfl))
def yee (a0:ybR) (p0 p1:Int) (K:Int→Prop):Prop :=
 (a0 p0 (fun b =>
 (a0 p1 (fun a =>
 (cbr b
 (cbr a
 (K (0:Int))
 (K (-1:Int)))
 (cbr a
 (K (1:Int))
 (cbr (decide (p0<p1))
 (K (-1:Int))
 (cbr (decide (p0>p1))
 (K (1:Int))
 (K (0:Int))))))))))
def ydi:yam:=yee yfK
def ylM:Sg:=⟨pt6,Int→Prop,fun K=>(fun r0=>K (.int .i64 r0))⟩
def ylN (e:Es) (a0:ybR):SE:=sE (E e) [(ybP,yoT.pw a0)] lp0
theorem ylO (e:Es) (a0):EqW (ylN e a0) 6 yno ylM (yee a0):=fun _ _=>by kernel_rfl
theorem ylP (e:Es) (he:EG e):OkF (E e) (ylM.pw ydi) ycd:=okU he (ylO e _) (yak (Sub.uni _) ⟨(yoW e he),trivial⟩ trivial he.ok) yhM.flat (yae (by kernel_rfl))
abbrev ybn:Type:=Int→Int→(Int→Int→Prop)→Prop
def yoX (p0 p1:Int) (K:Int→Int→Prop):Prop :=
 (K (IntKind.u64.wrap ((IntKind.u64.wrap ((IntKind.u64.wrap ((Int.fdiv p0 4294967296)*(Int.fdiv p1 4294967296)))+(Int.fdiv (IntKind.u64.wrap ((IntKind.u64.wrap ((Int.fdiv p0 4294967296)*(IntKind.u64.wrap (BitVec.ofInt IntKind.u64.bits p1&&&BitVec.ofInt IntKind.u64.bits (4294967295:Int)).toNat)))+(Int.fdiv (IntKind.u64.wrap ((IntKind.u64.wrap (BitVec.ofInt IntKind.u64.bits p0&&&BitVec.ofInt IntKind.u64.bits (4294967295:Int)).toNat)*(IntKind.u64.wrap (BitVec.ofInt IntKind.u64.bits p1&&&BitVec.ofInt IntKind.u64.bits (4294967295:Int)).toNat))) 4294967296))) 4294967296)))+(Int.fdiv (IntKind.u64.wrap ((IntKind.u64.wrap (BitVec.ofInt IntKind.u64.bits (IntKind.u64.wrap ((IntKind.u64.wrap ((Int.fdiv p0 4294967296)*(IntKind.u64.wrap (BitVec.ofInt IntKind.u64.bits p1&&&BitVec.ofInt IntKind.u64.bits (4294967295:Int)).toNat)))+(Int.fdiv (IntKind.u64.wrap ((IntKind.u64.wrap (BitVec.ofInt IntKind.u64.bits p0&&&BitVec.ofInt IntKind.u64.bits (4294967295:Int)).toNat)*(IntKind.u64.wrap (BitVec.ofInt IntKind.u64.bits p1&&&BitVec.ofInt IntKind.u64.bits (4294967295:Int)).toNat))) 4294967296)))&&&BitVec.ofInt IntKind.u64.bits (4294967295:Int)).toNat)+(IntKind.u64.wrap ((IntKind.u64.wrap (BitVec.ofInt IntKind.u64.bits p0&&&BitVec.ofInt IntKind.u64.bits (4294967295:Int)).toNat)*(Int.fdiv p1 4294967296))))) 4294967296))) (IntKind.u64.wrap (p0*p1)))
def yev:ybn:=yoX
def yCp:Sg:=⟨pt4,Int→Int→Prop,fun K=>(fun r0 r1=>K (.tup [(.int .u64 r0),(.int .u64 r1)]))⟩
def yCq (e:Es):SE:=sE (E e) [] lp0
theorem yCr (e:Es):EqW (yCq e) 6 yEE yCp yoX:=fun _ _=>by kernel_rfl
theorem yoY (e:Es) (he:EG e):OkF (E e) (yCp.pw yev) ycr:=okU he (yCr e) (yak (Sub.uni _) trivial trivial he.ok) yhM.flat (yae (by kernel_rfl))
def yeG (p0:Int) (K:Bool→Prop):Prop :=
 (K (p0 != p0))
def ye0:ybR:=yeG
def ynr:Sg:=⟨pt3,Bool→Prop,fun K=>(fun r0=>K (.bool r0))⟩
def yns (e:Es):SE:=sE (E e) [] lp0
theorem ynt (e:Es):EqW (yns e) 6 yoN ynr yeG:=fun _ _=>by kernel_rfl
theorem ynu (e:Es) (he:EG e):OkF (E e) (ynr.pw ye0) ybF:=okU he (ynt e) (yak (Sub.uni _) trivial trivial he.ok) yhM.flat (yae (by kernel_rfl))
def ydY (a0:ybR) (p0 p1:Int) (K:Int→Prop):Prop :=
 (a0 p0 (fun b =>
 (a0 p1 (fun a =>
 (cbr b
 (cbr a
 (K (0:Int))
 (K (-1:Int)))
 (cbr a
 (K (1:Int))
 (cbr (decide (p0<p1))
 (K (-1:Int))
 (cbr (decide (p0>p1))
 (K (1:Int))
 (K (0:Int))))))))))
def yc5:yam:=ydY ye0
def ylk:Sg:=⟨pt4,Int→Prop,fun K=>(fun r0=>K (.int .i64 r0))⟩
def yll (e:Es) (a0:ybR):SE:=sE (E e) [(ybF,ynr.pw a0)] lp0
theorem ylm (e:Es) (a0):EqW (yll e a0) 6 ylI ylk (ydY a0):=fun _ _=>by kernel_rfl
theorem yln (e:Es) (he:EG e):OkF (E e) (ylk.pw yc5) ybl:=okU he (ylm e _) (yak (Sub.uni _) ⟨(ynu e he),trivial⟩ trivial he.ok) yhM.flat (yae (by kernel_rfl))
def yct (x0:Int→Prop) (x1:Int→Ls→Int→Int→Bool→Prop):Nat→Int→Ls→Int→Int→Prop
 | 0,_,_,_,_=>False
 | n+1,i0,l1,i2,i3 =>
 (cbr (decide (i3<i2))
 (asr (decide ((0:Int)≤i3))
 (asr (decide (i3<(((List.length l1):Nat):Int)))
 (asr (conf (.one (.i .i64)) (List.getD l1 (i3.toNat) .nils))
 (cbr ((yab (List.getD l1 (i3.toNat) .nils)) != i0)
 (x0 (yab (List.getD l1 (i3.toNat) .nils)))
 (yct x0 x1 n i0 l1 i2 (IntKind.i64.wrap (i3+(1:Int))))))))
 (x1 i0 l1 i2 i3 false))
def yix (p0:Ls) (K:Int→Prop):Prop :=
 (∃ n:Nat,yct
 (fun a=>(K a))
 (fun b _ _ _ _=>(K b))
 n (0:Int) p0 (((List.length p0):Nat):Int) (0:Int))
def yhd:yar:=yix
def yq1 (Q:Qx):Int→Prop:=(fun i0=>Q .ret [(2,.v (.int .i64 i0))] [])
def yq2 (Q:Qx):Int→Ls→Int→Int→Bool→Prop:=(fun i0 l1 i2 i3 b4=>Q (.exit 0) [(3,.v (.int .i64 i0)),(6,.v (.data l1)),(7,.v (.int .i64 i2)),(8,.v (.int .i64 i3)),(9,.v (.bool b4))] [])
def ylc (Q:Qx):List St:=[⟨pt11,yct (yq1 Q) (yq2 Q)⟩]
def yn4:LP:=lpS [(53260600,ylc)]
def yiy (e:Es):SE:=sE (E e) [] (yn4)
theorem ylQ (e:Es) (he:EG e):SEOk (Uni (E e)) (yiy e):=yak (Sub.uni _) trivial trivial he.ok
theorem ypP (e:Es):ycX (yiy e) 5 a yjZ false (ylc):=fun _=>⟨fun _=>by kernel_rfl,fun _ _=>by kernel_rfl,trivial⟩
theorem ypQ (e:Es) (he:EG e):LpT (Uni (E e)) (yn4) [] 53260600 (.loop 53260600 yjZ):=fun _ _ _=>ylD.st (Sub.uni _) (yaz (ylQ e he) 5) (YOk.no _ _) (yae (by kernel_rfl)) (ypP e _)
theorem yvh (e:Es):EqW (yiy e) 6 yxw ydh yix:=fun _ _=>by kernel_rfl
theorem yvi (e:Es) (he:EG e):OkF (E e) (ydh.pw yhd) yfG:=okU he (yvh e) (ylQ e he) yhM.flat (ya8 (l:=[(53260600,.loop 53260600 yjZ)]) ⟨ypQ e he,trivial⟩ (by kernel_rfl))
abbrev yaC:Type:=Int→Int→Int→Int→(Int→Int→Prop)→Prop
def ykk (a0:yaB) (a1:yam) (a2:yao) (a3:ybn) (a4:yam) (a5:yar) (p0 p1 p2 p3:Int) (K:Int→Int→Prop):Prop :=
 (a0 p0 p1 p2 p3 (fun a =>
 (cbr (a !=(0:Int))
 (K (0:Int) a)
 (cbr ((decide (p0<(0:Int))) !=(decide (p2<(0:Int))))
 (a1 p0 p2 (fun c =>
 (K c (0:Int))))
 (a2 p0 (fun d =>
 (a3 d (IntKind.u64.wrap p3) (fun e f =>
 (a2 p2 (fun g =>
 (a3 g (IntKind.u64.wrap p1) (fun h i =>
 (a4 e h (fun j =>
 (a4 f i (fun k =>
 (a5 ([(.int .i64 j),(.int .i64 k)]:Ls) (fun b =>
 (cbr (decide (p0<(0:Int)))
 (K (IntKind.i64.wrap ((0:Int)-b)) (0:Int))
 (K b (0:Int)))))))))))))))))))))
def ydz:yaC:=ykk ycn ydi yc4 yev yc5 yhd
def yxD:Sg:=⟨pt12,Int→Int→Prop,fun K=>(fun r0 r1=>K (.tup [(.int .i64 r0),(.int .i64 r1)]))⟩
def yxE (e:Es) (a0:yaB) (a1:yam) (a2:yao) (a3:ybn) (a4:yam) (a5:yar):SE:=sE (E e) [(yaR,ylL.pw a0),(ycd,ylM.pw a1),(yaG,ynY.pw a2),(ycr,yCp.pw a3),(ybl,ylk.pw a4),(yfG,ydh.pw a5)] lp0
theorem yxF (e:Es) (a0 a1 a2 a3 a4 a5):EqW (yxE e a0 a1 a2 a3 a4 a5) 6 yz4 yxD (ykk a0 a1 a2 a3 a4 a5):=fun _ _=>by kernel_rfl
theorem ykl (e:Es) (he:EG e):OkF (E e) (yxD.pw ydz) yea:=okU he (yxF e _ _ _ _ _ _) (yak (Sub.uni _) ⟨(yed e he),(ylP e he),(yeP e he),(yoY e he),(yln e he),(yvi e he),trivial⟩ trivial he.ok) yhM.flat (yae (by kernel_rfl))
def yoZ (p0:Int) (K:Int→Prop):Prop :=
 (cbr (decide (p0≥(4294967296:Int)))
 (cbr (decide ((Int.fdiv p0 4294967296)≥(65536:Int)))
 (cbr (decide ((Int.fdiv (Int.fdiv p0 4294967296) 65536)≥(256:Int)))
 (asr (decide ((0:Int)≤(IntKind.u8.wrap (Int.fdiv (Int.fdiv (Int.fdiv p0 4294967296) 65536) 256))))
 (asr (decide ((IntKind.u8.wrap (Int.fdiv (Int.fdiv (Int.fdiv p0 4294967296) 65536) 256))<(256:Int)))
 (K (IntKind.i64.wrap ((56:Int)+(IntKind.i64.wrap (yab (List.getD yfC ((IntKind.u8.wrap (Int.fdiv (Int.fdiv (Int.fdiv p0 4294967296) 65536) 256)).toNat) .nils))))))))
 (asr (decide ((0:Int)≤(IntKind.u8.wrap (Int.fdiv (Int.fdiv p0 4294967296) 65536))))
 (asr (decide ((IntKind.u8.wrap (Int.fdiv (Int.fdiv p0 4294967296) 65536))<(256:Int)))
 (K (IntKind.i64.wrap ((48:Int)+(IntKind.i64.wrap (yab (List.getD yfC ((IntKind.u8.wrap (Int.fdiv (Int.fdiv p0 4294967296) 65536)).toNat) .nils)))))))))
 (cbr (decide ((Int.fdiv p0 4294967296)≥(256:Int)))
 (asr (decide ((0:Int)≤(IntKind.u8.wrap (Int.fdiv (Int.fdiv p0 4294967296) 256))))
 (asr (decide ((IntKind.u8.wrap (Int.fdiv (Int.fdiv p0 4294967296) 256))<(256:Int)))
 (K (IntKind.i64.wrap ((40:Int)+(IntKind.i64.wrap (yab (List.getD yfC ((IntKind.u8.wrap (Int.fdiv (Int.fdiv p0 4294967296) 256)).toNat) .nils))))))))
 (asr (decide ((0:Int)≤(IntKind.u8.wrap (Int.fdiv p0 4294967296))))
 (asr (decide ((IntKind.u8.wrap (Int.fdiv p0 4294967296))<(256:Int)))
 (K (IntKind.i64.wrap ((32:Int)+(IntKind.i64.wrap (yab (List.getD yfC ((IntKind.u8.wrap (Int.fdiv p0 4294967296)).toNat) .nils))))))))))
 (cbr (decide (p0≥(65536:Int)))
 (cbr (decide ((Int.fdiv p0 65536)≥(256:Int)))
 (asr (decide ((0:Int)≤(IntKind.u8.wrap (Int.fdiv (Int.fdiv p0 65536) 256))))
 (asr (decide ((IntKind.u8.wrap (Int.fdiv (Int.fdiv p0 65536) 256))<(256:Int)))
 (K (IntKind.i64.wrap ((24:Int)+(IntKind.i64.wrap (yab (List.getD yfC ((IntKind.u8.wrap (Int.fdiv (Int.fdiv p0 65536) 256)).toNat) .nils))))))))
 (asr (decide ((0:Int)≤(IntKind.u8.wrap (Int.fdiv p0 65536))))
 (asr (decide ((IntKind.u8.wrap (Int.fdiv p0 65536))<(256:Int)))
 (K (IntKind.i64.wrap ((16:Int)+(IntKind.i64.wrap (yab (List.getD yfC ((IntKind.u8.wrap (Int.fdiv p0 65536)).toNat) .nils)))))))))
 (cbr (decide (p0≥(256:Int)))
 (asr (decide ((0:Int)≤(IntKind.u8.wrap (Int.fdiv p0 256))))
 (asr (decide ((IntKind.u8.wrap (Int.fdiv p0 256))<(256:Int)))
 (K (IntKind.i64.wrap ((8:Int)+(IntKind.i64.wrap (yab (List.getD yfC ((IntKind.u8.wrap (Int.fdiv p0 256)).toNat) .nils))))))))
 (asr (decide ((0:Int)≤(IntKind.u8.wrap p0)))
 (asr (decide ((IntKind.u8.wrap p0)<(256:Int)))
 (K (IntKind.i64.wrap ((0:Int)+(IntKind.i64.wrap (yab (List.getD yfC ((IntKind.u8.wrap p0).toNat) .nils)))))))))))
def ym9:yao:=yoZ
def yuh:Sg:=⟨pt3,Int→Prop,fun K=>(fun r0=>K (.int .i64 r0))⟩
def yCs (e:Es):SE:=sE (E e) [] lp0
theorem yCt (e:Es):EqW (yCs e) 6 yEF yuh yoZ:=fun _ _=>by kernel_rfl
theorem yCu (e:Es) (he:EG e):OkF (E e) (yuh.pw ym9) yjh:=okU he (yCt e) (yak (Sub.uni _) trivial trivial he.ok) yhM.flat (yae (by kernel_rfl))
def yeH (a0:yao) (p0:Int) (K:Int→Prop):Prop :=
 (a0 p0 (fun a =>
 (K (IntKind.i64.wrap ((64:Int)-a)))))
def yaY:yao:=yeH ym9
def ynv (e:Es) (a0:yao):SE:=sE (E e) [(yjh,yuh.pw a0)] lp0
theorem ynw (e:Es) (a0):EqW (ynv e a0) 6 yoO yuh (yeH a0):=fun _ _=>by kernel_rfl
theorem ynx (e:Es) (he:EG e):OkF (E e) (yuh.pw yaY) ycB:=okU he (ynw e _) (yak (Sub.uni _) ⟨(yCu e he),trivial⟩ trivial he.ok) yhM.flat (yae (by kernel_rfl))
abbrev yjp:Type:=Int→Int→Int→(Int→Int→Prop)→Prop
mutual
def ygt (a0:yao) (a:Int→Int→Int→Int→Int→Int→Int→Int→Int→Bool→Prop) (b:Int→Int→Int→Int→Int→Int→Int→Int→Int→Bool→Prop):Nat→Int→Int→Int→Int→Int→Int→Int→Int→Int→Prop
 | 0,_,_,_,_,_,_,_,_,_=>False
 | c+1,i0,i1,i2,i3,i4,i5,i6,i7,i8 =>
 (cbr (decide (i7≥(4294967296:Int)))
 (cbr (decide ((IntKind.u64.wrap (i8+i2))≥(4294967296:Int)))
 (a i0 i1 i2 i3 i4 i5 i6 (IntKind.u64.wrap (i7-(1:Int))) (IntKind.u64.wrap (i8+i2)) true)
 (yco a0 a b c i0 i1 i2 i3 i4 i5 i6 (IntKind.u64.wrap (i7-(1:Int))) (IntKind.u64.wrap (i8+i2)) false))
 (cbr (decide ((IntKind.u64.wrap (i7*i3))>(IntKind.u64.wrap ((IntKind.u64.wrap ((4294967296:Int)*i8))+i5))))
 (cbr (decide ((IntKind.u64.wrap (i8+i2))≥(4294967296:Int)))
 (a i0 i1 i2 i3 i4 i5 i6 (IntKind.u64.wrap (i7-(1:Int))) (IntKind.u64.wrap (i8+i2)) true)
 (yco a0 a b c i0 i1 i2 i3 i4 i5 i6 (IntKind.u64.wrap (i7-(1:Int))) (IntKind.u64.wrap (i8+i2)) false))
 (b i0 i1 i2 i3 i4 i5 i6 i7 i8 false)))
def yco (a0:yao) (a:Int→Int→Int→Int→Int→Int→Int→Int→Int→Bool→Prop) (b:Int→Int→Int→Int→Int→Int→Int→Int→Int→Bool→Prop):Nat→Int→Int→Int→Int→Int→Int→Int→Int→Int→Bool→Prop
 | 0,_,_,_,_,_,_,_,_,_,_=>False
 | c+1,i0,i1,i2,i3,i4,i5,i6,i7,i8,_ =>
 (cbr (decide (i7≥(4294967296:Int)))
 (cbr (decide ((IntKind.u64.wrap (i8+i2))≥(4294967296:Int)))
 (a i0 i1 i2 i3 i4 i5 i6 (IntKind.u64.wrap (i7-(1:Int))) (IntKind.u64.wrap (i8+i2)) true)
 (yco a0 a b c i0 i1 i2 i3 i4 i5 i6 (IntKind.u64.wrap (i7-(1:Int))) (IntKind.u64.wrap (i8+i2)) false))
 (cbr (decide ((IntKind.u64.wrap (i7*i3))>(IntKind.u64.wrap ((IntKind.u64.wrap ((4294967296:Int)*i8))+i5))))
 (cbr (decide ((IntKind.u64.wrap (i8+i2))≥(4294967296:Int)))
 (a i0 i1 i2 i3 i4 i5 i6 (IntKind.u64.wrap (i7-(1:Int))) (IntKind.u64.wrap (i8+i2)) true)
 (yco a0 a b c i0 i1 i2 i3 i4 i5 i6 (IntKind.u64.wrap (i7-(1:Int))) (IntKind.u64.wrap (i8+i2)) false))
 (b i0 i1 i2 i3 i4 i5 i6 i7 i8 false)))
end
mutual
def ydU (a0:yao) (a:Int→Int→Int→Int→Int→Int→Int→Int→Int→Bool→Prop) (b:Int→Int→Int→Int→Int→Int→Int→Int→Int→Bool→Prop):Nat→Int→Int→Int→Int→Int→Int→Int→Int→Int→Prop
 | 0,_,_,_,_,_,_,_,_,_=>False
 | c+1,i0,i1,i2,i3,i4,i5,i6,i7,i8 =>
 (cbr (decide (i8≥(4294967296:Int)))
 (cbr (decide ((IntKind.u64.wrap (i6+i2))≥(4294967296:Int)))
 (a i0 i1 i2 i3 i4 i5 (IntKind.u64.wrap (i6+i2)) i7 (IntKind.u64.wrap (i8-(1:Int))) true)
 (ycp a0 a b c i0 i1 i2 i3 i4 i5 (IntKind.u64.wrap (i6+i2)) i7 (IntKind.u64.wrap (i8-(1:Int))) false))
 (cbr (decide ((IntKind.u64.wrap (i8*i3))>(IntKind.u64.wrap ((IntKind.u64.wrap ((4294967296:Int)*i6))+i4))))
 (cbr (decide ((IntKind.u64.wrap (i6+i2))≥(4294967296:Int)))
 (a i0 i1 i2 i3 i4 i5 (IntKind.u64.wrap (i6+i2)) i7 (IntKind.u64.wrap (i8-(1:Int))) true)
 (ycp a0 a b c i0 i1 i2 i3 i4 i5 (IntKind.u64.wrap (i6+i2)) i7 (IntKind.u64.wrap (i8-(1:Int))) false))
 (b i0 i1 i2 i3 i4 i5 i6 i7 i8 false)))
def ycp (a0:yao) (a:Int→Int→Int→Int→Int→Int→Int→Int→Int→Bool→Prop) (b:Int→Int→Int→Int→Int→Int→Int→Int→Int→Bool→Prop):Nat→Int→Int→Int→Int→Int→Int→Int→Int→Int→Bool→Prop
 | 0,_,_,_,_,_,_,_,_,_,_=>False
 | c+1,i0,i1,i2,i3,i4,i5,i6,i7,i8,_ =>
 (cbr (decide (i8≥(4294967296:Int)))
 (cbr (decide ((IntKind.u64.wrap (i6+i2))≥(4294967296:Int)))
 (a i0 i1 i2 i3 i4 i5 (IntKind.u64.wrap (i6+i2)) i7 (IntKind.u64.wrap (i8-(1:Int))) true)
 (ycp a0 a b c i0 i1 i2 i3 i4 i5 (IntKind.u64.wrap (i6+i2)) i7 (IntKind.u64.wrap (i8-(1:Int))) false))
 (cbr (decide ((IntKind.u64.wrap (i8*i3))>(IntKind.u64.wrap ((IntKind.u64.wrap ((4294967296:Int)*i6))+i4))))
 (cbr (decide ((IntKind.u64.wrap (i6+i2))≥(4294967296:Int)))
 (a i0 i1 i2 i3 i4 i5 (IntKind.u64.wrap (i6+i2)) i7 (IntKind.u64.wrap (i8-(1:Int))) true)
 (ycp a0 a b c i0 i1 i2 i3 i4 i5 (IntKind.u64.wrap (i6+i2)) i7 (IntKind.u64.wrap (i8-(1:Int))) false))
 (b i0 i1 i2 i3 i4 i5 i6 i7 i8 false)))
end
def yo0 (a0:yao) (p0 p1 p2:Int) (K:Int→Int→Prop):Prop :=
 (cbr (p2 ==(0:Int))
 False
 (cbr (decide (p2≤p0))
 False
 (cbr (p0 ==(0:Int))
 (asr (!(decide (p2=(0:Int))))
 (asr (!(decide (p2=(0:Int))))
 (K (IntKind.u64.wrap (Int.tdiv p1 p2)) (Int.tmod p1 p2))))
 (a0 p2 (fun a =>
 (asr (!(decide ((IntKind.u64.wrap a)<(0:Int))))
 (asr (!(decide ((IntKind.u64.wrap a)<(0:Int))))
 (asr (!(decide ((IntKind.u64.wrap ((64:Int)-(IntKind.u64.wrap a)))<(0:Int))))
 (asr (!(decide ((IntKind.u64.wrap a)<(0:Int))))
 (asr (!(decide ((Int.fdiv (IntKind.u64.wrap (p2*2 ^ (min (IntKind.u64.wrap a).toNat IntKind.u64.bits))) 4294967296)=(0:Int))))
 (∃ u:Nat,ygt a0
 (fun b v c w h i x d _ _=>(asr (!(decide (c=(0:Int))))
 (∃ l:Nat,ydU a0
 (fun y m _ _ z A _ B n _=>(asr (!(decide (m<(0:Int))))
 (K (IntKind.u64.wrap ((IntKind.u64.wrap (A*(4294967296:Int)))+n)) (Int.fdiv (IntKind.u64.wrap ((IntKind.u64.wrap ((IntKind.u64.wrap (B*(4294967296:Int)))+z))-(IntKind.u64.wrap (n*y)))) (2 ^ (min m.toNat IntKind.u64.bits))))))
 (fun C o _ _ D E _ F p _=>(asr (!(decide (o<(0:Int))))
 (K (IntKind.u64.wrap ((IntKind.u64.wrap (E*(4294967296:Int)))+p)) (Int.fdiv (IntKind.u64.wrap ((IntKind.u64.wrap ((IntKind.u64.wrap (F*(4294967296:Int)))+D))-(IntKind.u64.wrap (p*C)))) (2 ^ (min o.toNat IntKind.u64.bits))))))
 l b v c w x d (IntKind.u64.wrap ((IntKind.u64.wrap ((IntKind.u64.wrap ((IntKind.u64.wrap (h*(4294967296:Int)))+i))-(IntKind.u64.wrap (d*b))))-(IntKind.u64.wrap ((IntKind.u64.wrap (Int.tdiv (IntKind.u64.wrap ((IntKind.u64.wrap ((IntKind.u64.wrap (h*(4294967296:Int)))+i))-(IntKind.u64.wrap (d*b)))) c))*c)))) (IntKind.u64.wrap ((IntKind.u64.wrap ((IntKind.u64.wrap (h*(4294967296:Int)))+i))-(IntKind.u64.wrap (d*b)))) (IntKind.u64.wrap (Int.tdiv (IntKind.u64.wrap ((IntKind.u64.wrap ((IntKind.u64.wrap (h*(4294967296:Int)))+i))-(IntKind.u64.wrap (d*b)))) c)))))
 (fun e G f H j k I g _ _=>(asr (!(decide (f=(0:Int))))
 (∃ l:Nat,ydU a0
 (fun J q _ _ L M _ N r _=>(asr (!(decide (q<(0:Int))))
 (K (IntKind.u64.wrap ((IntKind.u64.wrap (M*(4294967296:Int)))+r)) (Int.fdiv (IntKind.u64.wrap ((IntKind.u64.wrap ((IntKind.u64.wrap (N*(4294967296:Int)))+L))-(IntKind.u64.wrap (r*J)))) (2 ^ (min q.toNat IntKind.u64.bits))))))
 (fun O s _ _ Q R _ S t _=>(asr (!(decide (s<(0:Int))))
 (K (IntKind.u64.wrap ((IntKind.u64.wrap (R*(4294967296:Int)))+t)) (Int.fdiv (IntKind.u64.wrap ((IntKind.u64.wrap ((IntKind.u64.wrap (S*(4294967296:Int)))+Q))-(IntKind.u64.wrap (t*O)))) (2 ^ (min s.toNat IntKind.u64.bits))))))
 l e G f H I g (IntKind.u64.wrap ((IntKind.u64.wrap ((IntKind.u64.wrap ((IntKind.u64.wrap (j*(4294967296:Int)))+k))-(IntKind.u64.wrap (g*e))))-(IntKind.u64.wrap ((IntKind.u64.wrap (Int.tdiv (IntKind.u64.wrap ((IntKind.u64.wrap ((IntKind.u64.wrap (j*(4294967296:Int)))+k))-(IntKind.u64.wrap (g*e)))) f))*f)))) (IntKind.u64.wrap ((IntKind.u64.wrap ((IntKind.u64.wrap (j*(4294967296:Int)))+k))-(IntKind.u64.wrap (g*e)))) (IntKind.u64.wrap (Int.tdiv (IntKind.u64.wrap ((IntKind.u64.wrap ((IntKind.u64.wrap (j*(4294967296:Int)))+k))-(IntKind.u64.wrap (g*e)))) f)))))
 u (IntKind.u64.wrap (p2*2 ^ (min (IntKind.u64.wrap a).toNat IntKind.u64.bits))) (IntKind.u64.wrap a) (Int.fdiv (IntKind.u64.wrap (p2*2 ^ (min (IntKind.u64.wrap a).toNat IntKind.u64.bits))) 4294967296) (IntKind.u64.wrap (BitVec.ofInt IntKind.u64.bits (IntKind.u64.wrap (p2*2 ^ (min (IntKind.u64.wrap a).toNat IntKind.u64.bits)))&&&BitVec.ofInt IntKind.u64.bits (4294967295:Int)).toNat) (IntKind.u64.wrap (BitVec.ofInt IntKind.u64.bits (IntKind.u64.wrap (p0*2 ^ (min (IntKind.u64.wrap a).toNat IntKind.u64.bits)))|||BitVec.ofInt IntKind.u64.bits (Int.fdiv p1 (2 ^ (min (IntKind.u64.wrap ((64:Int)-(IntKind.u64.wrap a))).toNat IntKind.u64.bits)))).toNat) (Int.fdiv (IntKind.u64.wrap (p1*2 ^ (min (IntKind.u64.wrap a).toNat IntKind.u64.bits))) 4294967296) (IntKind.u64.wrap (BitVec.ofInt IntKind.u64.bits (IntKind.u64.wrap (p1*2 ^ (min (IntKind.u64.wrap a).toNat IntKind.u64.bits)))&&&BitVec.ofInt IntKind.u64.bits (4294967295:Int)).toNat) (IntKind.u64.wrap (Int.tdiv (IntKind.u64.wrap (BitVec.ofInt IntKind.u64.bits (IntKind.u64.wrap (p0*2 ^ (min (IntKind.u64.wrap a).toNat IntKind.u64.bits)))|||BitVec.ofInt IntKind.u64.bits (Int.fdiv p1 (2 ^ (min (IntKind.u64.wrap ((64:Int)-(IntKind.u64.wrap a))).toNat IntKind.u64.bits)))).toNat) (Int.fdiv (IntKind.u64.wrap (p2*2 ^ (min (IntKind.u64.wrap a).toNat IntKind.u64.bits))) 4294967296))) (IntKind.u64.wrap ((IntKind.u64.wrap (BitVec.ofInt IntKind.u64.bits (IntKind.u64.wrap (p0*2 ^ (min (IntKind.u64.wrap a).toNat IntKind.u64.bits)))|||BitVec.ofInt IntKind.u64.bits (Int.fdiv p1 (2 ^ (min (IntKind.u64.wrap ((64:Int)-(IntKind.u64.wrap a))).toNat IntKind.u64.bits)))).toNat)-(IntKind.u64.wrap ((IntKind.u64.wrap (Int.tdiv (IntKind.u64.wrap (BitVec.ofInt IntKind.u64.bits (IntKind.u64.wrap (p0*2 ^ (min (IntKind.u64.wrap a).toNat IntKind.u64.bits)))|||BitVec.ofInt IntKind.u64.bits (Int.fdiv p1 (2 ^ (min (IntKind.u64.wrap ((64:Int)-(IntKind.u64.wrap a))).toNat IntKind.u64.bits)))).toNat) (Int.fdiv (IntKind.u64.wrap (p2*2 ^ (min (IntKind.u64.wrap a).toNat IntKind.u64.bits))) 4294967296)))*(Int.fdiv (IntKind.u64.wrap (p2*2 ^ (min (IntKind.u64.wrap a).toNat IntKind.u64.bits))) 4294967296))))))))))))))))
def yff:yjp:=yo0 yaY
def yCv:Sg:=⟨(lC pt2 pt4),Int→Int→Prop,fun K=>(fun r0 r1=>K (.tup [(.int .u64 r0),(.int .u64 r1)]))⟩
def yn5 (Q:Qx):Int→Int→Int→Int→Int→Int→Int→Int→Int→Bool→Prop:=(fun i0 i1 i2 i3 i4 i5 i6 i7 i8 b9=>Q (.exit 0) [(2,.v (.int .u64 i0)),(8,.v (.int .u64 i1)),(9,.v (.int .u64 i2)),(10,.v (.int .u64 i3)),(11,.v (.int .u64 i4)),(13,.v (.int .u64 i5)),(14,.v (.int .u64 i6)),(15,.v (.int .u64 i7)),(16,.v (.int .u64 i8)),(85,.v (.bool b9))] [])
def yn6 (Q:Qx):Int→Int→Int→Int→Int→Int→Int→Int→Int→Bool→Prop:=(fun i0 i1 i2 i3 i4 i5 i6 i7 i8 b9=>Q (.exit 0) [(2,.v (.int .u64 i0)),(8,.v (.int .u64 i1)),(9,.v (.int .u64 i2)),(10,.v (.int .u64 i3)),(11,.v (.int .u64 i4)),(13,.v (.int .u64 i5)),(14,.v (.int .u64 i6)),(15,.v (.int .u64 i7)),(16,.v (.int .u64 i8)),(78,.v (.bool b9))] [])
def yn7 (Q:Qx):Int→Int→Int→Int→Int→Int→Int→Int→Int→Bool→Prop:=(fun i0 i1 i2 i3 i4 i5 i6 i7 i8 b9=>Q (.exit 2) [(2,.v (.int .u64 i0)),(8,.v (.int .u64 i1)),(9,.v (.int .u64 i2)),(10,.v (.int .u64 i3)),(14,.v (.int .u64 i4)),(15,.v (.int .u64 i5)),(16,.v (.int .u64 i6)),(17,.v (.int .u64 i7)),(18,.v (.int .u64 i8)),(120,.v (.bool b9))] [])
def yn8 (Q:Qx):Int→Int→Int→Int→Int→Int→Int→Int→Int→Bool→Prop:=(fun i0 i1 i2 i3 i4 i5 i6 i7 i8 b9=>Q (.exit 2) [(2,.v (.int .u64 i0)),(8,.v (.int .u64 i1)),(9,.v (.int .u64 i2)),(10,.v (.int .u64 i3)),(14,.v (.int .u64 i4)),(15,.v (.int .u64 i5)),(16,.v (.int .u64 i6)),(17,.v (.int .u64 i7)),(18,.v (.int .u64 i8)),(113,.v (.bool b9))] [])
def ypR (a0:yao) (Q:Qx):List St:=[⟨(pS hN (fV 2 pt2 (fV 8 pt2 (fV 9 pt2 (fV 10 pt2 (fV 11 pt2 (fV 13 pt2 (fV 14 pt2 (fV 15 pt2 (fV 16 pt2 fN))))))))) fN),ygt a0 (yn5 Q) (yn6 Q)⟩,⟨(pS hN (fV 2 pt2 (fV 8 pt2 (fV 9 pt2 (fV 10 pt2 (fV 11 pt2 (fV 13 pt2 (fV 14 pt2 (fV 15 pt2 (fV 16 pt2 (fV 85 vB fN)))))))))) fN),yco a0 (yn5 Q) (yn6 Q)⟩]
def ypS (a0:yao) (Q:Qx):List St:=[⟨(pS hN (fV 2 pt2 (fV 8 pt2 (fV 9 pt2 (fV 10 pt2 (fV 14 pt2 (fV 15 pt2 (fV 16 pt2 (fV 17 pt2 (fV 18 pt2 fN))))))))) fN),ydU a0 (yn7 Q) (yn8 Q)⟩,⟨(pS hN (fV 2 pt2 (fV 8 pt2 (fV 9 pt2 (fV 10 pt2 (fV 14 pt2 (fV 15 pt2 (fV 16 pt2 (fV 17 pt2 (fV 18 pt2 (fV 120 vB fN)))))))))) fN),ycp a0 (yn7 Q) (yn8 Q)⟩]
def yo1 (a0:yao):LP:=lpS [(60530100,ypR a0),(60530101,ypS a0)]
def ykm (e:Es) (a0:yao):SE:=sE (E e) [(ycB,yuh.pw a0)] (yo1 a0)
theorem ylR (e:Es) (he:EG e):SEOk (Uni (E e)) (ykm e yaY):=yak (Sub.uni _) ⟨(ynx e he),trivial⟩ trivial he.ok
theorem yui (e:Es) (a0):ycX (ykm e a0) 5 a yj0 false (ypR a0):=fun _=>⟨fun _=>by kernel_rfl,fun _ _=>by kernel_rfl,fun _=>by kernel_rfl,fun _ _=>by kernel_rfl,trivial⟩
theorem yuj (e:Es) (he:EG e):LpT (Uni (E e)) (yo1 yaY) [] 60530100 (.loop 60530100 yj0):=fun _ _ _=>ylD.st (Sub.uni _) (yaz (ylR e he) 5) (YOk.no _ _) (yae (by kernel_rfl)) (yui e _ _)
theorem yuk (e:Es) (a0):ycX (ykm e a0) 5 a yj1 false (ypS a0):=fun _=>⟨fun _=>by kernel_rfl,fun _ _=>by kernel_rfl,fun _=>by kernel_rfl,fun _ _=>by kernel_rfl,trivial⟩
theorem yul (e:Es) (he:EG e):LpT (Uni (E e)) (yo1 yaY) [] 60530101 (.loop 60530101 yj1):=fun _ _ _=>ylD.st (Sub.uni _) (yaz (ylR e he) 5) (YOk.no _ _) (yae (by kernel_rfl)) (yuk e _ _)
theorem yCw (e:Es) (a0):EqW (ykm e a0) 6 yEG yCv (yo0 a0):=fun _ _=>by kernel_rfl
theorem yum (e:Es) (he:EG e):OkF (E e) (yCv.pw yff) yf4:=okU he (yCw e _) (ylR e he) yhM.flat (ya8 (l:=[(60530100,.loop 60530100 yj0),(60530101,.loop 60530101 yj1)]) ⟨yuj e he,yul e he,trivial⟩ (by kernel_rfl))
abbrev yq3:Type:=Int→Int→Int→(Int→Prop)→Prop
def yo2 (a0:yjp) (p0 p1 p2:Int) (K:Int→Prop):Prop :=
 (asr (!(decide (p2=(0:Int))))
 (a0 (Int.tmod p0 p2) p1 p2 (fun _ a =>
 (K a))))
def yf6:yq3:=yo2 yff
def yCx:Sg:=⟨(lC pt2 pt4),Int→Prop,fun K=>(fun r0=>K (.int .u64 r0))⟩
def yCy (e:Es) (a0:yjp):SE:=sE (E e) [(yf4,yCv.pw a0)] lp0
theorem yCz (e:Es) (a0):EqW (yCy e a0) 6 yEH yCx (yo2 a0):=fun _ _=>by kernel_rfl
theorem yCA (e:Es) (he:EG e):OkF (E e) (yCx.pw yf6) yji:=okU he (yCz e _) (yak (Sub.uni _) ⟨(yum e he),trivial⟩ trivial he.ok) yhM.flat (yae (by kernel_rfl))
abbrev yad:Type:=Int→Int→Int→Int→(Int→Int→Int→Prop)→Prop
def ykn (a0:yaB) (a1:yam) (a2:yao) (a3:ybn) (a4:ywv) (a5:yq3) (a6:yjp) (a7:ycE) (a8:yww) (p0 p1 p2 p3:Int) (K:Int→Int→Int→Prop):Prop :=
 (a0 p0 p1 p2 p3 (fun z =>
 (cbr (z !=(0:Int))
 (K (0:Int) (0:Int) z)
 (a1 (IntKind.u64.wrap p1) (IntKind.u64.wrap p3) (fun a =>
 (a2 p0 (fun A =>
 (asr (!(decide (a=(0:Int))))
 (a3 A (IntKind.u64.wrap (Int.tdiv (IntKind.u64.wrap p3) a)) (fun b i =>
 (a2 p2 (fun B =>
 (asr (!(decide (a=(0:Int))))
 (a3 B (IntKind.u64.wrap (Int.tdiv (IntKind.u64.wrap p1) a)) (fun c j =>
 (cbr ((decide (p0<(0:Int))) ==(decide (p2<(0:Int))))
 (a4 i j (0:Int) (fun k C =>
 (a4 b c C (fun d _ =>
 (cbr (d ==(0:Int))
 (cbr (k ==(0:Int))
 (K (0:Int) (1:Int) (0:Int))
 (a5 d k a (fun D =>
 (a1 D a (fun p =>
 (cbr (decide (d≥p))
 (K (0:Int) (0:Int) (16:Int))
 (a6 d k p (fun E _ =>
 (asr (!(decide (a=(0:Int))))
 (asr (!(decide (p=(0:Int))))
 (a3 (IntKind.u64.wrap (Int.tdiv (IntKind.u64.wrap p1) a)) (IntKind.u64.wrap (Int.tdiv (IntKind.u64.wrap p3) p)) (fun F G =>
 (cbr (decide (F>(0:Int)))
 (K (0:Int) (0:Int) (16:Int))
 (a7 (decide (p0<(0:Int))) E G (fun H I J =>
 (K H I J))))))))))))))))
 (a5 d k a (fun L =>
 (a1 L a (fun q =>
 (cbr (decide (d≥q))
 (K (0:Int) (0:Int) (16:Int))
 (a6 d k q (fun M _ =>
 (asr (!(decide (a=(0:Int))))
 (asr (!(decide (q=(0:Int))))
 (a3 (IntKind.u64.wrap (Int.tdiv (IntKind.u64.wrap p1) a)) (IntKind.u64.wrap (Int.tdiv (IntKind.u64.wrap p3) q)) (fun N O =>
 (cbr (decide (N>(0:Int)))
 (K (0:Int) (0:Int) (16:Int))
 (a7 (decide (p0<(0:Int))) M O (fun Q R S =>
 (K Q R S))))))))))))))))))))
 (cbr (decide (b<c))
 (a8 j i (0:Int) (fun l T =>
 (a8 c b T (fun e _ =>
 (cbr (e ==(0:Int))
 (cbr (l ==(0:Int))
 (K (0:Int) (1:Int) (0:Int))
 (a5 e l a (fun U =>
 (a1 U a (fun r =>
 (cbr (decide (e≥r))
 (K (0:Int) (0:Int) (16:Int))
 (a6 e l r (fun V _ =>
 (asr (!(decide (a=(0:Int))))
 (asr (!(decide (r=(0:Int))))
 (a3 (IntKind.u64.wrap (Int.tdiv (IntKind.u64.wrap p1) a)) (IntKind.u64.wrap (Int.tdiv (IntKind.u64.wrap p3) r)) (fun W X =>
 (cbr (decide (W>(0:Int)))
 (K (0:Int) (0:Int) (16:Int))
 (a7 (!(decide (p0<(0:Int)))) V X (fun Y Z va =>
 (K Y Z va))))))))))))))))
 (a5 e l a (fun vb =>
 (a1 vb a (fun s =>
 (cbr (decide (e≥s))
 (K (0:Int) (0:Int) (16:Int))
 (a6 e l s (fun vc _ =>
 (asr (!(decide (a=(0:Int))))
 (asr (!(decide (s=(0:Int))))
 (a3 (IntKind.u64.wrap (Int.tdiv (IntKind.u64.wrap p1) a)) (IntKind.u64.wrap (Int.tdiv (IntKind.u64.wrap p3) s)) (fun vd ve =>
 (cbr (decide (vd>(0:Int)))
 (K (0:Int) (0:Int) (16:Int))
 (a7 (!(decide (p0<(0:Int)))) vc ve (fun vf vg vh =>
 (K vf vg vh))))))))))))))))))))
 (cbr (b == c)
 (cbr (decide (i<j))
 (a8 j i (0:Int) (fun m vi =>
 (a8 c b vi (fun f _ =>
 (cbr (f ==(0:Int))
 (cbr (m ==(0:Int))
 (K (0:Int) (1:Int) (0:Int))
 (a5 f m a (fun vj =>
 (a1 vj a (fun t =>
 (cbr (decide (f≥t))
 (K (0:Int) (0:Int) (16:Int))
 (a6 f m t (fun vk _ =>
 (asr (!(decide (a=(0:Int))))
 (asr (!(decide (t=(0:Int))))
 (a3 (IntKind.u64.wrap (Int.tdiv (IntKind.u64.wrap p1) a)) (IntKind.u64.wrap (Int.tdiv (IntKind.u64.wrap p3) t)) (fun vl vm =>
 (cbr (decide (vl>(0:Int)))
 (K (0:Int) (0:Int) (16:Int))
 (a7 (!(decide (p0<(0:Int)))) vk vm (fun vn vo vp =>
 (K vn vo vp))))))))))))))))
 (a5 f m a (fun vq =>
 (a1 vq a (fun u =>
 (cbr (decide (f≥u))
 (K (0:Int) (0:Int) (16:Int))
 (a6 f m u (fun vr _ =>
 (asr (!(decide (a=(0:Int))))
 (asr (!(decide (u=(0:Int))))
 (a3 (IntKind.u64.wrap (Int.tdiv (IntKind.u64.wrap p1) a)) (IntKind.u64.wrap (Int.tdiv (IntKind.u64.wrap p3) u)) (fun vs vt =>
 (cbr (decide (vs>(0:Int)))
 (K (0:Int) (0:Int) (16:Int))
 (a7 (!(decide (p0<(0:Int)))) vr vt (fun vu vv vw =>
 (K vu vv vw))))))))))))))))))))
 (a8 i j (0:Int) (fun n vx =>
 (a8 b c vx (fun g _ =>
 (cbr (g ==(0:Int))
 (cbr (n ==(0:Int))
 (K (0:Int) (1:Int) (0:Int))
 (a5 g n a (fun vy =>
 (a1 vy a (fun v =>
 (cbr (decide (g≥v))
 (K (0:Int) (0:Int) (16:Int))
 (a6 g n v (fun vz _ =>
 (asr (!(decide (a=(0:Int))))
 (asr (!(decide (v=(0:Int))))
 (a3 (IntKind.u64.wrap (Int.tdiv (IntKind.u64.wrap p1) a)) (IntKind.u64.wrap (Int.tdiv (IntKind.u64.wrap p3) v)) (fun vA vB =>
 (cbr (decide (vA>(0:Int)))
 (K (0:Int) (0:Int) (16:Int))
 (a7 (decide (p0<(0:Int))) vz vB (fun vC vD vE =>
 (K vC vD vE))))))))))))))))
 (a5 g n a (fun vF =>
 (a1 vF a (fun w =>
 (cbr (decide (g≥w))
 (K (0:Int) (0:Int) (16:Int))
 (a6 g n w (fun vG _ =>
 (asr (!(decide (a=(0:Int))))
 (asr (!(decide (w=(0:Int))))
 (a3 (IntKind.u64.wrap (Int.tdiv (IntKind.u64.wrap p1) a)) (IntKind.u64.wrap (Int.tdiv (IntKind.u64.wrap p3) w)) (fun vH vI =>
 (cbr (decide (vH>(0:Int)))
 (K (0:Int) (0:Int) (16:Int))
 (a7 (decide (p0<(0:Int))) vG vI (fun vJ vK vL =>
 (K vJ vK vL)))))))))))))))))))))
 (a8 i j (0:Int) (fun o vM =>
 (a8 b c vM (fun h _ =>
 (cbr (h ==(0:Int))
 (cbr (o ==(0:Int))
 (K (0:Int) (1:Int) (0:Int))
 (a5 h o a (fun vN =>
 (a1 vN a (fun x =>
 (cbr (decide (h≥x))
 (K (0:Int) (0:Int) (16:Int))
 (a6 h o x (fun vO _ =>
 (asr (!(decide (a=(0:Int))))
 (asr (!(decide (x=(0:Int))))
 (a3 (IntKind.u64.wrap (Int.tdiv (IntKind.u64.wrap p1) a)) (IntKind.u64.wrap (Int.tdiv (IntKind.u64.wrap p3) x)) (fun vP vQ =>
 (cbr (decide (vP>(0:Int)))
 (K (0:Int) (0:Int) (16:Int))
 (a7 (decide (p0<(0:Int))) vO vQ (fun vR vS vT =>
 (K vR vS vT))))))))))))))))
 (a5 h o a (fun vU =>
 (a1 vU a (fun y =>
 (cbr (decide (h≥y))
 (K (0:Int) (0:Int) (16:Int))
 (a6 h o y (fun vV _ =>
 (asr (!(decide (a=(0:Int))))
 (asr (!(decide (y=(0:Int))))
 (a3 (IntKind.u64.wrap (Int.tdiv (IntKind.u64.wrap p1) a)) (IntKind.u64.wrap (Int.tdiv (IntKind.u64.wrap p3) y)) (fun vW vX =>
 (cbr (decide (vW>(0:Int)))
 (K (0:Int) (0:Int) (16:Int))
 (a7 (decide (p0<(0:Int))) vV vX (fun vY vZ v0 =>
 (K vY vZ v0))))))))))))))))))))))))))))))))))))))
def yaU:yad:=ykn ycn ybA yc4 yev yhr yf6 yff ybv yhs
def ydJ:Sg:=⟨pt12,Int→Int→Int→Prop,fun K=>(fun r0 r1 r2=>K (.tup [(.agg [(.int .i64 r0),(.int .i64 r1)]),(.int .i64 r2)]))⟩
def yxG (e:Es) (a0:yaB) (a1:yam) (a2:yao) (a3:ybn) (a4:ywv) (a5:yq3) (a6:yjp) (a7:ycE) (a8:yww):SE:=sE (E e) [(yaR,ylL.pw a0),(ybk,ypN.pw a1),(yaG,ynY.pw a2),(ycr,yCp.pw a3),(yer,yoI a4),(yji,yCx.pw a5),(yf4,yCv.pw a6),(ybu,yst.pw a7),(yet,yoK a8)] lp0
theorem yxH (e:Es) (a0 a1 a2 a3 a4 a5 a6 a7 a8):EqW (yxG e a0 a1 a2 a3 a4 a5 a6 a7 a8) 6 yz6 ydJ (ykn a0 a1 a2 a3 a4 a5 a6 a7 a8):=fun _ _=>by kernel_rfl
theorem yfL (e:Es) (he:EG e):OkF (E e) (ydJ.pw yaU) yck:=okU he (yxH e _ _ _ _ _ _ _ _ _) (yak (Sub.uni _) ⟨(yed e he),(yhc e he),(yeP e he),(yoY e he),(yCn e he),(yCA e he),(yum e he),(ygZ e he),(yCo e he),trivial⟩ trivial he.ok) yhM.flat (yae (by kernel_rfl))
def yko (a0:yaB) (a1:yad) (p0 p1 p2 p3:Int) (K:Int→Int→Int→Prop):Prop :=
 (a0 p0 p1 p2 p3 (fun a =>
 (cbr (a !=(0:Int))
 (K (0:Int) (0:Int) a)
 (a1 p0 p1 (IntKind.i64.wrap ((0:Int)-p2)) p3 (fun b c d =>
 (K b c d))))))
def yaZ:yad:=yko ycn yaU
def yxI (e:Es) (a0:yaB) (a1:yad):SE:=sE (E e) [(yaR,ylL.pw a0),(yck,ydJ.pw a1)] lp0
theorem yxJ (e:Es) (a0 a1):EqW (yxI e a0 a1) 6 yz7 ydJ (yko a0 a1):=fun _ _=>by kernel_rfl
theorem yhe (e:Es) (he:EG e):OkF (E e) (ydJ.pw yaZ) yc0:=okU he (yxJ e _ _) (yak (Sub.uni _) ⟨(yed e he),(yfL e he),trivial⟩ trivial he.ok) yhM.flat (yae (by kernel_rfl))
def ykp (a0:yaB) (a1:yao) (a2:yam) (a3:ybn) (a4:ycE) (p0 p1 p2 p3:Int) (K:Int→Int→Int→Prop):Prop :=
 (a0 p0 p1 p2 p3 (fun d =>
 (cbr (d !=(0:Int))
 (K (0:Int) (0:Int) d)
 (a1 p0 (fun e =>
 (a1 p2 (fun f =>
 (a2 e (IntKind.u64.wrap p3) (fun a =>
 (a2 f (IntKind.u64.wrap p1) (fun b =>
 (asr (!(decide (a=(0:Int))))
 (asr (!(decide (b=(0:Int))))
 (a3 (IntKind.u64.wrap (Int.tdiv e a)) (IntKind.u64.wrap (Int.tdiv f b)) (fun h c =>
 (asr (!(decide (b=(0:Int))))
 (asr (!(decide (a=(0:Int))))
 (a3 (IntKind.u64.wrap (Int.tdiv (IntKind.u64.wrap p1) b)) (IntKind.u64.wrap (Int.tdiv (IntKind.u64.wrap p3) a)) (fun i g =>
 (cbr (decide ((IntKind.u64.wrap (h+i))>(0:Int)))
 (K (0:Int) (0:Int) (16:Int))
 (cbr (decide (c>(0:Int)))
 (a4 ((decide (p0<(0:Int))) !=(decide (p2<(0:Int)))) c g (fun j k l =>
 (K j k l)))
 (a4 false c g (fun m n o =>
 (K m n o))))))))))))))))))))))))
def yaV:yad:=ykp ycn yc4 ybA yev ybv
def yxK (e:Es) (a0:yaB) (a1:yao) (a2:yam) (a3:ybn) (a4:ycE):SE:=sE (E e) [(yaR,ylL.pw a0),(yaG,ynY.pw a1),(ybk,ypN.pw a2),(ycr,yCp.pw a3),(ybu,yst.pw a4)] lp0
theorem yxL (e:Es) (a0 a1 a2 a3 a4):EqW (yxK e a0 a1 a2 a3 a4) 6 yz8 ydJ (ykp a0 a1 a2 a3 a4):=fun _ _=>by kernel_rfl
theorem yfM (e:Es) (he:EG e):OkF (E e) (ydJ.pw yaV) ybJ:=okU he (yxL e _ _ _ _ _) (yak (Sub.uni _) ⟨(yed e he),(yeP e he),(yhc e he),(yoY e he),(ygZ e he),trivial⟩ trivial he.ok) yhM.flat (yae (by kernel_rfl))
def ykq (a0:yaB) (a1:yad) (p0 p1 p2 p3:Int) (K:Int→Int→Int→Prop):Prop :=
 (a0 p0 p1 p2 p3 (fun a =>
 (cbr (a !=(0:Int))
 (K (0:Int) (0:Int) a)
 (cbr (p2 ==(0:Int))
 (K (0:Int) (0:Int) (18:Int))
 (cbr (decide (p2<(0:Int)))
 (a1 p0 p1 (IntKind.i64.wrap ((0:Int)-p3)) (IntKind.i64.wrap ((0:Int)-p2)) (fun b c d =>
 (K b c d)))
 (a1 p0 p1 p3 p2 (fun e f g =>
 (K e f g))))))))
def ybK:yad:=ykq ycn yaV
def yxM (e:Es) (a0:yaB) (a1:yad):SE:=sE (E e) [(yaR,ylL.pw a0),(ybJ,ydJ.pw a1)] lp0
theorem yxN (e:Es) (a0 a1):EqW (yxM e a0 a1) 6 yz9 ydJ (ykq a0 a1):=fun _ _=>by kernel_rfl
theorem ykr (e:Es) (he:EG e):OkF (E e) (ydJ.pw ybK) yfa:=okU he (yxN e _ _) (yak (Sub.uni _) ⟨(yed e he),(yfM e he),trivial⟩ trivial he.ok) yhM.flat (yae (by kernel_rfl))
end Go.Pf.Vc
namespace Go.Pf.Vc
open Go Go.Pf
set_option linter.unusedVariables false
theorem yun (p0:Int) (p1:Int) (r0:Int) (r1:Int) (r2:Int) (h:∀ K:Int→Int→Int→Prop,K r0 r1 r2→ydH p0 p1 K) (K:Int→Int→Int→Prop):ydH p0 p1 K=K r0 r1 r2 :=
 propext ⟨fun k=>detC (yn3 [] yaP) (as:=[(.int .i64 p0),(.int .i64 p1)]) (x:=(.tup [(.agg [(.int .i64 r0),(.int .i64 r1)]),(.int .i64 r2)])) (fun K' k'=>h (fun r0 r1 r2=>K' (.tup [(.agg [(.int .i64 r0),(.int .i64 r1)]),(.int .i64 r2)])) k') (K:=fun x=>match x with | (.tup [(.agg [(.int .i64 r0),(.int .i64 r1)]),(.int .i64 r2)])=>K r0 r1 r2 | _=>False) k,h K⟩
theorem ysw (p0:Int) (p1:Int) (r0:Int) (h:∀ K:Int→Prop,K r0→yaS p0 p1 K) (K:Int→Prop):yaS p0 p1 K=K r0 :=
 propext ⟨fun k=>detC (yec [] yaP) (as:=[(.agg [(.int .i64 p0),(.int .i64 p1)])]) (x:=(.int .i64 r0)) (fun K' k'=>h (fun r0=>K' (.int .i64 r0)) k') (K:=fun x=>match x with | (.int .i64 r0)=>K r0 | _=>False) k,h K⟩
theorem yvj (p0:Int) (p1:Int) (p2:Int) (p3:Int) (r0:Int) (r1:Int) (h:∀ K:Int→Int→Prop,K r0 r1→ydz p0 p1 p2 p3 K) (K:Int→Int→Prop):ydz p0 p1 p2 p3 K=K r0 r1 :=
 propext ⟨fun k=>detC (ykl [] yaP) (as:=[(.agg [(.int .i64 p0),(.int .i64 p1)]),(.agg [(.int .i64 p2),(.int .i64 p3)])]) (x:=(.tup [(.int .i64 r0),(.int .i64 r1)])) (fun K' k'=>h (fun r0 r1=>K' (.tup [(.int .i64 r0),(.int .i64 r1)])) k') (K:=fun x=>match x with | (.tup [(.int .i64 r0),(.int .i64 r1)])=>K r0 r1 | _=>False) k,h K⟩
theorem yvk (p0:Int) (p1:Int) (p2:Int) (p3:Int) (r0:Int) (r1:Int) (r2:Int) (h:∀ K:Int→Int→Int→Prop,K r0 r1 r2→yaU p0 p1 p2 p3 K) (K:Int→Int→Int→Prop):yaU p0 p1 p2 p3 K=K r0 r1 r2 :=
 propext ⟨fun k=>detC (yfL [] yaP) (as:=[(.agg [(.int .i64 p0),(.int .i64 p1)]),(.agg [(.int .i64 p2),(.int .i64 p3)])]) (x:=(.tup [(.agg [(.int .i64 r0),(.int .i64 r1)]),(.int .i64 r2)])) (fun K' k'=>h (fun r0 r1 r2=>K' (.tup [(.agg [(.int .i64 r0),(.int .i64 r1)]),(.int .i64 r2)])) k') (K:=fun x=>match x with | (.tup [(.agg [(.int .i64 r0),(.int .i64 r1)]),(.int .i64 r2)])=>K r0 r1 r2 | _=>False) k,h K⟩
theorem yvl (p0:Int) (p1:Int) (p2:Int) (p3:Int) (r0:Int) (r1:Int) (r2:Int) (h:∀ K:Int→Int→Int→Prop,K r0 r1 r2→yaZ p0 p1 p2 p3 K) (K:Int→Int→Int→Prop):yaZ p0 p1 p2 p3 K=K r0 r1 r2 :=
 propext ⟨fun k=>detC (yhe [] yaP) (as:=[(.agg [(.int .i64 p0),(.int .i64 p1)]),(.agg [(.int .i64 p2),(.int .i64 p3)])]) (x:=(.tup [(.agg [(.int .i64 r0),(.int .i64 r1)]),(.int .i64 r2)])) (fun K' k'=>h (fun r0 r1 r2=>K' (.tup [(.agg [(.int .i64 r0),(.int .i64 r1)]),(.int .i64 r2)])) k') (K:=fun x=>match x with | (.tup [(.agg [(.int .i64 r0),(.int .i64 r1)]),(.int .i64 r2)])=>K r0 r1 r2 | _=>False) k,h K⟩
theorem yvm (p0:Int) (p1:Int) (p2:Int) (p3:Int) (r0:Int) (r1:Int) (r2:Int) (h:∀ K:Int→Int→Int→Prop,K r0 r1 r2→yaV p0 p1 p2 p3 K) (K:Int→Int→Int→Prop):yaV p0 p1 p2 p3 K=K r0 r1 r2 :=
 propext ⟨fun k=>detC (yfM [] yaP) (as:=[(.agg [(.int .i64 p0),(.int .i64 p1)]),(.agg [(.int .i64 p2),(.int .i64 p3)])]) (x:=(.tup [(.agg [(.int .i64 r0),(.int .i64 r1)]),(.int .i64 r2)])) (fun K' k'=>h (fun r0 r1 r2=>K' (.tup [(.agg [(.int .i64 r0),(.int .i64 r1)]),(.int .i64 r2)])) k') (K:=fun x=>match x with | (.tup [(.agg [(.int .i64 r0),(.int .i64 r1)]),(.int .i64 r2)])=>K r0 r1 r2 | _=>False) k,h K⟩
theorem yvn (p0:Int) (p1:Int) (p2:Int) (p3:Int) (r0:Int) (r1:Int) (r2:Int) (h:∀ K:Int→Int→Int→Prop,K r0 r1 r2→ybK p0 p1 p2 p3 K) (K:Int→Int→Int→Prop):ybK p0 p1 p2 p3 K=K r0 r1 r2 :=
 propext ⟨fun k=>detC (ykr [] yaP) (as:=[(.agg [(.int .i64 p0),(.int .i64 p1)]),(.agg [(.int .i64 p2),(.int .i64 p3)])]) (x:=(.tup [(.agg [(.int .i64 r0),(.int .i64 r1)]),(.int .i64 r2)])) (fun K' k'=>h (fun r0 r1 r2=>K' (.tup [(.agg [(.int .i64 r0),(.int .i64 r1)]),(.int .i64 r2)])) k') (K:=fun x=>match x with | (.tup [(.agg [(.int .i64 r0),(.int .i64 r1)]),(.int .i64 r2)])=>K r0 r1 r2 | _=>False) k,h K⟩
end Go.Pf.Vc
namespace Go.Pf.Vc
open Go Go.Pf
set_option maxRecDepth 100000
def ybw (x0:Ls→Int→Int→Bool→Prop):Nat→Ls→Int→Int→Prop
 | 0,_,_,_=>False
 | n+1,l0,i1,i2 =>
 (cbr (decide (i2<(((List.length l0):Nat):Int)))
 (asr (decide ((0:Int)≤i2))
 (asr (decide (i2<(((List.length l0):Nat):Int)))
 (asr (conf (.one (.i .i64)) (List.getD l0 (i2.toNat) .nils))
 (ybw x0 n l0 (if (yab (List.getD l0 (i2.toNat) .nils))<i1 then (yab (List.getD l0 (i2.toNat) .nils)) else i1) (IntKind.i64.wrap (i2+(1:Int)))))))
 (x0 l0 i1 i2 false))
def yf7 (p0:Ls) (K:Int→Prop):Prop :=
 (cbr (decide ((((List.length p0):Nat):Int)<(1:Int)))
 False
 (asr (decide ((0:Int)<(((List.length p0):Nat):Int)))
 (asr (conf (.one (.i .i64)) (List.getD p0 0 .nils))
 (∃ n:Nat,ybw
 (fun _ a _ _=>(K a))
 n p0 (yab (List.getD p0 0 .nils)) (1:Int)))))
def ycO:yar:=yf7
def yny (Q:Qx):Ls→Int→Int→Bool→Prop:=(fun l0 i1 i2 b3=>Q (.exit 0) [(0,.v (.data l0)),(3,.v (.int .i64 i1)),(4,.v (.int .i64 i2)),(15,.v (.bool b3))] [])
def pt13:Pat Sta:=pS hN (fV 0 vD (fV 3 pt0 (fV 4 pt0 fN))) fN
def yhR (Q:Qx):List St:=[⟨pt13,ybw (yny Q)⟩]
def yjq:LP:=lpS [(10434000,yhR)]
def yf8 (e:Es):SE:=sE (E e) [] (yjq)
theorem yie (e:Es) (he:EG e):SEOk (Uni (E e)) (yf8 e):=yak (Sub.uni _) trivial trivial he.ok
theorem ylS (e:Es):ycX (yf8 e) 5 a yjQ false (yhR):=fun _=>⟨fun _=>by kernel_rfl,fun _ _=>by kernel_rfl,trivial⟩
theorem ylT (e:Es) (he:EG e):LpT (Uni (E e)) (yjq) [] 10434000 (.loop 10434000 yjQ):=fun _ _ _=>ylD.st (Sub.uni _) (yaz (yie e he) 5) (YOk.no _ _) (yae (by kernel_rfl)) (ylS e _)
theorem yq4 (e:Es):EqW (yf8 e) 6 yso ydh yf7:=fun _ _=>by kernel_rfl
theorem yq5 (e:Es) (he:EG e):OkF (E e) (ydh.pw ycO) ydO:=okU he (yq4 e) (yie e he) yhM.flat (ya8 (l:=[(10434000,.loop 10434000 yjQ)]) ⟨ylT e he,trivial⟩ (by kernel_rfl))
def ybx (x0:Ls→Int→Int→Bool→Prop):Nat→Ls→Int→Int→Prop
 | 0,_,_,_=>False
 | n+1,l0,i1,i2 =>
 (cbr (decide (i2<(((List.length l0):Nat):Int)))
 (asr (decide ((0:Int)≤i2))
 (asr (decide (i2<(((List.length l0):Nat):Int)))
 (asr (conf (.one (.i .i64)) (List.getD l0 (i2.toNat) .nils))
 (ybx x0 n l0 (if (yab (List.getD l0 (i2.toNat) .nils))>i1 then (yab (List.getD l0 (i2.toNat) .nils)) else i1) (IntKind.i64.wrap (i2+(1:Int)))))))
 (x0 l0 i1 i2 false))
def yf9 (p0:Ls) (K:Int→Prop):Prop :=
 (cbr (decide ((((List.length p0):Nat):Int)<(1:Int)))
 False
 (asr (decide ((0:Int)<(((List.length p0):Nat):Int)))
 (asr (conf (.one (.i .i64)) (List.getD p0 0 .nils))
 (∃ n:Nat,ybx
 (fun _ a _ _=>(K a))
 n p0 (yab (List.getD p0 0 .nils)) (1:Int)))))
def ycP:yar:=yf9
def ynz (Q:Qx):Ls→Int→Int→Bool→Prop:=(fun l0 i1 i2 b3=>Q (.exit 0) [(0,.v (.data l0)),(3,.v (.int .i64 i1)),(4,.v (.int .i64 i2)),(15,.v (.bool b3))] [])
def yhS (Q:Qx):List St:=[⟨pt13,ybx (ynz Q)⟩]
def yjr:LP:=lpS [(64079100,yhS)]
def yga (e:Es):SE:=sE (E e) [] (yjr)
theorem yif (e:Es) (he:EG e):SEOk (Uni (E e)) (yga e):=yak (Sub.uni _) trivial trivial he.ok
theorem ylU (e:Es):ycX (yga e) 5 a yjR false (yhS):=fun _=>⟨fun _=>by kernel_rfl,fun _ _=>by kernel_rfl,trivial⟩
theorem ylV (e:Es) (he:EG e):LpT (Uni (E e)) (yjr) [] 64079100 (.loop 64079100 yjR):=fun _ _ _=>ylD.st (Sub.uni _) (yaz (yif e he) 5) (YOk.no _ _) (yae (by kernel_rfl)) (ylU e _)
theorem yq6 (e:Es):EqW (yga e) 6 ysp ydh yf9:=fun _ _=>by kernel_rfl
theorem yq7 (e:Es) (he:EG e):OkF (E e) (ydh.pw ycP) ycM:=okU he (yq6 e) (yif e he) yhM.flat (ya8 (l:=[(64079100,.loop 64079100 yjR)]) ⟨ylV e he,trivial⟩ (by kernel_rfl))
abbrev yaj:Type:=Int→Ls→Ls→(Int→Prop)→Prop
def ycu (a0:yar) (a1:yar) (x0:Int→Prop) (x1:Int→Ls→Ls→Int→Int→Bool→Prop):Nat→Int→Ls→Ls→Int→Int→Prop
 | 0,_,_,_,_,_=>False
 | n+1,i0,l1,l2,i3,i4 =>
 (cbr (decide (i4<i3))
 (asr (decide ((0:Int)≤i4))
 (asr (decide (i4<(((List.length l1):Nat):Int)))
 (asr (conf (.one (.i .i64)) (List.getD l1 (i4.toNat) .nils))
 (asr (decide ((0:Int)≤(IntKind.i64.wrap (i4+(1:Int)))))
 (asr (decide ((IntKind.i64.wrap (i4+(1:Int)))<(((List.length l1):Nat):Int)))
 (asr (conf (.one (.i .i64)) (List.getD l1 ((IntKind.i64.wrap (i4+(1:Int))).toNat) .nils))
 (cbr (decide ((yab (List.getD l1 (i4.toNat) .nils))≥(yab (List.getD l1 ((IntKind.i64.wrap (i4+(1:Int))).toNat) .nils))))
 (x0 (8:Int))
 (ycu a0 a1 x0 x1 n i0 l1 l2 i3 (IntKind.i64.wrap (i4+(1:Int)))))))))))
 (x1 i0 l1 l2 i3 i4 false))
def yiz (a0:yar) (a1:yar) (p0:Int) (p1 p2:Ls) (K:Int→Prop):Prop :=
 (cbr (decide (p0>(1000:Int)))
 (K (4:Int))
 (cbr (decide ((((List.length p1):Nat):Int)>(40:Int)))
 (K (4:Int))
 (cbr (decide (p0<(1:Int)))
 (K (8:Int))
 (cbr (decide ((((List.length p1):Nat):Int)<(2:Int)))
 (K (8:Int))
 (cbr ((((List.length p2):Nat):Int) !=(IntKind.i64.wrap ((((List.length p1):Nat):Int)-(1:Int))))
 (K (8:Int))
 (asr (decide ((0:Int)<(((List.length p1):Nat):Int)))
 (asr (conf (.one (.i .i64)) (List.getD p1 0 .nils))
 (cbr ((yab (List.getD p1 0 .nils)) !=(0:Int))
 (K (8:Int))
 (asr (decide ((0:Int)≤(IntKind.i64.wrap ((((List.length p1):Nat):Int)-(1:Int)))))
 (asr (decide ((IntKind.i64.wrap ((((List.length p1):Nat):Int)-(1:Int)))<(((List.length p1):Nat):Int)))
 (asr (conf (.one (.i .i64)) (List.getD p1 ((IntKind.i64.wrap ((((List.length p1):Nat):Int)-(1:Int))).toNat) .nils))
 (cbr ((yab (List.getD p1 ((IntKind.i64.wrap ((((List.length p1):Nat):Int)-(1:Int))).toNat) .nils)) != p0)
 (K (8:Int))
 (∃ n:Nat,ycu a0 a1
 (fun b=>(K b))
 (fun _ _ a _ _ _=>(a0 a (fun c =>
 (cbr (decide (c<(0:Int)))
 (K (8:Int))
 (a1 a (fun d =>
 (cbr (decide (d>(12:Int)))
 (K (8:Int))
 (a1 a (fun e =>
 (cbr (e ==(0:Int))
 (K (8:Int))
 (K (0:Int))))))))))))
 n p0 p1 p2 (IntKind.i64.wrap ((((List.length p1):Nat):Int)-(1:Int))) (0:Int))))))))))))))
def yas:yaj:=yiz ycO ycP
def pt14:VPt:=vA (lC pt0 (lC vD pt9))
def pt15:LPt:=lC pt14 lN
def yiA:Sg:=⟨pt15,Int→Prop,fun K=>(fun r0=>K (.int .i64 r0))⟩
def yq8 (Q:Qx):Int→Prop:=(fun i0=>Q .ret [(2,.v (.int .i64 i0))] [])
def yq9 (Q:Qx):Int→Ls→Ls→Int→Int→Bool→Prop:=(fun i0 l1 l2 i3 i4 b5=>Q (.exit 0) [(1,.box (.agg [(.int .i64 i0),(.data l1),(.data l2)])),(49,.v (.int .i64 i3)),(50,.v (.int .i64 i4)),(51,.v (.bool b5))] [])
def yld (a0:yar) (a1:yar) (Q:Qx):List St:=[⟨(pS hN (fX 1 pt14 (fV 49 pt0 (fV 50 pt0 fN))) fN),ycu a0 a1 (yq8 Q) (yq9 Q)⟩]
def yn9 (a0:yar) (a1:yar):LP:=lpS [(87419700,yld a0 a1)]
def yiB (e:Es) (a0:yar) (a1:yar):SE:=sE (E e) [(ydO,ydh.pw a0),(ycM,ydh.pw a1)] (yn9 a0 a1)
theorem ylW (e:Es) (he:EG e):SEOk (Uni (E e)) (yiB e ycO ycP):=yak (Sub.uni _) ⟨(yq5 e he),(yq7 e he),trivial⟩ trivial he.ok
theorem ypT (e:Es) (a0 a1):ycX (yiB e a0 a1) 5 a yjS false (yld a0 a1):=fun _=>⟨fun _=>by kernel_rfl,fun _ _=>by kernel_rfl,trivial⟩
theorem ypU (e:Es) (he:EG e):LpT (Uni (E e)) (yn9 ycO ycP) [] 87419700 (.loop 87419700 yjS):=fun _ _ _=>ylD.st (Sub.uni _) (yaz (ylW e he) 5) (YOk.no _ _) (yae (by kernel_rfl)) (ypT e _ _ _)
theorem yvo (e:Es) (a0 a1):EqW (yiB e a0 a1) 6 yxo yiA (yiz a0 a1):=fun _ _=>by kernel_rfl
theorem ydV (e:Es) (he:EG e):OkF (E e) (yiA.pw yas) ybd:=okU he (yvo e _ _) (ylW e he) yhM.flat (ya8 (l:=[(87419700,.loop 87419700 yjS)]) ⟨ypU e he,trivial⟩ (by kernel_rfl))
abbrev yks:Type:=Int→Ls→Ls→(Int→Int→Prop)→Prop
def ycv (a0:yaj) (x0:Int→Ls→Ls→Int→Ls→Int→Int→Bool→Prop):Nat→Int→Ls→Ls→Int→Ls→Int→Int→Prop
 | 0,_,_,_,_,_,_,_=>False
 | n+1,i0,l1,l2,i3,l4,i5,i6 =>
 (cbr (decide (i6<i5))
 (asr (decide ((0:Int)≤i6))
 (asr (decide (i6<(((List.length l4):Nat):Int)))
 (asr (conf (.one (.i .i64)) (List.getD l4 (i6.toNat) .nils))
 (asr (decide ((0:Int)≤(IntKind.i64.wrap (i6+(1:Int)))))
 (asr (decide ((IntKind.i64.wrap (i6+(1:Int)))<(((List.length l1):Nat):Int)))
 (asr (conf (.one (.i .i64)) (List.getD l1 ((IntKind.i64.wrap (i6+(1:Int))).toNat) .nils))
 (asr (decide ((0:Int)≤i6))
 (asr (decide (i6<(((List.length l1):Nat):Int)))
 (asr (conf (.one (.i .i64)) (List.getD l1 (i6.toNat) .nils))
 (ycv a0 x0 n i0 l1 l2 (IntKind.i64.wrap (i3+(IntKind.i64.wrap ((yab (List.getD l4 (i6.toNat) .nils))*(IntKind.i64.wrap ((yab (List.getD l1 ((IntKind.i64.wrap (i6+(1:Int))).toNat) .nils))-(yab (List.getD l1 (i6.toNat) .nils)))))))) l4 i5 (IntKind.i64.wrap (i6+(1:Int)))))))))))))
 (x0 i0 l1 l2 i3 l4 i5 i6 false))
def ygu (a0:yaj) (p0:Int) (p1 p2:Ls) (K:Int→Int→Prop):Prop :=
 (a0 p0 p1 p2 (fun a =>
 (cbr (a !=(0:Int))
 (K (0:Int) a)
 (∃ n:Nat,ycv a0
 (fun _ _ _ b _ _ _ _=>(K b (0:Int)))
 n p0 p1 p2 (0:Int) p2 (((List.length p2):Nat):Int) (0:Int)))))
def ydK:yks:=ygu yas
def yvp:Sg:=⟨pt15,Int→Int→Prop,fun K=>(fun r0 r1=>K (.tup [(.int .i64 r0),(.int .i64 r1)]))⟩
def yra (Q:Qx):Int→Ls→Ls→Int→Ls→Int→Int→Bool→Prop:=(fun i0 l1 l2 i3 l4 i5 i6 b7=>Q (.exit 0) [(1,.box (.agg [(.int .i64 i0),(.data l1),(.data l2)])),(5,.v (.int .i64 i3)),(14,.v (.data l4)),(15,.v (.int .i64 i5)),(16,.v (.int .i64 i6)),(17,.v (.bool b7))] [])
def pt16:Pat Frm:=fV 14 vD (fV 15 pt0 (fV 16 pt0 fN))
def yle (a0:yaj) (Q:Qx):List St:=[⟨(pS hN (fX 1 pt14 (fV 5 pt0 pt16)) fN),ycv a0 (yra Q)⟩]
def yoa (a0:yaj):LP:=lpS [(45203600,yle a0)]
def yiC (e:Es) (a0:yaj):SE:=sE (E e) [(ybd,yiA.pw a0)] (yoa a0)
theorem ylX (e:Es) (he:EG e):SEOk (Uni (E e)) (yiC e yas):=yak (Sub.uni _) ⟨(ydV e he),trivial⟩ trivial he.ok
theorem ypV (e:Es) (a0):ycX (yiC e a0) 5 a yjW false (yle a0):=fun _=>⟨fun _=>by kernel_rfl,fun _ _=>by kernel_rfl,trivial⟩
theorem ypW (e:Es) (he:EG e):LpT (Uni (E e)) (yoa yas) [] 45203600 (.loop 45203600 yjW):=fun _ _ _=>ylD.st (Sub.uni _) (yaz (ylX e he) 5) (YOk.no _ _) (yae (by kernel_rfl)) (ypV e _ _)
theorem yvq (e:Es) (a0):EqW (yiC e a0) 6 yxr yvp (ygu a0):=fun _ _=>by kernel_rfl
theorem yob (e:Es) (he:EG e):OkF (E e) (yvp.pw ydK) yfE:=okU he (yvq e _) (ylX e he) yhM.flat (ya8 (l:=[(45203600,.loop 45203600 yjW)]) ⟨ypW e he,trivial⟩ (by kernel_rfl))
abbrev yaf:Type:=Int→(Int→Int→Prop)→Prop
def yoc (p0:Int) (K:Int→Int→Prop):Prop :=
 (K p0 (1:Int))
def ybe:yaf:=yoc
def yiD:Sg:=⟨pt1,Int→Int→Prop,fun K=>(fun r0 r1=>K (.agg [(.int .i64 r0),(.int .i64 r1)]))⟩
def yvr (e:Es):SE:=sE (E e) [] lp0
theorem yvs (e:Es):EqW (yvr e) 6 yxv yiD yoc:=fun _ _=>by kernel_rfl
theorem ygv (e:Es) (he:EG e):OkF (E e) (yiD.pw ybe) yaL:=okU he (yvs e) (yak (Sub.uni _) trivial trivial he.ok) yhM.flat (yae (by kernel_rfl))
abbrev yap:Type:=Int→Int→Int→Int→(Bool→Prop)→Prop
def ykt (a0:yaC) (p0 p1 p2 p3:Int) (K:Bool→Prop):Prop :=
 (a0 p0 p1 p2 p3 (fun a _ =>
 (K (decide (a<(0:Int))))))
def ybo:yap:=ykt ydz
def yku:Sg:=⟨pt12,Bool→Prop,fun K=>(fun r0=>K (.bool r0))⟩
def yxO (e:Es) (a0:yaC):SE:=sE (E e) [(yea,yxD.pw a0)] lp0
theorem yxP (e:Es) (a0):EqW (yxO e a0) 6 yz5 yku (ykt a0):=fun _ _=>by kernel_rfl
theorem yhf (e:Es) (he:EG e):OkF (E e) (yku.pw ybo) ya9:=okU he (yxP e _) (yak (Sub.uni _) ⟨(ykl e he),trivial⟩ trivial he.ok) yhM.flat (yae (by kernel_rfl))
abbrev ybf:Type:=Int→Ls→Ls→Int→Int→(Bool→Prop)→Prop
def yiE (a0:yam) (a1:yaf) (a2:yap) (p0:Int) (_ _:Ls) (p3 p4:Int) (K:Bool→Prop):Prop :=
 (a0 p3 p4 (fun a =>
 (cbr (a ==(0:Int))
 (cbr (decide (p3≥(0:Int)))
 (a1 p0 (fun b c =>
 (a2 b c p3 p4 (fun d =>
 (K (!d))))))
 (K false))
 (K false))))
def ybg:ybf:=yiE yaS ybe ybo
def yvt:Sg:=⟨(lC pt14 pt8),Bool→Prop,fun K=>(fun r0=>K (.bool r0))⟩
def yvu (e:Es) (a0:yam) (a1:yaf) (a2:yap):SE:=sE (E e) [(ybc,ylK.pw a0),(yaL,yiD.pw a1),(ya9,yku.pw a2)] lp0
theorem yvv (e:Es) (a0 a1 a2):EqW (yvu e a0 a1 a2) 6 yxx yvt (yiE a0 a1 a2):=fun _ _=>by kernel_rfl
theorem yiF (e:Es) (he:EG e):OkF (E e) (yvt.pw ybg) ycg:=okU he (yvv e _ _ _) (yak (Sub.uni _) ⟨(yec e he),(ygv e he),(yhf e he),trivial⟩ trivial he.ok) yhM.flat (yae (by kernel_rfl))
abbrev ybB:Type:=Int→Ls→Ls→Int→Int→Int→Int→(Int→Int→Int→Prop)→Prop
def yaK (a0:yaj) (a1:ybf) (a2:yam) (a3:yaf) (a4:yap) (a5:yad) (a6:yad) (a7:yad) (a8:yad) (x0:Int→Int→Int→Int→Int→Int→Prop) (x1:Int→Int→Int→Int→Int→Int→Ls→Ls→Int→Int→Ls→Int→Int→Bool→Prop):Nat→Int→Int→Int→Int→Int→Int→Ls→Ls→Int→Int→Ls→Int→Int→Prop
 | 0,_,_,_,_,_,_,_,_,_,_,_,_,_=>False
 | n+1,i0,i1,i2,i3,i4,i5,l6,l7,i8,i9,l10,i11,i12 =>
 (cbr (decide (i12<i11))
 (asr (decide ((0:Int)≤i12))
 (asr (decide (i12<(((List.length l10):Nat):Int)))
 (asr (conf (.one (.i .i64)) (List.getD l10 (i12.toNat) .nils))
 (asr (decide ((0:Int)≤(IntKind.i64.wrap (i12+(1:Int)))))
 (asr (decide ((IntKind.i64.wrap (i12+(1:Int)))<(((List.length l6):Nat):Int)))
 (asr (conf (.one (.i .i64)) (List.getD l6 ((IntKind.i64.wrap (i12+(1:Int))).toNat) .nils))
 (a3 (yab (List.getD l6 ((IntKind.i64.wrap (i12+(1:Int))).toNat) .nils)) (fun a b =>
 (a4 i8 i9 a b (fun s =>
 (cbr (!s)
 (yaK a0 a1 a2 a3 a4 a5 a6 a7 a8 x0 x1 n i0 i1 i2 i3 i4 i5 l6 l7 i8 i9 l10 i11 (IntKind.i64.wrap (i12+(1:Int))))
 (a3 (0:Int) (fun j k =>
 (cbr (decide ((yab (List.getD l10 (i12.toNat) .nils))>(0:Int)))
 (a5 a b i8 i9 (fun t u l =>
 (cbr (l !=(0:Int))
 (x0 i0 i1 i2 i3 i4 l)
 (a3 (yab (List.getD l10 (i12.toNat) .nils)) (fun v w =>
 (a6 t u v w (fun m o p =>
 (cbr (p !=(0:Int))
 (x0 i0 i1 i2 i3 i4 p)
 (cbr ((yab (List.getD l10 (i12.toNat) .nils)) ==(0:Int))
 (yaK a0 a1 a2 a3 a4 a5 a6 a7 a8 x0 x1 n i0 i1 i2 i3 i4 i5 l6 l7 a b l10 i11 (IntKind.i64.wrap (i12+(1:Int))))
 (a4 m o i0 i1 (fun x =>
 (cbr x
 (a5 i0 i1 m o (fun e f c =>
 (cbr (c !=(0:Int))
 (cbr (c !=(0:Int))
 (x0 e f i2 i3 c (0:Int))
 (yaK a0 a1 a2 a3 a4 a5 a6 a7 a8 x0 x1 n e f i2 i3 c i5 l6 l7 a b l10 i11 (IntKind.i64.wrap (i12+(1:Int)))))
 (cbr (c !=(0:Int))
 (x0 e f i2 i3 (6:Int) (0:Int))
 (yaK a0 a1 a2 a3 a4 a5 a6 a7 a8 x0 x1 n e f i2 i3 (6:Int) i5 l6 l7 a b l10 i11 (IntKind.i64.wrap (i12+(1:Int))))))))
 (a3 (yab (List.getD l10 (i12.toNat) .nils)) (fun y z =>
 (a7 i0 i1 y z (fun A B q =>
 (cbr (q ==(0:Int))
 (a8 i8 i9 A B (fun C D E =>
 (x0 i0 i1 C D E (0:Int))))
 (x0 i0 i1 i2 i3 q (0:Int)))))))))))))))))))
 (cbr ((yab (List.getD l10 (i12.toNat) .nils)) ==(0:Int))
 (yaK a0 a1 a2 a3 a4 a5 a6 a7 a8 x0 x1 n i0 i1 i2 i3 i4 i5 l6 l7 a b l10 i11 (IntKind.i64.wrap (i12+(1:Int))))
 (a4 j k i0 i1 (fun F =>
 (cbr F
 (a5 i0 i1 j k (fun g h d =>
 (cbr (d !=(0:Int))
 (cbr (d !=(0:Int))
 (x0 g h i2 i3 d (0:Int))
 (yaK a0 a1 a2 a3 a4 a5 a6 a7 a8 x0 x1 n g h i2 i3 d i5 l6 l7 a b l10 i11 (IntKind.i64.wrap (i12+(1:Int)))))
 (cbr (d !=(0:Int))
 (x0 g h i2 i3 (6:Int) (0:Int))
 (yaK a0 a1 a2 a3 a4 a5 a6 a7 a8 x0 x1 n g h i2 i3 (6:Int) i5 l6 l7 a b l10 i11 (IntKind.i64.wrap (i12+(1:Int))))))))
 (a3 (yab (List.getD l10 (i12.toNat) .nils)) (fun G H =>
 (a7 i0 i1 G H (fun I J r =>
 (cbr (r ==(0:Int))
 (a8 i8 i9 I J (fun K L M =>
 (x0 i0 i1 K L M (0:Int))))
 (x0 i0 i1 i2 i3 r (0:Int)))))))))))))))))))))))))
 (x1 i0 i1 i2 i3 i4 i5 l6 l7 i8 i9 l10 i11 i12 false))
def ykv (a0:yaj) (a1:ybf) (a2:yam) (a3:yaf) (a4:yap) (a5:yad) (a6:yad) (a7:yad) (a8:yad) (p0:Int) (p1 p2:Ls) (p3 p4 p5 p6:Int) (K:Int→Int→Int→Prop):Prop :=
 (a0 p0 p1 p2 (fun b =>
 (cbr (b !=(0:Int))
 (K (0:Int) (0:Int) b)
 (a1 p0 p1 p2 p3 p4 (fun g =>
 (cbr (!g)
 (K (0:Int) (0:Int) (2:Int))
 (a2 p5 p6 (fun h =>
 (cbr (h !=(0:Int))
 (K (0:Int) (0:Int) (2:Int))
 (cbr (decide (p5<(0:Int)))
 (K (0:Int) (0:Int) (2:Int))
 (cbr (p5 ==(0:Int))
 (K p3 p4 (0:Int))
 (∃ n:Nat,yaK a0 a1 a2 a3 a4 a5 a6 a7 a8
 (fun _ _ c d e a=>(cbr (a !=(0:Int))
 (cbr (a !=(0:Int))
 (K (0:Int) (0:Int) a)
 (K c d (0:Int)))
 (cbr (e !=(0:Int))
 (K (0:Int) (0:Int) e)
 (K c d (0:Int)))))
 (fun _ _ i j f _ _ _ _ _ _ _ _ _=>(cbr (f !=(0:Int))
 (K (0:Int) (0:Int) f)
 (K i j (0:Int))))
 n p5 p6 (0:Int) (0:Int) (6:Int) p0 p1 p2 p3 p4 p2 (((List.length p2):Nat):Int) (0:Int)))))))))))))
def yfg:ybB:=ykv yas ybg yaS ybe ybo yaZ yaV ybK yaU
def ykw:Sg:=⟨(lC pt14 pt12),Int→Int→Int→Prop,fun K=>(fun r0 r1 r2=>K (.tup [(.agg [(.int .i64 r0),(.int .i64 r1)]),(.int .i64 r2)]))⟩
def ysx (Q:Qx):Int→Int→Int→Int→Int→Int→Prop:=(fun i0 i1 i2 i3 i4 i5=>Q .ret [(6,.v (.int .i64 i5))] [⟨false,true,2,([(.agg [(.int .i64 i0),(.int .i64 i1)])]:Ls)⟩,⟨false,true,2,([(.agg [(.int .i64 i2),(.int .i64 i3)])]:Ls)⟩,⟨false,true,1,([(.int .i64 i4)]:Ls)⟩])
def ysy (Q:Qx):Int→Int→Int→Int→Int→Int→Ls→Ls→Int→Int→Ls→Int→Int→Bool→Prop:=(fun i0 i1 i2 i3 i4 i5 l6 l7 i8 i9 l10 i11 i12 b13=>Q (.exit 0) [(2,.v (.fn (.func ydT) [] [(.ptr 0 1 0 0),(.ptr 2 1 0 0),(.ptr 1 1 0 0)])),(3,.box (.agg [(.int .i64 i5),(.data l6),(.data l7)])),(4,.box (.agg [(.int .i64 i8),(.int .i64 i9)])),(14,.v (.data l10)),(15,.v (.int .i64 i11)),(16,.v (.int .i64 i12)),(17,.v (.bool b13))] [⟨false,true,2,([(.agg [(.int .i64 i0),(.int .i64 i1)])]:Ls)⟩,⟨false,true,2,([(.agg [(.int .i64 i2),(.int .i64 i3)])]:Ls)⟩,⟨false,true,1,([(.int .i64 i4)]:Ls)⟩])
def pt17:RPt:=rC pt0 rN
def pt18:VPt:=vP 2 0 (nK 1) (nK 0)
def pt19:VPt:=vP 1 0 (nK 1) (nK 0)
def ylY (a0:yaj) (a1:ybf) (a2:yam) (a3:yaf) (a4:yap) (a5:yad) (a6:yad) (a7:yad) (a8:yad) (Q:Qx):List St:=[⟨(pS (hB false true 2 (rC pt7 rN) (hB false true 2 (rC pt7 rN) (hB false true 1 pt17 hN))) (fV 2 (vF ydT lN (lC (vP 0 0 (nK 1) (nK 0)) (lC pt18 (lC pt19 lN)))) (fX 3 pt14 (fX 4 pt7 pt16))) fN),yaK a0 a1 a2 a3 a4 a5 a6 a7 a8 (ysx Q) (ysy Q)⟩]
def ykx (a0:yaj) (a1:ybf) (a2:yam) (a3:yaf) (a4:yap) (a5:yad) (a6:yad) (a7:yad) (a8:yad):LP:=lpS [(41613500,ylY a0 a1 a2 a3 a4 a5 a6 a7 a8)]
def ypX (e:Es) (a0:yaj) (a1:ybf) (a2:yam) (a3:yaf) (a4:yap) (a5:yad) (a6:yad) (a7:yad) (a8:yad):SE:=⟨(E e),yib [(ybd,yiA.pw a0),(ycg,yvt.pw a1),(ybc,ylK.pw a2),(yaL,yiD.pw a3),(ya9,yku.pw a4),(yc0,ydJ.pw a5),(ybJ,ydJ.pw a6),(yfa,ydJ.pw a7),(yck,ydJ.pw a8)],yic [(ydT,ynW)],ykx a0 a1 a2 a3 a4 a5 a6 a7 a8,fun _=>none⟩
def ypY (e:Es) (a0:yaj) (a1:ybf) (a2:yam) (a3:yaf) (a4:yap) (a5:yad) (a6:yad) (a7:yad) (a8:yad):SE:=⟨(E e),yib [(ybd,yiA.pw a0),(ycg,yvt.pw a1),(ybc,ylK.pw a2),(yaL,yiD.pw a3),(ya9,yku.pw a4),(yc0,ydJ.pw a5),(ybJ,ydJ.pw a6),(yfa,ydJ.pw a7),(yck,ydJ.pw a8)],yic [(ylH,yAa),(ydT,ynW)],ykx a0 a1 a2 a3 a4 a5 a6 a7 a8,fun _=>none⟩
theorem yvw (e:Es) (he:EG e):SEOk (Uni (E e)) (ypX e yas ybg yaS ybe ybo yaZ yaV ybK yaU):=yak (Sub.uni _) ⟨(ydV e he),(yiF e he),(yec e he),(ygv e he),(yhf e he),(yhe e he),(yfM e he),(ykr e he),(yfL e he),trivial⟩ ⟨⟨by kernel_rfl,by kernel_rfl,rfl,fun as=>ybi (by kernel_rfl) as,he.num _ (by kernel_rfl),by kernel_rfl,(yae (by kernel_rfl))⟩,trivial⟩ he.ok
theorem yrb (e:Es) (a0 a1 a2 a3 a4 a5 a6 a7 a8):ycX (ypX e a0 a1 a2 a3 a4 a5 a6 a7 a8) 5 a yj2 false (ylY a0 a1 a2 a3 a4 a5 a6 a7 a8):=fun _=>⟨fun _=>by kernel_rfl,fun _ _=>by kernel_rfl,trivial⟩
theorem yrc (e:Es) (he:EG e):LpT (Uni (E e)) (ykx yas ybg yaS ybe ybo yaZ yaV ybK yaU) [] 41613500 (.loop 41613500 yj2):=fun _ _ _=>ylD.st (Sub.uni _) (yaz (yvw e he) 5) (YOk.no _ _) (yae (by kernel_rfl)) (yrb e _ _ _ _ _ _ _ _ _ _)
theorem yvx (e:Es) (he:EG e):SEOk (Uni (E e)) (ypY e yas ybg yaS ybe ybo yaZ yaV ybK yaU):=yak (Sub.uni _) ⟨(ydV e he),(yiF e he),(yec e he),(ygv e he),(yhf e he),(yhe e he),(yfM e he),(ykr e he),(yfL e he),trivial⟩ ⟨⟨by kernel_rfl,by kernel_rfl,rfl,fun as=>ybi (by kernel_rfl) as,he.num _ (by kernel_rfl),by kernel_rfl,(ya8 (l:=[(41613500,.loop 41613500 yj2)]) ⟨yrc e he,trivial⟩ (by kernel_rfl))⟩,⟨by kernel_rfl,by kernel_rfl,rfl,fun as=>ybi (by kernel_rfl) as,he.num _ (by kernel_rfl),by kernel_rfl,(yae (by kernel_rfl))⟩,trivial⟩ he.ok
theorem yxQ (e:Es) (a0 a1 a2 a3 a4 a5 a6 a7 a8):EqW (ypY e a0 a1 a2 a3 a4 a5 a6 a7 a8) 6 yAb ykw (ykv a0 a1 a2 a3 a4 a5 a6 a7 a8):=fun _ _=>by kernel_rfl
theorem ypZ (e:Es) (he:EG e):OkF (E e) (ykw.pw yfg) ygI:=okU he (yxQ e _ _ _ _ _ _ _ _ _) (yvx e he) yhM.flat (yae (by kernel_rfl))
def yay (a0:yaj) (a1:ybf) (a2:yap) (a3:yaf) (a4:yad) (a5:yad) (a6:yad) (x0:Int→Int→Int→Prop) (x1:Int→Ls→Ls→Int→Int→Int→Int→Int→Int→Int→Int→Ls→Int→Int→Bool→Prop):Nat→Int→Ls→Ls→Int→Int→Int→Int→Int→Int→Int→Int→Ls→Int→Int→Prop
 | 0,_,_,_,_,_,_,_,_,_,_,_,_,_,_=>False
 | n+1,i0,l1,l2,i3,i4,i5,i6,i7,i8,i9,i10,l11,i12,i13 =>
 (cbr (decide (i13<i12))
 (asr (decide ((0:Int)≤i13))
 (asr (decide (i13<(((List.length l11):Nat):Int)))
 (asr (conf (.one (.i .i64)) (List.getD l11 (i13.toNat) .nils))
 (asr (decide ((0:Int)≤(IntKind.i64.wrap (i13+(1:Int)))))
 (asr (decide ((IntKind.i64.wrap (i13+(1:Int)))<(((List.length l1):Nat):Int)))
 (asr (conf (.one (.i .i64)) (List.getD l1 ((IntKind.i64.wrap (i13+(1:Int))).toNat) .nils))
 (a3 (yab (List.getD l1 ((IntKind.i64.wrap (i13+(1:Int))).toNat) .nils)) (fun a b =>
 (a2 i3 i4 a b (fun j =>
 (cbr j
 (cbr ((yab (List.getD l11 (i13.toNat) .nils)) ==(0:Int))
 (a2 i9 i10 i3 i4 (fun k =>
 (cbr k
 (yay a0 a1 a2 a3 a4 a5 a6 x0 x1 n i0 l1 l2 i3 i4 i5 i6 i7 i8 i3 i4 l11 i12 (IntKind.i64.wrap (i13+(1:Int))))
 (yay a0 a1 a2 a3 a4 a5 a6 x0 x1 n i0 l1 l2 i3 i4 i5 i6 i7 i8 i9 i10 l11 i12 (IntKind.i64.wrap (i13+(1:Int)))))))
 (a2 i9 i10 i3 i4 (fun l =>
 (cbr (!l)
 (a2 i9 i10 i3 i4 (fun m =>
 (cbr m
 (yay a0 a1 a2 a3 a4 a5 a6 x0 x1 n i0 l1 l2 i3 i4 i5 i6 i7 i8 i3 i4 l11 i12 (IntKind.i64.wrap (i13+(1:Int))))
 (yay a0 a1 a2 a3 a4 a5 a6 x0 x1 n i0 l1 l2 i3 i4 i5 i6 i7 i8 i9 i10 l11 i12 (IntKind.i64.wrap (i13+(1:Int)))))))
 (a4 i3 i4 i9 i10 (fun o p c =>
 (cbr (c !=(0:Int))
 (x0 (0:Int) (0:Int) c)
 (a3 (yab (List.getD l11 (i13.toNat) .nils)) (fun q r =>
 (a5 o p q r (fun s t d =>
 (cbr (d !=(0:Int))
 (x0 (0:Int) (0:Int) d)
 (a6 i7 i8 s t (fun u v e =>
 (cbr (e !=(0:Int))
 (x0 (0:Int) (0:Int) e)
 (yay a0 a1 a2 a3 a4 a5 a6 x0 x1 n i0 l1 l2 i3 i4 i5 i6 u v i3 i4 l11 i12 (IntKind.i64.wrap (i13+(1:Int)))))))))))))))))))
 (cbr ((yab (List.getD l11 (i13.toNat) .nils)) ==(0:Int))
 (a2 i9 i10 a b (fun w =>
 (cbr w
 (yay a0 a1 a2 a3 a4 a5 a6 x0 x1 n i0 l1 l2 i3 i4 i5 i6 i7 i8 a b l11 i12 (IntKind.i64.wrap (i13+(1:Int))))
 (yay a0 a1 a2 a3 a4 a5 a6 x0 x1 n i0 l1 l2 i3 i4 i5 i6 i7 i8 i9 i10 l11 i12 (IntKind.i64.wrap (i13+(1:Int)))))))
 (a2 i9 i10 a b (fun x =>
 (cbr (!x)
 (a2 i9 i10 a b (fun y =>
 (cbr y
 (yay a0 a1 a2 a3 a4 a5 a6 x0 x1 n i0 l1 l2 i3 i4 i5 i6 i7 i8 a b l11 i12 (IntKind.i64.wrap (i13+(1:Int))))
 (yay a0 a1 a2 a3 a4 a5 a6 x0 x1 n i0 l1 l2 i3 i4 i5 i6 i7 i8 i9 i10 l11 i12 (IntKind.i64.wrap (i13+(1:Int)))))))
 (a4 a b i9 i10 (fun z A f =>
 (cbr (f !=(0:Int))
 (x0 (0:Int) (0:Int) f)
 (a3 (yab (List.getD l11 (i13.toNat) .nils)) (fun B C =>
 (a5 z A B C (fun D E g =>
 (cbr (g !=(0:Int))
 (x0 (0:Int) (0:Int) g)
 (a6 i7 i8 D E (fun F G h =>
 (cbr (h !=(0:Int))
 (x0 (0:Int) (0:Int) h)
 (yay a0 a1 a2 a3 a4 a5 a6 x0 x1 n i0 l1 l2 i3 i4 i5 i6 F G a b l11 i12 (IntKind.i64.wrap (i13+(1:Int))))))))))))))))))))))))))))))
 (x1 i0 l1 l2 i3 i4 i5 i6 i7 i8 i9 i10 l11 i12 i13 false))
def yiG (a0:yaj) (a1:ybf) (a2:yap) (a3:yaf) (a4:yad) (a5:yad) (a6:yad) (p0:Int) (p1 p2:Ls) (p3 p4 p5 p6:Int) (K:Int→Int→Int→Prop):Prop :=
 (a0 p0 p1 p2 (fun a =>
 (cbr (a !=(0:Int))
 (K (0:Int) (0:Int) a)
 (a1 p0 p1 p2 p3 p4 (fun b =>
 (cbr (!b)
 (K (0:Int) (0:Int) (2:Int))
 (a1 p0 p1 p2 p5 p6 (fun c =>
 (cbr (!c)
 (K (0:Int) (0:Int) (2:Int))
 (a2 p5 p6 p3 p4 (fun d =>
 (cbr d
 (K (0:Int) (0:Int) (2:Int))
 (a3 (0:Int) (fun e f =>
 (∃ n:Nat,yay a0 a1 a2 a3 a4 a5 a6
 (fun g h i=>(K g h i))
 (fun _ _ _ _ _ _ _ j k _ _ _ _ _ _=>(K j k (0:Int)))
 n p0 p1 p2 p5 p6 (0:Int) (0:Int) e f p3 p4 p2 (((List.length p2):Nat):Int) (0:Int))))))))))))))))
def yew:ybB:=yiG yas ybg ybo ybe yaZ yaV yaU
def yrd (Q:Qx):Int→Int→Int→Prop:=(fun i0 i1 i2=>Q .ret [(6,.box (.agg [(.int .i64 i0),(.int .i64 i1)])),(7,.v (.int .i64 i2))] [])
def yre (Q:Qx):Int→Ls→Ls→Int→Int→Int→Int→Int→Int→Int→Int→Ls→Int→Int→Bool→Prop:=(fun i0 l1 l2 i3 i4 i5 i6 i7 i8 i9 i10 l11 i12 i13 b14=>Q (.exit 0) [(3,.box (.agg [(.int .i64 i0),(.data l1),(.data l2)])),(5,.box (.agg [(.int .i64 i3),(.int .i64 i4)])),(6,.box (.agg [(.int .i64 i5),(.int .i64 i6)])),(9,.box (.agg [(.int .i64 i7),(.int .i64 i8)])),(10,.box (.agg [(.int .i64 i9),(.int .i64 i10)])),(42,.v (.data l11)),(43,.v (.int .i64 i12)),(44,.v (.int .i64 i13)),(45,.v (.bool b14))] [])
def ylf (a0:yaj) (a1:ybf) (a2:yap) (a3:yaf) (a4:yad) (a5:yad) (a6:yad) (Q:Qx):List St:=[⟨(pS hN (fX 3 pt14 (fX 5 pt7 (fX 6 pt7 (fX 9 pt7 (fX 10 pt7 (fV 42 vD (fV 43 pt0 (fV 44 pt0 fN)))))))) fN),yay a0 a1 a2 a3 a4 a5 a6 (yrd Q) (yre Q)⟩]
def yod (a0:yaj) (a1:ybf) (a2:yap) (a3:yaf) (a4:yad) (a5:yad) (a6:yad):LP:=lpS [(85339800,ylf a0 a1 a2 a3 a4 a5 a6)]
def yiH (e:Es) (a0:yaj) (a1:ybf) (a2:yap) (a3:yaf) (a4:yad) (a5:yad) (a6:yad):SE:=sE (E e) [(ybd,yiA.pw a0),(ycg,yvt.pw a1),(ya9,yku.pw a2),(yaL,yiD.pw a3),(yc0,ydJ.pw a4),(ybJ,ydJ.pw a5),(yck,ydJ.pw a6)] (yod a0 a1 a2 a3 a4 a5 a6)
theorem ylZ (e:Es) (he:EG e):SEOk (Uni (E e)) (yiH e yas ybg ybo ybe yaZ yaV yaU):=yak (Sub.uni _) ⟨(ydV e he),(yiF e he),(yhf e he),(ygv e he),(yhe e he),(yfM e he),(yfL e he),trivial⟩ trivial he.ok
theorem yp0 (e:Es) (a0 a1 a2 a3 a4 a5 a6):ycX (yiH e a0 a1 a2 a3 a4 a5 a6) 5 a yj4 false (ylf a0 a1 a2 a3 a4 a5 a6):=fun _=>⟨fun _=>by kernel_rfl,fun _ _=>by kernel_rfl,trivial⟩
theorem yp1 (e:Es) (he:EG e):LpT (Uni (E e)) (yod yas ybg ybo ybe yaZ yaV yaU) [] 85339800 (.loop 85339800 yj4):=fun _ _ _=>ylD.st (Sub.uni _) (yaz (ylZ e he) 5) (YOk.no _ _) (yae (by kernel_rfl)) (yp0 e _ _ _ _ _ _ _ _)
theorem yvy (e:Es) (a0 a1 a2 a3 a4 a5 a6):EqW (yiH e a0 a1 a2 a3 a4 a5 a6) 6 yxy ykw (yiG a0 a1 a2 a3 a4 a5 a6):=fun _ _=>by kernel_rfl
theorem yoe (e:Es) (he:EG e):OkF (E e) (ykw.pw yew) yfH:=okU he (yvy e _ _ _ _ _ _ _) (ylZ e he) yhM.flat (ya8 (l:=[(85339800,.loop 85339800 yj4)]) ⟨yp1 e he,trivial⟩ (by kernel_rfl))
end Go.Pf.Vc
namespace Go.Pf.Vc
open Go Go.Pf
set_option linter.unusedVariables false
theorem yuo (p0:Int) (p1:Ls) (p2:Ls) (r0:Int) (h:∀ K:Int→Prop,K r0→yas p0 p1 p2 K) (K:Int→Prop):yas p0 p1 p2 K=K r0 :=
 propext ⟨fun k=>detC (ydV [] yaP) (as:=[(.agg [(.int .i64 p0),(.data p1),(.data p2)])]) (x:=(.int .i64 r0)) (fun K' k'=>h (fun r0=>K' (.int .i64 r0)) k') (K:=fun x=>match x with | (.int .i64 r0)=>K r0 | _=>False) k,h K⟩
theorem yup (p0:Int) (p1:Ls) (p2:Ls) (r0:Int) (r1:Int) (h:∀ K:Int→Int→Prop,K r0 r1→ydK p0 p1 p2 K) (K:Int→Int→Prop):ydK p0 p1 p2 K=K r0 r1 :=
 propext ⟨fun k=>detC (yob [] yaP) (as:=[(.agg [(.int .i64 p0),(.data p1),(.data p2)])]) (x:=(.tup [(.int .i64 r0),(.int .i64 r1)])) (fun K' k'=>h (fun r0 r1=>K' (.tup [(.int .i64 r0),(.int .i64 r1)])) k') (K:=fun x=>match x with | (.tup [(.int .i64 r0),(.int .i64 r1)])=>K r0 r1 | _=>False) k,h K⟩
theorem yvz (p0:Int) (p1:Ls) (p2:Ls) (p3:Int) (p4:Int) (p5:Int) (p6:Int) (r0:Int) (r1:Int) (r2:Int) (h:∀ K:Int→Int→Int→Prop,K r0 r1 r2→yfg p0 p1 p2 p3 p4 p5 p6 K) (K:Int→Int→Int→Prop):yfg p0 p1 p2 p3 p4 p5 p6 K=K r0 r1 r2 :=
 propext ⟨fun k=>detC (ypZ [] yaP) (as:=[(.agg [(.int .i64 p0),(.data p1),(.data p2)]),(.agg [(.int .i64 p3),(.int .i64 p4)]),(.agg [(.int .i64 p5),(.int .i64 p6)])]) (x:=(.tup [(.agg [(.int .i64 r0),(.int .i64 r1)]),(.int .i64 r2)])) (fun K' k'=>h (fun r0 r1 r2=>K' (.tup [(.agg [(.int .i64 r0),(.int .i64 r1)]),(.int .i64 r2)])) k') (K:=fun x=>match x with | (.tup [(.agg [(.int .i64 r0),(.int .i64 r1)]),(.int .i64 r2)])=>K r0 r1 r2 | _=>False) k,h K⟩
theorem yuq (p0:Int) (p1:Ls) (p2:Ls) (p3:Int) (p4:Int) (p5:Int) (p6:Int) (r0:Int) (r1:Int) (r2:Int) (h:∀ K:Int→Int→Int→Prop,K r0 r1 r2→yew p0 p1 p2 p3 p4 p5 p6 K) (K:Int→Int→Int→Prop):yew p0 p1 p2 p3 p4 p5 p6 K=K r0 r1 r2 :=
 propext ⟨fun k=>detC (yoe [] yaP) (as:=[(.agg [(.int .i64 p0),(.data p1),(.data p2)]),(.agg [(.int .i64 p3),(.int .i64 p4)]),(.agg [(.int .i64 p5),(.int .i64 p6)])]) (x:=(.tup [(.agg [(.int .i64 r0),(.int .i64 r1)]),(.int .i64 r2)])) (fun K' k'=>h (fun r0 r1 r2=>K' (.tup [(.agg [(.int .i64 r0),(.int .i64 r1)]),(.int .i64 r2)])) k') (K:=fun x=>match x with | (.tup [(.agg [(.int .i64 r0),(.int .i64 r1)]),(.int .i64 r2)])=>K r0 r1 r2 | _=>False) k,h K⟩
end Go.Pf.Vc
namespace Go.Pf.Vc
open Go Go.Pf
set_option maxRecDepth 100000
abbrev ybC:Type:=Ls→Ls→(Int→Prop)→Prop
def ycQ (a0:yaj) (a:Int→Prop) (b:Ls→Ls→Ls→Int→Int→Bool→Prop):Nat→Ls→Ls→Ls→Int→Int→Prop
 | 0,_,_,_,_,_=>False
 | e+1,l0,l1,l2,i3,i4 =>
 (cbr (decide (i4<i3))
 (asr (decide ((0:Int)≤i4))
 (asr (decide (i4<(((List.length l2):Nat):Int)))
 (asr (conf (.agg [.i .i64,.d,.d]) (List.getD l2 (i4.toNat) .nils))
 (a0 (yab (yai (List.getD l2 (i4.toNat) .nils) 0)) (ybq (yai (List.getD l2 (i4.toNat) .nils) 1)) (ybq (yai (List.getD l2 (i4.toNat) .nils) 2)) (fun c =>
 (cbr (c !=(0:Int))
 (a c)
 (ycQ a0 a b e l0 l1 l2 i3 (IntKind.i64.wrap (i4+(1:Int))))))))))
 (b l0 l1 l2 i3 i4 false))
def ybV (a0:yaj) (a:Int→Prop) (b:Ls→Ls→Ls→Int→Int→Bool→Prop):Nat→Ls→Ls→Ls→Int→Int→Prop
 | 0,_,_,_,_,_=>False
 | c+1,l0,l1,l2,i3,i4 =>
 (cbr (decide (i4<i3))
 (asr (decide ((0:Int)≤i4))
 (asr (decide (i4<(((List.length l2):Nat):Int)))
 (asr (conf (.agg [.i .i64,.d,.d]) (List.getD l2 (i4.toNat) .nils))
 (asr (decide ((0:Int)<(((List.length l0):Nat):Int)))
 (asr (conf (.agg [.i .i64,.d,.d]) (List.getD l0 0 .nils))
 (cbr ((yab (yai (List.getD l2 (i4.toNat) .nils) 0)) !=(yab (yai (List.getD l0 0 .nils) 0)))
 (a (8:Int))
 (ybV a0 a b c l0 l1 l2 i3 (IntKind.i64.wrap (i4+(1:Int))))))))))
 (b l0 l1 l2 i3 i4 false))
def yky (a0:yaj) (p0 p1:Ls) (K:Int→Prop):Prop :=
 (cbr (decide ((((List.length p0):Nat):Int)>(6:Int)))
 (K (4:Int))
 (cbr (decide ((((List.length p1):Nat):Int)>(2000:Int)))
 (K (4:Int))
 (cbr ((((List.length p0):Nat):Int) ==(0:Int))
 (K (8:Int))
 (∃ b:Nat,ycQ a0
 (fun c=>(K c))
 (fun a d _ _ _ _=>(∃ e:Nat,ybV a0
 (fun f=>(K f))
 (fun _ _ _ _ _ _=>(K (0:Int)))
 e a d a (((List.length a):Nat):Int) (0:Int)))
 b p0 p1 p0 (((List.length p0):Nat):Int) (0:Int)))))
def yc6:ybC:=yky yas
def pt20:VPt:=vA (lC vD pt9)
def yp2:Sg:=⟨(lC pt20 lN),Int→Prop,fun K=>(fun r0=>K (.int .i64 r0))⟩
def ysz (Q:Qx):Int→Prop:=(fun i0=>Q .ret [(2,.v (.int .i64 i0))] [])
def ysA (Q:Qx):Ls→Ls→Ls→Int→Int→Bool→Prop:=(fun l0 l1 l2 i3 i4 b5=>Q (.exit 0) [(1,.box (.agg [(.data l0),(.data l1)])),(23,.v (.data l2)),(24,.v (.int .i64 i3)),(25,.v (.int .i64 i4)),(26,.v (.bool b5))] [])
def ysB (Q:Qx):Int→Prop:=(fun i0=>Q .ret [(2,.v (.int .i64 i0))] [])
def ysC (Q:Qx):Ls→Ls→Ls→Int→Int→Bool→Prop:=(fun l0 l1 l2 i3 i4 b5=>Q (.exit 2) [(1,.box (.agg [(.data l0),(.data l1)])),(36,.v (.data l2)),(37,.v (.int .i64 i3)),(38,.v (.int .i64 i4)),(39,.v (.bool b5))] [])
def yma (a0:yaj) (Q:Qx):List St:=[⟨(pS hN (fX 1 pt20 (fV 23 vD (fV 24 pt0 (fV 25 pt0 fN)))) fN),ycQ a0 (ysz Q) (ysA Q)⟩]
def ymb (a0:yaj) (Q:Qx):List St:=[⟨(pS hN (fX 1 pt20 (fV 36 vD (fV 37 pt0 (fV 38 pt0 fN)))) fN),ybV a0 (ysB Q) (ysC Q)⟩]
def ykz (a0:yaj):LP:=lpS [(12157600,yma a0),(12157601,ymb a0)]
def yhg (e:Es) (a0:yaj):SE:=sE (E e) [(ybd,yiA.pw a0)] (ykz a0)
theorem yiI (e:Es) (he:EG e):SEOk (Uni (E e)) (yhg e yas):=yak (Sub.uni _) ⟨(ydV e he),trivial⟩ trivial he.ok
theorem yrf (e:Es) (a0):ycX (yhg e a0) 5 a yjT false (yma a0):=fun _=>⟨fun _=>by kernel_rfl,fun _ _=>by kernel_rfl,trivial⟩
theorem yrg (e:Es) (he:EG e):LpT (Uni (E e)) (ykz yas) [] 12157600 (.loop 12157600 yjT):=fun _ _ _=>ylD.st (Sub.uni _) (yaz (yiI e he) 5) (YOk.no _ _) (yae (by kernel_rfl)) (yrf e _ _)
theorem yrh (e:Es) (a0):ycX (yhg e a0) 5 a yjU false (ymb a0):=fun _=>⟨fun _=>by kernel_rfl,fun _ _=>by kernel_rfl,trivial⟩
theorem yri (e:Es) (he:EG e):LpT (Uni (E e)) (ykz yas) [] 12157601 (.loop 12157601 yjU):=fun _ _ _=>ylD.st (Sub.uni _) (yaz (yiI e he) 5) (YOk.no _ _) (yae (by kernel_rfl)) (yrh e _ _)
theorem yxR (e:Es) (a0):EqW (yhg e a0) 6 yz1 yp2 (yky a0):=fun _ _=>by kernel_rfl
theorem yfN (e:Es) (he:EG e):OkF (E e) (yp2.pw yc6) ycj:=okU he (yxR e _) (yiI e he) yhM.flat (ya8 (l:=[(12157600,.loop 12157600 yjT),(12157601,.loop 12157601 yjU)]) ⟨yrg e he,yri e he,trivial⟩ (by kernel_rfl))
abbrev ydL:Type:=Ls→(Ls→Prop)→Prop
mutual
def yex (a0:ybQ) (x0:Ls→Ls→Int→Int→Bool→Prop) (x1:Ls→Int→Int→Bool→Prop):Nat→Ls→Int→Int→Prop
 | 0,_,_,_=>False
 | n+1,l0,i1,i2 =>
 (cbr (decide (i2<i1))
 (asr (decide ((0:Int)≤i2))
 (asr (decide (i2<(((List.length l0):Nat):Int)))
 (asr (conf (.agg [.i .i64,.d,.d]) (List.getD l0 (i2.toNat) .nils))
 (a0 (ybq (yai (List.getD l0 (i2.toNat) .nils) 1)) (fun a =>
 (a0 (ybq (yai (List.getD l0 (i2.toNat) .nils) 2)) (fun b =>
 (asr (decide (1=List.length ([(.agg [(.int .i64 (yab (yai (List.getD l0 (i2.toNat) .nils) 0))),(.data a),(.data b)])]:Ls))&&decide (1=List.length ([(.agg [(.int .i64 (yab (yai (List.getD l0 (i2.toNat) .nils) 0))),(.data a),(.data b)])]:Ls)))
 (ycw a0 x0 x1 n ([(.agg [(.int .i64 (yab (yai (List.getD l0 (i2.toNat) .nils) 0))),(.data a),(.data b)])]:Ls) l0 i1 (IntKind.i64.wrap (i2+(1:Int))))))))))))
 (x1 l0 i1 i2 false))
def ycw (a0:ybQ) (x0:Ls→Ls→Int→Int→Bool→Prop) (x1:Ls→Int→Int→Bool→Prop):Nat→Ls→Ls→Int→Int→Prop
 | 0,_,_,_,_=>False
 | n+1,l0,l3,i4,i5 =>
 (cbr (decide (i5<i4))
 (asr (decide ((0:Int)≤i5))
 (asr (decide (i5<(((List.length l3):Nat):Int)))
 (asr (conf (.agg [.i .i64,.d,.d]) (List.getD l3 (i5.toNat) .nils))
 (a0 (ybq (yai (List.getD l3 (i5.toNat) .nils) 1)) (fun a =>
 (a0 (ybq (yai (List.getD l3 (i5.toNat) .nils) 2)) (fun b =>
 (asr (decide ((List.length l0)=(List.length l0)))
 (asr (decide ((0+(List.length l0))≤(List.length l0)))
 (asr (!(decide (((0+(List.length l0))+1)≤(List.length l0))))
 (asr (decide ((List.length l0)=(List.length l0)))
 (asr (decide ((((List.length l0)+1)+64)*(56+1)≤room))
 (asr (decide ((List.length (l0++([(.agg [(.int .i64 (yab (yai (List.getD l3 (i5.toNat) .nils) 0))),(.data a),(.data b)])]:Ls)))=List.length (l0++([(.agg [(.int .i64 (yab (yai (List.getD l3 (i5.toNat) .nils) 0))),(.data a),(.data b)])]:Ls)))&&decide ((List.length (l0++([(.agg [(.int .i64 (yab (yai (List.getD l3 (i5.toNat) .nils) 0))),(.data a),(.data b)])]:Ls)))=List.length (l0++([(.agg [(.int .i64 (yab (yai (List.getD l3 (i5.toNat) .nils) 0))),(.data a),(.data b)])]:Ls))))
 (ycw a0 x0 x1 n (l0++([(.agg [(.int .i64 (yab (yai (List.getD l3 (i5.toNat) .nils) 0))),(.data a),(.data b)])]:Ls)) l3 i4 (IntKind.i64.wrap (i5+(1:Int)))))))))))))))))
 (x0 l0 l3 i4 i5 false))
end
def yiJ (a0:ybQ) (p0:Ls) (K:Ls→Prop):Prop :=
 (∃ n:Nat,yex a0
 (fun a _ _ _ _=>(asr (decide ((List.length a)=(List.length a)))
 (asr (decide ((0+(List.length a))≤(List.length a)))
 (K (List.take (List.length a) a)))))
 (fun _ _ _ _=>(K ([]:Ls)))
 n p0 (((List.length p0):Nat):Int) (0:Int))
def yc7:ydL:=yiJ yc3
def yvA:Sg:=⟨pt9,Ls→Prop,fun K=>(fun r0=>K (.data r0))⟩
def yjs (Q:Qx):Ls→Ls→Int→Int→Bool→Prop:=(fun l0 l3 i4 i5 b6=>Q (.exit 0) [(3,.v (.own 0 0 (List.length l0) (List.length l0) none)),(6,.v (.data l3)),(7,.v (.int .i64 i4)),(8,.v (.int .i64 i5)),(9,.v (.bool b6))] [⟨false,true,3,l0⟩])
def yjt (Q:Qx):Ls→Int→Int→Bool→Prop:=(fun l0 i1 i2 b3=>Q (.exit 0) [(3,.v .nils),(6,.v (.data l0)),(7,.v (.int .i64 i1)),(8,.v (.int .i64 i2)),(9,.v (.bool b3))] [])
def ylg (a0:ybQ) (Q:Qx):List St:=[⟨(pS hN (fV 3 vNs (fV 6 vD pt10)) fN),yex a0 (yjs Q) (yjt Q)⟩,⟨(pS (hB false true 3 rA hN) (fV 3 (vW 0 (nK 0) (nT 0) (nT 0)) (fV 6 vD pt10)) fN),ycw a0 (yjs Q) (yjt Q)⟩]
def yof (a0:ybQ):LP:=lpS [(94933800,ylg a0)]
def yiK (e:Es) (a0:ybQ):SE:=sE (E e) [(ybt,yoQ a0)] (yof a0)
theorem ymc (e:Es) (he:EG e):SEOk (Uni (E e)) (yiK e yc3):=yak (Sub.uni _) ⟨(yoS e he),trivial⟩ trivial he.ok
theorem yp3 (e:Es) (a0):ycX (yiK e a0) 5 a yjV false (ylg a0):=fun _=>⟨fun _=>by kernel_rfl,fun _ _=>by kernel_rfl,fun _=>by kernel_rfl,fun _ _=>by kernel_rfl,trivial⟩
theorem yp4 (e:Es) (he:EG e):LpT (Uni (E e)) (yof yc3) [] 94933800 (.loop 94933800 yjV):=fun _ _ _=>ylD.st (Sub.uni _) (yaz (ymc e he) 5) (YOk.no _ _) (yae (by kernel_rfl)) (yp3 e _ _)
theorem yvB (e:Es) (a0):EqW (yiK e a0) 6 yxp yvA (yiJ a0):=fun _ _=>by kernel_rfl
theorem ygw (e:Es) (he:EG e):OkF (E e) (yvA.pw yc7) ycZ:=okU he (yvB e _) (ymc e he) yhM.flat (ya8 (l:=[(94933800,.loop 94933800 yjV)]) ⟨yp4 e he,trivial⟩ (by kernel_rfl))
abbrev ya6:Type:=Ls→(Ls→Ls→Int→Prop)→Prop
def ymd (a0:ybC) (a1:ydL) (p0:Ls) (K:Ls→Ls→Int→Prop):Prop :=
 (a0 p0 ([]:Ls) (fun a =>
 (cbr (a !=(0:Int))
 (K ([]:Ls) ([]:Ls) a)
 (a1 p0 (fun b =>
 (K b ([]:Ls) (0:Int)))))))
def yaM:ya6:=ymd yc6 yc7
def yAq:Sg:=⟨pt9,Ls→Ls→Int→Prop,fun K=>(fun r0 r1 r2=>K (.tup [(.agg [(.data r0),(.data r1)]),(.int .i64 r2)]))⟩
def yAr (e:Es) (a0:ybC) (a1:ydL):SE:=sE (E e) [(ycj,yp2.pw a0),(ycZ,yvA.pw a1)] lp0
theorem yAs (e:Es) (a0 a1):EqW (yAr e a0 a1) 6 yCc yAq (ymd a0 a1):=fun _ _=>by kernel_rfl
theorem yr8 (e:Es) (he:EG e):OkF (E e) (yAq.pw yaM) yf3:=okU he (yAs e _ _) (yak (Sub.uni _) ⟨(yfN e he),(ygw e he),trivial⟩ trivial he.ok) yhM.flat (yae (by kernel_rfl))
abbrev ybH:Type:=Ls→Ls→Int→(Bool→Prop)→Prop
def yfO (p0 _:Ls) (p2:Int) (K:Bool→Prop):Prop :=
 (cbr (decide (p2≥(0:Int)))
 (K (decide (p2<(((List.length p0):Nat):Int))))
 (K false))
def ycx:ybH:=yfO
def pt21:LPt:=lC pt20 pt1
def yp5:Sg:=⟨pt21,Bool→Prop,fun K=>(fun r0=>K (.bool r0))⟩
def yp6 (e:Es):SE:=sE (E e) [] lp0
theorem yp7 (e:Es):EqW (yp6 e) 6 yqY yp5 yfO:=fun _ _=>by kernel_rfl
theorem yfP (e:Es) (he:EG e):OkF (E e) (yp5.pw ycx) ybj:=okU he (yp7 e) (yak (Sub.uni _) trivial trivial he.ok) yhM.flat (yae (by kernel_rfl))
abbrev ya0:Type:=Ls→Ls→Int→(Int→Int→Prop)→Prop
def ykA (a0:ybC) (a1:ybH) (a2:yks) (p0 p1:Ls) (p2:Int) (K:Int→Int→Prop):Prop :=
 (a0 p0 p1 (fun b =>
 (cbr (b !=(0:Int))
 (K (0:Int) b)
 (a1 p0 p1 p2 (fun c =>
 (cbr (!c)
 (K (0:Int) (2:Int))
 (asr (decide ((0:Int)≤p2))
 (asr (decide (p2<(((List.length p0):Nat):Int)))
 (lt (List.getD p0 (p2.toNat) .nils) (fun a =>
 (asr (conf (.agg [.i .i64,.d,.d]) a)
 (a2 (yab (yai a 0)) (ybq (yai a 1)) (ybq (yai a 2)) (fun e f =>
 (K e f))))))))))))))
def yme:ya0:=ykA yc6 ycx ydK
def yxS:Sg:=⟨pt21,Int→Int→Prop,fun K=>(fun r0 r1=>K (.tup [(.int .i64 r0),(.int .i64 r1)]))⟩
def yxT (e:Es) (a0:ybC) (a1:ybH) (a2:yks):SE:=sE (E e) [(ycj,yp2.pw a0),(ybj,yp5.pw a1),(yfE,yvp.pw a2)] lp0
theorem yxU (e:Es) (a0 a1 a2):EqW (yxT e a0 a1 a2) 6 yz2 yxS (ykA a0 a1 a2):=fun _ _=>by kernel_rfl
theorem yxV (e:Es) (he:EG e):OkF (E e) (yxS.pw yme) ygH:=okU he (yxU e _ _ _) (yak (Sub.uni _) ⟨(yfN e he),(yfP e he),(yob e he),trivial⟩ trivial he.ok) yhM.flat (yae (by kernel_rfl))
abbrev ybS:Type:=Ls→Ls→Int→Int→Int→Int→Int→(Int→Int→Int→Prop)→Prop
def ye1 (a0:ybB) (p0 _:Ls) (p2 p3 p4 p5 p6:Int) (K:Int→Int→Int→Prop):Prop :=
 (asr (decide ((0:Int)≤p2))
 (asr (decide (p2<(((List.length p0):Nat):Int)))
 (asr (conf (.agg [.i .i64,.d,.d]) (List.getD p0 (p2.toNat) .nils))
 (a0 (yab (yai (List.getD p0 (p2.toNat) .nils) 0)) (ybq (yai (List.getD p0 (p2.toNat) .nils) 1)) (ybq (yai (List.getD p0 (p2.toNat) .nils) 2)) p3 p4 p5 p6 (fun a b c =>
 (K a b c))))))
def yfQ:ybS:=ye1 yfg
def pt22:LPt:=lC pt20 (lC pt0 pt12)
def yhT:Sg:=⟨pt22,Int→Int→Int→Prop,fun K=>(fun r0 r1 r2=>K (.tup [(.agg [(.int .i64 r0),(.int .i64 r1)]),(.int .i64 r2)]))⟩
def yo3 (e:Es) (a0:ybB):SE:=sE (E e) [(ygI,ykw.pw a0)] lp0
theorem yo4 (e:Es) (a0):EqW (yo3 e a0) 6 ypM yhT (ye1 a0):=fun _ _=>by kernel_rfl
theorem yo5 (e:Es) (he:EG e):OkF (E e) (yhT.pw yfQ) yc1:=okU he (yo4 e _) (yak (Sub.uni _) ⟨(ypZ e he),trivial⟩ trivial he.ok) yhM.flat (yae (by kernel_rfl))
abbrev ybW:Type:=Ls→Ls→Int→Int→Int→Int→Int→(Ls→Ls→Int→Int→Int→Prop)→Prop
def ymf (a0:ybC) (a1:ybH) (a2:ybS) (a3:ydL) (p0 p1:Ls) (p2 p3 p4 p5 p6:Int) (K:Ls→Ls→Int→Int→Int→Prop):Prop :=
 (a0 p0 p1 (fun c =>
 (cbr (c !=(0:Int))
 (K ([]:Ls) ([]:Ls) (0:Int) (0:Int) c)
 (a1 p0 p1 p2 (fun f =>
 (cbr (!f)
 (K ([]:Ls) ([]:Ls) (0:Int) (0:Int) (2:Int))
 (a2 p0 p1 p2 p3 p4 p5 p6 (fun a b d =>
 (cbr (d !=(0:Int))
 (K ([]:Ls) ([]:Ls) (0:Int) (0:Int) d)
 (cbr (decide ((((List.length p1):Nat):Int)≥(2000:Int)))
 (K ([]:Ls) ([]:Ls) (0:Int) (0:Int) (4:Int))
 (asr (decide ((0:Int)≤(IntKind.i64.wrap ((((List.length p1):Nat):Int)+(1:Int)))))
 (asr (decide ((((IntKind.i64.wrap ((((List.length p1):Nat):Int)+(1:Int))).toNat)+64)*(64+1)≤room))
 (a3 p0 (fun e =>
 (asr (ydj 8 p1)
 (asr (decide ((List.length (List.replicate ((IntKind.i64.wrap ((((List.length p1):Nat):Int)+(1:Int))).toNat) ((.agg [(.int .i64 (0)),(.int .u8 (0)),(.int .i64 (0)),(.int .i64 (0)),(.int .i64 (0)),(.int .i64 (0)),(.int .i64 (0)),(.int .i64 (0))]):PV)))=((IntKind.i64.wrap ((((List.length p1):Nat):Int)+(1:Int))).toNat)))
 (asr (decide (0≤((IntKind.i64.wrap ((((List.length p1):Nat):Int)+(1:Int))).toNat)))
 (cbr (List.isEmpty p1)
 (asr (decide ((List.length (List.replicate ((IntKind.i64.wrap ((((List.length p1):Nat):Int)+(1:Int))).toNat) ((.agg [(.int .i64 (0)),(.int .u8 (0)),(.int .i64 (0)),(.int .i64 (0)),(.int .i64 (0)),(.int .i64 (0)),(.int .i64 (0)),(.int .i64 (0))]):PV)))=((IntKind.i64.wrap ((((List.length p1):Nat):Int)+(1:Int))).toNat)))
 (asr (decide (0≤((IntKind.i64.wrap ((((List.length p1):Nat):Int)+(1:Int))).toNat)))
 (asr (decide (1≤((IntKind.i64.wrap ((((List.length p1):Nat):Int)+(1:Int))).toNat)))
 (asr (decide ((List.length (([(.agg [(.int .i64 p2),(.int .u8 (2:Int)),(.int .i64 p3),(.int .i64 p4),(.int .i64 p5),(.int .i64 p6),(.int .i64 a),(.int .i64 b)])]:Ls)++(List.drop 1 (List.replicate ((IntKind.i64.wrap ((((List.length p1):Nat):Int)+(1:Int))).toNat) ((.agg [(.int .i64 (0)),(.int .u8 (0)),(.int .i64 (0)),(.int .i64 (0)),(.int .i64 (0)),(.int .i64 (0)),(.int .i64 (0)),(.int .i64 (0))]):PV)))))=((IntKind.i64.wrap ((((List.length p1):Nat):Int)+(1:Int))).toNat)))
 (asr (decide (1≤((IntKind.i64.wrap ((((List.length p1):Nat):Int)+(1:Int))).toNat)))
 (K e (List.take 1 (([(.agg [(.int .i64 p2),(.int .u8 (2:Int)),(.int .i64 p3),(.int .i64 p4),(.int .i64 p5),(.int .i64 p6),(.int .i64 a),(.int .i64 b)])]:Ls)++(List.drop 1 (List.replicate ((IntKind.i64.wrap ((((List.length p1):Nat):Int)+(1:Int))).toNat) ((.agg [(.int .i64 (0)),(.int .u8 (0)),(.int .i64 (0)),(.int .i64 (0)),(.int .i64 (0)),(.int .i64 (0)),(.int .i64 (0)),(.int .i64 (0))]):PV))))) a b (0:Int)))))))
 (asr (decide ((0+(List.length p1))≤((IntKind.i64.wrap ((((List.length p1):Nat):Int)+(1:Int))).toNat)))
 (asr (decide ((List.length (p1++(List.drop (0+(List.length p1)) (List.replicate ((IntKind.i64.wrap ((((List.length p1):Nat):Int)+(1:Int))).toNat) ((.agg [(.int .i64 (0)),(.int .u8 (0)),(.int .i64 (0)),(.int .i64 (0)),(.int .i64 (0)),(.int .i64 (0)),(.int .i64 (0)),(.int .i64 (0))]):PV)))))=((IntKind.i64.wrap ((((List.length p1):Nat):Int)+(1:Int))).toNat)))
 (asr (decide ((0+(0+(List.length p1)))≤((IntKind.i64.wrap ((((List.length p1):Nat):Int)+(1:Int))).toNat)))
 (asr (decide (((0+(List.length p1))+1)≤((IntKind.i64.wrap ((((List.length p1):Nat):Int)+(1:Int))).toNat)))
 (asr (decide ((List.length ((List.take (0+(0+(List.length p1))) (p1++(List.drop (0+(List.length p1)) (List.replicate ((IntKind.i64.wrap ((((List.length p1):Nat):Int)+(1:Int))).toNat) ((.agg [(.int .i64 (0)),(.int .u8 (0)),(.int .i64 (0)),(.int .i64 (0)),(.int .i64 (0)),(.int .i64 (0)),(.int .i64 (0)),(.int .i64 (0))]):PV)))))++(([(.agg [(.int .i64 p2),(.int .u8 (2:Int)),(.int .i64 p3),(.int .i64 p4),(.int .i64 p5),(.int .i64 p6),(.int .i64 a),(.int .i64 b)])]:Ls)++(List.drop ((0+(0+(List.length p1)))+1) (p1++(List.drop (0+(List.length p1)) (List.replicate ((IntKind.i64.wrap ((((List.length p1):Nat):Int)+(1:Int))).toNat) ((.agg [(.int .i64 (0)),(.int .u8 (0)),(.int .i64 (0)),(.int .i64 (0)),(.int .i64 (0)),(.int .i64 (0)),(.int .i64 (0)),(.int .i64 (0))]):PV))))))))=((IntKind.i64.wrap ((((List.length p1):Nat):Int)+(1:Int))).toNat)))
 (asr (decide ((0+((0+(List.length p1))+1))≤((IntKind.i64.wrap ((((List.length p1):Nat):Int)+(1:Int))).toNat)))
 (K e (List.take ((0+(List.length p1))+1) ((List.take (0+(0+(List.length p1))) (p1++(List.drop (0+(List.length p1)) (List.replicate ((IntKind.i64.wrap ((((List.length p1):Nat):Int)+(1:Int))).toNat) ((.agg [(.int .i64 (0)),(.int .u8 (0)),(.int .i64 (0)),(.int .i64 (0)),(.int .i64 (0)),(.int .i64 (0)),(.int .i64 (0)),(.int .i64 (0))]):PV)))))++(([(.agg [(.int .i64 p2),(.int .u8 (2:Int)),(.int .i64 p3),(.int .i64 p4),(.int .i64 p5),(.int .i64 p6),(.int .i64 a),(.int .i64 b)])]:Ls)++(List.drop ((0+(0+(List.length p1)))+1) (p1++(List.drop (0+(List.length p1)) (List.replicate ((IntKind.i64.wrap ((((List.length p1):Nat):Int)+(1:Int))).toNat) ((.agg [(.int .i64 (0)),(.int .u8 (0)),(.int .i64 (0)),(.int .i64 (0)),(.int .i64 (0)),(.int .i64 (0)),(.int .i64 (0)),(.int .i64 (0))]):PV)))))))) a b (0:Int))))))))))))))))))))))))))
def ycF:ybW:=ymf yc6 ycx yfQ yc7
def yr9:Sg:=⟨pt22,Ls→Ls→Int→Int→Int→Prop,fun K=>(fun r0 r1 r2 r3 r4=>K (.tup [(.agg [(.data r0),(.data r1)]),(.agg [(.int .i64 r2),(.int .i64 r3)]),(.int .i64 r4)]))⟩
def yAt (e:Es) (a0:ybC) (a1:ybH) (a2:ybS) (a3:ydL):SE:=⟨(E e),yib [(ycj,yp2.pw a0),(ybj,yp5.pw a1),(yc1,yhT.pw a2),(ycZ,yvA.pw a3)],yic [(ydn,yjm)],lp0,fun _=>none⟩
theorem yAu (e:Es) (a0 a1 a2 a3):EqW (yAt e a0 a1 a2 a3) 6 yCd yr9 (ymf a0 a1 a2 a3):=fun _ _=>by kernel_rfl
theorem ysa (e:Es) (he:EG e):OkF (E e) (yr9.pw ycF) yhN:=okU he (yAu e _ _ _ _) (yak (Sub.uni _) ⟨(yfN e he),(yfP e he),(yo5 e he),(ygw e he),trivial⟩ ⟨⟨by kernel_rfl,by kernel_rfl,rfl,fun as=>ybi (by kernel_rfl) as,he.num _ (by kernel_rfl),by kernel_rfl,(yae (by kernel_rfl))⟩,trivial⟩ he.ok) yhM.flat (yae (by kernel_rfl))
def yeI (a0:ybB) (p0 _:Ls) (p2 p3 p4 p5 p6:Int) (K:Int→Int→Int→Prop):Prop :=
 (asr (decide ((0:Int)≤p2))
 (asr (decide (p2<(((List.length p0):Nat):Int)))
 (asr (conf (.agg [.i .i64,.d,.d]) (List.getD p0 (p2.toNat) .nils))
 (a0 (yab (yai (List.getD p0 (p2.toNat) .nils) 0)) (ybq (yai (List.getD p0 (p2.toNat) .nils) 1)) (ybq (yai (List.getD p0 (p2.toNat) .nils) 2)) p3 p4 p5 p6 (fun a b c =>
 (K a b c))))))
def ye2:ybS:=yeI yew
def ynA (e:Es) (a0:ybB):SE:=sE (E e) [(yfH,ykw.pw a0)] lp0
theorem ynB (e:Es) (a0):EqW (ynA e a0) 6 yoP yhT (yeI a0):=fun _ _=>by kernel_rfl
theorem ynC (e:Es) (he:EG e):OkF (E e) (yhT.pw ye2) ycC:=okU he (ynB e _) (yak (Sub.uni _) ⟨(yoe e he),trivial⟩ trivial he.ok) yhM.flat (yae (by kernel_rfl))
def ykB (a0:ybC) (a1:ybH) (a2:ybS) (a3:ydL) (p0 p1:Ls) (p2 p3 p4 p5 p6:Int) (K:Ls→Ls→Int→Int→Int→Prop):Prop :=
 (a0 p0 p1 (fun c =>
 (cbr (c !=(0:Int))
 (K ([]:Ls) ([]:Ls) (0:Int) (0:Int) c)
 (a1 p0 p1 p2 (fun f =>
 (cbr (!f)
 (K ([]:Ls) ([]:Ls) (0:Int) (0:Int) (2:Int))
 (a2 p0 p1 p2 p3 p4 p5 p6 (fun a b d =>
 (cbr (d !=(0:Int))
 (K ([]:Ls) ([]:Ls) (0:Int) (0:Int) d)
 (cbr (decide ((((List.length p1):Nat):Int)≥(2000:Int)))
 (K ([]:Ls) ([]:Ls) (0:Int) (0:Int) (4:Int))
 (asr (decide ((0:Int)≤(IntKind.i64.wrap ((((List.length p1):Nat):Int)+(1:Int)))))
 (asr (decide ((((IntKind.i64.wrap ((((List.length p1):Nat):Int)+(1:Int))).toNat)+64)*(64+1)≤room))
 (a3 p0 (fun e =>
 (asr (ydj 8 p1)
 (asr (decide ((List.length (List.replicate ((IntKind.i64.wrap ((((List.length p1):Nat):Int)+(1:Int))).toNat) ((.agg [(.int .i64 (0)),(.int .u8 (0)),(.int .i64 (0)),(.int .i64 (0)),(.int .i64 (0)),(.int .i64 (0)),(.int .i64 (0)),(.int .i64 (0))]):PV)))=((IntKind.i64.wrap ((((List.length p1):Nat):Int)+(1:Int))).toNat)))
 (asr (decide (0≤((IntKind.i64.wrap ((((List.length p1):Nat):Int)+(1:Int))).toNat)))
 (cbr (List.isEmpty p1)
 (asr (decide ((List.length (List.replicate ((IntKind.i64.wrap ((((List.length p1):Nat):Int)+(1:Int))).toNat) ((.agg [(.int .i64 (0)),(.int .u8 (0)),(.int .i64 (0)),(.int .i64 (0)),(.int .i64 (0)),(.int .i64 (0)),(.int .i64 (0)),(.int .i64 (0))]):PV)))=((IntKind.i64.wrap ((((List.length p1):Nat):Int)+(1:Int))).toNat)))
 (asr (decide (0≤((IntKind.i64.wrap ((((List.length p1):Nat):Int)+(1:Int))).toNat)))
 (asr (decide (1≤((IntKind.i64.wrap ((((List.length p1):Nat):Int)+(1:Int))).toNat)))
 (asr (decide ((List.length (([(.agg [(.int .i64 p2),(.int .u8 (1:Int)),(.int .i64 p3),(.int .i64 p4),(.int .i64 p5),(.int .i64 p6),(.int .i64 a),(.int .i64 b)])]:Ls)++(List.drop 1 (List.replicate ((IntKind.i64.wrap ((((List.length p1):Nat):Int)+(1:Int))).toNat) ((.agg [(.int .i64 (0)),(.int .u8 (0)),(.int .i64 (0)),(.int .i64 (0)),(.int .i64 (0)),(.int .i64 (0)),(.int .i64 (0)),(.int .i64 (0))]):PV)))))=((IntKind.i64.wrap ((((List.length p1):Nat):Int)+(1:Int))).toNat)))
 (asr (decide (1≤((IntKind.i64.wrap ((((List.length p1):Nat):Int)+(1:Int))).toNat)))
 (K e (List.take 1 (([(.agg [(.int .i64 p2),(.int .u8 (1:Int)),(.int .i64 p3),(.int .i64 p4),(.int .i64 p5),(.int .i64 p6),(.int .i64 a),(.int .i64 b)])]:Ls)++(List.drop 1 (List.replicate ((IntKind.i64.wrap ((((List.length p1):Nat):Int)+(1:Int))).toNat) ((.agg [(.int .i64 (0)),(.int .u8 (0)),(.int .i64 (0)),(.int .i64 (0)),(.int .i64 (0)),(.int .i64 (0)),(.int .i64 (0)),(.int .i64 (0))]):PV))))) a b (0:Int)))))))
 (asr (decide ((0+(List.length p1))≤((IntKind.i64.wrap ((((List.length p1):Nat):Int)+(1:Int))).toNat)))
 (asr (decide ((List.length (p1++(List.drop (0+(List.length p1)) (List.replicate ((IntKind.i64.wrap ((((List.length p1):Nat):Int)+(1:Int))).toNat) ((.agg [(.int .i64 (0)),(.int .u8 (0)),(.int .i64 (0)),(.int .i64 (0)),(.int .i64 (0)),(.int .i64 (0)),(.int .i64 (0)),(.int .i64 (0))]):PV)))))=((IntKind.i64.wrap ((((List.length p1):Nat):Int)+(1:Int))).toNat)))
 (asr (decide ((0+(0+(List.length p1)))≤((IntKind.i64.wrap ((((List.length p1):Nat):Int)+(1:Int))).toNat)))
 (asr (decide (((0+(List.length p1))+1)≤((IntKind.i64.wrap ((((List.length p1):Nat):Int)+(1:Int))).toNat)))
 (asr (decide ((List.length ((List.take (0+(0+(List.length p1))) (p1++(List.drop (0+(List.length p1)) (List.replicate ((IntKind.i64.wrap ((((List.length p1):Nat):Int)+(1:Int))).toNat) ((.agg [(.int .i64 (0)),(.int .u8 (0)),(.int .i64 (0)),(.int .i64 (0)),(.int .i64 (0)),(.int .i64 (0)),(.int .i64 (0)),(.int .i64 (0))]):PV)))))++(([(.agg [(.int .i64 p2),(.int .u8 (1:Int)),(.int .i64 p3),(.int .i64 p4),(.int .i64 p5),(.int .i64 p6),(.int .i64 a),(.int .i64 b)])]:Ls)++(List.drop ((0+(0+(List.length p1)))+1) (p1++(List.drop (0+(List.length p1)) (List.replicate ((IntKind.i64.wrap ((((List.length p1):Nat):Int)+(1:Int))).toNat) ((.agg [(.int .i64 (0)),(.int .u8 (0)),(.int .i64 (0)),(.int .i64 (0)),(.int .i64 (0)),(.int .i64 (0)),(.int .i64 (0)),(.int .i64 (0))]):PV))))))))=((IntKind.i64.wrap ((((List.length p1):Nat):Int)+(1:Int))).toNat)))
 (asr (decide ((0+((0+(List.length p1))+1))≤((IntKind.i64.wrap ((((List.length p1):Nat):Int)+(1:Int))).toNat)))
 (K e (List.take ((0+(List.length p1))+1) ((List.take (0+(0+(List.length p1))) (p1++(List.drop (0+(List.length p1)) (List.replicate ((IntKind.i64.wrap ((((List.length p1):Nat):Int)+(1:Int))).toNat) ((.agg [(.int .i64 (0)),(.int .u8 (0)),(.int .i64 (0)),(.int .i64 (0)),(.int .i64 (0)),(.int .i64 (0)),(.int .i64 (0)),(.int .i64 (0))]):PV)))))++(([(.agg [(.int .i64 p2),(.int .u8 (1:Int)),(.int .i64 p3),(.int .i64 p4),(.int .i64 p5),(.int .i64 p6),(.int .i64 a),(.int .i64 b)])]:Ls)++(List.drop ((0+(0+(List.length p1)))+1) (p1++(List.drop (0+(List.length p1)) (List.replicate ((IntKind.i64.wrap ((((List.length p1):Nat):Int)+(1:Int))).toNat) ((.agg [(.int .i64 (0)),(.int .u8 (0)),(.int .i64 (0)),(.int .i64 (0)),(.int .i64 (0)),(.int .i64 (0)),(.int .i64 (0)),(.int .i64 (0))]):PV)))))))) a b (0:Int))))))))))))))))))))))))))
def ybL:ybW:=ykB yc6 ycx ye2 yc7
def yxW (e:Es) (a0:ybC) (a1:ybH) (a2:ybS) (a3:ydL):SE:=⟨(E e),yib [(ycj,yp2.pw a0),(ybj,yp5.pw a1),(ycC,yhT.pw a2),(ycZ,yvA.pw a3)],yic [(ydn,yjm)],lp0,fun _=>none⟩
theorem yxX (e:Es) (a0 a1 a2 a3):EqW (yxW e a0 a1 a2 a3) 6 yAc yr9 (ykB a0 a1 a2 a3):=fun _ _=>by kernel_rfl
theorem yp8 (e:Es) (he:EG e):OkF (E e) (yr9.pw ybL) ygJ:=okU he (yxX e _ _ _ _) (yak (Sub.uni _) ⟨(yfN e he),(yfP e he),(ynC e he),(ygw e he),trivial⟩ ⟨⟨by kernel_rfl,by kernel_rfl,rfl,fun as=>ybi (by kernel_rfl) as,he.num _ (by kernel_rfl),by kernel_rfl,(yae (by kernel_rfl))⟩,trivial⟩ he.ok) yhM.flat (yae (by kernel_rfl))
end Go.Pf.Vc
namespace Go.Pf.Vc
open Go Go.Pf
set_option linter.unusedVariables false
theorem yvC (p0:Ls) (p1:Ls) (r0:Int) (h:∀ K:Int→Prop,K r0→yc6 p0 p1 K) (K:Int→Prop):yc6 p0 p1 K=K r0 :=
 propext ⟨fun k=>detC (yfN [] yaP) (as:=[(.agg [(.data p0),(.data p1)])]) (x:=(.int .i64 r0)) (fun K' k'=>h (fun r0=>K' (.int .i64 r0)) k') (K:=fun x=>match x with | (.int .i64 r0)=>K r0 | _=>False) k,h K⟩
theorem yur (p0:Ls) (r0:Ls) (h:∀ K:Ls→Prop,K r0→yc7 p0 K) (K:Ls→Prop):yc7 p0 K=K r0 :=
 propext ⟨fun k=>detC (ygw [] yaP) (as:=[(.data p0)]) (x:=(.data r0)) (fun K' k'=>h (fun r0=>K' (.data r0)) k') (K:=fun x=>match x with | (.data r0)=>K r0 | _=>False) k,h K⟩
theorem yxY (p0:Ls) (p1:Ls) (p2:Int) (p3:Int) (p4:Int) (p5:Int) (p6:Int) (r0:Ls) (r1:Ls) (r2:Int) (r3:Int) (r4:Int) (h:∀ K:Ls→Ls→Int→Int→Int→Prop,K r0 r1 r2 r3 r4→ycF p0 p1 p2 p3 p4 p5 p6 K) (K:Ls→Ls→Int→Int→Int→Prop):ycF p0 p1 p2 p3 p4 p5 p6 K=K r0 r1 r2 r3 r4 :=
 propext ⟨fun k=>detC (ysa [] yaP) (as:=[(.agg [(.data p0),(.data p1)]),(.int .i64 p2),(.agg [(.int .i64 p3),(.int .i64 p4)]),(.agg [(.int .i64 p5),(.int .i64 p6)])]) (x:=(.tup [(.agg [(.data r0),(.data r1)]),(.agg [(.int .i64 r2),(.int .i64 r3)]),(.int .i64 r4)])) (fun K' k'=>h (fun r0 r1 r2 r3 r4=>K' (.tup [(.agg [(.data r0),(.data r1)]),(.agg [(.int .i64 r2),(.int .i64 r3)]),(.int .i64 r4)])) k') (K:=fun x=>match x with | (.tup [(.agg [(.data r0),(.data r1)]),(.agg [(.int .i64 r2),(.int .i64 r3)]),(.int .i64 r4)])=>K r0 r1 r2 r3 r4 | _=>False) k,h K⟩
theorem yvD (p0:Ls) (p1:Ls) (p2:Int) (p3:Int) (p4:Int) (p5:Int) (p6:Int) (r0:Ls) (r1:Ls) (r2:Int) (r3:Int) (r4:Int) (h:∀ K:Ls→Ls→Int→Int→Int→Prop,K r0 r1 r2 r3 r4→ybL p0 p1 p2 p3 p4 p5 p6 K) (K:Ls→Ls→Int→Int→Int→Prop):ybL p0 p1 p2 p3 p4 p5 p6 K=K r0 r1 r2 r3 r4 :=
 propext ⟨fun k=>detC (yp8 [] yaP) (as:=[(.agg [(.data p0),(.data p1)]),(.int .i64 p2),(.agg [(.int .i64 p3),(.int .i64 p4)]),(.agg [(.int .i64 p5),(.int .i64 p6)])]) (x:=(.tup [(.agg [(.data r0),(.data r1)]),(.agg [(.int .i64 r2),(.int .i64 r3)]),(.int .i64 r4)])) (fun K' k'=>h (fun r0 r1 r2 r3 r4=>K' (.tup [(.agg [(.data r0),(.data r1)]),(.agg [(.int .i64 r2),(.int .i64 r3)]),(.int .i64 r4)])) k') (K:=fun x=>match x with | (.tup [(.agg [(.data r0),(.data r1)]),(.agg [(.int .i64 r2),(.int .i64 r3)]),(.int .i64 r4)])=>K r0 r1 r2 r3 r4 | _=>False) k,h K⟩
end Go.Pf.Vc
namespace Go.Pf.Vc
open Go Go.Pf
set_option maxRecDepth 100000
def ywx (p0:Int) (K:Int→Int→Prop):Prop :=
 (K p0 (1:Int))
def yef:yaf:=ywx
def yEO (e:Es):SE:=sE (E e) [] lp0
theorem yEP (e:Es):EqW (yEO e) 6 yF7 yiD ywx:=fun _ _=>by kernel_rfl
theorem yna (e:Es) (he:EG e):OkF (E e) (yiD.pw yef) ycD:=okU he (yEP e) (yak (Sub.uni _) trivial trivial he.ok) yhM.flat (yae (by kernel_rfl))
def yo6 (p0:Int) (K:Int→Prop):Prop :=
 (cbr (decide (p0<(0:Int)))
 (K (IntKind.u64.wrap ((IntKind.u64.wrap (IntKind.i64.wrap ((0:Int)-(IntKind.i64.wrap (p0+(1:Int))))))+(1:Int))))
 (K (IntKind.u64.wrap p0)))
def yfh:yao:=yo6
def yCB (e:Es):SE:=sE (E e) [] lp0
theorem yCC (e:Es):EqW (yCB e) 6 yEI ynY yo6:=fun _ _=>by kernel_rfl
theorem yhU (e:Es) (he:EG e):OkF (E e) (ynY.pw yfh) ya2:=okU he (yCC e) (yak (Sub.uni _) trivial trivial he.ok) yhM.flat (yae (by kernel_rfl))
def yeQ (x0:Int→Int→Bool→Prop):Nat→Int→Int→Prop
 | 0,_,_=>False
 | n+1,i0,i1 =>
 (cbr (i1 !=(0:Int))
 (asr (!(decide (i1=(0:Int))))
 (yeQ x0 n i1 (Int.tmod i0 i1)))
 (x0 i0 i1 false))
def yo7 (p0 p1:Int) (K:Int→Prop):Prop :=
 (∃ n:Nat,yeQ
 (fun a _ _=>(K a))
 n p0 p1)
def ycR:yam:=yo7
def yvE (Q:Qx):Int→Int→Bool→Prop:=(fun i0 i1 b2=>Q (.exit 0) [(0,.v (.int .u64 i0)),(1,.v (.int .u64 i1)),(6,.v (.bool b2))] [])
def yp9 (Q:Qx):List St:=[⟨pt5,yeQ (yvE Q)⟩]
def yus:LP:=lpS [(16774900,yp9)]
def yo8 (e:Es):SE:=sE (E e) [] (yus)
theorem ysb (e:Es) (he:EG e):SEOk (Uni (E e)) (yo8 e):=yak (Sub.uni _) trivial trivial he.ok
theorem yut (e:Es):ycX (yo8 e) 5 a ykc false (yp9):=fun _=>⟨fun _=>by kernel_rfl,fun _ _=>by kernel_rfl,trivial⟩
theorem yuu (e:Es) (he:EG e):LpT (Uni (E e)) (yus) [] 16774900 (.loop 16774900 ykc):=fun _ _ _=>ylD.st (Sub.uni _) (yaz (ysb e he) 5) (YOk.no _ _) (yae (by kernel_rfl)) (yut e _)
theorem yCD (e:Es):EqW (yo8 e) 6 yEJ ypN yo7:=fun _ _=>by kernel_rfl
theorem yhV (e:Es) (he:EG e):OkF (E e) (ypN.pw ycR) ycs:=okU he (yCD e) (ysb e he) yhM.flat (ya8 (l:=[(16774900,.loop 16774900 ykc)]) ⟨yuu e he,trivial⟩ (by kernel_rfl))
def ykC (a0:yao) (a1:yam) (p0 p1:Int) (K:Int→Prop):Prop :=
 (cbr (decide (p1<(1:Int)))
 (K (8:Int))
 (cbr (decide (p1>(1000000000000000000:Int)))
 (K (8:Int))
 (cbr (decide (p0<(-1000000000000000000:Int)))
 (K (8:Int))
 (cbr (decide (p0>(1000000000000000000:Int)))
 (K (8:Int))
 (a0 p0 (fun a =>
 (a1 a (IntKind.u64.wrap p1) (fun b =>
 (cbr (b !=(1:Int))
 (K (8:Int))
 (K (0:Int)))))))))))
def ygR:yam:=ykC yfh ycR
def yxZ (e:Es) (a0:yao) (a1:yam):SE:=sE (E e) [(ya2,ynY.pw a0),(ycs,ypN.pw a1)] lp0
theorem yx0 (e:Es) (a0 a1):EqW (yxZ e a0 a1) 6 yAg ylK (ykC a0 a1):=fun _ _=>by kernel_rfl
theorem yqa (e:Es) (he:EG e):OkF (E e) (ylK.pw ygR) yc2:=okU he (yx0 e _ _) (yak (Sub.uni _) ⟨(yhU e he),(yhV e he),trivial⟩ trivial he.ok) yhM.flat (yae (by kernel_rfl))
def ykD (p0 p1:Int) (K:Int→Int→Prop):Prop :=
 (K (IntKind.u64.wrap ((IntKind.u64.wrap ((IntKind.u64.wrap ((Int.fdiv p0 4294967296)*(Int.fdiv p1 4294967296)))+(Int.fdiv (IntKind.u64.wrap ((Int.fdiv p0 4294967296)*(IntKind.u64.wrap (BitVec.ofInt IntKind.u64.bits p1&&&BitVec.ofInt IntKind.u64.bits (4294967295:Int)).toNat))) 4294967296)))+(Int.fdiv (IntKind.u64.wrap ((IntKind.u64.wrap ((IntKind.u64.wrap (BitVec.ofInt IntKind.u64.bits (IntKind.u64.wrap ((Int.fdiv p0 4294967296)*(IntKind.u64.wrap (BitVec.ofInt IntKind.u64.bits p1&&&BitVec.ofInt IntKind.u64.bits (4294967295:Int)).toNat)))&&&BitVec.ofInt IntKind.u64.bits (4294967295:Int)).toNat)+(IntKind.u64.wrap ((IntKind.u64.wrap (BitVec.ofInt IntKind.u64.bits p0&&&BitVec.ofInt IntKind.u64.bits (4294967295:Int)).toNat)*(Int.fdiv p1 4294967296)))))+(Int.fdiv (IntKind.u64.wrap ((IntKind.u64.wrap (BitVec.ofInt IntKind.u64.bits p0&&&BitVec.ofInt IntKind.u64.bits (4294967295:Int)).toNat)*(IntKind.u64.wrap (BitVec.ofInt IntKind.u64.bits p1&&&BitVec.ofInt IntKind.u64.bits (4294967295:Int)).toNat))) 4294967296))) 4294967296))) (IntKind.u64.wrap (BitVec.ofInt IntKind.u64.bits (IntKind.u64.wrap ((IntKind.u64.wrap ((IntKind.u64.wrap ((IntKind.u64.wrap (BitVec.ofInt IntKind.u64.bits (IntKind.u64.wrap ((Int.fdiv p0 4294967296)*(IntKind.u64.wrap (BitVec.ofInt IntKind.u64.bits p1&&&BitVec.ofInt IntKind.u64.bits (4294967295:Int)).toNat)))&&&BitVec.ofInt IntKind.u64.bits (4294967295:Int)).toNat)+(IntKind.u64.wrap ((IntKind.u64.wrap (BitVec.ofInt IntKind.u64.bits p0&&&BitVec.ofInt IntKind.u64.bits (4294967295:Int)).toNat)*(Int.fdiv p1 4294967296)))))+(Int.fdiv (IntKind.u64.wrap ((IntKind.u64.wrap (BitVec.ofInt IntKind.u64.bits p0&&&BitVec.ofInt IntKind.u64.bits (4294967295:Int)).toNat)*(IntKind.u64.wrap (BitVec.ofInt IntKind.u64.bits p1&&&BitVec.ofInt IntKind.u64.bits (4294967295:Int)).toNat))) 4294967296)))*(4294967296:Int)))|||BitVec.ofInt IntKind.u64.bits (IntKind.u64.wrap (BitVec.ofInt IntKind.u64.bits (IntKind.u64.wrap ((IntKind.u64.wrap (BitVec.ofInt IntKind.u64.bits p0&&&BitVec.ofInt IntKind.u64.bits (4294967295:Int)).toNat)*(IntKind.u64.wrap (BitVec.ofInt IntKind.u64.bits p1&&&BitVec.ofInt IntKind.u64.bits (4294967295:Int)).toNat)))&&&BitVec.ofInt IntKind.u64.bits (4294967295:Int)).toNat)).toNat))
def ydA:ybn:=ykD
def yx1:Sg:=⟨pt4,Int→Int→Prop,fun K=>(fun r0 r1=>K (.agg [(.int .u64 r0),(.int .u64 r1)]))⟩
def yx2 (e:Es):SE:=sE (E e) [] lp0
theorem yx3 (e:Es):EqW (yx2 e) 6 yAh yx1 ykD:=fun _ _=>by kernel_rfl
theorem ykE (e:Es) (he:EG e):OkF (E e) (yx1.pw ydA) ybm:=okU he (yx3 e) (yak (Sub.uni _) trivial trivial he.ok) yhM.flat (yae (by kernel_rfl))
def ymg (p0 p1 p2 p3:Int) (K:Bool→Prop):Prop :=
 (cbr (decide (p0<p2))
 (K true)
 (cbr (p0 == p2)
 (K (decide (p1<p3)))
 (K false)))
def yhW:yap:=ymg
def pt23:LPt:=lC (vA pt4) (lC (vA pt4) lN)
def yAv:Sg:=⟨pt23,Bool→Prop,fun K=>(fun r0=>K (.bool r0))⟩
def yAw (e:Es):SE:=sE (E e) [] lp0
theorem yAx (e:Es):EqW (yAw e) 6 yCh yAv ymg:=fun _ _=>by kernel_rfl
theorem ysc (e:Es) (he:EG e):OkF (E e) (yAv.pw yhW) yeb:=okU he (yAx e) (yak (Sub.uni _) trivial trivial he.ok) yhM.flat (yae (by kernel_rfl))
def ymh (a0:yao) (a1:ybn) (a2:yap) (p0 p1 p2 p3:Int) (K:Bool→Prop):Prop :=
 (cbr ((decide (p0<(0:Int))) !=(decide (p2<(0:Int))))
 (K (decide (p0<(0:Int))))
 (a0 p0 (fun e =>
 (a1 e (IntKind.u64.wrap p3) (fun a b =>
 (a0 p2 (fun f =>
 (a1 f (IntKind.u64.wrap p1) (fun c d =>
 (cbr (decide (p0<(0:Int)))
 (a2 c d a b (fun g =>
 (K g)))
 (a2 a b c d (fun h =>
 (K h)))))))))))))
def ycG:yap:=ymh yfh ydA yhW
def yAy (e:Es) (a0:yao) (a1:ybn) (a2:yap):SE:=sE (E e) [(ya2,ynY.pw a0),(ybm,yx1.pw a1),(yeb,yAv.pw a2)] lp0
theorem yAz (e:Es) (a0 a1 a2):EqW (yAy e a0 a1 a2) 6 yCi yku (ymh a0 a1 a2):=fun _ _=>by kernel_rfl
theorem ygS (e:Es) (he:EG e):OkF (E e) (yku.pw ycG) ybG:=okU he (yAz e _ _ _) (yak (Sub.uni _) ⟨(yhU e he),(ykE e he),(ysc e he),trivial⟩ trivial he.ok) yhM.flat (yae (by kernel_rfl))
def ymi (a0:yam) (p0 p1 p2 p3:Int) (K:Int→Prop):Prop :=
 (a0 p0 p1 (fun a =>
 (cbr (a !=(0:Int))
 (a0 p0 p1 (fun b =>
 (K b)))
 (a0 p2 p3 (fun c =>
 (K c))))))
def ygb:yaB:=ymi ygR
def yAA (e:Es) (a0:yam):SE:=sE (E e) [(yc2,ylK.pw a0)] lp0
theorem yAB (e:Es) (a0):EqW (yAA e a0) 6 yCj ylL (ymi a0):=fun _ _=>by kernel_rfl
theorem ymj (e:Es) (he:EG e):OkF (E e) (ylL.pw ygb) ybU:=okU he (yAB e _) (yak (Sub.uni _) ⟨(yqa e he),trivial⟩ trivial he.ok) yhM.flat (yae (by kernel_rfl))
def yo9 (p0 p1:Int) (K:Int→Int→Prop):Prop :=
 (K (IntKind.i64.wrap ((0:Int)-p0)) p1)
def ynb:ybn:=yo9
def yCE:Sg:=⟨pt8,Int→Int→Prop,fun K=>(fun r0 r1=>K (.agg [(.int .i64 r0),(.int .i64 r1)]))⟩
def yCF (e:Es):SE:=sE (E e) [] lp0
theorem yCG (e:Es):EqW (yCF e) 6 yEK yCE yo9:=fun _ _=>by kernel_rfl
theorem yCH (e:Es) (he:EG e):OkF (E e) (yCE.pw ynb) yjj:=okU he (yCG e) (yak (Sub.uni _) trivial trivial he.ok) yhM.flat (yae (by kernel_rfl))
def ymk (p0 p1 p2 p3:Int) (K:Int→Int→Prop):Prop :=
 (cbr (decide ((IntKind.u64.wrap (p1+p3))<p1))
 (K (IntKind.u64.wrap ((IntKind.u64.wrap (p0+p2))+(1:Int))) (IntKind.u64.wrap (p1+p3)))
 (K (IntKind.u64.wrap (p0+p2)) (IntKind.u64.wrap (p1+p3))))
def ydd:yaC:=ymk
def ysd:Sg:=⟨pt23,Int→Int→Prop,fun K=>(fun r0 r1=>K (.agg [(.int .u64 r0),(.int .u64 r1)]))⟩
def yAC (e:Es):SE:=sE (E e) [] lp0
theorem yAD (e:Es):EqW (yAC e) 6 yCk ysd ymk:=fun _ _=>by kernel_rfl
theorem yse (e:Es) (he:EG e):OkF (E e) (ysd.pw ydd) yeY:=okU he (yAD e) (yak (Sub.uni _) trivial trivial he.ok) yhM.flat (yae (by kernel_rfl))
def yhh (p0 p1 p2 p3:Int) (K:Int→Int→Prop):Prop :=
 (cbr (decide (p1<p3))
 (K (IntKind.u64.wrap ((IntKind.u64.wrap (p0-p2))-(1:Int))) (IntKind.u64.wrap (p1-p3)))
 (K (IntKind.u64.wrap (p0-p2)) (IntKind.u64.wrap (p1-p3))))
def yfi:yaC:=yhh
def yx4 (e:Es):SE:=sE (E e) [] lp0
theorem yx5 (e:Es):EqW (yx4 e) 6 yAk ysd yhh:=fun _ _=>by kernel_rfl
theorem yx6 (e:Es) (he:EG e):OkF (E e) (ysd.pw yfi) yfd:=okU he (yx5 e) (yak (Sub.uni _) trivial trivial he.ok) yhM.flat (yae (by kernel_rfl))
abbrev yml:Type:=Int→Int→Int→(Int→Int→Int→Prop)→Prop
def yaQ (a0:yaC) (x0:Int→Int→Int→Int→Int→Int→Int→Int→Int→Bool→Prop):Nat→Int→Int→Int→Int→Int→Int→Int→Int→Int→Prop
 | 0,_,_,_,_,_,_,_,_,_=>False
 | n+1,i0,i1,i2,i3,i4,i5,i6,i7,i8 =>
 (cbr (decide (i8≥(0:Int)))
 (asr (!(decide ((IntKind.i64.wrap (BitVec.ofInt IntKind.i64.bits i8&&&BitVec.ofInt IntKind.i64.bits (63:Int)).toNat)<(0:Int))))
 (cbr (decide (i8≥(64:Int)))
 (asr (!(decide ((IntKind.i64.wrap (BitVec.ofInt IntKind.i64.bits i8&&&BitVec.ofInt IntKind.i64.bits (63:Int)).toNat)<(0:Int))))
 (a0 i5 i6 i5 i6 (fun a b =>
 (cbr (decide ((IntKind.u64.wrap (BitVec.ofInt IntKind.u64.bits (IntKind.u64.wrap (i7*(2:Int)))|||BitVec.ofInt IntKind.u64.bits (IntKind.u64.wrap (BitVec.ofInt IntKind.u64.bits (Int.fdiv i1 (2 ^ (min (IntKind.i64.wrap (BitVec.ofInt IntKind.i64.bits i8&&&BitVec.ofInt IntKind.i64.bits (63:Int)).toNat).toNat IntKind.u64.bits)))&&&BitVec.ofInt IntKind.u64.bits (1:Int)).toNat)).toNat)≥i0))
 (yaQ a0 x0 n i0 i1 i2 i3 i4 a (IntKind.u64.wrap (BitVec.ofInt IntKind.u64.bits b|||BitVec.ofInt IntKind.u64.bits (1:Int)).toNat) (IntKind.u64.wrap ((IntKind.u64.wrap (BitVec.ofInt IntKind.u64.bits (IntKind.u64.wrap (i7*(2:Int)))|||BitVec.ofInt IntKind.u64.bits (IntKind.u64.wrap (BitVec.ofInt IntKind.u64.bits (Int.fdiv i1 (2 ^ (min (IntKind.i64.wrap (BitVec.ofInt IntKind.i64.bits i8&&&BitVec.ofInt IntKind.i64.bits (63:Int)).toNat).toNat IntKind.u64.bits)))&&&BitVec.ofInt IntKind.u64.bits (1:Int)).toNat)).toNat)-i0)) (IntKind.i64.wrap (i8-(1:Int))))
 (yaQ a0 x0 n i0 i1 i2 i3 i4 a b (IntKind.u64.wrap (BitVec.ofInt IntKind.u64.bits (IntKind.u64.wrap (i7*(2:Int)))|||BitVec.ofInt IntKind.u64.bits (IntKind.u64.wrap (BitVec.ofInt IntKind.u64.bits (Int.fdiv i1 (2 ^ (min (IntKind.i64.wrap (BitVec.ofInt IntKind.i64.bits i8&&&BitVec.ofInt IntKind.i64.bits (63:Int)).toNat).toNat IntKind.u64.bits)))&&&BitVec.ofInt IntKind.u64.bits (1:Int)).toNat)).toNat) (IntKind.i64.wrap (i8-(1:Int))))))))
 (a0 i5 i6 i5 i6 (fun c d =>
 (cbr (decide ((IntKind.u64.wrap (BitVec.ofInt IntKind.u64.bits (IntKind.u64.wrap (i7*(2:Int)))|||BitVec.ofInt IntKind.u64.bits (IntKind.u64.wrap (BitVec.ofInt IntKind.u64.bits (Int.fdiv i2 (2 ^ (min (IntKind.i64.wrap (BitVec.ofInt IntKind.i64.bits i8&&&BitVec.ofInt IntKind.i64.bits (63:Int)).toNat).toNat IntKind.u64.bits)))&&&BitVec.ofInt IntKind.u64.bits (1:Int)).toNat)).toNat)≥i0))
 (yaQ a0 x0 n i0 i1 i2 i3 i4 c (IntKind.u64.wrap (BitVec.ofInt IntKind.u64.bits d|||BitVec.ofInt IntKind.u64.bits (1:Int)).toNat) (IntKind.u64.wrap ((IntKind.u64.wrap (BitVec.ofInt IntKind.u64.bits (IntKind.u64.wrap (i7*(2:Int)))|||BitVec.ofInt IntKind.u64.bits (IntKind.u64.wrap (BitVec.ofInt IntKind.u64.bits (Int.fdiv i2 (2 ^ (min (IntKind.i64.wrap (BitVec.ofInt IntKind.i64.bits i8&&&BitVec.ofInt IntKind.i64.bits (63:Int)).toNat).toNat IntKind.u64.bits)))&&&BitVec.ofInt IntKind.u64.bits (1:Int)).toNat)).toNat)-i0)) (IntKind.i64.wrap (i8-(1:Int))))
 (yaQ a0 x0 n i0 i1 i2 i3 i4 c d (IntKind.u64.wrap (BitVec.ofInt IntKind.u64.bits (IntKind.u64.wrap (i7*(2:Int)))|||BitVec.ofInt IntKind.u64.bits (IntKind.u64.wrap (BitVec.ofInt IntKind.u64.bits (Int.fdiv i2 (2 ^ (min (IntKind.i64.wrap (BitVec.ofInt IntKind.i64.bits i8&&&BitVec.ofInt IntKind.i64.bits (63:Int)).toNat).toNat IntKind.u64.bits)))&&&BitVec.ofInt IntKind.u64.bits (1:Int)).toNat)).toNat) (IntKind.i64.wrap (i8-(1:Int)))))))))
 (x0 i0 i1 i2 i3 i4 i5 i6 i7 i8 false))
def ykF (a0:yaC) (p0 p1 p2:Int) (K:Int→Int→Int→Prop):Prop :=
 (∃ n:Nat,yaQ a0
 (fun _ _ _ _ _ a b c _ _=>(K a b c))
 n p2 p0 p1 (0:Int) (0:Int) (0:Int) (0:Int) (0:Int) (127:Int))
def yc8:yml:=ykF ydd
def yx7:Sg:=⟨(lC (vA pt4) pt3),Int→Int→Int→Prop,fun K=>(fun r0 r1 r2=>K (.tup [(.agg [(.int .u64 r0),(.int .u64 r1)]),(.int .u64 r2)]))⟩
def ysD (Q:Qx):Int→Int→Int→Int→Int→Int→Int→Int→Int→Bool→Prop:=(fun i0 i1 i2 i3 i4 i5 i6 i7 i8 b9=>Q (.exit 0) [(1,.v (.int .u64 i0)),(2,.box (.agg [(.int .u64 i1),(.int .u64 i2)])),(4,.box (.agg [(.int .u64 i3),(.int .u64 i4)])),(6,.box (.agg [(.int .u64 i5),(.int .u64 i6)])),(7,.v (.int .u64 i7)),(8,.v (.int .i64 i8)),(11,.v (.bool b9))] [])
def ymm (a0:yaC) (Q:Qx):List St:=[⟨(pS hN (fV 1 pt2 (fX 2 (vA pt4) (fX 4 (vA pt4) (fX 6 (vA pt4) (fV 7 pt2 (fV 8 pt0 fN)))))) fN),yaQ a0 (ysD Q)⟩]
def yqb (a0:yaC):LP:=lpS [(22549700,ymm a0)]
def ykG (e:Es) (a0:yaC):SE:=sE (E e) [(yeY,ysd.pw a0)] (yqb a0)
theorem yog (e:Es) (he:EG e):SEOk (Uni (E e)) (ykG e ydd):=yak (Sub.uni _) ⟨(yse e he),trivial⟩ trivial he.ok
theorem yrj (e:Es) (a0):ycX (ykG e a0) 5 a ykd false (ymm a0):=fun _=>⟨fun _=>by kernel_rfl,fun _ _=>by kernel_rfl,trivial⟩
theorem yrk (e:Es) (he:EG e):LpT (Uni (E e)) (yqb ydd) [] 22549700 (.loop 22549700 ykd):=fun _ _ _=>ylD.st (Sub.uni _) (yaz (yog e he) 5) (YOk.no _ _) (yae (by kernel_rfl)) (yrj e _ _)
theorem yx8 (e:Es) (a0):EqW (ykG e a0) 6 yAl yx7 (ykF a0):=fun _ _=>by kernel_rfl
theorem yqc (e:Es) (he:EG e):OkF (E e) (yx7.pw yc8) yfe:=okU he (yx8 e _) (yog e he) yhM.flat (ya8 (l:=[(22549700,.loop 22549700 ykd)]) ⟨yrk e he,trivial⟩ (by kernel_rfl))
abbrev ye3:Type:=Bool→Int→Int→Int→Int→(Int→Int→Int→Prop)→Prop
def ymn (p0:Bool) (p1 p2 p3 p4:Int) (K:Int→Int→Int→Prop):Prop :=
 (cbr (decide (p1>(0:Int)))
 (K (0:Int) (0:Int) (16:Int))
 (cbr (decide (p3>(0:Int)))
 (K (0:Int) (0:Int) (16:Int))
 (cbr (decide (p2>(1000000000000000000:Int)))
 (K (0:Int) (0:Int) (16:Int))
 (cbr (decide (p4>(1000000000000000000:Int)))
 (K (0:Int) (0:Int) (16:Int))
 (cbr p0
 (K (IntKind.i64.wrap ((0:Int)-(IntKind.i64.wrap p2))) (IntKind.i64.wrap p4) (0:Int))
 (K (IntKind.i64.wrap p2) (IntKind.i64.wrap p4) (0:Int)))))))
def ye4:ye3:=ymn
def yAE:Sg:=⟨(lC vB pt23),Int→Int→Int→Prop,fun K=>(fun r0 r1 r2=>K (.tup [(.agg [(.int .i64 r0),(.int .i64 r1)]),(.int .i64 r2)]))⟩
def yAF (e:Es):SE:=sE (E e) [] lp0
theorem yAG (e:Es):EqW (yAF e) 6 yCl yAE ymn:=fun _ _=>by kernel_rfl
theorem ymo (e:Es) (he:EG e):OkF (E e) (yAE.pw ye4) ydG:=okU he (yAG e) (yak (Sub.uni _) trivial trivial he.ok) yhM.flat (yae (by kernel_rfl))
def ypa (a0:yaB) (a1:yam) (a2:yao) (a3:ybn) (a4:yaC) (a5:yaC) (a6:yap) (a7:yml) (a8:ye3) (p0 p1 p2 p3:Int) (K:Int→Int→Int→Prop):Prop :=
 (a0 p0 p1 p2 p3 (fun o =>
 (cbr (o !=(0:Int))
 (a0 p0 p1 p2 p3 (fun p =>
 (K (0:Int) (0:Int) p)))
 (a1 (IntKind.u64.wrap p1) (IntKind.u64.wrap p3) (fun a =>
 (a2 p0 (fun q =>
 (asr (!(decide (a=(0:Int))))
 (a3 q (IntKind.u64.wrap (Int.tdiv (IntKind.u64.wrap p3) a)) (fun b c =>
 (a2 p2 (fun r =>
 (asr (!(decide (a=(0:Int))))
 (a3 r (IntKind.u64.wrap (Int.tdiv (IntKind.u64.wrap p1) a)) (fun d e =>
 (a4 b c d e (fun f g =>
 (cbr ((decide (p0<(0:Int))) !=(decide (p2<(0:Int))))
 (a5 b c d e (fun h i =>
 (a6 b c d e (fun s =>
 (cbr s
 (a5 d e b c (fun j k =>
 (cbr ((j ==(0:Int))&&((k ==(0:Int))&&true))
 (K (0:Int) (1:Int) (0:Int))
 (a7 j k a (fun _ _ t =>
 (a1 t a (fun l =>
 (a7 j k l (fun u v _ =>
 (asr (!(decide (a=(0:Int))))
 (asr (!(decide (l=(0:Int))))
 (a3 (IntKind.u64.wrap (Int.tdiv (IntKind.u64.wrap p1) a)) (IntKind.u64.wrap (Int.tdiv (IntKind.u64.wrap p3) l)) (fun w x =>
 (a8 (decide (p2<(0:Int))) u v w x (fun y z A =>
 (K y z A))))))))))))))))
 (cbr ((h ==(0:Int))&&((i ==(0:Int))&&true))
 (K (0:Int) (1:Int) (0:Int))
 (a7 h i a (fun _ _ B =>
 (a1 B a (fun m =>
 (a7 h i m (fun C D _ =>
 (asr (!(decide (a=(0:Int))))
 (asr (!(decide (m=(0:Int))))
 (a3 (IntKind.u64.wrap (Int.tdiv (IntKind.u64.wrap p1) a)) (IntKind.u64.wrap (Int.tdiv (IntKind.u64.wrap p3) m)) (fun E F =>
 (a8 (decide (p0<(0:Int))) C D E F (fun G H I =>
 (K G H I)))))))))))))))))))
 (cbr ((f ==(0:Int))&&((g ==(0:Int))&&true))
 (K (0:Int) (1:Int) (0:Int))
 (a7 f g a (fun _ _ J =>
 (a1 J a (fun n =>
 (a7 f g n (fun L M _ =>
 (asr (!(decide (a=(0:Int))))
 (asr (!(decide (n=(0:Int))))
 (a3 (IntKind.u64.wrap (Int.tdiv (IntKind.u64.wrap p1) a)) (IntKind.u64.wrap (Int.tdiv (IntKind.u64.wrap p3) n)) (fun N O =>
 (a8 (decide (p0<(0:Int))) L M N O (fun Q R S =>
 (K Q R S))))))))))))))))))))))))))))))))
def yfj:yad:=ypa ygb ycR yfh ydA ydd yfi yhW yc8 ye4
def yCI (e:Es) (a0:yaB) (a1:yam) (a2:yao) (a3:ybn) (a4:yaC) (a5:yaC) (a6:yap) (a7:yml) (a8:ye3):SE:=sE (E e) [(ybU,ylL.pw a0),(ycs,ypN.pw a1),(ya2,ynY.pw a2),(ybm,yx1.pw a3),(yeY,ysd.pw a4),(yfd,ysd.pw a5),(yeb,yAv.pw a6),(yfe,yx7.pw a7),(ydG,yAE.pw a8)] lp0
theorem yCJ (e:Es) (a0 a1 a2 a3 a4 a5 a6 a7 a8):EqW (yCI e a0 a1 a2 a3 a4 a5 a6 a7 a8) 6 yEL ydJ (ypa a0 a1 a2 a3 a4 a5 a6 a7 a8):=fun _ _=>by kernel_rfl
theorem yuv (e:Es) (he:EG e):OkF (E e) (ydJ.pw yfj) yf5:=okU he (yCJ e _ _ _ _ _ _ _ _ _) (yak (Sub.uni _) ⟨(ymj e he),(yhV e he),(yhU e he),(ykE e he),(yse e he),(yx6 e he),(ysc e he),(yqc e he),(ymo e he),trivial⟩ trivial he.ok) yhM.flat (yae (by kernel_rfl))
def ypb (a0:yaB) (a1:ybn) (a2:yad) (p0 p1 p2 p3:Int) (K:Int→Int→Int→Prop):Prop :=
 (a0 p0 p1 p2 p3 (fun a =>
 (cbr (a !=(0:Int))
 (a0 p0 p1 p2 p3 (fun b =>
 (K (0:Int) (0:Int) b)))
 (a1 p2 p3 (fun c d =>
 (a2 p0 p1 c d (fun e f g =>
 (K e f g))))))))
def ync:yad:=ypb ygb ynb yfj
def yCK (e:Es) (a0:yaB) (a1:ybn) (a2:yad):SE:=sE (E e) [(ybU,ylL.pw a0),(yjj,yCE.pw a1),(yf5,ydJ.pw a2)] lp0
theorem yCL (e:Es) (a0 a1 a2):EqW (yCK e a0 a1 a2) 6 yEM ydJ (ypb a0 a1 a2):=fun _ _=>by kernel_rfl
theorem yCM (e:Es) (he:EG e):OkF (E e) (ydJ.pw ync) yjk:=okU he (yCL e _ _ _) (yak (Sub.uni _) ⟨(ymj e he),(yCH e he),(yuv e he),trivial⟩ trivial he.ok) yhM.flat (yae (by kernel_rfl))
def ypc (a0:yaB) (a1:yao) (a2:yam) (a3:ybn) (a4:ye3) (p0 p1 p2 p3:Int) (K:Int→Int→Int→Prop):Prop :=
 (a0 p0 p1 p2 p3 (fun c =>
 (cbr (c !=(0:Int))
 (a0 p0 p1 p2 p3 (fun d =>
 (K (0:Int) (0:Int) d)))
 (a1 p0 (fun e =>
 (a2 e (IntKind.u64.wrap p3) (fun a =>
 (a1 p2 (fun f =>
 (a2 f (IntKind.u64.wrap p1) (fun b =>
 (cbr ((decide (p0<(0:Int))) !=(decide (p2<(0:Int))))
 (cbr (p0 !=(0:Int))
 (a1 p0 (fun g =>
 (asr (!(decide (a=(0:Int))))
 (a1 p2 (fun h =>
 (asr (!(decide (b=(0:Int))))
 (a3 (IntKind.u64.wrap (Int.tdiv g a)) (IntKind.u64.wrap (Int.tdiv h b)) (fun i j =>
 (asr (!(decide (b=(0:Int))))
 (asr (!(decide (a=(0:Int))))
 (a3 (IntKind.u64.wrap (Int.tdiv (IntKind.u64.wrap p1) b)) (IntKind.u64.wrap (Int.tdiv (IntKind.u64.wrap p3) a)) (fun k l =>
 (a4 (p2 !=(0:Int)) i j k l (fun m n o =>
 (K m n o)))))))))))))))
 (a1 p0 (fun p =>
 (asr (!(decide (a=(0:Int))))
 (a1 p2 (fun q =>
 (asr (!(decide (b=(0:Int))))
 (a3 (IntKind.u64.wrap (Int.tdiv p a)) (IntKind.u64.wrap (Int.tdiv q b)) (fun r s =>
 (asr (!(decide (b=(0:Int))))
 (asr (!(decide (a=(0:Int))))
 (a3 (IntKind.u64.wrap (Int.tdiv (IntKind.u64.wrap p1) b)) (IntKind.u64.wrap (Int.tdiv (IntKind.u64.wrap p3) a)) (fun t u =>
 (a4 false r s t u (fun v w x =>
 (K v w x))))))))))))))))
 (a1 p0 (fun y =>
 (asr (!(decide (a=(0:Int))))
 (a1 p2 (fun z =>
 (asr (!(decide (b=(0:Int))))
 (a3 (IntKind.u64.wrap (Int.tdiv y a)) (IntKind.u64.wrap (Int.tdiv z b)) (fun A B =>
 (asr (!(decide (b=(0:Int))))
 (asr (!(decide (a=(0:Int))))
 (a3 (IntKind.u64.wrap (Int.tdiv (IntKind.u64.wrap p1) b)) (IntKind.u64.wrap (Int.tdiv (IntKind.u64.wrap p3) a)) (fun C D =>
 (a4 false A B C D (fun E F G =>
 (K E F G)))))))))))))))))))))))))))
def ynd:yad:=ypc ygb yfh ycR ydA ye4
def yCN (e:Es) (a0:yaB) (a1:yao) (a2:yam) (a3:ybn) (a4:ye3):SE:=sE (E e) [(ybU,ylL.pw a0),(ya2,ynY.pw a1),(ycs,ypN.pw a2),(ybm,yx1.pw a3),(ydG,yAE.pw a4)] lp0
theorem yCO (e:Es) (a0 a1 a2 a3 a4):EqW (yCN e a0 a1 a2 a3 a4) 6 yEN ydJ (ypc a0 a1 a2 a3 a4):=fun _ _=>by kernel_rfl
theorem yCP (e:Es) (he:EG e):OkF (E e) (ydJ.pw ynd) yjl:=okU he (yCO e _ _ _ _ _) (yak (Sub.uni _) ⟨(ymj e he),(yhU e he),(yhV e he),(ykE e he),(ymo e he),trivial⟩ trivial he.ok) yhM.flat (yae (by kernel_rfl))
def ymp (a0:yao) (a1:yam) (a2:ye3) (p0 p1:Int) (K:Int→Int→Int→Prop):Prop :=
 (cbr (p1 ==(0:Int))
 (K (0:Int) (0:Int) (18:Int))
 (a0 p0 (fun b =>
 (a0 p1 (fun c =>
 (a1 b c (fun a =>
 (asr (!(decide (a=(0:Int))))
 (asr (!(decide (a=(0:Int))))
 (a2 ((decide (p0<(0:Int))) !=(decide (p1<(0:Int)))) (0:Int) (IntKind.u64.wrap (Int.tdiv b a)) (0:Int) (IntKind.u64.wrap (Int.tdiv c a)) (fun d e f =>
 (K d e f))))))))))))
def ykH:yeu:=ymp yfh ycR ye4
def yAH (e:Es) (a0:yao) (a1:yam) (a2:ye3):SE:=sE (E e) [(ya2,ynY.pw a0),(ycs,ypN.pw a1),(ydG,yAE.pw a2)] lp0
theorem yAI (e:Es) (a0 a1 a2):EqW (yAH e a0 a1 a2) 6 yCm yn2 (ymp a0 a1 a2):=fun _ _=>by kernel_rfl
theorem yAJ (e:Es) (he:EG e):OkF (E e) (yn2.pw ykH) yhO:=okU he (yAI e _ _ _) (yak (Sub.uni _) ⟨(yhU e he),(yhV e he),(ymo e he),trivial⟩ trivial he.ok) yhM.flat (yae (by kernel_rfl))
end Go.Pf.Vc
namespace Go.Pf.Vc
open Go Go.Pf
set_option linter.unusedVariables false
theorem yAK (p0:Int) (p1:Int) (r0:Int) (h:∀ K:Int→Prop,K r0→ycR p0 p1 K) (K:Int→Prop):ycR p0 p1 K=K r0 :=
 propext ⟨fun k=>detC (yhV [] yaP) (as:=[(.int .u64 p0),(.int .u64 p1)]) (x:=(.int .u64 r0)) (fun K' k'=>h (fun r0=>K' (.int .u64 r0)) k') (K:=fun x=>match x with | (.int .u64 r0)=>K r0 | _=>False) k,h K⟩
theorem yvF (p0:Int) (p1:Int) (p2:Int) (r0:Int) (r1:Int) (r2:Int) (h:∀ K:Int→Int→Int→Prop,K r0 r1 r2→yc8 p0 p1 p2 K) (K:Int→Int→Int→Prop):yc8 p0 p1 p2 K=K r0 r1 r2 :=
 propext ⟨fun k=>detC (yqc [] yaP) (as:=[(.agg [(.int .u64 p0),(.int .u64 p1)]),(.int .u64 p2)]) (x:=(.tup [(.agg [(.int .u64 r0),(.int .u64 r1)]),(.int .u64 r2)])) (fun K' k'=>h (fun r0 r1 r2=>K' (.tup [(.agg [(.int .u64 r0),(.int .u64 r1)]),(.int .u64 r2)])) k') (K:=fun x=>match x with | (.tup [(.agg [(.int .u64 r0),(.int .u64 r1)]),(.int .u64 r2)])=>K r0 r1 r2 | _=>False) k,h K⟩
end Go.Pf.Vc
namespace Go.Pf.Vc
open Go Go.Pf
set_option maxRecDepth 100000
abbrev yfk:Type:=Int→Ls→Ls→(Bool→Prop)→Prop
def ykI (_:Int) (p1 p2:Ls) (K:Bool→Prop):Prop :=
 (cbr (decide ((((List.length p1):Nat):Int)>(60:Int)))
 (K true)
 (K (decide ((((List.length p2):Nat):Int)>(60:Int)))))
def yeg:yfk:=ykI
def yx9:Sg:=⟨pt15,Bool→Prop,fun K=>(fun r0=>K (.bool r0))⟩
def yya (e:Es):SE:=sE (E e) [] lp0
theorem yyb (e:Es):EqW (yya e) 6 yzX yx9 ykI:=fun _ _=>by kernel_rfl
theorem yyc (e:Es) (he:EG e):OkF (E e) (yx9.pw yeg) ygE:=okU he (yyb e) (yak (Sub.uni _) trivial trivial he.ok) yhM.flat (yae (by kernel_rfl))
def ybX (x0:Int→Prop) (x1:Int→Ls→Ls→Bool→Int→Bool→Prop):Nat→Int→Ls→Ls→Bool→Int→Prop
 | 0,_,_,_,_,_=>False
 | n+1,i0,l1,l2,b3,i4 =>
 (cbr (decide (i4<(((List.length l2):Nat):Int)))
 (asr (decide ((0:Int)≤(IntKind.i64.wrap (i4+(1:Int)))))
 (asr (decide ((IntKind.i64.wrap (i4+(1:Int)))<(((List.length l1):Nat):Int)))
 (asr (conf (.one (.i .i64)) (List.getD l1 ((IntKind.i64.wrap (i4+(1:Int))).toNat) .nils))
 (asr (decide ((0:Int)≤i4))
 (asr (decide (i4<(((List.length l1):Nat):Int)))
 (asr (conf (.one (.i .i64)) (List.getD l1 (i4.toNat) .nils))
 (cbr (decide ((yab (List.getD l1 ((IntKind.i64.wrap (i4+(1:Int))).toNat) .nils))≤(yab (List.getD l1 (i4.toNat) .nils))))
 (x0 (8:Int))
 (asr (decide ((0:Int)≤i4))
 (asr (decide (i4<(((List.length l2):Nat):Int)))
 (asr (conf (.one (.i .i64)) (List.getD l2 (i4.toNat) .nils))
 (cbr (decide ((yab (List.getD l2 (i4.toNat) .nils))<(0:Int)))
 (x0 (8:Int))
 (asr (decide ((0:Int)≤i4))
 (asr (decide (i4<(((List.length l2):Nat):Int)))
 (asr (conf (.one (.i .i64)) (List.getD l2 (i4.toNat) .nils))
 (cbr (decide ((yab (List.getD l2 (i4.toNat) .nils))>(12:Int)))
 (x0 (8:Int))
 (cbr b3
 (ybX x0 x1 n i0 l1 l2 true (IntKind.i64.wrap (i4+(1:Int))))
 (asr (decide ((0:Int)≤i4))
 (asr (decide (i4<(((List.length l2):Nat):Int)))
 (asr (conf (.one (.i .i64)) (List.getD l2 (i4.toNat) .nils))
 (ybX x0 x1 n i0 l1 l2 (decide ((yab (List.getD l2 (i4.toNat) .nils))>(0:Int))) (IntKind.i64.wrap (i4+(1:Int)))))))))))))))))))))))
 (x1 i0 l1 l2 b3 i4 false))
def ykJ (p0:Int) (p1 p2:Ls) (K:Int→Prop):Prop :=
 (cbr (decide (p0>(1000:Int)))
 (K (4:Int))
 (cbr (decide ((((List.length p1):Nat):Int)>(40:Int)))
 (K (4:Int))
 (cbr (decide (p0<(1:Int)))
 (K (8:Int))
 (cbr (decide ((((List.length p1):Nat):Int)<(2:Int)))
 (K (8:Int))
 (cbr ((((List.length p2):Nat):Int) !=(IntKind.i64.wrap ((((List.length p1):Nat):Int)-(1:Int))))
 (K (8:Int))
 (asr (decide ((0:Int)<(((List.length p1):Nat):Int)))
 (asr (conf (.one (.i .i64)) (List.getD p1 0 .nils))
 (cbr ((yab (List.getD p1 0 .nils)) !=(0:Int))
 (K (8:Int))
 (asr (decide ((0:Int)≤(IntKind.i64.wrap ((((List.length p1):Nat):Int)-(1:Int)))))
 (asr (decide ((IntKind.i64.wrap ((((List.length p1):Nat):Int)-(1:Int)))<(((List.length p1):Nat):Int)))
 (asr (conf (.one (.i .i64)) (List.getD p1 ((IntKind.i64.wrap ((((List.length p1):Nat):Int)-(1:Int))).toNat) .nils))
 (cbr ((yab (List.getD p1 ((IntKind.i64.wrap ((((List.length p1):Nat):Int)-(1:Int))).toNat) .nils)) != p0)
 (K (8:Int))
 (∃ n:Nat,ybX
 (fun a=>(K a))
 (fun _ _ _ b _ _=>(cbr (!b)
 (K (8:Int))
 (K (0:Int))))
 n p0 p1 p2 false (0:Int))))))))))))))
def yaW:yaj:=ykJ
def ysE (Q:Qx):Int→Prop:=(fun i0=>Q .ret [(2,.v (.int .i64 i0))] [])
def ysF (Q:Qx):Int→Ls→Ls→Bool→Int→Bool→Prop:=(fun i0 l1 l2 b3 i4 b5=>Q (.exit 0) [(1,.box (.agg [(.int .i64 i0),(.data l1),(.data l2)])),(3,.v (.bool b3)),(4,.v (.int .i64 i4)),(57,.v (.bool b5))] [])
def ymq (Q:Qx):List St:=[⟨(pS hN (fX 1 pt14 (fV 3 vB (fV 4 pt0 fN))) fN),ybX (ysE Q) (ysF Q)⟩]
def yqd:LP:=lpS [(94526800,ymq)]
def ykK (e:Es):SE:=sE (E e) [] (yqd)
theorem yoh (e:Es) (he:EG e):SEOk (Uni (E e)) (ykK e):=yak (Sub.uni _) trivial trivial he.ok
theorem yrl (e:Es):ycX (ykK e) 5 a yjP false (ymq):=fun _=>⟨fun _=>by kernel_rfl,fun _ _=>by kernel_rfl,trivial⟩
theorem yrm (e:Es) (he:EG e):LpT (Uni (E e)) (yqd) [] 94526800 (.loop 94526800 yjP):=fun _ _ _=>ylD.st (Sub.uni _) (yaz (yoh e he) 5) (YOk.no _ _) (yae (by kernel_rfl)) (yrl e _)
theorem yyd (e:Es):EqW (ykK e) 6 yzY yiA ykJ:=fun _ _=>by kernel_rfl
theorem ykL (e:Es) (he:EG e):OkF (E e) (yiA.pw yaW) ycY:=okU he (yyd e) (yoh e he) yhM.flat (ya8 (l:=[(94526800,.loop 94526800 yjP)]) ⟨yrm e he,trivial⟩ (by kernel_rfl))
abbrev yfl:Type:=Int→Int→Int→(Bool→Prop)→Prop
def ykM (a0:yam) (a1:yaf) (a2:yap) (p0 p1 p2:Int) (K:Bool→Prop):Prop :=
 (a0 p1 p2 (fun a =>
 (cbr (a ==(0:Int))
 (cbr (decide (p1≥(0:Int)))
 (a1 p0 (fun b c =>
 (a2 b c p1 p2 (fun d =>
 (K (!d))))))
 (K false))
 (K false))))
def yeh:yfl:=ykM ygR yef ycG
def yye:Sg:=⟨(lC pt0 pt8),Bool→Prop,fun K=>(fun r0=>K (.bool r0))⟩
def yyf (e:Es) (a0:yam) (a1:yaf) (a2:yap):SE:=sE (E e) [(yc2,ylK.pw a0),(ycD,yiD.pw a1),(ybG,yku.pw a2)] lp0
theorem yyg (e:Es) (a0 a1 a2):EqW (yyf e a0 a1 a2) 6 yAi yye (ykM a0 a1 a2):=fun _ _=>by kernel_rfl
theorem yyh (e:Es) (he:EG e):OkF (E e) (yye.pw yeh) yfc:=okU he (yyg e _ _ _) (yak (Sub.uni _) ⟨(yqa e he),(yna e he),(ygS e he),trivial⟩ trivial he.ok) yhM.flat (yae (by kernel_rfl))
def ykN (a0:yap) (p0 p1 p2 p3:Int) (K:Int→Int→Prop):Prop :=
 (a0 p0 p1 p2 p3 (fun a =>
 (cbr a
 (K p2 p3)
 (K p0 p1))))
def yig:yaC:=ykN ycG
def yqe:Sg:=⟨pt12,Int→Int→Prop,fun K=>(fun r0 r1=>K (.agg [(.int .i64 r0),(.int .i64 r1)]))⟩
def yyi (e:Es) (a0:yap):SE:=sE (E e) [(ybG,yku.pw a0)] lp0
theorem yyj (e:Es) (a0):EqW (yyi e a0) 6 yAj yqe (ykN a0):=fun _ _=>by kernel_rfl
theorem yyk (e:Es) (he:EG e):OkF (E e) (yqe.pw yig) ygL:=okU he (yyj e _) (yak (Sub.uni _) ⟨(ygS e he),trivial⟩ trivial he.ok) yhM.flat (yae (by kernel_rfl))
def yiL (a0:yap) (p0 p1 p2 p3:Int) (K:Int→Int→Prop):Prop :=
 (a0 p0 p1 p2 p3 (fun a =>
 (cbr a
 (K p0 p1)
 (K p2 p3))))
def yhi:yaC:=yiL ycG
def yvG (e:Es) (a0:yap):SE:=sE (E e) [(ybG,yku.pw a0)] lp0
theorem yvH (e:Es) (a0):EqW (yvG e a0) 6 yxB yqe (yiL a0):=fun _ _=>by kernel_rfl
theorem yvI (e:Es) (he:EG e):OkF (E e) (yqe.pw yhi) yfJ:=okU he (yvH e _) (yak (Sub.uni _) ⟨(ygS e he),trivial⟩ trivial he.ok) yhM.flat (yae (by kernel_rfl))
abbrev yfm:Type:=Int→Ls→Ls→Int→Int→Int→Int→Int→(Int→Int→Int→Prop)→Prop
def ykO (a0:yaf) (a1:yaC) (a2:yaC) (a3:yap) (a4:yad) (a5:yad) (_:Int) (p1 p2:Ls) (p3 p4 p5 p6 p7:Int) (K:Int→Int→Int→Prop):Prop :=
 (asr (decide ((0:Int)≤p3))
 (asr (decide (p3<(((List.length p1):Nat):Int)))
 (asr (conf (.one (.i .i64)) (List.getD p1 (p3.toNat) .nils))
 (a0 (yab (List.getD p1 (p3.toNat) .nils)) (fun f g =>
 (a1 p4 p5 f g (fun a b =>
 (asr (decide ((0:Int)≤(IntKind.i64.wrap (p3+(1:Int)))))
 (asr (decide ((IntKind.i64.wrap (p3+(1:Int)))<(((List.length p1):Nat):Int)))
 (asr (conf (.one (.i .i64)) (List.getD p1 ((IntKind.i64.wrap (p3+(1:Int))).toNat) .nils))
 (a0 (yab (List.getD p1 ((IntKind.i64.wrap (p3+(1:Int))).toNat) .nils)) (fun h j =>
 (a2 p6 p7 h j (fun c d =>
 (a3 a b c d (fun k =>
 (cbr (!k)
 (K (0:Int) (1:Int) (0:Int))
 (asr (decide ((0:Int)≤p3))
 (asr (decide (p3<(((List.length p2):Nat):Int)))
 (asr (conf (.one (.i .i64)) (List.getD p2 (p3.toNat) .nils))
 (cbr ((yab (List.getD p2 (p3.toNat) .nils)) ==(0:Int))
 (K (0:Int) (1:Int) (0:Int))
 (a4 c d a b (fun l m e =>
 (cbr (e !=(0:Int))
 (K (0:Int) (0:Int) e)
 (asr (decide ((0:Int)≤p3))
 (asr (decide (p3<(((List.length p2):Nat):Int)))
 (asr (conf (.one (.i .i64)) (List.getD p2 (p3.toNat) .nils))
 (a0 (yab (List.getD p2 (p3.toNat) .nils)) (fun n o =>
 (a5 l m n o (fun p q r =>
 (K p q r))))))))))))))))))))))))))))))))
def yei:yfm:=ykO yef yig yhi ycG ync ynd
def yyl:Sg:=⟨(lC pt14 (lC pt0 pt12)),Int→Int→Int→Prop,fun K=>(fun r0 r1 r2=>K (.tup [(.agg [(.int .i64 r0),(.int .i64 r1)]),(.int .i64 r2)]))⟩
def yym (e:Es) (a0:yaf) (a1:yaC) (a2:yaC) (a3:yap) (a4:yad) (a5:yad):SE:=sE (E e) [(ycD,yiD.pw a0),(ygL,yqe.pw a1),(yfJ,yqe.pw a2),(ybG,yku.pw a3),(yjk,ydJ.pw a4),(yjl,ydJ.pw a5)] lp0
theorem yyn (e:Es) (a0 a1 a2 a3 a4 a5):EqW (yym e a0 a1 a2 a3 a4 a5) 6 yAm yyl (ykO a0 a1 a2 a3 a4 a5):=fun _ _=>by kernel_rfl
theorem yyo (e:Es) (he:EG e):OkF (E e) (yyl.pw yei) ygM:=okU he (yyn e _ _ _ _ _ _) (yak (Sub.uni _) ⟨(yna e he),(yyk e he),(yvI e he),(ygS e he),(yCM e he),(yCP e he),trivial⟩ trivial he.ok) yhM.flat (yae (by kernel_rfl))
def ycS (a0:yaj) (a1:yfl) (a2:yap) (a3:yfm) (a4:yad) (x0:Int→Int→Int→Prop) (x1:Int→Ls→Ls→Int→Int→Int→Int→Int→Int→Int→Int→Int→Bool→Prop):Nat→Int→Ls→Ls→Int→Int→Int→Int→Int→Int→Int→Int→Int→Prop
 | 0,_,_,_,_,_,_,_,_,_,_,_,_=>False
 | n+1,i0,l1,l2,i3,i4,i5,i6,i7,i8,i9,i10,i11 =>
 (cbr (decide (i11<(((List.length l2):Nat):Int)))
 (a3 i0 l1 l2 i11 i3 i4 i5 i6 (fun c d a =>
 (cbr (a !=(0:Int))
 (x0 (0:Int) (0:Int) a)
 (a4 i9 i10 c d (fun e f b =>
 (cbr (b !=(0:Int))
 (x0 (0:Int) (0:Int) b)
 (ycS a0 a1 a2 a3 a4 x0 x1 n i0 l1 l2 i3 i4 i5 i6 i7 i8 e f (IntKind.i64.wrap (i11+(1:Int))))))))))
 (x1 i0 l1 l2 i3 i4 i5 i6 i7 i8 i9 i10 i11 false))
def ykP (a0:yaj) (a1:yfl) (a2:yap) (a3:yfm) (a4:yad) (p0:Int) (p1 p2:Ls) (p3 p4 p5 p6:Int) (K:Int→Int→Int→Prop):Prop :=
 (a0 p0 p1 p2 (fun a =>
 (cbr (a !=(0:Int))
 (a0 p0 p1 p2 (fun b =>
 (K (0:Int) (0:Int) b)))
 (a1 p0 p3 p4 (fun c =>
 (cbr (!c)
 (K (0:Int) (0:Int) (2:Int))
 (a1 p0 p5 p6 (fun d =>
 (cbr (!d)
 (K (0:Int) (0:Int) (2:Int))
 (a2 p5 p6 p3 p4 (fun e =>
 (cbr e
 (K (0:Int) (0:Int) (2:Int))
 (∃ n:Nat,ycS a0 a1 a2 a3 a4
 (fun f g h=>(K f g h))
 (fun _ _ _ _ _ _ _ _ _ i j _ _=>(K i j (0:Int)))
 n p0 p1 p2 p3 p4 p5 p6 (0:Int) (0:Int) (0:Int) (1:Int) (0:Int))))))))))))))
def ycq:ybB:=ykP yaW yeh ycG yei yfj
def ysG (Q:Qx):Int→Int→Int→Prop:=(fun i0 i1 i2=>Q .ret [(6,.box (.agg [(.int .i64 i0),(.int .i64 i1)])),(7,.v (.int .i64 i2))] [])
def ysH (Q:Qx):Int→Ls→Ls→Int→Int→Int→Int→Int→Int→Int→Int→Int→Bool→Prop:=(fun i0 l1 l2 i3 i4 i5 i6 i7 i8 i9 i10 i11 b12=>Q (.exit 0) [(3,.box (.agg [(.int .i64 i0),(.data l1),(.data l2)])),(4,.box (.agg [(.int .i64 i3),(.int .i64 i4)])),(5,.box (.agg [(.int .i64 i5),(.int .i64 i6)])),(6,.box (.agg [(.int .i64 i7),(.int .i64 i8)])),(8,.box (.agg [(.int .i64 i9),(.int .i64 i10)])),(9,.v (.int .i64 i11)),(41,.v (.bool b12))] [])
def ymr (a0:yaj) (a1:yfl) (a2:yap) (a3:yfm) (a4:yad) (Q:Qx):List St:=[⟨(pS hN (fX 3 pt14 (fX 4 pt7 (fX 5 pt7 (fX 6 pt7 (fX 8 pt7 (fV 9 pt0 fN)))))) fN),ycS a0 a1 a2 a3 a4 (ysG Q) (ysH Q)⟩]
def yqf (a0:yaj) (a1:yfl) (a2:yap) (a3:yfm) (a4:yad):LP:=lpS [(92446900,ymr a0 a1 a2 a3 a4)]
def ykQ (e:Es) (a0:yaj) (a1:yfl) (a2:yap) (a3:yfm) (a4:yad):SE:=sE (E e) [(ycY,yiA.pw a0),(yfc,yye.pw a1),(ybG,yku.pw a2),(ygM,yyl.pw a3),(yf5,ydJ.pw a4)] (yqf a0 a1 a2 a3 a4)
theorem yoi (e:Es) (he:EG e):SEOk (Uni (E e)) (ykQ e yaW yeh ycG yei yfj):=yak (Sub.uni _) ⟨(ykL e he),(yyh e he),(ygS e he),(yyo e he),(yuv e he),trivial⟩ trivial he.ok
theorem yrn (e:Es) (a0 a1 a2 a3 a4):ycX (ykQ e a0 a1 a2 a3 a4) 5 a yke false (ymr a0 a1 a2 a3 a4):=fun _=>⟨fun _=>by kernel_rfl,fun _ _=>by kernel_rfl,trivial⟩
theorem yro (e:Es) (he:EG e):LpT (Uni (E e)) (yqf yaW yeh ycG yei yfj) [] 92446900 (.loop 92446900 yke):=fun _ _ _=>ylD.st (Sub.uni _) (yaz (yoi e he) 5) (YOk.no _ _) (yae (by kernel_rfl)) (yrn e _ _ _ _ _ _)
theorem yyp (e:Es) (a0 a1 a2 a3 a4):EqW (ykQ e a0 a1 a2 a3 a4) 6 yAn ykw (ykP a0 a1 a2 a3 a4):=fun _ _=>by kernel_rfl
theorem yqg (e:Es) (he:EG e):OkF (E e) (ykw.pw ycq) ygN:=okU he (yyp e _ _ _ _ _) (yoi e he) yhM.flat (ya8 (l:=[(92446900,.loop 92446900 yke)]) ⟨yro e he,trivial⟩ (by kernel_rfl))
def ycT (x0:Int→Ls→Ls→Int→Int→Bool→Prop):Nat→Int→Ls→Ls→Int→Int→Prop
 | 0,_,_,_,_,_=>False
 | n+1,i0,l1,l2,i3,i4 =>
 (cbr (decide (i4<(((List.length l2):Nat):Int)))
 (asr (decide ((0:Int)≤i4))
 (asr (decide (i4<(((List.length l2):Nat):Int)))
 (asr (conf (.one (.i .i64)) (List.getD l2 (i4.toNat) .nils))
 (asr (decide ((0:Int)≤(IntKind.i64.wrap (i4+(1:Int)))))
 (asr (decide ((IntKind.i64.wrap (i4+(1:Int)))<(((List.length l1):Nat):Int)))
 (asr (conf (.one (.i .i64)) (List.getD l1 ((IntKind.i64.wrap (i4+(1:Int))).toNat) .nils))
 (asr (decide ((0:Int)≤i4))
 (asr (decide (i4<(((List.length l1):Nat):Int)))
 (asr (conf (.one (.i .i64)) (List.getD l1 (i4.toNat) .nils))
 (ycT x0 n i0 l1 l2 (IntKind.i64.wrap (i3+(IntKind.i64.wrap ((yab (List.getD l2 (i4.toNat) .nils))*(IntKind.i64.wrap ((yab (List.getD l1 ((IntKind.i64.wrap (i4+(1:Int))).toNat) .nils))-(yab (List.getD l1 (i4.toNat) .nils)))))))) (IntKind.i64.wrap (i4+(1:Int)))))))))))))
 (x0 i0 l1 l2 i3 i4 false))
def ykR (p0:Int) (p1 p2:Ls) (K:Int→Prop):Prop :=
 (∃ n:Nat,ycT
 (fun _ _ _ a _ _=>(K a))
 n p0 p1 p2 (0:Int) (0:Int))
def yfn:yaj:=ykR
def ysI (Q:Qx):Int→Ls→Ls→Int→Int→Bool→Prop:=(fun i0 l1 l2 i3 i4 b5=>Q (.exit 0) [(1,.box (.agg [(.int .i64 i0),(.data l1),(.data l2)])),(3,.v (.int .i64 i3)),(4,.v (.int .i64 i4)),(9,.v (.bool b5))] [])
def yms (Q:Qx):List St:=[⟨(pS hN (fX 1 pt14 (fV 3 pt0 (fV 4 pt0 fN))) fN),ycT (ysI Q)⟩]
def yqh:LP:=lpS [(21661800,yms)]
def ykS (e:Es):SE:=sE (E e) [] (yqh)
theorem yoj (e:Es) (he:EG e):SEOk (Uni (E e)) (ykS e):=yak (Sub.uni _) trivial trivial he.ok
theorem yrp (e:Es):ycX (ykS e) 5 a ykf false (yms):=fun _=>⟨fun _=>by kernel_rfl,fun _ _=>by kernel_rfl,trivial⟩
theorem yrq (e:Es) (he:EG e):LpT (Uni (E e)) (yqh) [] 21661800 (.loop 21661800 ykf):=fun _ _ _=>ylD.st (Sub.uni _) (yaz (yoj e he) 5) (YOk.no _ _) (yae (by kernel_rfl)) (yrp e _)
theorem yyq (e:Es):EqW (ykS e) 6 yAo yiA ykR:=fun _ _=>by kernel_rfl
theorem yqi (e:Es) (he:EG e):OkF (E e) (yiA.pw yfn) ygO:=okU he (yyq e) (yoj e he) yhM.flat (ya8 (l:=[(21661800,.loop 21661800 ykf)]) ⟨yrq e he,trivial⟩ (by kernel_rfl))
end Go.Pf.Vc
namespace Go.Pf.Vc
open Go Go.Pf
set_option linter.unusedVariables false
theorem yvJ (p0:Int) (p1:Ls) (p2:Ls) (r0:Int) (h:∀ K:Int→Prop,K r0→yaW p0 p1 p2 K) (K:Int→Prop):yaW p0 p1 p2 K=K r0 :=
 propext ⟨fun k=>detC (ykL [] yaP) (as:=[(.agg [(.int .i64 p0),(.data p1),(.data p2)])]) (x:=(.int .i64 r0)) (fun K' k'=>h (fun r0=>K' (.int .i64 r0)) k') (K:=fun x=>match x with | (.int .i64 r0)=>K r0 | _=>False) k,h K⟩
theorem yvK (p0:Int) (p1:Ls) (p2:Ls) (p3:Int) (p4:Int) (p5:Int) (p6:Int) (r0:Int) (r1:Int) (r2:Int) (h:∀ K:Int→Int→Int→Prop,K r0 r1 r2→ycq p0 p1 p2 p3 p4 p5 p6 K) (K:Int→Int→Int→Prop):ycq p0 p1 p2 p3 p4 p5 p6 K=K r0 r1 r2 :=
 propext ⟨fun k=>detC (yqg [] yaP) (as:=[(.agg [(.int .i64 p0),(.data p1),(.data p2)]),(.agg [(.int .i64 p3),(.int .i64 p4)]),(.agg [(.int .i64 p5),(.int .i64 p6)])]) (x:=(.tup [(.agg [(.int .i64 r0),(.int .i64 r1)]),(.int .i64 r2)])) (fun K' k'=>h (fun r0 r1 r2=>K' (.tup [(.agg [(.int .i64 r0),(.int .i64 r1)]),(.int .i64 r2)])) k') (K:=fun x=>match x with | (.tup [(.agg [(.int .i64 r0),(.int .i64 r1)]),(.int .i64 r2)])=>K r0 r1 r2 | _=>False) k,h K⟩
end Go.Pf.Vc
