/- Part 3 of what the statement rests on: a verified evaluator over pure values, the conditions of the program's functions, and their plain laws. -/
import Derived.Test.YtijdgcomldpncaaGreatTrW2
namespace Go.Pf.Vc
open Go Go.Pf
def t82:Opd:=.t 82
def t83:Opd:=.t 83
def t95:Opd:=.t 95
def t97:Opd:=.t 97
def t100:Opd:=.t 100
def ylb:TCode:=(.seq (oQ [oX 45 .lss 44 43] []) (.seq (.cond t45 .skip (.exit 0)) (.seq (.block 1 (.seq (.ops [M 46 44,O 47 (.iad 1 t42 t44),oF 48 1 47,M 11 46,M 12 48] [⟨1,(.one (.i .i64)),0⟩,⟨2,(.one (.i .i64)),0⟩] [] [45,46,47,48]) (.seq (.ops [O 49 (.fad 1 t3),oF 50 1 49,M 51 11,O 52 (.bin .add t51 (I 1)),O 53 (.iad 1 t50 t52),oF 54 1 53,O 55 (.call (.f yaU) [t54]),O 13 (.allocL (.agg [(.int .i64 (0)),(.int .i64 (0))])),⟨none,(.store 2 t13 t55),none⟩] [⟨1,(.agg [.i .i64,.d,.d]),0⟩,⟨4,(.one (.i .i64)),0⟩,⟨5,(.one (.i .i64)),0⟩] [] [11,49,50,51,52,53,54,55]) (.seq (.seq (oQ [oT 56 2 5,oT 57 2 13,O 58 (.call (.f ybg) [t56,t57])] [56,57]) (.cond t58 (oQ [oT 59 2 5,⟨none,(.store 2 t13 t59),none⟩] [58,59]) .skip)) (.seq (.seq (oQ [M 60 12,O 61 (.bin .eql t60 (I 0)),M 62 61,⟨some 63,(.load true 2 t10),some (62,false)⟩,⟨some 64,(.load true 2 t13),some (62,false)⟩,⟨some 65,(.call (.f ybg) [t63,t64]),some (62,false)⟩,⟨some 66,(.un .not t65),some (62,false)⟩,O 67 (.pick t62 (.c (.bool true)) t66)] [58,60,61,62,63,64,65,66]) (.cond t67 (.seq (.seq (oQ [oT 68 2 10,oT 69 2 13,O 70 (.call (.f ybg) [t68,t69])] [12,67,68,69]) (.cond t70 (oQ [oT 71 2 13,⟨none,(.store 2 t10 t71),none⟩] [13,70,71]) .skip)) (.exit 1)) .skip)) (.seq (oQ [oT 73 2 13,oT 74 2 10,O 75 (.call (.f ydm) [t73,t74]),M 72 75,O 76 (.ext t72 0),O 77 (.ext t72 1),O 14 (.allocL (.agg [(.int .i64 (0)),(.int .i64 (0))])),⟨none,(.store 2 t14 t76),none⟩,M 15 77] [67,72,73,74,75,76,77]) (.seq (.seq (oQ [M 78 15,O 79 (.bin .neq t78 (I 0))] [78]) (.cond t79 (.seq (oQ [O 80 (.build [(.int .i64 (0)),(.int .i64 (0))] []),M 81 15,⟨none,(.store 2 t6 t80),none⟩,M 7 81] [3,5,9,10,12,13,14,15,42,43,44,79,80,81]) .ret) .skip)) (.seq (.ops [oT 83 2 14,M 84 12,O 85 (.call (.f yaU) [t84]),O 86 (.call (.f ybW) [t83,t85]),M 82 86,O 87 (.ext t82 0),O 88 (.ext t82 1),O 16 (.allocL (.agg [(.int .i64 (0)),(.int .i64 (0))])),⟨none,(.store 2 t16 t87),none⟩,M 15 88] [] [(0,1),(0,2),(5,6),(0,7),(1,7),(2,7),(3,7),(4,7),(5,7),(6,7),(6,8)] [12,14,79,82,83,84,85,86,87,88]) (.seq (.seq (oQ [M 89 15,O 90 (.bin .neq t89 (I 0))] [89]) (.cond t90 (.seq (oQ [O 91 (.build [(.int .i64 (0)),(.int .i64 (0))] []),M 92 15,⟨none,(.store 2 t6 t91),none⟩,M 7 92] [3,5,9,10,13,15,16,42,43,44,90,91,92]) .ret) .skip)) (.seq (.seq (oQ [oT 94 2 9,oT 95 2 16,O 96 (.call (.f ycI) [t94,t95]),M 93 96,O 97 (.ext t93 0),O 98 (.ext t93 1),⟨none,(.store 2 t9 t97),none⟩,M 15 98] [16,90,93,94,95,96,97,98]) (.seq (oQ [M 99 15,O 100 (.bin .neq t99 (I 0))] [99]) (.cond t100 (.seq (oQ [O 101 (.build [(.int .i64 (0)),(.int .i64 (0))] []),M 102 15,⟨none,(.store 2 t6 t101),none⟩,M 7 102] [3,5,9,10,13,15,42,43,44,100,101,102]) .ret) .skip))) (oQ [oT 103 2 13,⟨none,(.store 2 t10 t103),none⟩] [13,15,100,103]))))))))))) (oQ [O 104 (.bin .add t44 (I 1)),M 44 104] [13,70,104]))))
def yAm:TFn:=⟨3,[.cell 6 true 2,.tmp 7],(.seq (oQ [O 3 (.boxL t0),O 4 (.boxL t1),O 5 (.boxL t2),O 6 (.allocL (.agg [(.int .i64 (0)),(.int .i64 (0))])),O 7 (.mv (I 0))] [0,1,2,7]) (.seq (.seq (oQ [oT 17 3 3,O 18 (.call (.f ybn) [t17]),M 8 18] [17,18]) (.seq (oQ [M 19 8,O 20 (.bin .neq t19 (I 0))] [19]) (.cond t20 (.seq (oQ [O 21 (.build [(.int .i64 (0)),(.int .i64 (0))] []),M 22 8,⟨none,(.store 2 t6 t21),none⟩,M 7 22] [3,4,5,8,20,21,22]) .ret) .skip))) (.seq (.seq (oQ [oT 23 3 3,oT 24 2 4,O 25 (.call (.f ycE) [t23,t24]),O 26 (.un .not t25),M 27 26,⟨some 28,(.load true 3 t3),some (27,false)⟩,⟨some 29,(.load true 2 t5),some (27,false)⟩,⟨some 30,(.call (.f ycE) [t28,t29]),some (27,false)⟩,⟨some 31,(.un .not t30),some (27,false)⟩,O 32 (.pick t27 (.c (.bool true)) t31),M 33 32,⟨some 34,(.load true 2 t5),some (33,false)⟩,⟨some 35,(.load true 2 t4),some (33,false)⟩,⟨some 36,(.call (.f ybg) [t34,t35]),some (33,false)⟩,O 37 (.pick t33 (.c (.bool true)) t36)] [8,20,23,24,25,26,27,28,29,30,31,32,33,34,35,36]) (.cond t37 (.seq (oQ [O 38 (.build [(.int .i64 (0)),(.int .i64 (0))] []),⟨none,(.store 2 t6 t38),none⟩,O 7 (.mv (I 2))] [3,4,5,37,38]) .ret) .skip)) (.seq (oQ [O 39 (.call (.f yaU) [(I 0)]),O 9 (.allocL (.agg [(.int .i64 (0)),(.int .i64 (0))])),⟨none,(.store 2 t9 t39),none⟩] [37,39]) (.seq (oQ [oT 40 2 4,O 10 (.allocL (.agg [(.int .i64 (0)),(.int .i64 (0))])),⟨none,(.store 2 t10 t40),none⟩] [4,40]) (.seq (.seq (.ops [O 41 (.fad 2 t3),oF 42 1 41,O 43 (.len t42),O 44 (.mv (I 0))] [⟨1,(.agg [.i .i64,.d,.d]),0⟩] [] [41]) (.block 0 (.loop 85339800 ylb))) (.seq (oQ [oT 105 2 9,⟨none,(.store 2 t6 t105),none⟩,O 7 (.mv (I 0))] [3,5,9,10,42,43,44,45,105]) .ret)))))))⟩
def yqD:TFn:=⟨4,[.cell 8 true 2,.tmp 9],(.seq (oQ [O 4 (.boxL t0),O 6 (.boxL t2),O 7 (.boxL t3),O 8 (.allocL (.agg [(.int .i64 (0)),(.int .i64 (0))])),O 9 (.mv (I 0))] [0,2,3,9]) (.seq (.ops [O 10 (.fad 0 t4),O 11 (.fad 0 t10),oF 12 1 11,M 13 1,O 14 (.iad 3 t12 t13),oT 15 3 14,oT 16 2 6,oT 17 2 7,O 18 (.call (.f ygk) [t15,t16,t17]),O 19 (.ext t18 0),O 20 (.ext t18 1),⟨none,(.store 2 t8 t19),none⟩,M 9 20] [⟨2,(.agg [.d,.d]),0⟩,⟨4,(.agg [.i .i64,.d,.d]),0⟩,⟨5,(.agg [.i .i64,.d,.d]),0⟩] [(0,3),(1,3),(2,3),(0,6),(1,6),(2,6),(3,6),(4,6),(5,6),(0,7),(1,7),(2,7),(3,7),(4,7),(5,7),(6,7),(9,10)] [1,4,6,7,10,11,12,13,14,15,16,17,18,19,20]) .ret))⟩
def yC4:TFn:=⟨4,[.cell 8 true 2,.cell 9 true 2,.tmp 10],(.seq (oQ [O 4 (.boxL t0),O 6 (.boxL t2),O 7 (.boxL t3),O 8 (.allocL (.agg [.nils,.nils])),O 9 (.allocL (.agg [(.int .i64 (0)),(.int .i64 (0))])),O 10 (.mv (I 0))] [0,2,3,10]) (.seq (oQ [oT 12 2 4,O 13 (.build [.nils,.nils] [(0,2,t12)]),O 11 (.allocL (.agg [.nils,.nils])),⟨none,(.store 2 t11 t13),none⟩] [4,12,13]) (.seq (oQ [oT 14 2 11,M 15 1,oT 16 2 6,oT 17 2 7,O 18 (.build [(.int .i64 (0)),(.int .u8 (0)),(.int .i64 (0)),(.int .i64 (0)),(.int .i64 (0)),(.int .i64 (0)),(.int .i64 (0)),(.int .i64 (0))] [(0,1,t15),(1,1,(.c (.int .u8 (1)))),(2,2,t16),(4,2,t17)]),oT 19 2 11,O 20 (.mkFn (.func yc0) [t19] []),O 21 (.call (.f ydM) [t14,t18,t20]),O 22 (.ext t21 0),O 23 (.ext t21 1),O 24 (.ext t21 2),⟨none,(.store 2 t8 t22),none⟩,⟨none,(.store 2 t9 t23),none⟩,M 10 24] [1,6,7,11,14,15,16,17,18,19,20,21,22,23,24]) .ret)))⟩
def yC5:TFn:=⟨2,[.tmp 4],(.seq (oQ [O 2 (.boxL t0),O 3 (.boxL t1),O 4 (.mv (.c (.bool false)))] [0,1,4]) (.seq (oQ [oT 8 2 2,oT 9 2 3,O 10 (.call (.f yeF) [t8,t9]),M 7 10,O 11 (.ext t7 0),O 12 (.ext t7 1),M 5 11,M 6 12] [2,3,6,7,8,9,10,11,12]) (.seq (oQ [M 13 5,O 14 (.bin .gtr t13 (I 0)),M 4 14] [5,13,14]) .ret)))⟩
def ylc:TCode:=(.seq (oQ [oX 32 .lss 31 30] []) (.seq (.cond t32 .skip (.exit 0)) (.seq (.block 1 (.seq (.ops [M 33 31,O 34 (.iad 1 t29 t31),oF 35 1 34,M 11 33,M 12 35] [⟨1,(.one (.i .i64)),0⟩,⟨2,(.one (.i .i64)),0⟩] [] [32,33,34,35]) (.seq (.seq (oQ [M 36 1,O 37 (.len t36),O 38 (.bin .eql t37 (I 1))] [36,37]) (.cond t38 (.exit 0) .skip)) (.seq (.seq (oQ [M 39 11,O 40 (.bin .gtr t39 (I 0))] [11,38,39]) (.cond t40 (.seq (.ops [oT 42 2 3,M 43 12,oT 44 2 5,O 45 (.fad 3 t9),oT 46 2 45,O 47 (.call (.f yhn) [t42,t43,t44,t46]),M 41 47,O 48 (.ext t41 0),O 49 (.ext t41 1),O 50 (.ext t41 2),O 13 (.allocL (.agg [.nils,.nils])),O 14 (.allocL (.agg [(.int .i64 (0)),(.int .i64 (0))])),⟨none,(.store 2 t13 t48),none⟩,⟨none,(.store 2 t14 t49),none⟩,M 15 50] [⟨0,(.agg [.d,.d]),0⟩,⟨2,(.agg [.i .i64,.i .i64]),0⟩,⟨4,(.agg [.i .i64,.i .i64,.i .i64,.i .i64,.i .i64,.i .i64]),0⟩] [] [40,41,42,43,44,45,46,47,48,49,50]) (.seq (.seq (oQ [M 51 15,O 52 (.bin .neq t51 (I 0))] [51]) (.cond t52 (.seq (oQ [O 53 (.build [.nils,.nils] []),O 54 (.build [(.int .i64 (0)),(.int .i64 (0)),(.int .i64 (0)),(.int .i64 (0)),(.int .i64 (0)),(.int .i64 (0))] []),M 55 15,⟨none,(.store 2 t6 t53),none⟩,⟨none,(.store 6 t7 t54),none⟩,M 8 55] [1,3,5,9,10,12,13,14,15,29,30,31,52,53,54,55]) .ret) .skip)) (.seq (.ops [oT 56 2 13,⟨none,(.store 2 t3 t56),none⟩] [⟨1,(.agg [.d,.d]),0⟩] [] [13,15,52,56]) (.seq (.seq (.ops [oT 57 2 14,oT 58 2 3,M 59 12,O 60 (.call (.f ye3) [t58,t59]),O 61 (.call (.f yho) [t57,t60]),O 62 (.un .not t61)] [⟨1,(.agg [.d,.d]),0⟩] [(0,1),(0,2),(1,2),(0,3)] [14,57,58,59,60,61]) (.cond t62 (.exit 1) .skip)) (.ops [O 63 (.fad 5 t9),oF 64 1 63,O 65 (.bin .add t64 (I 1)),O 66 (.fad 5 t9),⟨none,(.store 1 t66 t65),none⟩] [⟨1,(.agg [.i .i64,.i .i64,.i .i64,.i .i64,.i .i64,.i .i64]),0⟩,⟨4,(.agg [.i .i64,.i .i64,.i .i64,.i .i64,.i .i64,.i .i64]),0⟩] [] [62,63,64,65,66]))))) .skip)) (.seq (oQ [M 67 10,M 68 12,O 69 (.call t67 [t68]),M 16 69] [12,40,67,68,69]) (.seq (oQ [M 70 16,O 71 (.bin .neq t70 (I 0))] [70]) (.cond t71 (.seq (oQ [O 72 (.build [.nils,.nils] []),O 73 (.build [(.int .i64 (0)),(.int .i64 (0)),(.int .i64 (0)),(.int .i64 (0)),(.int .i64 (0)),(.int .i64 (0))] []),M 74 16,⟨none,(.store 2 t6 t72),none⟩,⟨none,(.store 6 t7 t73),none⟩,M 8 74] [1,3,5,9,10,16,29,30,31,71,72,73,74]) .ret) .skip))))))) (oQ [O 75 (.bin .add t31 (I 1)),M 31 75] [12,16,62,71,75]))))
def yAn:TFn:=⟨3,[.cell 6 true 2,.cell 7 true 6,.tmp 8],(.seq (oQ [O 3 (.boxH true 2 t0),O 5 (.boxH true 2 t2),O 6 (.allocL (.agg [.nils,.nils])),O 7 (.allocL (.agg [(.int .i64 (0)),(.int .i64 (0)),(.int .i64 (0)),(.int .i64 (0)),(.int .i64 (0)),(.int .i64 (0))])),O 8 (.mv (I 0))] [0,2,8]) (.seq (.ops [M 17 1,O 18 (.iad 1 t17 (I 0)),oF 19 1 18,oT 20 2 5,O 21 (.fad 0 t3),oF 22 1 21,O 23 (.iad 3 t22 (I 0)),O 24 (.fad 0 t23),oF 25 1 24,O 26 (.call (.f ycD) [t25]),O 27 (.build [(.int .i64 (0)),(.int .i64 (0)),(.int .i64 (0)),(.int .i64 (0)),(.int .i64 (0)),(.int .i64 (0))] [(0,1,t19),(1,2,t20),(3,2,t26)]),O 9 (.allocH true 6 (.agg [(.int .i64 (0)),(.int .i64 (0)),(.int .i64 (0)),(.int .i64 (0)),(.int .i64 (0)),(.int .i64 (0))])),⟨none,(.store 6 t9 t27),none⟩] [⟨1,(.one (.i .i64)),0⟩,⟨2,(.one (.i .i64)),0⟩,⟨3,(.agg [.i .i64,.i .i64]),0⟩,⟨5,(.agg [.d,.d]),0⟩,⟨6,(.agg [.i .i64,.d,.d]),0⟩,⟨8,(.agg [.i .i64,.d,.d]),0⟩,⟨12,(.agg [.i .i64,.i .i64,.i .i64,.i .i64,.i .i64,.i .i64]),0⟩] [(0,3),(1,3),(2,3),(0,4),(1,4),(2,4),(3,4),(0,5),(1,5),(2,5),(3,5),(0,6),(1,6),(2,6),(3,6),(0,7),(1,7),(2,7),(3,7),(0,8),(1,8),(2,8),(3,8),(0,9),(1,9),(2,9),(3,9),(0,11),(1,11),(2,11),(3,11),(4,11),(5,11),(6,11),(7,11),(8,11),(9,11),(10,11)] [17,18,19,20,21,22,23,24,25,26,27]) (.seq (oQ [O 28 (.mkFn (.func ydN) [] [t3,t5,t9]),M 10 28] [28]) (.seq (.seq (oQ [M 29 1,O 30 (.len t29),O 31 (.mv (I 0))] []) (.block 0 (.loop 62467600 ylc))) (.seq (.ops [oT 76 2 3,oT 77 6 9,⟨none,(.store 2 t6 t76),none⟩,⟨none,(.store 6 t7 t77),none⟩,O 8 (.mv (I 0))] [⟨0,(.agg [.d,.d]),0⟩,⟨1,(.agg [.i .i64,.i .i64,.i .i64,.i .i64,.i .i64,.i .i64]),0⟩] [(0,1),(1,2)] [1,3,5,9,10,11,12,29,30,31,32,38,76,77]) .ret)))))⟩
def yjh:TFn:=⟨2,[.tmp 3],(.seq (oQ [O 3 (.mv (.c (.bool false)))] [3]) (.seq (oQ [M 4 0,O 5 (.fad 0 t1),oF 6 1 5,oX 7 .eql 4 6,M 3 7] [0,1,4,5,6,7]) .ret))⟩
def yld:TCode:=(.seq (oQ [oX 9 .lss 8 7] []) (.seq (.cond t9 .skip (.exit 0)) (.seq (.block 1 (.seq (oQ [M 10 8,M 5 10] [9,10]) (.seq (.ops [M 11 1,M 12 0,M 13 5,O 14 (.iad 1 t12 t13),oF 15 1 14,O 16 (.call t11 [t15])] [⟨3,(.one (.i .i64)),0⟩,⟨4,(.one (.i .i64)),0⟩] [] [11,12,13,14,15]) (.cond t16 (.seq (oQ [M 17 5,M 4 17] [0,1,5,7,8,16,17]) .ret) .skip)))) (oQ [O 18 (.bin .add t8 (I 1)),M 8 18] [5,16,18]))))
def ymY:TFn:=⟨2,[.tmp 4],(.seq (oQ [O 4 (.mv (I 0))] [4]) (.seq (.seq (oQ [M 6 0,O 7 (.len t6),O 8 (.mv (I 0))] [6]) (.block 0 (.loop 91326000 yld))) (.seq (oQ [O 4 (.mv (I (-1)))] [0,1,7,8,9]) .ret)))⟩
def yle:TCode:=(.seq (.seq (oQ [M 16 6,M 17 0,O 18 (.len t17),oX 19 .lss 16 18] [16,17,18]) (.cond t19 .skip (.exit 0))) (.seq (.block 1 (.seq (.ops [M 22 0,M 23 6,O 24 (.iad 1 t22 t23),oF 25 1 24,M 7 25] [⟨2,(.one (.i .i64)),0⟩,⟨3,(.one (.i .i64)),0⟩] [] [19,22,23,24,25]) (.seq (oQ [M 26 1,M 27 7,O 28 (.call t26 [t27]),O 29 (.un .not t28)] [26,27,28]) (.cond t29 (.seq (.ops [M 30 0,M 31 5,M 32 7,O 33 (.iad 1 t30 t31),⟨none,(.store 1 t33 t32),none⟩] [⟨3,(.one (.i .i64)),0⟩,⟨4,(.one (.i .i64)),0⟩] [] [7,29,30,31,32,33]) (oQ [M 34 5,O 35 (.bin .add t34 (I 1)),M 5 35] [34,35])) .skip)))) (oQ [M 20 6,O 21 (.bin .add t20 (I 1)),M 6 21] [7,20,21,29])))
def ylf:TFn:=⟨2,[.tmp 4],(.seq (oQ [O 4 (.mv (.c .nils))] [4]) (.seq (oQ [M 8 0,M 9 1,O 10 (.call (.f yer) [t8,t9]),M 5 10] [8,9,10]) (.seq (.seq (oQ [M 11 5,O 12 (.bin .eql t11 (I (-1)))] [11]) (.cond t12 (.seq (oQ [M 13 0,M 4 13] [0,1,5,12,13]) .ret) .skip)) (.seq (.seq (oQ [M 14 5,O 15 (.bin .add t14 (I 1)),M 6 15] [12,14,15]) (.block 0 (.loop 55401000 yle))) (.seq (oQ [M 36 0,M 37 5,O 38 (.slc 1 t36 (some t37) none none),⟨none,(.clr true 1 (.int .i64 (0)) t38),none⟩] [1,6,19,36,37,38]) (.seq (oQ [M 39 0,M 40 5,O 41 (.slc 1 t39 none (some t40) none),M 4 41] [0,5,39,40,41]) .ret))))))⟩
def yFs:TCode:=(.seq (oQ [oX 17 .lss 16 15] []) (.seq (.cond t17 .skip (.exit 0)) (.seq (.block 1 (.seq (oQ [M 18 16,M 5 18] [17,18]) (.ops [M 19 4,M 20 5,M 21 5,O 22 (.iad 1 t19 t20),⟨none,(.store 1 t22 t21),none⟩] [⟨3,(.one (.i .i64)),0⟩,⟨4,(.one (.i .i64)),0⟩] [] [5,19,20,21,22]))) (oQ [O 23 (.bin .add t16 (I 1)),M 16 23] [23]))))
def yFt:TCode:=(.seq (.seq (oQ [M 25 4,O 26 (.len t25),O 27 (.bin .gtr t26 (I 0))] [25,26]) (.cond t27 .skip (.exit 2))) (.seq (.block 3 (.seq (.ops [oT 29 2 1,M 30 4,oT 31 2 6,O 32 (.call (.f yd9) [t29,t30,t31]),M 28 32,O 33 (.ext t28 0),O 34 (.ext t28 1),O 35 (.ext t28 2),O 7 (.allocL (.agg [.nils,.nils])),O 8 (.allocH true 6 (.agg [(.int .i64 (0)),(.int .i64 (0)),(.int .i64 (0)),(.int .i64 (0)),(.int .i64 (0)),(.int .i64 (0))])),⟨none,(.store 2 t7 t33),none⟩,⟨none,(.store 6 t8 t34),none⟩,M 9 35] [⟨11,(.agg [.i .i64,.i .i64,.i .i64,.i .i64,.i .i64,.i .i64]),0⟩] [] [27,28,29,30,31,32,33,34,35]) (.seq (.seq (oQ [M 36 9,O 37 (.bin .neq t36 (I 0))] [36]) (.cond t37 (.seq (oQ [oF 38 1 2,M 39 9,O 40 (.call t38 [t39])] [0,1,2,4,6,7,8,9,37,38,39,40]) .ret) .skip)) (.seq (.yret (.seq (.ops [M 41 0,oT 42 2 7,oT 43 6 8,O 44 (.call t41 [t42,t43]),O 45 (.un .not t44)] [] [9,37,41,42,43,44]) (.cond t45 .ret .skip)) [M 41 0,oT 42 2 7,oT 43 6 8] 44 t41 [t42,t43] 45 [9,37,41,42,43,44]) (.seq (.ops [oT 46 2 7,O 47 (.fad 3 t8),oT 48 2 47,⟨none,(.store 2 t1 t46),none⟩,⟨none,(.store 2 t6 t48),none⟩] [⟨2,(.agg [.i .i64,.i .i64,.i .i64,.i .i64,.i .i64,.i .i64]),0⟩] [(0,1),(0,2),(1,3),(2,3)] [7,45,46,47,48]) (oQ [M 49 4,O 50 (.mkFn (.func yaP) [] [t8]),O 51 (.call (.f ycF) [t49,t50]),M 4 51] [8,49,50,51])))))) (.seq (oQ [oT 52 2 6] [6]) (oQ [O 6 (.allocL (.agg [(.int .i64 (0)),(.int .i64 (0))])),⟨none,(.store 2 t6 t52),none⟩] [52]))))
def yIO:TFn:=⟨3,[],(.seq (oQ [O 10 (.fad 0 t1),oF 11 1 10,O 12 (.len t11),O 13 (.mkSl true 1 8 (.int .i64 (0)) t12 t12),M 4 13] [10,11,12,13]) (.seq (.seq (oQ [M 14 4,O 15 (.len t14),O 16 (.mv (I 0))] [14]) (.block 0 (.loopG 34581400 yFs))) (.seq (oQ [O 24 (.call (.f ycD) [(I 0)]),O 6 (.allocL (.agg [(.int .i64 (0)),(.int .i64 (0))])),⟨none,(.store 2 t6 t24),none⟩] [15,16,17,24]) (.block 2 (.loopG 34581401 yFt)))))⟩
def ypC:TFn:=⟨2,[.tmp 4],(.seq (oQ [O 2 (.boxH true 2 t0),O 3 (.boxH false 1 t1),O 4 (.mv (.c .nilf))] [0,1,4]) (.seq (oQ [O 5 (.mkFn (.func yc9) [] [t2,t3]),M 4 5] [2,3,5]) .ret))⟩
def ylg:TCode:=(.seq (oQ [oX 17 .lss 16 15] []) (.seq (.cond t17 .skip (.exit 0)) (.seq (.block 1 (.seq (oQ [M 18 16,M 5 18] [17,18]) (.ops [M 19 4,M 20 5,M 21 5,O 22 (.iad 1 t19 t20),⟨none,(.store 1 t22 t21),none⟩] [⟨3,(.one (.i .i64)),0⟩,⟨4,(.one (.i .i64)),0⟩] [] [5,19,20,21,22]))) (oQ [O 23 (.bin .add t16 (I 1)),M 16 23] [23]))))
def ylh:TCode:=(.seq (.seq (oQ [M 25 4,O 26 (.len t25),O 27 (.bin .gtr t26 (I 0))] [25,26]) (.cond t27 .skip (.exit 2))) (.seq (.block 3 (.seq (.ops [oT 29 2 1,M 30 4,oT 31 2 6,O 32 (.call (.f yd9) [t29,t30,t31]),M 28 32,O 33 (.ext t28 0),O 34 (.ext t28 1),O 35 (.ext t28 2),O 7 (.allocL (.agg [.nils,.nils])),O 8 (.allocH true 6 (.agg [(.int .i64 (0)),(.int .i64 (0)),(.int .i64 (0)),(.int .i64 (0)),(.int .i64 (0)),(.int .i64 (0))])),⟨none,(.store 2 t7 t33),none⟩,⟨none,(.store 6 t8 t34),none⟩,M 9 35] [⟨11,(.agg [.i .i64,.i .i64,.i .i64,.i .i64,.i .i64,.i .i64]),0⟩] [] [27,28,29,30,31,32,33,34,35]) (.seq (.seq (oQ [M 36 9,O 37 (.bin .neq t36 (I 0))] [36]) (.cond t37 (.seq (oQ [oF 38 1 2,M 39 9,O 40 (.call t38 [t39])] [0,1,2,4,6,7,8,9,37,38,39,40]) .ret) .skip)) (.seq (.yret (.seq (.ops [M 41 0,oT 42 2 7,oT 43 6 8,O 44 (.call t41 [t42,t43]),O 45 (.un .not t44)] [] [9,37,41,42,43,44]) (.cond t45 .ret .skip)) [M 41 0,oT 42 2 7,oT 43 6 8] 44 t41 [t42,t43] 45 [9,37,41,42,43,44]) (.seq (.ops [oT 46 2 7,O 47 (.fad 3 t8),oT 48 2 47,⟨none,(.store 2 t1 t46),none⟩,⟨none,(.store 2 t6 t48),none⟩] [⟨2,(.agg [.i .i64,.i .i64,.i .i64,.i .i64,.i .i64,.i .i64]),0⟩] [(0,1),(0,2),(1,3),(2,3)] [7,45,46,47,48]) (oQ [M 49 4,O 50 (.mkFn (.func yaP) [] [t8]),O 51 (.call (.f ycF) [t49,t50]),M 4 51] [8,49,50,51])))))) (.seq (oQ [oT 52 2 6] [6]) (oQ [O 6 (.allocL (.agg [(.int .i64 (0)),(.int .i64 (0))])),⟨none,(.store 2 t6 t52),none⟩] [52]))))
def yui:TCode :=
 (.seq
 (.ops [⟨some 10,(.fad 0 (.t 1)),none⟩,
 ⟨some 11,(.load false 1 (.t 10)),none⟩,
 ⟨some 12,(.len (.t 11)),none⟩,
 ⟨some 13,(.mkSl true 1 8 (.int .i64 (0)) (.t 12) (.t 12)),none⟩,
 ⟨some 4,(.mv (.t 13)),none⟩]
 [] [] [10,11,12,13])
 (.seq
 (.seq
 (.ops [⟨some 14,(.mv (.t 4)),none⟩,
 ⟨some 15,(.len (.t 14)),none⟩,
 ⟨some 16,(.mv (.c (.int .i64 (0)))),none⟩]
 [] [] [14])
 (.block 0
 (.loopG 82399400 ylg)))
 (.seq
 (.ops [⟨some 24,(.call (.f ycD) [(.c (.int .i64 (0)))]),none⟩,
 ⟨some 6,(.allocL (.agg [(.int .i64 (0)),(.int .i64 (0))])),none⟩,
 ⟨none,(.store 2 (.t 6) (.t 24)),none⟩]
 [] [] [15,16,17,24])
 (.block 2
 (.loopG 82399401 ylh)))))
def ycJ:TCode :=
 (.seq
 (.ops [⟨some 7,(.allocH true 2 (.agg [(.data []),(.data [])])),none⟩,
 ⟨none,(.store 2 (.t 7) (.t 25)),none⟩]
 [⟨1,(.agg [.d,.d]),0⟩] [] [24,25])
 (.ops [⟨some 8,(.allocH true 6 (.agg [(.int .i64 (0)),(.int .i64 (0)),(.int .i64 (0)),(.int .i64 (0)),(.int .i64 (0)),(.int .i64 (0))])),none⟩,
 ⟨none,(.store 6 (.t 8) (.t 26)),none⟩]
 [⟨1,(.agg [.i .i64,.i .i64,.i .i64,.i .i64,.i .i64,.i .i64]),0⟩] [] [26]))
def ycK:TCode :=
 (.block 1
 (.seq
 (.ops [⟨some 27,(.load false 1 (.t 3)),none⟩,
 ⟨some 28,(.load true 6 (.t 8)),none⟩,
 ⟨some 29,(.buildD 6 (.agg [(.int .i64 (0)),(.int .i64 (0)),(.int .i64 (0)),(.int .i64 (0)),(.int .i64 (0)),(.int .i64 (0))]) 1 [(0,(.t 28))]),none⟩,
 ⟨some 30,(.app true 6 48 (.t 27) (.t 29)),none⟩,
 ⟨none,(.store 1 (.t 3) (.t 30)),none⟩]
 [⟨1,(.agg [.i .i64,.i .i64,.i .i64,.i .i64,.i .i64,.i .i64]),0⟩] [] [27,28,29,30])
 (.seq
 (.ops [⟨some 31,(.fad 1 (.t 7)),none⟩,
 ⟨some 32,(.load false 1 (.t 31)),none⟩,
 ⟨none,(.store 1 (.t 4) (.t 32)),none⟩]
 [⟨1,(.agg [.d,.d]),0⟩,⟨2,(.one (.d)),0⟩] [] [7,31,32])
 (.seq
 (.ops [⟨some 33,(.fad 0 (.t 2)),none⟩,
 ⟨some 34,(.load false 1 (.t 33)),none⟩,
 ⟨some 35,(.fad 0 (.t 8)),none⟩,
 ⟨some 36,(.load false 1 (.t 35)),none⟩,
 ⟨some 37,(.fad 1 (.t 8)),none⟩,
 ⟨some 38,(.load true 2 (.t 37)),none⟩,
 ⟨some 39,(.fad 3 (.t 8)),none⟩,
 ⟨some 40,(.load true 2 (.t 39)),none⟩,
 ⟨some 41,(.build [(.int .i64 (0)),(.int .i64 (0)),(.int .i64 (0)),(.int .i64 (0))] [(0,2,(.t 38)),(2,2,(.t 40))]),none⟩,
 ⟨some 42,(.buildD 4 (.agg [(.int .i64 (0)),(.int .i64 (0)),(.int .i64 (0)),(.int .i64 (0))]) 1 [(0,(.t 41))]),none⟩,
 ⟨some 43,(.iad 1 (.t 34) (.t 36)),none⟩,
 ⟨none,(.store 1 (.t 43) (.t 42)),none⟩]
 [⟨3,(.agg [.i .i64,.i .i64,.i .i64,.i .i64,.i .i64,.i .i64]),0⟩,⟨5,(.agg [.i .i64,.i .i64,.i .i64,.i .i64,.i .i64,.i .i64]),0⟩,⟨7,(.agg [.i .i64,.i .i64,.i .i64,.i .i64,.i .i64,.i .i64]),0⟩,⟨10,(.one (.d)),0⟩,⟨11,(.one (.d)),0⟩] [] [8,33,34,35,36,37,38,39,40,41,42,43])
 (.seq
 (.ops [⟨some 44,(.load false 1 (.t 3)),none⟩,
 ⟨some 45,(.len (.t 44)),none⟩,
 ⟨some 46,(.load false 1 (.t 1)),none⟩,
 ⟨some 47,(.len (.t 46)),none⟩,
 ⟨some 48,(.bin .eql (.t 45) (.t 47)),none⟩]
 [⟨2,(.one (.d)),0⟩] [] [1,44,45,46,47])
 (.cond (.t 48)
 (.exit 0)
 .skip))))))
def yC6:TCode:=(.rangeF (.t 24) yc9 3 yui [25,26] ycJ ycK)
def yFu:TFn:=⟨1,[.cell 2 true 1,.cell 3 false 1,.cell 4 false 1,.cell 5 false 1],(.seq (oQ [O 1 (.boxH true 1 t0),O 2 (.allocH false 1 (.agg [.nils])),O 3 (.allocH false 1 .nils),O 4 (.allocH true 1 (.data [])),O 5 (.allocH true 1 (.int .i64 (0)))] [0]) (.seq (.ops [oF 10 1 1,O 11 (.call (.f ygG) [t10]),M 9 11,O 12 (.ext t9 0),O 13 (.ext t9 1),O 6 (.allocL (.agg [.nils,.nils])),⟨none,(.store 2 t6 t12),none⟩,⟨none,(.store 1 t5 t13),none⟩] [⟨0,(.one (.d)),0⟩,⟨7,(.one (.i .i64)),0⟩] [] [9,10,11,12,13]) (.seq (.seq (.ops [oF 14 1 5,O 15 (.bin .neq t14 (I 0))] [⟨0,(.one (.i .i64)),0⟩] [] [14]) (.cond t15 (.seq (.ops [O 16 (.build [.nils] []),oF 17 1 5,⟨none,(.store 1 t2 t16),none⟩,⟨none,(.store 1 t3 (.c .nils)),none⟩,⟨none,(.store 1 t4 (.c .nils)),none⟩,⟨none,(.store 1 t5 t17),none⟩] [⟨1,(.one (.i .i64)),0⟩,⟨4,(.one (.d)),0⟩,⟨5,(.one (.i .i64)),0⟩] [(0,1),(1,2),(1,3),(1,4)] [1,6,15,16,17]) .ret) .skip)) (.seq (.ops [oF 18 1 1,O 19 (.len t18),O 20 (.mkSl true 1 24 (.data []) t19 t19),O 21 (.fad 0 t2),⟨none,(.store 1 t21 t20),none⟩] [⟨0,(.one (.d)),0⟩] [] [15,18,19,20,21]) (.seq .skip (.seq (.seq (oQ [oT 22 2 6,O 23 (.mkFn (.func yax) [] [t5]),O 24 (.call (.f yg8) [t22,t23])] [6,22,23]) (.block 0 (.rangeF t24 yc9 3 yui [25,26] ycJ ycK))) (.seq (.seq (.ops [oF 49 1 5,O 50 (.bin .neq t49 (I 0))] [⟨0,(.one (.i .i64)),0⟩] [] [1,24,48,49]) (.cond t50 (.seq (.ops [O 51 (.build [.nils] []),oF 52 1 5,⟨none,(.store 1 t2 t51),none⟩,⟨none,(.store 1 t3 (.c .nils)),none⟩,⟨none,(.store 1 t4 (.c .nils)),none⟩,⟨none,(.store 1 t5 t52),none⟩] [⟨1,(.one (.i .i64)),0⟩,⟨4,(.one (.d)),0⟩,⟨5,(.one (.i .i64)),0⟩] [(0,1),(1,2),(1,3),(1,4)] [50,51,52]) .ret) .skip)) (.seq (.ops [oT 53 1 2,oF 54 1 3,oF 55 1 4,⟨none,(.store 1 t2 t53),none⟩,⟨none,(.store 1 t3 t54),none⟩,⟨none,(.store 1 t4 t55),none⟩,⟨none,(.store 1 t5 (I 0)),none⟩] [⟨2,(.one (.d)),0⟩,⟨5,(.one (.d)),0⟩,⟨6,(.one (.i .i64)),0⟩] [(0,1),(0,2),(1,2),(1,3),(2,3),(2,4)] [50,53,54,55]) .ret))))))))⟩
def yli:TCode:=(.seq (.seq (.ops [M 53 4,O 54 (.fad 2 t1),oF 55 1 54,O 56 (.len t55),oX 57 .lss 53 56] [⟨2,(.agg [.i .i64,.d,.d]),0⟩] [] [53,54,55,56]) (.cond t57 .skip (.exit 0))) (.seq (.block 1 (.seq (.seq (.ops [O 60 (.fad 1 t1),oF 61 1 60,M 62 4,O 63 (.bin .add t62 (I 1)),O 64 (.iad 1 t61 t63),oF 65 1 64,O 66 (.fad 1 t1),oF 67 1 66,M 68 4,O 69 (.iad 1 t67 t68),oF 70 1 69,oX 71 .leq 65 70,M 72 71,⟨some 73,(.fad 2 t1),some (72,false)⟩,⟨some 74,(.load false 1 t73),some (72,false)⟩,⟨some 75,(.mv t4),some (72,false)⟩,⟨some 76,(.iad 1 t74 t75),some (72,false)⟩,⟨some 77,(.load false 1 t76),some (72,false)⟩,⟨some 78,(.bin .lss t77 (I 0)),some (72,false)⟩,O 79 (.pick t72 (.c (.bool true)) t78),M 80 79,⟨some 81,(.fad 2 t1),some (80,false)⟩,⟨some 82,(.load false 1 t81),some (80,false)⟩,⟨some 83,(.mv t4),some (80,false)⟩,⟨some 84,(.iad 1 t82 t83),some (80,false)⟩,⟨some 85,(.load false 1 t84),some (80,false)⟩,⟨some 86,(.bin .gtr t85 (I 12)),some (80,false)⟩,O 87 (.pick t80 (.c (.bool true)) t86)] [⟨1,(.agg [.i .i64,.d,.d]),0⟩,⟨4,(.one (.i .i64)),0⟩,⟨5,(.one (.i .i64)),0⟩,⟨7,(.agg [.i .i64,.d,.d]),0⟩,⟨9,(.one (.i .i64)),0⟩,⟨10,(.one (.i .i64)),0⟩,⟨14,(.agg [.i .i64,.d,.d]),0⟩,⟨16,(.one (.i .i64)),0⟩,⟨17,(.one (.i .i64)),0⟩,⟨22,(.agg [.i .i64,.d,.d]),0⟩,⟨24,(.one (.i .i64)),0⟩,⟨25,(.one (.i .i64)),0⟩] [(0,2),(1,2),(0,3),(1,3),(0,6),(1,6),(2,6),(3,6),(4,6),(5,6),(0,7),(1,7),(2,7),(3,7),(4,7),(5,7),(0,8),(1,8),(2,8),(3,8),(4,8),(5,8),(6,8),(7,8),(0,9),(1,9),(2,9),(3,9),(4,9),(5,9),(0,10),(1,10),(2,10),(3,10),(4,10),(5,10),(13,15),(14,15),(21,23),(22,23)] [57,60,61,62,63,64,65,66,67,68,69,70,71,72,73,74,75,76,77,78,79,80,81,82,83,84,85,86]) (.cond t87 (.seq (oQ [O 2 (.mv (I 8))] [1,3,4,87]) .ret) .skip)) (.ops [M 88 3,M 89 88,⟨some 90,(.fad 2 t1),some (89,false)⟩,⟨some 91,(.load false 1 t90),some (89,false)⟩,⟨some 92,(.mv t4),some (89,false)⟩,⟨some 93,(.iad 1 t91 t92),some (89,false)⟩,⟨some 94,(.load false 1 t93),some (89,false)⟩,⟨some 95,(.bin .gtr t94 (I 0)),some (89,false)⟩,O 96 (.pick t89 (.c (.bool true)) t95),M 3 96] [⟨3,(.agg [.i .i64,.d,.d]),0⟩,⟨5,(.one (.i .i64)),0⟩,⟨6,(.one (.i .i64)),0⟩] [] [87,88,89,90,91,92,93,94,95,96]))) (oQ [M 58 4,O 59 (.bin .add t58 (I 1)),M 4 59] [58,59])))
def t98:Opd:=.t 98
def yC7:TFn:=⟨1,[.tmp 2],(.seq (oQ [O 1 (.boxL t0),O 2 (.mv (I 0))] [0,2]) (.seq (.seq (.ops [O 5 (.fad 0 t1),oF 6 1 5,O 7 (.bin .gtr t6 (I 1000)),M 8 7,⟨some 9,(.fad 1 t1),some (8,false)⟩,⟨some 10,(.load false 1 t9),some (8,false)⟩,⟨some 11,(.len t10),some (8,false)⟩,⟨some 12,(.bin .gtr t11 (I 40)),some (8,false)⟩,O 13 (.pick t8 (.c (.bool true)) t12)] [⟨1,(.agg [.i .i64,.d,.d]),0⟩,⟨5,(.agg [.i .i64,.d,.d]),0⟩] [] [5,6,7,8,9,10,11,12]) (.cond t13 (.seq (oQ [O 2 (.mv (I 4))] [1,13]) .ret) .skip)) (.seq (.seq (.ops [O 14 (.fad 0 t1),oF 15 1 14,O 16 (.bin .lss t15 (I 1)),M 17 16,⟨some 18,(.fad 1 t1),some (17,false)⟩,⟨some 19,(.load false 1 t18),some (17,false)⟩,⟨some 20,(.len t19),some (17,false)⟩,⟨some 21,(.bin .lss t20 (I 2)),some (17,false)⟩,O 22 (.pick t17 (.c (.bool true)) t21),M 23 22,⟨some 24,(.fad 2 t1),some (23,false)⟩,⟨some 25,(.load false 1 t24),some (23,false)⟩,⟨some 26,(.len t25),some (23,false)⟩,⟨some 27,(.fad 1 t1),some (23,false)⟩,⟨some 28,(.load false 1 t27),some (23,false)⟩,⟨some 29,(.len t28),some (23,false)⟩,⟨some 30,(.bin .sub t29 (I 1)),some (23,false)⟩,⟨some 31,(.bin .neq t26 t30),some (23,false)⟩,O 32 (.pick t23 (.c (.bool true)) t31),M 33 32,⟨some 34,(.fad 1 t1),some (33,false)⟩,⟨some 35,(.load false 1 t34),some (33,false)⟩,⟨some 36,(.iad 1 t35 (I 0)),some (33,false)⟩,⟨some 37,(.load false 1 t36),some (33,false)⟩,⟨some 38,(.bin .neq t37 (I 0)),some (33,false)⟩,O 39 (.pick t33 (.c (.bool true)) t38),M 40 39,⟨some 41,(.fad 1 t1),some (40,false)⟩,⟨some 42,(.load false 1 t41),some (40,false)⟩,⟨some 43,(.fad 1 t1),some (40,false)⟩,⟨some 44,(.load false 1 t43),some (40,false)⟩,⟨some 45,(.len t44),some (40,false)⟩,⟨some 46,(.bin .sub t45 (I 1)),some (40,false)⟩,⟨some 47,(.iad 1 t42 t46),some (40,false)⟩,⟨some 48,(.load false 1 t47),some (40,false)⟩,⟨some 49,(.fad 0 t1),some (40,false)⟩,⟨some 50,(.load false 1 t49),some (40,false)⟩,⟨some 51,(.bin .neq t48 t50),some (40,false)⟩,O 52 (.pick t40 (.c (.bool true)) t51)] [⟨1,(.agg [.i .i64,.d,.d]),0⟩,⟨5,(.agg [.i .i64,.d,.d]),0⟩,⟨11,(.agg [.i .i64,.d,.d]),0⟩,⟨14,(.agg [.i .i64,.d,.d]),0⟩,⟨21,(.agg [.i .i64,.d,.d]),0⟩,⟨22,(.one (.i .i64)),0⟩,⟨23,(.one (.i .i64)),0⟩,⟨28,(.agg [.i .i64,.d,.d]),0⟩,⟨30,(.agg [.i .i64,.d,.d]),0⟩,⟨33,(.one (.i .i64)),0⟩,⟨34,(.one (.i .i64)),0⟩,⟨36,(.agg [.i .i64,.d,.d]),0⟩] [(10,13),(11,13),(12,13),(10,14),(11,14),(12,14),(10,15),(11,15),(12,15),(10,16),(11,16),(12,16),(27,29),(28,29),(27,30),(28,30),(27,31),(28,31),(27,32),(28,32),(27,35),(28,35),(29,35),(30,35),(31,35),(32,35),(33,35),(34,35),(27,36),(28,36),(29,36),(30,36),(31,36),(32,36),(33,36),(34,36)] [13,14,15,16,17,18,19,20,21,22,23,24,25,26,27,28,29,30,31,32,33,34,35,36,37,38,39,40,41,42,43,44,45,46,47,48,49,50,51]) (.cond t52 (.seq (oQ [O 2 (.mv (I 8))] [1,52]) .ret) .skip)) (.seq (oQ [O 3 (.mv (.c (.bool false)))] [52]) (.seq (.seq (oQ [O 4 (.mv (I 0))] []) (.block 0 (.loop 94526800 yli))) (.seq (.seq (oQ [M 97 3,O 98 (.un .not t97)] [1,3,4,57,97]) (.cond t98 (.seq (oQ [O 2 (.mv (I 8))] [98]) .ret) .skip)) (.seq (oQ [O 2 (.mv (I 0))] [98]) .ret)))))))⟩
def yoP:TCode:=(.seq (.seq (.ops [M 19 3,O 20 (.fad 0 t1),oF 21 1 20,O 22 (.len t21),oX 23 .lss 19 22] [⟨2,(.agg [.d,.d]),0⟩] [] [19,20,21,22]) (.cond t23 .skip (.exit 0))) (.seq (.block 1 (.seq (.ops [O 26 (.fad 0 t1),oF 27 1 26,M 28 3,O 29 (.iad 3 t27 t28),oT 30 3 29,O 31 (.call (.f ybN) [t30]),O 32 (.bin .neq t31 (I 0))] [⟨1,(.agg [.d,.d]),0⟩,⟨3,(.agg [.i .i64,.d,.d]),0⟩,⟨4,(.agg [.i .i64,.d,.d]),0⟩] [] [23,26,27,28,29,30,31]) (.cond t32 (.seq (.ops [O 33 (.fad 0 t1),oF 34 1 33,M 35 3,O 36 (.iad 3 t34 t35),oT 37 3 36,O 38 (.call (.f ybN) [t37]),M 2 38] [⟨1,(.agg [.d,.d]),0⟩,⟨3,(.agg [.i .i64,.d,.d]),0⟩,⟨4,(.agg [.i .i64,.d,.d]),0⟩] [] [1,3,32,33,34,35,36,37,38]) .ret) .skip))) (oQ [M 24 3,O 25 (.bin .add t24 (I 1)),M 3 25] [24,25,32])))
def yoQ:TCode:=(.seq (.seq (.ops [M 39 4,O 40 (.fad 0 t1),oF 41 1 40,O 42 (.len t41),oX 43 .lss 39 42] [⟨2,(.agg [.d,.d]),0⟩] [] [39,40,41,42]) (.cond t43 .skip (.exit 2))) (.seq (.block 3 (.seq (.ops [O 46 (.fad 0 t1),oF 47 1 46,M 48 4,O 49 (.iad 3 t47 t48),O 50 (.fad 0 t49),oF 51 1 50,O 52 (.fad 0 t1),oF 53 1 52,O 54 (.iad 3 t53 (I 0)),O 55 (.fad 0 t54),oF 56 1 55,oX 57 .neq 51 56] [⟨1,(.agg [.d,.d]),0⟩,⟨3,(.agg [.i .i64,.d,.d]),0⟩,⟨5,(.agg [.i .i64,.d,.d]),0⟩,⟨7,(.agg [.d,.d]),0⟩,⟨8,(.agg [.i .i64,.d,.d]),0⟩,⟨10,(.agg [.i .i64,.d,.d]),0⟩] [(0,2),(1,2),(0,6),(1,6),(2,6),(3,6),(4,6),(5,6),(0,7),(1,7),(2,7),(3,7),(4,7),(5,7),(0,8),(1,8),(2,8),(3,8),(4,8),(5,8),(0,9),(1,9),(2,9),(3,9),(4,9),(5,9),(0,10),(1,10),(2,10),(3,10),(4,10),(5,10)] [43,46,47,48,49,50,51,52,53,54,55,56]) (.cond t57 (.seq (oQ [O 2 (.mv (I 8))] [1,4,57]) .ret) .skip))) (oQ [M 44 4,O 45 (.bin .add t44 (I 1)),M 4 45] [44,45,57])))
def yC8:TFn:=⟨1,[.tmp 2],(.seq (oQ [O 1 (.boxL t0),O 2 (.mv (I 0))] [0,2]) (.seq (.seq (.ops [O 5 (.fad 0 t1),oF 6 1 5,O 7 (.len t6),O 8 (.bin .gtr t7 (I 6)),M 9 8,⟨some 10,(.fad 1 t1),some (9,false)⟩,⟨some 11,(.load false 1 t10),some (9,false)⟩,⟨some 12,(.len t11),some (9,false)⟩,⟨some 13,(.bin .gtr t12 (I 2000)),some (9,false)⟩,O 14 (.pick t9 (.c (.bool true)) t13)] [⟨1,(.agg [.d,.d]),0⟩,⟨6,(.agg [.d,.d]),0⟩] [] [5,6,7,8,9,10,11,12,13]) (.cond t14 (.seq (oQ [O 2 (.mv (I 4))] [1,14]) .ret) .skip)) (.seq (.seq (.ops [O 15 (.fad 0 t1),oF 16 1 15,O 17 (.len t16),O 18 (.bin .eql t17 (I 0))] [⟨1,(.agg [.d,.d]),0⟩] [] [14,15,16,17]) (.cond t18 (.seq (oQ [O 2 (.mv (I 8))] [1,18]) .ret) .skip)) (.seq (.seq (oQ [O 3 (.mv (I 0))] [18]) (.block 0 (.loop 6981300 yoP))) (.seq (.seq (oQ [O 4 (.mv (I 0))] [3,23]) (.block 2 (.loop 6981301 yoQ))) (.seq (oQ [O 2 (.mv (I 0))] [1,4,43]) .ret))))))⟩
def yFv:TFn:=⟨1,[.cell 2 true 3],(.seq (oQ [O 1 (.boxL t0),O 2 (.allocL (.agg [(.int .i64 (0)),.nils,.nils]))] [0]) (.seq (.ops [O 3 (.fad 0 t1),oF 4 1 3,O 5 (.buildD 1 (.int .i64 (0)) 0 []),O 6 (.fad 1 t1),oF 7 1 6,O 8 (.app true 1 8 t5 t7),O 9 (.buildD 1 (.int .i64 (0)) 0 []),O 10 (.fad 2 t1),oF 11 1 10,O 12 (.app true 1 8 t9 t11),O 13 (.build [(.int .i64 (0)),.nils,.nils] [(0,1,t4),(1,1,t8),(2,1,t12)]),⟨none,(.store 3 t2 t13),none⟩] [⟨1,(.agg [.i .i64,.d,.d]),0⟩,⟨4,(.agg [.i .i64,.d,.d]),0⟩,⟨8,(.agg [.i .i64,.d,.d]),0⟩] [(0,2),(1,2),(0,3),(1,3),(2,3),(0,4),(1,4),(2,4),(0,5),(1,5),(0,6),(1,6),(2,6),(3,6),(4,6),(5,6),(0,7),(1,7),(2,7),(3,7),(4,7),(5,7),(6,7),(0,8),(1,8),(2,8),(3,8),(4,8),(5,8),(6,8),(0,9),(1,9)] [1,3,4,5,6,7,8,9,10,11,12,13]) .ret))⟩
def ylj:TCode:=(.seq (.seq (oQ [M 5 4,M 6 0,O 7 (.len t6),oX 8 .lss 5 7] [5,6,7]) (.cond t8 .skip (.exit 0))) (.seq (.block 1 (.ops [M 11 3,M 12 0,M 13 4,O 14 (.iad 3 t12 t13),oT 15 3 14,O 16 (.call (.f yiB) [t15]),O 17 (.buildD 3 (.agg [(.int .i64 (0)),(.data []),(.data [])]) 1 [(0,t16)]),O 18 (.app true 3 56 t11 t17),M 3 18] [⟨3,(.agg [.i .i64,.d,.d]),0⟩,⟨4,(.agg [.i .i64,.d,.d]),0⟩] [] [8,11,12,13,14,15,16,17,18])) (oQ [M 9 4,O 10 (.bin .add t9 (I 1)),M 4 10] [9,10])))
def yC9:TFn:=⟨1,[.tmp 2],(.seq (oQ [O 2 (.mv (.c .nils))] [2]) (.seq (oQ [O 3 (.mv (.c .nils))] []) (.seq (.seq (oQ [O 4 (.mv (I 0))] []) (.block 0 (.loop 44560800 ylj))) (.seq (oQ [M 19 3,M 2 19] [0,3,4,8,19]) .ret))))⟩
def yFw:TFn:=⟨1,[.cell 2 true 2,.tmp 3],(.seq (oQ [O 2 (.allocL (.agg [.nils,.nils])),O 3 (.mv (I 0))] [3]) (.seq (oQ [M 5 0,O 6 (.build [.nils,.nils] [(0,1,t5)]),O 4 (.allocL (.agg [.nils,.nils])),⟨none,(.store 2 t4 t6),none⟩] [5,6]) (.seq (.seq (oQ [oT 7 2 4,O 8 (.call (.f ydo) [t7]),O 9 (.bin .neq t8 (I 0))] [7,8]) (.cond t9 (.seq (oQ [O 10 (.build [.nils,.nils] []),oT 11 2 4,O 12 (.call (.f ydo) [t11]),⟨none,(.store 2 t2 t10),none⟩,M 3 12] [0,4,9,10,11,12]) .ret) .skip)) (.seq (oQ [M 13 0,O 14 (.call (.f yeG) [t13]),O 15 (.build [.nils,.nils] [(0,1,t14)]),⟨none,(.store 2 t2 t15),none⟩,O 3 (.mv (I 0))] [0,4,9,13,14,15]) .ret))))⟩
def yJv:TFn:=⟨1,[.cell 2 true 2],(.seq (oQ [O 2 (.allocL (.agg [(.int .i64 (0)),(.int .i64 (0))]))] []) (.seq (oQ [M 3 0,O 4 (.build [(.int .i64 (0)),(.int .i64 (0))] [(0,1,t3),(1,1,(I 1))]),⟨none,(.store 2 t2 t4),none⟩] [0,3,4]) .ret))⟩
def ylk:TCode:=(.seq (.seq (.ops [M 5 4,O 6 (.fad 2 t1),oF 7 1 6,O 8 (.len t7),oX 9 .lss 5 8] [⟨2,(.agg [.i .i64,.d,.d]),0⟩] [] [5,6,7,8]) (.cond t9 .skip (.exit 0))) (.seq (.block 1 (.ops [M 12 3,O 13 (.fad 2 t1),oF 14 1 13,M 15 4,O 16 (.iad 1 t14 t15),oF 17 1 16,O 18 (.fad 1 t1),oF 19 1 18,M 20 4,O 21 (.bin .add t20 (I 1)),O 22 (.iad 1 t19 t21),oF 23 1 22,O 24 (.fad 1 t1),oF 25 1 24,M 26 4,O 27 (.iad 1 t25 t26),oF 28 1 27,oX 29 .sub 23 28,oX 30 .mul 17 29,oX 31 .add 12 30,M 3 31] [⟨2,(.agg [.i .i64,.d,.d]),0⟩,⟨4,(.one (.i .i64)),0⟩,⟨5,(.one (.i .i64)),0⟩,⟨7,(.agg [.i .i64,.d,.d]),0⟩,⟨10,(.one (.i .i64)),0⟩,⟨11,(.one (.i .i64)),0⟩,⟨13,(.agg [.i .i64,.d,.d]),0⟩,⟨15,(.one (.i .i64)),0⟩,⟨16,(.one (.i .i64)),0⟩] [(0,1),(0,2),(0,3),(1,3),(2,3),(0,4),(0,5),(0,6),(1,6),(2,6),(3,6),(4,6),(5,6),(0,7),(1,7),(2,7),(3,7),(4,7),(5,7),(0,8),(1,8),(2,8),(3,8),(4,8),(5,8),(6,8),(7,8),(0,9),(1,9),(2,9),(3,9),(4,9),(5,9),(6,9),(7,9),(0,10),(1,10),(2,10),(3,10),(4,10),(5,10),(0,11),(1,11),(2,11),(3,11),(4,11),(5,11),(0,12),(1,12),(2,12),(3,12),(4,12),(5,12),(6,12),(7,12),(8,12),(9,12),(10,12),(11,12),(0,13),(1,13),(2,13),(3,13),(4,13),(5,13),(6,13),(7,13),(8,13),(9,13),(10,13),(11,13),(0,14),(1,14),(2,14),(3,14),(4,14),(5,14),(6,14),(7,14),(8,14),(9,14),(10,14),(11,14),(12,14),(13,14),(0,15),(1,15),(2,15),(3,15),(4,15),(5,15),(6,15),(7,15),(8,15),(9,15),(10,15),(11,15),(0,16),(1,16),(2,16),(3,16),(4,16),(5,16),(6,16),(7,16),(8,16),(9,16),(10,16),(11,16),(0,17),(1,17),(2,17),(3,17),(4,17),(5,17),(0,18)] [9,12,13,14,15,16,17,18,19,20,21,22,23,24,25,26,27,28,29,30,31])) (oQ [M 10 4,O 11 (.bin .add t10 (I 1)),M 4 11] [10,11])))
def yDa:TFn:=⟨1,[.tmp 2],(.seq (oQ [O 1 (.boxL t0),O 2 (.mv (I 0))] [0,2]) (.seq (oQ [O 3 (.mv (I 0))] []) (.seq (.seq (oQ [O 4 (.mv (I 0))] []) (.block 0 (.loop 21661800 ylk))) (.seq (oQ [M 32 3,M 2 32] [1,3,4,9,32]) .ret))))⟩
def yH4:TFn:=⟨1,[.tmp 2],(.seq (oQ [O 2 (.mv (.c (.int .u64 (0))))] [2]) (.seq (.seq (oQ [M 3 0,O 4 (.bin .lss t3 (I 0))] [3]) (.cond t4 (.seq (oQ [M 5 0,O 6 (.bin .add t5 (I 1)),O 7 (.un .neg t6),O 8 (.conv .u64 t7),O 9 (.bin .add t8 (.c (.int .u64 (1)))),M 2 9] [0,4,5,6,7,8,9]) .ret) .skip)) (.seq (oQ [M 10 0,O 11 (.conv .u64 t10),M 2 11] [0,4,10,11]) .ret)))⟩
def yll:TCode:=(.seq (.seq (oQ [M 5 1,O 6 (.bin .neq t5 (.c (.int .u64 (0))))] [5]) (.cond t6 .skip (.exit 0))) (.block 1 (.ops [M 7 1,M 8 0,M 9 1,oX 10 .rem 8 9,M 0 7,M 1 10] [] [(0,1),(0,2),(1,2),(0,3),(2,4),(3,4)] [6,7,8,9,10])))
def yH5:TFn:=⟨2,[.tmp 4],(.seq (oQ [O 4 (.mv (.c (.int .u64 (0))))] [4]) (.seq (.block 0 (.loop 16774900 yll)) (.seq (oQ [M 11 0,M 4 11] [0,1,6,11]) .ret)))⟩
def yFx:TFn:=⟨3,[.cell 6 true 2,.tmp 7],(.seq (oQ [O 4 (.boxL t1),O 5 (.boxL t2),O 6 (.allocL (.agg [(.int .i64 (0)),(.int .i64 (0))])),O 7 (.mv (I 0))] [1,2,7]) (.seq (.seq (.ops [O 9 (.fad 0 t4),oF 10 1 9,O 11 (.bin .gtr t10 (.c (.int .u64 (0)))),M 12 11,⟨some 13,(.fad 0 t5),some (12,false)⟩,⟨some 14,(.load false 1 t13),some (12,false)⟩,⟨some 15,(.bin .gtr t14 (.c (.int .u64 (0)))),some (12,false)⟩,O 16 (.pick t12 (.c (.bool true)) t15),M 17 16,⟨some 18,(.fad 1 t4),some (17,false)⟩,⟨some 19,(.load false 1 t18),some (17,false)⟩,⟨some 20,(.bin .gtr t19 (.c (.int .u64 (1000000000000000000)))),some (17,false)⟩,O 21 (.pick t17 (.c (.bool true)) t20),M 22 21,⟨some 23,(.fad 1 t5),some (22,false)⟩,⟨some 24,(.load false 1 t23),some (22,false)⟩,⟨some 25,(.bin .gtr t24 (.c (.int .u64 (1000000000000000000)))),some (22,false)⟩,O 26 (.pick t22 (.c (.bool true)) t25)] [⟨1,(.agg [.i .u64,.i .u64]),0⟩,⟨5,(.agg [.i .u64,.i .u64]),0⟩,⟨10,(.agg [.i .u64,.i .u64]),0⟩,⟨15,(.agg [.i .u64,.i .u64]),0⟩] [] [9,10,11,12,13,14,15,16,17,18,19,20,21,22,23,24,25]) (.cond t26 (.seq (oQ [O 27 (.build [(.int .i64 (0)),(.int .i64 (0))] []),⟨none,(.store 2 t6 t27),none⟩,O 7 (.mv (I 16))] [0,4,5,26,27]) .ret) .skip)) (.seq (.ops [O 28 (.fad 1 t4),oF 29 1 28,O 30 (.conv .i64 t29),O 31 (.fad 1 t5),oF 32 1 31,O 33 (.conv .i64 t32),O 34 (.build [(.int .i64 (0)),(.int .i64 (0))] [(0,1,t30),(1,1,t33)]),O 8 (.allocL (.agg [(.int .i64 (0)),(.int .i64 (0))])),⟨none,(.store 2 t8 t34),none⟩] [⟨1,(.agg [.i .u64,.i .u64]),0⟩,⟨4,(.agg [.i .u64,.i .u64]),0⟩] [] [4,5,26,28,29,30,31,32,33,34]) (.seq (.seq (oQ [M 35 0] [0]) (.cond t35 (.ops [O 36 (.fad 0 t8),oF 37 1 36,O 38 (.un .neg t37),O 39 (.fad 0 t8),⟨none,(.store 1 t39 t38),none⟩] [⟨1,(.agg [.i .i64,.i .i64]),0⟩,⟨4,(.agg [.i .i64,.i .i64]),0⟩] [] [35,36,37,38,39]) .skip)) (.seq (oQ [oT 40 2 8,⟨none,(.store 2 t6 t40),none⟩,O 7 (.mv (I 0))] [8,35,40]) .ret)))))⟩
def yFy:TFn:=⟨2,[.cell 4 true 2,.tmp 5],(.seq (oQ [O 4 (.allocL (.agg [(.int .i64 (0)),(.int .i64 (0))])),O 5 (.mv (I 0))] [5]) (.seq (.seq (oQ [M 9 1,O 10 (.bin .eql t9 (I 0))] [9]) (.cond t10 (.seq (oQ [O 11 (.build [(.int .i64 (0)),(.int .i64 (0))] []),⟨none,(.store 2 t4 t11),none⟩,O 5 (.mv (I 18))] [0,1,10,11]) .ret) .skip)) (.seq (oQ [M 12 0,O 13 (.call (.f ybc) [t12]),M 14 1,O 15 (.call (.f ybc) [t14]),M 6 13,M 7 15] [10,12,13,14,15]) (.seq (oQ [M 16 6,M 17 7,O 18 (.call (.f ycQ) [t16,t17]),M 8 18] [16,17,18]) (.seq (.ops [M 19 0,O 20 (.bin .lss t19 (I 0)),M 21 1,O 22 (.bin .lss t21 (I 0)),O 23 (.eqB true t20 t22),M 24 6,M 25 8,oX 26 .quo 24 25,O 27 (.build [(.int .u64 (0)),(.int .u64 (0))] [(1,1,t26)]),M 28 7,M 29 8,oX 30 .quo 28 29,O 31 (.build [(.int .u64 (0)),(.int .u64 (0))] [(1,1,t30)]),O 32 (.call (.f yea) [t23,t27,t31]),O 33 (.ext t32 0),O 34 (.ext t32 1),⟨none,(.store 2 t4 t33),none⟩,M 5 34] [] [(0,2),(1,2),(0,3),(1,3),(0,5),(1,5),(2,5),(3,5),(4,5),(0,6),(1,6),(2,6),(3,6),(4,6),(5,6),(0,7),(1,7),(2,7),(3,7),(4,7),(0,8),(1,8),(2,8),(3,8),(4,8),(0,9),(1,9),(2,9),(3,9),(4,9),(5,9),(6,9),(7,9),(8,9),(0,10),(1,10),(2,10),(3,10),(4,10),(5,10),(6,10),(7,10),(8,10),(9,10),(0,11),(1,11),(2,11),(3,11),(4,11),(5,11),(6,11),(7,11),(8,11),(0,12),(1,12),(2,12),(3,12),(4,12),(5,12),(6,12),(7,12),(8,12),(14,15)] [0,1,6,7,8,19,20,21,22,23,24,25,26,27,28,29,30,31,32,33,34]) .ret)))))⟩
def yDb:TFn:=⟨2,[.cell 4 true 2],(.seq (oQ [O 2 (.boxL t0),O 4 (.allocL (.agg [(.int .i64 (0)),(.int .i64 (0))]))] [0]) (.seq (.ops [O 8 (.fad 0 t2),oF 9 1 8,M 10 1,O 11 (.iad 3 t9 t10),oT 12 3 11,O 13 (.call (.f yhp) [t12]),O 14 (.fad 0 t2),oF 15 1 14,O 16 (.len t15),O 17 (.call (.f yiD) [t13,t16]),M 7 17,O 18 (.ext t7 0),O 19 (.ext t7 1),O 5 (.allocL (.agg [(.int .i64 (0)),(.int .i64 (0))])),⟨none,(.store 2 t5 t18),none⟩,M 6 19] [⟨1,(.agg [.d,.d]),0⟩,⟨3,(.agg [.i .i64,.d,.d]),0⟩,⟨4,(.agg [.i .i64,.d,.d]),0⟩,⟨7,(.agg [.d,.d]),0⟩] [(0,2),(1,2),(0,6),(1,6),(2,6),(3,6),(4,6),(5,6),(0,7),(1,7),(2,7),(3,7),(4,7),(5,7),(0,8),(1,8),(2,8),(3,8),(4,8),(5,8),(11,12),(0,13),(1,13),(2,13),(3,13),(4,13),(5,13),(6,13),(7,13),(8,13),(9,13),(10,13),(11,13),(12,13),(12,14)] [1,2,6,7,8,9,10,11,12,13,14,15,16,17,18,19]) (.seq (oQ [oT 20 2 5,⟨none,(.store 2 t4 t20),none⟩] [5,20]) .ret)))⟩
def yDc:TFn:=⟨2,[.tmp 4],(.seq (oQ [O 2 (.boxL t0),O 4 (.mv (.c (.bool false)))] [0,4]) (.seq (.ops [M 5 1,O 6 (.bin .geq t5 (I 0)),M 7 6,⟨some 8,(.mv t1),some (7,true)⟩,⟨some 9,(.fad 0 t2),some (7,true)⟩,⟨some 10,(.load false 1 t9),some (7,true)⟩,⟨some 11,(.len t10),some (7,true)⟩,⟨some 12,(.bin .lss t8 t11),some (7,true)⟩,O 13 (.pick t7 t12 (.c (.bool false))),M 4 13] [⟨5,(.agg [.d,.d]),0⟩] [] [1,2,5,6,7,8,9,10,11,12,13]) .ret))⟩
def yDd:TFn:=⟨1,[.tmp 2],(.seq (oQ [O 1 (.boxL t0),O 2 (.mv (I 0))] [0,2]) (.seq (.seq (.ops [O 3 (.fad 1 t1),oF 4 1 3,O 5 (.bin .lss t4 (I 1)),M 6 5,⟨some 7,(.fad 1 t1),some (6,false)⟩,⟨some 8,(.load false 1 t7),some (6,false)⟩,⟨some 9,(.bin .gtr t8 (I 1000000000000000000)),some (6,false)⟩,O 10 (.pick t6 (.c (.bool true)) t9),M 11 10,⟨some 12,(.fad 0 t1),some (11,false)⟩,⟨some 13,(.load false 1 t12),some (11,false)⟩,⟨some 14,(.bin .lss t13 (I (-1000000000000000000))),some (11,false)⟩,O 15 (.pick t11 (.c (.bool true)) t14),M 16 15,⟨some 17,(.fad 0 t1),some (16,false)⟩,⟨some 18,(.load false 1 t17),some (16,false)⟩,⟨some 19,(.bin .gtr t18 (I 1000000000000000000)),some (16,false)⟩,O 20 (.pick t16 (.c (.bool true)) t19),M 21 20,⟨some 22,(.fad 0 t1),some (21,false)⟩,⟨some 23,(.load false 1 t22),some (21,false)⟩,⟨some 24,(.call (.f ybc) [t23]),some (21,false)⟩,⟨some 25,(.fad 1 t1),some (21,false)⟩,⟨some 26,(.load false 1 t25),some (21,false)⟩,⟨some 27,(.conv .u64 t26),some (21,false)⟩,⟨some 28,(.call (.f ycQ) [t24,t27]),some (21,false)⟩,⟨some 29,(.bin .neq t28 (.c (.int .u64 (1)))),some (21,false)⟩,O 30 (.pick t21 (.c (.bool true)) t29)] [⟨1,(.agg [.i .i64,.i .i64]),0⟩,⟨5,(.agg [.i .i64,.i .i64]),0⟩,⟨10,(.agg [.i .i64,.i .i64]),0⟩,⟨15,(.agg [.i .i64,.i .i64]),0⟩,⟨20,(.agg [.i .i64,.i .i64]),0⟩,⟨23,(.agg [.i .i64,.i .i64]),0⟩] [(19,22),(20,22),(21,22),(19,23),(20,23),(21,23),(19,24),(20,24),(21,24)] [1,3,4,5,6,7,8,9,10,11,12,13,14,15,16,17,18,19,20,21,22,23,24,25,26,27,28,29]) (.cond t30 (.seq (oQ [O 2 (.mv (I 8))] [30]) .ret) .skip)) (.seq (oQ [O 2 (.mv (I 0))] [30]) .ret)))⟩
def yDe:TFn:=⟨2,[.cell 4 true 2],(.seq (oQ [O 4 (.allocL (.agg [(.int .u64 (0)),(.int .u64 (0))]))] []) (.seq (oQ [M 12 0,O 13 (.bin .shr t12 (.c (.int .u64 (32)))),M 14 0,O 15 (.bin .and t14 (.c (.int .u64 (4294967295)))),M 5 13,M 6 15] [0,12,13,14,15]) (.seq (oQ [M 16 1,O 17 (.bin .shr t16 (.c (.int .u64 (32)))),M 18 1,O 19 (.bin .and t18 (.c (.int .u64 (4294967295)))),M 7 17,M 8 19] [1,16,17,18,19]) (.seq (oQ [M 20 6,M 21 8,oX 22 .mul 20 21,M 23 5,M 24 8,oX 25 .mul 23 24,M 9 22,M 10 25] [8,20,21,22,23,24,25]) (.seq (oQ [M 26 10,O 27 (.bin .and t26 (.c (.int .u64 (4294967295)))),M 28 6,M 29 7,oX 30 .mul 28 29,oX 31 .add 27 30,M 32 9,O 33 (.bin .shr t32 (.c (.int .u64 (32)))),oX 34 .add 31 33,M 11 34] [6,26,27,28,29,30,31,32,33,34]) (.seq (oQ [M 35 5,M 36 7,oX 37 .mul 35 36,M 38 10,O 39 (.bin .shr t38 (.c (.int .u64 (32)))),oX 40 .add 37 39,M 41 11,O 42 (.bin .shr t41 (.c (.int .u64 (32)))),oX 43 .add 40 42,M 44 11,O 45 (.bin .shl t44 (.c (.int .u64 (32)))),M 46 9,O 47 (.bin .and t46 (.c (.int .u64 (4294967295)))),oX 48 .or 45 47,O 49 (.build [(.int .u64 (0)),(.int .u64 (0))] [(0,1,t43),(1,1,t48)]),⟨none,(.store 2 t4 t49),none⟩] [5,7,9,10,11,35,36,37,38,39,40,41,42,43,44,45,46,47,48,49]) .ret))))))⟩
def yFz:TFn:=⟨2,[.tmp 4],(.seq (oQ [O 2 (.boxL t0),O 3 (.boxL t1),O 4 (.mv (.c (.bool false)))] [0,1,4]) (.seq (.ops [O 5 (.fad 0 t2),oF 6 1 5,O 7 (.fad 0 t3),oF 8 1 7,oX 9 .lss 6 8,M 10 9,⟨some 11,(.fad 0 t2),some (10,false)⟩,⟨some 12,(.load false 1 t11),some (10,false)⟩,⟨some 13,(.fad 0 t3),some (10,false)⟩,⟨some 14,(.load false 1 t13),some (10,false)⟩,⟨some 15,(.bin .eql t12 t14),some (10,false)⟩,⟨some 16,(.mv t15),some (10,false)⟩,⟨some 17,(.fad 1 t2),some (16,true)⟩,⟨some 18,(.load false 1 t17),some (16,true)⟩,⟨some 19,(.fad 1 t3),some (16,true)⟩,⟨some 20,(.load false 1 t19),some (16,true)⟩,⟨some 21,(.bin .lss t18 t20),some (16,true)⟩,⟨some 22,(.pick t16 t21 (.c (.bool false))),some (10,false)⟩,O 23 (.pick t10 (.c (.bool true)) t22),M 4 23] [⟨1,(.agg [.i .u64,.i .u64]),0⟩,⟨3,(.agg [.i .u64,.i .u64]),0⟩,⟨7,(.agg [.i .u64,.i .u64]),0⟩,⟨9,(.agg [.i .u64,.i .u64]),0⟩,⟨13,(.agg [.i .u64,.i .u64]),0⟩,⟨15,(.agg [.i .u64,.i .u64]),0⟩] [] [2,3,5,6,7,8,9,10,11,12,13,14,15,16,17,18,19,20,21,22,23]) .ret))⟩
def yFA:TFn:=⟨2,[.tmp 4],(.seq (oQ [O 2 (.boxL t0),O 3 (.boxL t1),O 4 (.mv (.c (.bool false)))] [0,1,4]) (.seq (.seq (.ops [O 7 (.fad 0 t2),oF 8 1 7,O 9 (.bin .lss t8 (I 0)),O 10 (.fad 0 t3),oF 11 1 10,O 12 (.bin .lss t11 (I 0)),O 13 (.eqB true t9 t12)] [⟨1,(.agg [.i .i64,.i .i64]),0⟩,⟨4,(.agg [.i .i64,.i .i64]),0⟩] [] [7,8,9,10,11,12]) (.cond t13 (.seq (.ops [O 14 (.fad 0 t2),oF 15 1 14,O 16 (.bin .lss t15 (I 0)),M 4 16] [⟨1,(.agg [.i .i64,.i .i64]),0⟩] [] [2,3,13,14,15,16]) .ret) .skip)) (.seq (.ops [O 17 (.fad 0 t2),oF 18 1 17,O 19 (.call (.f ybc) [t18]),O 20 (.fad 1 t3),oF 21 1 20,O 22 (.conv .u64 t21),O 23 (.call (.f ybA) [t19,t22]),O 24 (.fad 0 t3),oF 25 1 24,O 26 (.call (.f ybc) [t25]),O 27 (.fad 1 t2),oF 28 1 27,O 29 (.conv .u64 t28),O 30 (.call (.f ybA) [t26,t29]),O 5 (.allocL (.agg [(.int .u64 (0)),(.int .u64 (0))])),O 6 (.allocL (.agg [(.int .u64 (0)),(.int .u64 (0))])),⟨none,(.store 2 t5 t23),none⟩,⟨none,(.store 2 t6 t30),none⟩] [⟨1,(.agg [.i .i64,.i .i64]),0⟩,⟨4,(.agg [.i .i64,.i .i64]),0⟩,⟨8,(.agg [.i .i64,.i .i64]),0⟩,⟨11,(.agg [.i .i64,.i .i64]),0⟩] [(0,3),(1,3),(2,3),(0,4),(1,4),(2,4),(0,5),(1,5),(2,5),(0,7),(1,7),(2,7),(3,7),(4,7),(5,7),(6,7),(0,8),(1,8),(2,8),(3,8),(4,8),(5,8),(6,8),(0,10),(1,10),(2,10),(3,10),(4,10),(5,10),(6,10),(7,10),(8,10),(9,10),(0,11),(1,11),(2,11),(3,11),(4,11),(5,11),(6,11),(7,11),(8,11),(9,11),(0,12),(1,12),(2,12),(3,12),(4,12),(5,12),(6,12),(7,12),(8,12),(9,12),(0,14),(1,14),(2,14),(3,14),(4,14),(5,14),(6,14),(7,14),(8,14),(9,14),(10,14),(11,14),(12,14),(13,14),(0,15),(1,15),(2,15),(3,15),(4,15),(5,15),(6,15),(7,15),(8,15),(9,15),(10,15),(11,15),(12,15),(13,15),(14,15)] [3,13,17,18,19,20,21,22,23,24,25,26,27,28,29,30]) (.seq (.seq (.ops [O 31 (.fad 0 t2),oF 32 1 31,O 33 (.bin .lss t32 (I 0))] [⟨1,(.agg [.i .i64,.i .i64]),0⟩] [] [2,31,32]) (.cond t33 (.seq (oQ [oT 34 2 6,oT 35 2 5,O 36 (.call (.f yeI) [t34,t35]),M 4 36] [5,6,33,34,35,36]) .ret) .skip)) (.seq (oQ [oT 37 2 5,oT 38 2 6,O 39 (.call (.f yeI) [t37,t38]),M 4 39] [5,6,33,37,38,39]) .ret)))))⟩
def yDf:TFn:=⟨2,[.tmp 4],(.seq (oQ [O 3 (.boxL t1),O 4 (.mv (.c (.bool false)))] [1,4]) (.seq (.ops [oT 5 2 3,O 6 (.call (.f ybX) [t5]),O 7 (.bin .eql t6 (I 0)),M 8 7,⟨some 9,(.fad 0 t3),some (8,true)⟩,⟨some 10,(.load false 1 t9),some (8,true)⟩,⟨some 11,(.bin .geq t10 (I 0)),some (8,true)⟩,O 12 (.pick t8 t11 (.c (.bool false))),M 13 12,⟨some 14,(.mv t0),some (13,true)⟩,⟨some 15,(.call (.f ycA) [t14]),some (13,true)⟩,⟨some 16,(.load true 2 t3),some (13,true)⟩,⟨some 17,(.call (.f ya4) [t15,t16]),some (13,true)⟩,⟨some 18,(.un .not t17),some (13,true)⟩,O 19 (.pick t13 t18 (.c (.bool false))),M 4 19] [⟨5,(.agg [.i .i64,.i .i64]),0⟩] [(9,11),(10,11)] [0,3,5,6,7,8,9,10,11,12,13,14,15,16,17,18,19]) .ret))⟩
def yDg:TFn:=⟨2,[.cell 4 true 2],(.seq (oQ [O 2 (.boxL t0),O 3 (.boxL t1),O 4 (.allocL (.agg [(.int .i64 (0)),(.int .i64 (0))]))] [0,1]) (.seq (.seq (oQ [oT 5 2 2,oT 6 2 3,O 7 (.call (.f ya4) [t5,t6])] [5,6]) (.cond t7 (.seq (oQ [oT 8 2 3,⟨none,(.store 2 t4 t8),none⟩] [2,3,7,8]) .ret) .skip)) (.seq (oQ [oT 9 2 2,⟨none,(.store 2 t4 t9),none⟩] [2,3,7,9]) .ret)))⟩
def yAo:TFn:=⟨2,[.cell 4 true 2],(.seq (oQ [O 2 (.boxL t0),O 3 (.boxL t1),O 4 (.allocL (.agg [(.int .i64 (0)),(.int .i64 (0))]))] [0,1]) (.seq (.seq (oQ [oT 5 2 2,oT 6 2 3,O 7 (.call (.f ya4) [t5,t6])] [5,6]) (.cond t7 (.seq (oQ [oT 8 2 2,⟨none,(.store 2 t4 t8),none⟩] [2,3,7,8]) .ret) .skip)) (.seq (oQ [oT 9 2 3,⟨none,(.store 2 t4 t9),none⟩] [2,3,7,9]) .ret)))⟩
def yFB:TFn:=⟨2,[.tmp 4],(.seq (oQ [O 2 (.boxL t0),O 3 (.boxL t1),O 4 (.mv (I 0))] [0,1,4]) (.seq (.seq (oQ [oT 5 2 2,O 6 (.call (.f ybX) [t5]),O 7 (.bin .neq t6 (I 0))] [5,6]) (.cond t7 (.seq (oQ [oT 8 2 2,O 9 (.call (.f ybX) [t8]),M 4 9] [2,3,7,8,9]) .ret) .skip)) (.seq (oQ [oT 10 2 3,O 11 (.call (.f ybX) [t10]),M 4 11] [2,3,7,10,11]) .ret)))⟩
def yH6:TFn:=⟨1,[.cell 2 true 2],(.seq (oQ [O 1 (.boxL t0),O 2 (.allocL (.agg [(.int .i64 (0)),(.int .i64 (0))]))] [0]) (.seq (.ops [O 3 (.fad 0 t1),oF 4 1 3,O 5 (.un .neg t4),O 6 (.fad 0 t1),⟨none,(.store 1 t6 t5),none⟩] [⟨1,(.agg [.i .i64,.i .i64]),0⟩,⟨4,(.agg [.i .i64,.i .i64]),0⟩] [] [3,4,5,6]) (.seq (oQ [oT 7 2 1,⟨none,(.store 2 t2 t7),none⟩] [1,7]) .ret)))⟩
end Go.Pf.Vc
namespace Go.Pf.Vc
open Go Go.Pf
def yFC:TFn:=⟨2,[.cell 4 true 2],(.seq (oQ [O 2 (.boxL t0),O 3 (.boxL t1),O 4 (.allocL (.agg [(.int .u64 (0)),(.int .u64 (0))]))] [0,1]) (.seq (.ops [O 7 (.fad 1 t2),oF 8 1 7,O 9 (.fad 1 t3),oF 10 1 9,oX 11 .add 8 10,M 5 11] [⟨1,(.agg [.i .u64,.i .u64]),0⟩,⟨3,(.agg [.i .u64,.i .u64]),0⟩] [] [7,8,9,10,11]) (.seq (.ops [O 12 (.fad 0 t2),oF 13 1 12,O 14 (.fad 0 t3),oF 15 1 14,oX 16 .add 13 15,M 6 16] [⟨1,(.agg [.i .u64,.i .u64]),0⟩,⟨3,(.agg [.i .u64,.i .u64]),0⟩] [] [3,12,13,14,15,16]) (.seq (.seq (.ops [M 17 5,O 18 (.fad 1 t2),oF 19 1 18,oX 20 .lss 17 19] [⟨2,(.agg [.i .u64,.i .u64]),0⟩] [] [2,17,18,19]) (.cond t20 (oQ [M 21 6,O 22 (.bin .add t21 (.c (.int .u64 (1)))),M 6 22] [20,21,22]) .skip)) (.seq (oQ [M 23 6,M 24 5,O 25 (.build [(.int .u64 (0)),(.int .u64 (0))] [(0,1,t23),(1,1,t24)]),⟨none,(.store 2 t4 t25),none⟩] [5,6,20,23,24,25]) .ret)))))⟩
def yDh:TFn:=⟨2,[.cell 4 true 2],(.seq (oQ [O 2 (.boxL t0),O 3 (.boxL t1),O 4 (.allocL (.agg [(.int .u64 (0)),(.int .u64 (0))]))] [0,1]) (.seq (.ops [O 6 (.fad 0 t2),oF 7 1 6,O 8 (.fad 0 t3),oF 9 1 8,oX 10 .sub 7 9,M 5 10] [⟨1,(.agg [.i .u64,.i .u64]),0⟩,⟨3,(.agg [.i .u64,.i .u64]),0⟩] [] [6,7,8,9,10]) (.seq (.seq (.ops [O 11 (.fad 1 t2),oF 12 1 11,O 13 (.fad 1 t3),oF 14 1 13,oX 15 .lss 12 14] [⟨1,(.agg [.i .u64,.i .u64]),0⟩,⟨3,(.agg [.i .u64,.i .u64]),0⟩] [] [11,12,13,14]) (.cond t15 (oQ [M 16 5,O 17 (.bin .sub t16 (.c (.int .u64 (1)))),M 5 17] [15,16,17]) .skip)) (.seq (.ops [M 18 5,O 19 (.fad 1 t2),oF 20 1 19,O 21 (.fad 1 t3),oF 22 1 21,oX 23 .sub 20 22,O 24 (.build [(.int .u64 (0)),(.int .u64 (0))] [(0,1,t18),(1,1,t23)]),⟨none,(.store 2 t4 t24),none⟩] [⟨2,(.agg [.i .u64,.i .u64]),0⟩,⟨4,(.agg [.i .u64,.i .u64]),0⟩] [] [2,3,5,15,18,19,20,21,22,23,24]) .ret))))⟩
def ylm:TCode:=(.seq (.seq (oQ [M 10 8,O 11 (.bin .geq t10 (I 0))] [10]) (.cond t11 .skip (.exit 0))) (.seq (.block 1 (.seq (.ops [O 14 (.fad 1 t2),oF 15 1 14,M 16 8,O 17 (.bin .and t16 (I 63)),oX 18 .shr 15 17,O 19 (.bin .and t18 (.c (.int .u64 (1)))),M 9 19] [⟨1,(.agg [.i .u64,.i .u64]),0⟩] [] [11,14,15,16,17,18,19]) (.seq (.seq (oQ [M 20 8,O 21 (.bin .geq t20 (I 64))] [20]) (.cond t21 (.ops [O 22 (.fad 0 t2),oF 23 1 22,M 24 8,O 25 (.bin .and t24 (I 63)),oX 26 .shr 23 25,O 27 (.bin .and t26 (.c (.int .u64 (1)))),M 9 27] [⟨1,(.agg [.i .u64,.i .u64]),0⟩] [] [21,22,23,24,25,26,27]) .skip)) (.seq (oQ [M 28 7,O 29 (.bin .shl t28 (.c (.int .u64 (1)))),M 30 9,oX 31 .or 29 30,M 7 31] [9,21,28,29,30,31]) (.seq (oQ [oT 32 2 6,oT 33 2 6,O 34 (.call (.f yfy) [t32,t33]),⟨none,(.store 2 t6 t34),none⟩] [32,33,34]) (.seq (oQ [M 35 7,M 36 1,oX 37 .geq 35 36] [35,36]) (.cond t37 (.seq (oQ [M 38 7,M 39 1,oX 40 .sub 38 39,M 7 40] [37,38,39,40]) (.ops [O 41 (.fad 1 t6),oF 42 1 41,O 43 (.bin .or t42 (.c (.int .u64 (1)))),O 44 (.fad 1 t6),⟨none,(.store 1 t44 t43),none⟩] [⟨1,(.agg [.i .u64,.i .u64]),0⟩,⟨4,(.agg [.i .u64,.i .u64]),0⟩] [] [41,42,43,44])) .skip))))))) (oQ [M 12 8,O 13 (.bin .sub t12 (I 1)),M 8 13] [12,13,37])))
def yDi:TFn:=⟨2,[.cell 4 true 2,.tmp 5],(.seq (oQ [O 2 (.boxL t0),O 4 (.allocL (.agg [(.int .u64 (0)),(.int .u64 (0))])),O 5 (.mv (.c (.int .u64 (0))))] [0,5]) (.seq (oQ [O 6 (.allocL (.agg [(.int .u64 (0)),(.int .u64 (0))]))] []) (.seq (oQ [O 7 (.mv (.c (.int .u64 (0))))] []) (.seq (.seq (oQ [O 8 (.mv (I 127))] []) (.block 0 (.loop 22549700 ylm))) (.seq (oQ [oT 45 2 6,M 46 7,⟨none,(.store 2 t4 t45),none⟩,M 5 46] [1,2,6,7,8,11,45,46]) .ret)))))⟩
def t96:Opd:=.t 96
def yH7:TFn:=⟨2,[.cell 4 true 2,.tmp 5],(.seq (oQ [O 2 (.boxL t0),O 3 (.boxL t1),O 4 (.allocL (.agg [(.int .i64 (0)),(.int .i64 (0))])),O 5 (.mv (I 0))] [0,1,5]) (.seq (.seq (oQ [oT 16 2 2,oT 17 2 3,O 18 (.call (.f ybv) [t16,t17]),O 19 (.bin .neq t18 (I 0))] [16,17,18]) (.cond t19 (.seq (oQ [O 20 (.build [(.int .i64 (0)),(.int .i64 (0))] []),oT 21 2 2,oT 22 2 3,O 23 (.call (.f ybv) [t21,t22]),⟨none,(.store 2 t4 t20),none⟩,M 5 23] [2,3,19,20,21,22,23]) .ret) .skip)) (.seq (.ops [O 24 (.fad 1 t2),oF 25 1 24,O 26 (.conv .u64 t25),O 27 (.fad 1 t3),oF 28 1 27,O 29 (.conv .u64 t28),O 30 (.call (.f ycQ) [t26,t29]),M 6 30] [⟨1,(.agg [.i .i64,.i .i64]),0⟩,⟨4,(.agg [.i .i64,.i .i64]),0⟩] [] [19,24,25,26,27,28,29,30]) (.seq (.ops [O 31 (.fad 0 t2),oF 32 1 31,O 33 (.call (.f ybc) [t32]),O 34 (.fad 1 t3),oF 35 1 34,O 36 (.conv .u64 t35),M 37 6,oX 38 .quo 36 37,O 39 (.call (.f ybA) [t33,t38]),O 40 (.fad 0 t3),oF 41 1 40,O 42 (.call (.f ybc) [t41]),O 43 (.fad 1 t2),oF 44 1 43,O 45 (.conv .u64 t44),M 46 6,oX 47 .quo 45 46,O 48 (.call (.f ybA) [t42,t47]),O 7 (.allocL (.agg [(.int .u64 (0)),(.int .u64 (0))])),O 8 (.allocL (.agg [(.int .u64 (0)),(.int .u64 (0))])),⟨none,(.store 2 t7 t39),none⟩,⟨none,(.store 2 t8 t48),none⟩] [⟨1,(.agg [.i .i64,.i .i64]),0⟩,⟨4,(.agg [.i .i64,.i .i64]),0⟩,⟨10,(.agg [.i .i64,.i .i64]),0⟩,⟨13,(.agg [.i .i64,.i .i64]),0⟩] [(0,3),(1,3),(2,3),(0,4),(1,4),(2,4),(0,5),(1,5),(2,5),(0,6),(1,6),(2,6),(3,6),(4,6),(5,6),(0,7),(1,7),(2,7),(0,9),(1,9),(2,9),(3,9),(4,9),(5,9),(6,9),(7,9),(8,9),(0,10),(1,10),(2,10),(3,10),(4,10),(5,10),(6,10),(7,10),(8,10),(0,12),(1,12),(2,12),(3,12),(4,12),(5,12),(6,12),(7,12),(8,12),(9,12),(10,12),(11,12),(0,13),(1,13),(2,13),(3,13),(4,13),(5,13),(6,13),(7,13),(8,13),(9,13),(10,13),(11,13),(0,14),(1,14),(2,14),(3,14),(4,14),(5,14),(6,14),(7,14),(8,14),(9,14),(10,14),(11,14),(0,15),(1,15),(2,15),(3,15),(4,15),(5,15),(6,15),(7,15),(8,15),(9,15),(10,15),(11,15),(12,15),(13,15),(14,15),(0,16),(1,16),(2,16),(3,16),(4,16),(5,16),(6,16),(7,16),(8,16),(9,16),(10,16),(11,16),(0,18),(1,18),(2,18),(3,18),(4,18),(5,18),(6,18),(7,18),(8,18),(9,18),(10,18),(11,18),(12,18),(13,18),(14,18),(15,18),(16,18),(17,18),(0,19),(1,19),(2,19),(3,19),(4,19),(5,19),(6,19),(7,19),(8,19),(9,19),(10,19),(11,19),(12,19),(13,19),(14,19),(15,19),(16,19),(17,19),(18,19)] [31,32,33,34,35,36,37,38,39,40,41,42,43,44,45,46,47,48]) (.seq (.ops [O 49 (.fad 0 t2),oF 50 1 49,O 51 (.bin .lss t50 (I 0)),M 9 51] [⟨1,(.agg [.i .i64,.i .i64]),0⟩] [] [49,50,51]) (.seq (oQ [oT 52 2 7,oT 53 2 8,O 54 (.call (.f yfy) [t52,t53]),O 10 (.allocL (.agg [(.int .u64 (0)),(.int .u64 (0))])),⟨none,(.store 2 t10 t54),none⟩] [52,53,54]) (.seq (.seq (.ops [O 55 (.fad 0 t2),oF 56 1 55,O 57 (.bin .lss t56 (I 0)),O 58 (.fad 0 t3),oF 59 1 58,O 60 (.bin .lss t59 (I 0)),O 61 (.eqB true t57 t60)] [⟨1,(.agg [.i .i64,.i .i64]),0⟩,⟨4,(.agg [.i .i64,.i .i64]),0⟩] [] [55,56,57,58,59,60]) (.cond t61 (.seq (oQ [oT 62 2 7,oT 63 2 8,O 64 (.call (.f yfP) [t62,t63]),⟨none,(.store 2 t10 t64),none⟩] [61,62,63,64]) (.seq (oQ [oT 65 2 7,oT 66 2 8,O 67 (.call (.f yeI) [t65,t66])] [65,66]) (.cond t67 (.seq (oQ [oT 68 2 8,oT 69 2 7,O 70 (.call (.f yfP) [t68,t69]),⟨none,(.store 2 t10 t70),none⟩] [7,8,9,67,68,69,70]) (.ops [O 71 (.fad 0 t3),oF 72 1 71,O 73 (.bin .lss t72 (I 0)),M 9 73] [⟨1,(.agg [.i .i64,.i .i64]),0⟩] [] [71,72,73])) .skip))) .skip)) (.seq (.seq (oQ [oT 74 2 10,O 75 (.build [(.int .u64 (0)),(.int .u64 (0))] []),O 76 (.eqA false 2 [(0,(some .u64)),(1,(some .u64))] t74 t75)] [7,8,61,67,74,75]) (.cond t76 (.seq (oQ [O 77 (.build [(.int .i64 (0)),(.int .i64 (0))] [(1,1,(I 1))]),⟨none,(.store 2 t4 t77),none⟩,O 5 (.mv (I 0))] [2,3,6,9,10,76,77]) .ret) .skip)) (.seq (oQ [oT 79 2 10,M 80 6,O 81 (.call (.f yfQ) [t79,t80]),M 78 81,O 82 (.ext t78 0),O 83 (.ext t78 1),O 11 (.allocL (.agg [(.int .u64 (0)),(.int .u64 (0))])),⟨none,(.store 2 t11 t82),none⟩,M 12 83] [11,76,78,79,80,81,82,83]) (.seq (oQ [M 84 12,M 85 6,O 86 (.call (.f ycQ) [t84,t85]),M 13 86] [12,84,85,86]) (.seq (oQ [oT 88 2 10,M 89 13,O 90 (.call (.f yfQ) [t88,t89]),M 87 90,O 91 (.ext t87 0),O 92 (.ext t87 1),O 14 (.allocL (.agg [(.int .u64 (0)),(.int .u64 (0))])),⟨none,(.store 2 t14 t91),none⟩,M 15 92] [10,15,87,88,89,90,91,92]) (.seq (.ops [M 93 9,oT 94 2 14,O 95 (.fad 1 t2),oF 96 1 95,O 97 (.conv .u64 t96),M 98 6,oX 99 .quo 97 98,O 100 (.fad 1 t3),oF 101 1 100,O 102 (.conv .u64 t101),M 103 13,oX 104 .quo 102 103,O 105 (.call (.f ybA) [t99,t104]),O 106 (.call (.f yea) [t93,t94,t105]),O 107 (.ext t106 0),O 108 (.ext t106 1),⟨none,(.store 2 t4 t107),none⟩,M 5 108] [⟨3,(.agg [.i .i64,.i .i64]),0⟩,⟨8,(.agg [.i .i64,.i .i64]),0⟩] [(0,1),(0,2),(1,2),(0,3),(1,3),(0,4),(1,4),(0,5),(1,5),(2,5),(3,5),(4,5),(0,6),(1,6),(0,7),(1,7),(2,7),(3,7),(4,7),(5,7),(6,7),(0,8),(1,8),(2,8),(3,8),(4,8),(5,8),(6,8),(0,9),(1,9),(2,9),(3,9),(4,9),(5,9),(6,9),(0,10),(1,10),(2,10),(3,10),(4,10),(5,10),(6,10),(7,10),(8,10),(9,10),(0,11),(1,11),(2,11),(3,11),(4,11),(5,11),(6,11),(0,12),(1,12),(14,15)] [2,3,6,9,13,14,93,94,95,96,97,98,99,100,101,102,103,104,105,106,107,108]) .ret))))))))))))⟩
def yH8:TFn:=⟨2,[.cell 4 true 2,.tmp 5],(.seq (oQ [O 2 (.boxL t0),O 3 (.boxL t1),O 4 (.allocL (.agg [(.int .i64 (0)),(.int .i64 (0))])),O 5 (.mv (I 0))] [0,1,5]) (.seq (.seq (oQ [oT 6 2 2,oT 7 2 3,O 8 (.call (.f ybv) [t6,t7]),O 9 (.bin .neq t8 (I 0))] [6,7,8]) (.cond t9 (.seq (oQ [O 10 (.build [(.int .i64 (0)),(.int .i64 (0))] []),oT 11 2 2,oT 12 2 3,O 13 (.call (.f ybv) [t11,t12]),⟨none,(.store 2 t4 t10),none⟩,M 5 13] [2,3,9,10,11,12,13]) .ret) .skip)) (.seq (.ops [oT 14 2 2,oT 15 2 3,O 16 (.call (.f yko) [t15]),O 17 (.call (.f ye6) [t14,t16]),O 18 (.ext t17 0),O 19 (.ext t17 1),⟨none,(.store 2 t4 t18),none⟩,M 5 19] [] [(0,1),(0,2),(4,5)] [2,3,9,14,15,16,17,18,19]) .ret)))⟩
def yH9:TFn:=⟨2,[.cell 4 true 2,.tmp 5],(.seq (oQ [O 2 (.boxL t0),O 3 (.boxL t1),O 4 (.allocL (.agg [(.int .i64 (0)),(.int .i64 (0))])),O 5 (.mv (I 0))] [0,1,5]) (.seq (.seq (oQ [oT 8 2 2,oT 9 2 3,O 10 (.call (.f ybv) [t8,t9]),O 11 (.bin .neq t10 (I 0))] [8,9,10]) (.cond t11 (.seq (oQ [O 12 (.build [(.int .i64 (0)),(.int .i64 (0))] []),oT 13 2 2,oT 14 2 3,O 15 (.call (.f ybv) [t13,t14]),⟨none,(.store 2 t4 t12),none⟩,M 5 15] [2,3,11,12,13,14,15]) .ret) .skip)) (.seq (.ops [O 16 (.fad 0 t2),oF 17 1 16,O 18 (.call (.f ybc) [t17]),O 19 (.fad 1 t3),oF 20 1 19,O 21 (.conv .u64 t20),O 22 (.call (.f ycQ) [t18,t21]),O 23 (.fad 0 t3),oF 24 1 23,O 25 (.call (.f ybc) [t24]),O 26 (.fad 1 t2),oF 27 1 26,O 28 (.conv .u64 t27),O 29 (.call (.f ycQ) [t25,t28]),M 6 22,M 7 29] [⟨1,(.agg [.i .i64,.i .i64]),0⟩,⟨4,(.agg [.i .i64,.i .i64]),0⟩,⟨8,(.agg [.i .i64,.i .i64]),0⟩,⟨11,(.agg [.i .i64,.i .i64]),0⟩] [(0,3),(1,3),(2,3),(0,4),(1,4),(2,4),(0,5),(1,5),(2,5),(0,7),(1,7),(2,7),(3,7),(4,7),(5,7),(6,7),(0,8),(1,8),(2,8),(3,8),(4,8),(5,8),(6,8),(0,10),(1,10),(2,10),(3,10),(4,10),(5,10),(6,10),(7,10),(8,10),(9,10),(0,11),(1,11),(2,11),(3,11),(4,11),(5,11),(6,11),(7,11),(8,11),(9,11),(0,12),(1,12),(2,12),(3,12),(4,12),(5,12),(6,12),(7,12),(8,12),(9,12)] [11,16,17,18,19,20,21,22,23,24,25,26,27,28,29]) (.seq (.ops [O 30 (.fad 0 t2),oF 31 1 30,O 32 (.bin .lss t31 (I 0)),O 33 (.fad 0 t3),oF 34 1 33,O 35 (.bin .lss t34 (I 0)),O 36 (.eqB true t32 t35),M 37 36,⟨some 38,(.fad 0 t2),some (37,true)⟩,⟨some 39,(.load false 1 t38),some (37,true)⟩,⟨some 40,(.bin .neq t39 (I 0)),some (37,true)⟩,O 41 (.pick t37 t40 (.c (.bool false))),M 42 41,⟨some 43,(.fad 0 t3),some (42,true)⟩,⟨some 44,(.load false 1 t43),some (42,true)⟩,⟨some 45,(.bin .neq t44 (I 0)),some (42,true)⟩,O 46 (.pick t42 t45 (.c (.bool false))),O 47 (.fad 0 t2),oF 48 1 47,O 49 (.call (.f ybc) [t48]),M 50 6,oX 51 .quo 49 50,O 52 (.fad 0 t3),oF 53 1 52,O 54 (.call (.f ybc) [t53]),M 55 7,oX 56 .quo 54 55,O 57 (.call (.f ybA) [t51,t56]),O 58 (.fad 1 t2),oF 59 1 58,O 60 (.conv .u64 t59),M 61 7,oX 62 .quo 60 61,O 63 (.fad 1 t3),oF 64 1 63,O 65 (.conv .u64 t64),M 66 6,oX 67 .quo 65 66,O 68 (.call (.f ybA) [t62,t67]),O 69 (.call (.f yea) [t46,t57,t68]),O 70 (.ext t69 0),O 71 (.ext t69 1),⟨none,(.store 2 t4 t70),none⟩,M 5 71] [⟨1,(.agg [.i .i64,.i .i64]),0⟩,⟨4,(.agg [.i .i64,.i .i64]),0⟩,⟨9,(.agg [.i .i64,.i .i64]),0⟩,⟨14,(.agg [.i .i64,.i .i64]),0⟩,⟨18,(.agg [.i .i64,.i .i64]),0⟩,⟨23,(.agg [.i .i64,.i .i64]),0⟩,⟨29,(.agg [.i .i64,.i .i64]),0⟩,⟨34,(.agg [.i .i64,.i .i64]),0⟩] [(0,3),(1,3),(2,3),(0,4),(1,4),(2,4),(0,5),(1,5),(2,5),(0,17),(1,17),(2,17),(3,17),(4,17),(5,17),(6,17),(7,17),(8,17),(9,17),(10,17),(11,17),(12,17),(13,17),(14,17),(15,17),(16,17),(0,18),(1,18),(2,18),(3,18),(4,18),(5,18),(6,18),(7,18),(8,18),(9,18),(10,18),(11,18),(12,18),(13,18),(14,18),(15,18),(16,18),(13,19),(14,19),(15,19),(16,19),(0,20),(1,20),(2,20),(3,20),(4,20),(5,20),(6,20),(7,20),(8,20),(9,20),(10,20),(11,20),(12,20),(13,20),(14,20),(15,20),(16,20),(17,20),(18,20),(19,20),(13,21),(14,21),(15,21),(16,21),(0,22),(1,22),(2,22),(3,22),(4,22),(5,22),(6,22),(7,22),(8,22),(9,22),(10,22),(11,22),(12,22),(13,22),(14,22),(15,22),(16,22),(17,22),(18,22),(19,22),(20,22),(21,22),(0,23),(1,23),(2,23),(3,23),(4,23),(5,23),(6,23),(7,23),(8,23),(9,23),(10,23),(11,23),(12,23),(13,23),(14,23),(15,23),(16,23),(17,23),(18,23),(19,23),(20,23),(21,23),(13,24),(14,24),(15,24),(16,24),(20,24),(21,24),(0,25),(1,25),(2,25),(3,25),(4,25),(5,25),(6,25),(7,25),(8,25),(9,25),(10,25),(11,25),(12,25),(13,25),(14,25),(15,25),(16,25),(17,25),(18,25),(19,25),(20,25),(21,25),(22,25),(23,25),(24,25),(13,26),(14,26),(15,26),(16,26),(20,26),(21,26),(13,27),(14,27),(15,27),(16,27),(0,28),(1,28),(2,28),(3,28),(4,28),(5,28),(6,28),(7,28),(8,28),(9,28),(10,28),(11,28),(12,28),(13,28),(14,28),(15,28),(16,28),(17,28),(18,28),(19,28),(20,28),(21,28),(22,28),(23,28),(24,28),(25,28),(26,28),(27,28),(0,29),(1,29),(2,29),(3,29),(4,29),(5,29),(6,29),(7,29),(8,29),(9,29),(10,29),(11,29),(12,29),(13,29),(14,29),(15,29),(16,29),(17,29),(18,29),(19,29),(20,29),(21,29),(22,29),(23,29),(24,29),(25,29),(26,29),(27,29),(0,30),(1,30),(2,30),(3,30),(4,30),(5,30),(6,30),(7,30),(8,30),(9,30),(10,30),(11,30),(12,30),(13,30),(14,30),(15,30),(16,30),(17,30),(18,30),(19,30),(20,30),(21,30),(22,30),(23,30),(24,30),(25,30),(26,30),(27,30),(0,31),(1,31),(2,31),(3,31),(4,31),(5,31),(6,31),(7,31),(8,31),(9,31),(10,31),(11,31),(12,31),(13,31),(14,31),(15,31),(16,31),(17,31),(18,31),(19,31),(20,31),(21,31),(22,31),(23,31),(24,31),(25,31),(26,31),(27,31),(28,31),(29,31),(30,31),(0,32),(1,32),(2,32),(3,32),(4,32),(5,32),(6,32),(7,32),(8,32),(9,32),(10,32),(11,32),(12,32),(13,32),(14,32),(15,32),(16,32),(17,32),(18,32),(19,32),(20,32),(21,32),(22,32),(23,32),(24,32),(25,32),(26,32),(27,32),(0,33),(1,33),(2,33),(3,33),(4,33),(5,33),(6,33),(7,33),(8,33),(9,33),(10,33),(11,33),(12,33),(13,33),(14,33),(15,33),(16,33),(17,33),(18,33),(19,33),(20,33),(21,33),(22,33),(23,33),(24,33),(25,33),(26,33),(27,33),(28,33),(29,33),(30,33),(31,33),(32,33),(0,34),(1,34),(2,34),(3,34),(4,34),(5,34),(6,34),(7,34),(8,34),(9,34),(10,34),(11,34),(12,34),(13,34),(14,34),(15,34),(16,34),(17,34),(18,34),(19,34),(20,34),(21,34),(22,34),(23,34),(24,34),(25,34),(26,34),(27,34),(28,34),(29,34),(30,34),(31,34),(32,34),(0,35),(1,35),(2,35),(3,35),(4,35),(5,35),(6,35),(7,35),(8,35),(9,35),(10,35),(11,35),(12,35),(13,35),(14,35),(15,35),(16,35),(17,35),(18,35),(19,35),(20,35),(21,35),(22,35),(23,35),(24,35),(25,35),(26,35),(27,35),(28,35),(29,35),(30,35),(31,35),(32,35),(0,36),(1,36),(2,36),(3,36),(4,36),(5,36),(6,36),(7,36),(8,36),(9,36),(10,36),(11,36),(12,36),(13,36),(14,36),(15,36),(16,36),(17,36),(18,36),(19,36),(20,36),(21,36),(22,36),(23,36),(24,36),(25,36),(26,36),(27,36),(28,36),(29,36),(30,36),(31,36),(32,36),(33,36),(34,36),(35,36),(0,37),(1,37),(2,37),(3,37),(4,37),(5,37),(6,37),(7,37),(8,37),(9,37),(10,37),(11,37),(12,37),(13,37),(14,37),(15,37),(16,37),(17,37),(18,37),(19,37),(20,37),(21,37),(22,37),(23,37),(24,37),(25,37),(26,37),(27,37),(28,37),(29,37),(30,37),(31,37),(32,37),(13,38),(14,38),(15,38),(16,38),(40,41)] [2,3,6,7,30,31,32,33,34,35,36,37,38,39,40,41,42,43,44,45,46,47,48,49,50,51,52,53,54,55,56,57,58,59,60,61,62,63,64,65,66,67,68,69,70,71]) .ret))))⟩
def yDj:TFn:=⟨4,[.cell 8 true 2,.tmp 9],(.seq (oQ [O 4 (.boxL t0),O 6 (.boxL t2),O 7 (.boxL t3),O 8 (.allocL (.agg [(.int .i64 (0)),(.int .i64 (0))])),O 9 (.mv (I 0))] [0,2,3,9]) (.seq (.ops [oT 14 2 6,O 15 (.fad 1 t4),oF 16 1 15,M 17 1,O 18 (.iad 1 t16 t17),oF 19 1 18,O 20 (.call (.f ycA) [t19]),O 21 (.call (.f yeJ) [t14,t20]),oT 22 2 7,O 23 (.fad 1 t4),oF 24 1 23,M 25 1,O 26 (.bin .add t25 (I 1)),O 27 (.iad 1 t24 t26),oF 28 1 27,O 29 (.call (.f ycA) [t28]),O 30 (.call (.f ygl) [t22,t29]),O 10 (.allocL (.agg [(.int .i64 (0)),(.int .i64 (0))])),O 11 (.allocL (.agg [(.int .i64 (0)),(.int .i64 (0))])),⟨none,(.store 2 t10 t21),none⟩,⟨none,(.store 2 t11 t30),none⟩] [⟨2,(.agg [.i .i64,.d,.d]),0⟩,⟨4,(.one (.i .i64)),0⟩,⟨5,(.one (.i .i64)),0⟩,⟨10,(.agg [.i .i64,.d,.d]),0⟩,⟨13,(.one (.i .i64)),0⟩,⟨14,(.one (.i .i64)),0⟩] [(0,1),(0,2),(0,3),(1,3),(2,3),(0,4),(0,5),(0,6),(0,8),(1,8),(2,8),(3,8),(4,8),(5,8),(6,8),(7,8),(0,9),(1,9),(2,9),(3,9),(4,9),(5,9),(6,9),(7,9),(8,9),(0,10),(1,10),(2,10),(3,10),(4,10),(5,10),(6,10),(7,10),(8,10),(0,11),(1,11),(2,11),(3,11),(4,11),(5,11),(6,11),(7,11),(8,11),(9,11),(10,11),(0,12),(1,12),(2,12),(3,12),(4,12),(5,12),(6,12),(7,12),(8,12),(9,12),(10,12),(0,13),(1,13),(2,13),(3,13),(4,13),(5,13),(6,13),(7,13),(8,13),(0,14),(1,14),(2,14),(3,14),(4,14),(5,14),(6,14),(7,14),(8,14),(8,15),(0,17),(1,17),(2,17),(3,17),(4,17),(5,17),(6,17),(7,17),(8,17),(9,17),(10,17),(11,17),(12,17),(13,17),(14,17),(15,17),(16,17),(0,18),(1,18),(2,18),(3,18),(4,18),(5,18),(6,18),(7,18),(8,18),(9,18),(10,18),(11,18),(12,18),(13,18),(14,18),(15,18),(16,18),(17,18)] [6,7,14,15,16,17,18,19,20,21,22,23,24,25,26,27,28,29,30]) (.seq (.seq (.ops [oT 31 2 10,oT 32 2 11,O 33 (.call (.f ya4) [t31,t32]),O 34 (.un .not t33),M 35 34,⟨some 36,(.fad 2 t4),some (35,false)⟩,⟨some 37,(.load false 1 t36),some (35,false)⟩,⟨some 38,(.mv t1),some (35,false)⟩,⟨some 39,(.iad 1 t37 t38),some (35,false)⟩,⟨some 40,(.load false 1 t39),some (35,false)⟩,⟨some 41,(.bin .eql t40 (I 0)),some (35,false)⟩,O 42 (.pick t35 (.c (.bool true)) t41)] [⟨6,(.agg [.i .i64,.d,.d]),0⟩,⟨8,(.one (.i .i64)),0⟩,⟨9,(.one (.i .i64)),0⟩] [] [31,32,33,34,35,36,37,38,39,40,41]) (.cond t42 (.seq (oQ [O 43 (.build [(.int .i64 (0)),(.int .i64 (0))] [(1,1,(I 1))]),⟨none,(.store 2 t8 t43),none⟩,O 9 (.mv (I 0))] [1,4,10,11,42,43]) .ret) .skip)) (.seq (oQ [oT 45 2 11,oT 46 2 10,O 47 (.call (.f ygI) [t45,t46]),M 44 47,O 48 (.ext t44 0),O 49 (.ext t44 1),O 12 (.allocL (.agg [(.int .i64 (0)),(.int .i64 (0))])),⟨none,(.store 2 t12 t48),none⟩,M 13 49] [10,11,42,44,45,46,47,48,49]) (.seq (.seq (oQ [M 50 13,O 51 (.bin .neq t50 (I 0))] [50]) (.cond t51 (.seq (oQ [O 52 (.build [(.int .i64 (0)),(.int .i64 (0))] []),M 53 13,⟨none,(.store 2 t8 t52),none⟩,M 9 53] [1,4,12,13,51,52,53]) .ret) .skip)) (.seq (.ops [oT 54 2 12,O 55 (.fad 2 t4),oF 56 1 55,M 57 1,O 58 (.iad 1 t56 t57),oF 59 1 58,O 60 (.call (.f ycA) [t59]),O 61 (.call (.f ygJ) [t54,t60]),O 62 (.ext t61 0),O 63 (.ext t61 1),⟨none,(.store 2 t8 t62),none⟩,M 9 63] [⟨2,(.agg [.i .i64,.d,.d]),0⟩,⟨4,(.one (.i .i64)),0⟩,⟨5,(.one (.i .i64)),0⟩] [(0,1),(0,2),(0,3),(1,3),(2,3),(0,4),(0,5),(0,6),(8,9)] [1,4,12,13,51,54,55,56,57,58,59,60,61,62,63]) .ret))))))⟩
def yln:TCode:=(.seq (.seq (.ops [M 37 9,O 38 (.fad 2 t3),oF 39 1 38,O 40 (.len t39),oX 41 .lss 37 40] [⟨2,(.agg [.i .i64,.d,.d]),0⟩] [] [37,38,39,40]) (.cond t41 .skip (.exit 0))) (.seq (.block 1 (.seq (oQ [oT 45 3 3,M 46 9,oT 47 2 4,oT 48 2 5,O 49 (.call (.f yeK) [t45,t46,t47,t48]),M 44 49,O 50 (.ext t44 0),O 51 (.ext t44 1),O 10 (.allocL (.agg [(.int .i64 (0)),(.int .i64 (0))])),⟨none,(.store 2 t10 t50),none⟩,M 11 51] [41,44,45,46,47,48,49,50,51]) (.seq (.seq (oQ [M 52 11,O 53 (.bin .neq t52 (I 0))] [52]) (.cond t53 (.seq (oQ [O 54 (.build [(.int .i64 (0)),(.int .i64 (0))] []),M 55 11,⟨none,(.store 2 t6 t54),none⟩,M 7 55] [3,4,5,8,9,10,11,53,54,55]) .ret) .skip)) (.seq (oQ [oT 57 2 8,oT 58 2 10,O 59 (.call (.f ye6) [t57,t58]),M 56 59,O 60 (.ext t56 0),O 61 (.ext t56 1),⟨none,(.store 2 t8 t60),none⟩,M 11 61] [10,53,56,57,58,59,60,61]) (.seq (oQ [M 62 11,O 63 (.bin .neq t62 (I 0))] [62]) (.cond t63 (.seq (oQ [O 64 (.build [(.int .i64 (0)),(.int .i64 (0))] []),M 65 11,⟨none,(.store 2 t6 t64),none⟩,M 7 65] [3,4,5,8,9,11,63,64,65]) .ret) .skip)))))) (oQ [M 42 9,O 43 (.bin .add t42 (I 1)),M 9 43] [11,42,43,63])))
def yDk:TFn:=⟨3,[.cell 6 true 2,.tmp 7],(.seq (oQ [O 3 (.boxL t0),O 4 (.boxL t1),O 5 (.boxL t2),O 6 (.allocL (.agg [(.int .i64 (0)),(.int .i64 (0))])),O 7 (.mv (I 0))] [0,1,2,7]) (.seq (.seq (oQ [oT 12 3 3,O 13 (.call (.f ybN) [t12]),O 14 (.bin .neq t13 (I 0))] [12,13]) (.cond t14 (.seq (oQ [O 15 (.build [(.int .i64 (0)),(.int .i64 (0))] []),oT 16 3 3,O 17 (.call (.f ybN) [t16]),⟨none,(.store 2 t6 t15),none⟩,M 7 17] [3,4,5,14,15,16,17]) .ret) .skip)) (.seq (.seq (.ops [O 18 (.fad 0 t3),oF 19 1 18,oT 20 2 4,O 21 (.call (.f yd1) [t19,t20]),O 22 (.un .not t21),M 23 22,⟨some 24,(.fad 0 t3),some (23,false)⟩,⟨some 25,(.load false 1 t24),some (23,false)⟩,⟨some 26,(.load true 2 t5),some (23,false)⟩,⟨some 27,(.call (.f yd1) [t25,t26]),some (23,false)⟩,⟨some 28,(.un .not t27),some (23,false)⟩,O 29 (.pick t23 (.c (.bool true)) t28),M 30 29,⟨some 31,(.load true 2 t5),some (30,false)⟩,⟨some 32,(.load true 2 t4),some (30,false)⟩,⟨some 33,(.call (.f ya4) [t31,t32]),some (30,false)⟩,O 34 (.pick t30 (.c (.bool true)) t33)] [⟨1,(.agg [.i .i64,.d,.d]),0⟩,⟨7,(.agg [.i .i64,.d,.d]),0⟩] [] [14,18,19,20,21,22,23,24,25,26,27,28,29,30,31,32,33]) (.cond t34 (.seq (oQ [O 35 (.build [(.int .i64 (0)),(.int .i64 (0))] []),⟨none,(.store 2 t6 t35),none⟩,O 7 (.mv (I 2))] [3,4,5,34,35]) .ret) .skip)) (.seq (oQ [O 36 (.build [(.int .i64 (0)),(.int .i64 (0))] [(1,1,(I 1))]),O 8 (.allocL (.agg [(.int .i64 (0)),(.int .i64 (0))])),⟨none,(.store 2 t8 t36),none⟩] [34,36]) (.seq (.seq (oQ [O 9 (.mv (I 0))] []) (.block 0 (.loop 92446900 yln))) (.seq (oQ [oT 66 2 8,⟨none,(.store 2 t6 t66),none⟩,O 7 (.mv (I 0))] [3,4,5,8,9,41,66]) .ret))))))⟩
def yIa:TFn:=⟨2,[.cell 4 true 2,.tmp 5],(.seq (oQ [O 2 (.boxL t0),O 3 (.boxL t1),O 4 (.allocL (.agg [(.int .i64 (0)),(.int .i64 (0))])),O 5 (.mv (I 0))] [0,1,5]) (.seq (.seq (oQ [oT 7 2 2,oT 8 2 3,O 9 (.call (.f ybv) [t7,t8]),O 10 (.bin .neq t9 (I 0))] [7,8,9]) (.cond t10 (.seq (oQ [O 11 (.build [(.int .i64 (0)),(.int .i64 (0))] []),oT 12 2 2,oT 13 2 3,O 14 (.call (.f ybv) [t12,t13]),⟨none,(.store 2 t4 t11),none⟩,M 5 14] [2,3,10,11,12,13,14]) .ret) .skip)) (.seq (.seq (.ops [O 15 (.fad 0 t3),oF 16 1 15,O 17 (.bin .eql t16 (I 0))] [⟨1,(.agg [.i .i64,.i .i64]),0⟩] [] [10,15,16]) (.cond t17 (.seq (oQ [O 18 (.build [(.int .i64 (0)),(.int .i64 (0))] []),⟨none,(.store 2 t4 t18),none⟩,O 5 (.mv (I 18))] [2,3,17,18]) .ret) .skip)) (.seq (.ops [O 19 (.fad 1 t3),oF 20 1 19,O 21 (.fad 0 t3),oF 22 1 21,O 23 (.build [(.int .i64 (0)),(.int .i64 (0))] [(0,1,t20),(1,1,t22)]),O 6 (.allocL (.agg [(.int .i64 (0)),(.int .i64 (0))])),⟨none,(.store 2 t6 t23),none⟩] [⟨1,(.agg [.i .i64,.i .i64]),0⟩,⟨3,(.agg [.i .i64,.i .i64]),0⟩] [] [17,19,20,21,22,23]) (.seq (.seq (.ops [O 24 (.fad 0 t3),oF 25 1 24,O 26 (.bin .lss t25 (I 0))] [⟨1,(.agg [.i .i64,.i .i64]),0⟩] [] [24,25]) (.cond t26 (.ops [O 27 (.fad 1 t3),oF 28 1 27,O 29 (.un .neg t28),O 30 (.fad 0 t3),oF 31 1 30,O 32 (.un .neg t31),O 33 (.build [(.int .i64 (0)),(.int .i64 (0))] [(0,1,t29),(1,1,t32)]),⟨none,(.store 2 t6 t33),none⟩] [⟨1,(.agg [.i .i64,.i .i64]),0⟩,⟨4,(.agg [.i .i64,.i .i64]),0⟩] [] [3,26,27,28,29,30,31,32,33]) .skip)) (.seq (oQ [oT 34 2 2,oT 35 2 6,O 36 (.call (.f ygJ) [t34,t35]),O 37 (.ext t36 0),O 38 (.ext t36 1),⟨none,(.store 2 t4 t37),none⟩,M 5 38] [2,3,6,26,34,35,36,37,38]) .ret))))))⟩
def t115:Opd:=.t 115
def ylo:TCode:=(.seq (.seq (.ops [M 38 9,O 39 (.fad 2 t3),oF 40 1 39,O 41 (.len t40),oX 42 .lss 38 41,M 43 42,⟨some 44,(.fad 0 t5),some (43,true)⟩,⟨some 45,(.load false 1 t44),some (43,true)⟩,⟨some 46,(.bin .gtr t45 (I 0)),some (43,true)⟩,O 47 (.pick t43 t46 (.c (.bool false)))] [⟨2,(.agg [.i .i64,.d,.d]),0⟩,⟨7,(.agg [.i .i64,.i .i64]),0⟩] [] [38,39,40,41,42,43,44,45,46]) (.cond t47 .skip (.exit 0))) (.seq (.block 1 (.seq (.ops [O 50 (.fad 1 t3),oF 51 1 50,M 52 9,O 53 (.bin .add t52 (I 1)),O 54 (.iad 1 t51 t53),oF 55 1 54,O 56 (.call (.f ycA) [t55]),O 10 (.allocL (.agg [(.int .i64 (0)),(.int .i64 (0))])),⟨none,(.store 2 t10 t56),none⟩] [⟨1,(.agg [.i .i64,.d,.d]),0⟩,⟨4,(.one (.i .i64)),0⟩,⟨5,(.one (.i .i64)),0⟩] [] [47,50,51,52,53,54,55,56]) (.seq (.seq (.ops [oT 57 2 8,oT 58 2 10,O 59 (.call (.f ya4) [t57,t58]),O 60 (.un .not t59),M 61 60,⟨some 62,(.fad 2 t3),some (61,false)⟩,⟨some 63,(.load false 1 t62),some (61,false)⟩,⟨some 64,(.mv t9),some (61,false)⟩,⟨some 65,(.iad 1 t63 t64),some (61,false)⟩,⟨some 66,(.load false 1 t65),some (61,false)⟩,⟨some 67,(.bin .eql t66 (I 0)),some (61,false)⟩,O 68 (.pick t61 (.c (.bool true)) t67)] [⟨6,(.agg [.i .i64,.d,.d]),0⟩,⟨8,(.one (.i .i64)),0⟩,⟨9,(.one (.i .i64)),0⟩] [] [57,58,59,60,61,62,63,64,65,66,67]) (.cond t68 (.seq (oQ [oT 69 2 8,oT 70 2 10,O 71 (.call (.f yeJ) [t69,t70]),⟨none,(.store 2 t8 t71),none⟩] [10,68,69,70,71]) (.exit 1)) .skip)) (.seq (oQ [oT 73 3 3,M 74 9,oT 75 2 8,oT 76 2 10,O 77 (.call (.f yeK) [t73,t74,t75,t76]),M 72 77,O 78 (.ext t72 0),O 79 (.ext t72 1),O 11 (.allocL (.agg [(.int .i64 (0)),(.int .i64 (0))])),⟨none,(.store 2 t11 t78),none⟩,M 12 79] [68,72,73,74,75,76,77,78,79]) (.seq (.seq (oQ [M 80 12,O 81 (.bin .neq t80 (I 0))] [80]) (.cond t81 (.seq (oQ [O 82 (.build [(.int .i64 (0)),(.int .i64 (0))] []),M 83 12,⟨none,(.store 2 t6 t82),none⟩,M 7 83] [3,4,5,8,9,10,11,12,81,82,83]) .ret) .skip)) (.seq (.seq (oQ [oT 84 2 11,oT 85 2 5,O 86 (.call (.f ya4) [t84,t85]),O 87 (.un .not t86)] [12,81,84,85,86]) (.cond t87 (.seq (.ops [oT 89 2 5,O 90 (.fad 2 t3),oF 91 1 90,M 92 9,O 93 (.iad 1 t91 t92),oF 94 1 93,O 95 (.call (.f ycA) [t94]),O 96 (.call (.f ykp) [t89,t95]),M 88 96,O 97 (.ext t88 0),O 98 (.ext t88 1),O 13 (.allocL (.agg [(.int .i64 (0)),(.int .i64 (0))])),⟨none,(.store 2 t13 t97),none⟩,M 14 98] [⟨2,(.agg [.i .i64,.d,.d]),0⟩,⟨4,(.one (.i .i64)),0⟩,⟨5,(.one (.i .i64)),0⟩] [(0,1),(0,2),(0,3),(1,3),(2,3),(0,4),(0,5),(0,6),(9,10),(0,11),(1,11),(2,11),(3,11),(4,11),(5,11),(6,11),(7,11),(8,11),(9,11),(10,11),(10,12)] [3,4,5,9,10,11,87,88,89,90,91,92,93,94,95,96,97,98]) (.seq (.seq (oQ [M 99 14,O 100 (.bin .neq t99 (I 0))] [99]) (.cond t100 (.seq (oQ [O 101 (.build [(.int .i64 (0)),(.int .i64 (0))] []),M 102 14,⟨none,(.store 2 t6 t101),none⟩,M 7 102] [8,13,14,100,101,102]) .ret) .skip)) (.seq (oQ [oT 103 2 8,oT 104 2 13,O 105 (.call (.f ye6) [t103,t104]),O 106 (.ext t105 0),O 107 (.ext t105 1),⟨none,(.store 2 t6 t106),none⟩,M 7 107] [8,13,14,100,103,104,105,106,107]) .ret))) .skip)) (.seq (oQ [oT 109 2 5,oT 110 2 11,O 111 (.call (.f ygI) [t109,t110]),M 108 111,O 112 (.ext t108 0),O 113 (.ext t108 1),⟨none,(.store 2 t5 t112),none⟩,M 12 113] [11,87,108,109,110,111,112,113]) (.seq (.seq (oQ [M 114 12,O 115 (.bin .neq t114 (I 0))] [114]) (.cond t115 (.seq (oQ [O 116 (.build [(.int .i64 (0)),(.int .i64 (0))] []),M 117 12,⟨none,(.store 2 t6 t116),none⟩,M 7 117] [3,4,5,8,9,10,12,115,116,117]) .ret) .skip)) (oQ [oT 118 2 10,⟨none,(.store 2 t8 t118),none⟩] [10,12,115,118]))))))))) (oQ [M 48 9,O 49 (.bin .add t48 (I 1)),M 9 49] [48,49])))
def yFD:TFn:=⟨3,[.cell 6 true 2,.tmp 7],(.seq (oQ [O 3 (.boxL t0),O 4 (.boxL t1),O 5 (.boxL t2),O 6 (.allocL (.agg [(.int .i64 (0)),(.int .i64 (0))])),O 7 (.mv (I 0))] [0,1,2,7]) (.seq (.seq (oQ [oT 15 3 3,O 16 (.call (.f ybN) [t15]),O 17 (.bin .neq t16 (I 0))] [15,16]) (.cond t17 (.seq (oQ [O 18 (.build [(.int .i64 (0)),(.int .i64 (0))] []),oT 19 3 3,O 20 (.call (.f ybN) [t19]),⟨none,(.store 2 t6 t18),none⟩,M 7 20] [3,4,5,17,18,19,20]) .ret) .skip)) (.seq (.seq (.ops [O 21 (.fad 0 t3),oF 22 1 21,oT 23 2 4,O 24 (.call (.f yd1) [t22,t23]),O 25 (.un .not t24),M 26 25,⟨some 27,(.load true 2 t5),some (26,false)⟩,⟨some 28,(.call (.f ybX) [t27]),some (26,false)⟩,⟨some 29,(.bin .neq t28 (I 0)),some (26,false)⟩,O 30 (.pick t26 (.c (.bool true)) t29),M 31 30,⟨some 32,(.fad 0 t5),some (31,false)⟩,⟨some 33,(.load false 1 t32),some (31,false)⟩,⟨some 34,(.bin .lss t33 (I 0)),some (31,false)⟩,O 35 (.pick t31 (.c (.bool true)) t34)] [⟨1,(.agg [.i .i64,.d,.d]),0⟩,⟨12,(.agg [.i .i64,.i .i64]),0⟩] [] [17,21,22,23,24,25,26,27,28,29,30,31,32,33,34]) (.cond t35 (.seq (oQ [O 36 (.build [(.int .i64 (0)),(.int .i64 (0))] []),⟨none,(.store 2 t6 t36),none⟩,O 7 (.mv (I 2))] [3,4,5,35,36]) .ret) .skip)) (.seq (oQ [oT 37 2 4,O 8 (.allocL (.agg [(.int .i64 (0)),(.int .i64 (0))])),⟨none,(.store 2 t8 t37),none⟩] [35,37]) (.seq (.seq (oQ [O 9 (.mv (I 0))] []) (.block 0 (.loop 63725400 ylo))) (.seq (.seq (.ops [O 119 (.fad 0 t5),oF 120 1 119,O 121 (.bin .gtr t120 (I 0))] [⟨1,(.agg [.i .i64,.i .i64]),0⟩] [] [3,5,8,9,47,119,120]) (.cond t121 (.seq (oQ [O 122 (.build [(.int .i64 (0)),(.int .i64 (0))] []),⟨none,(.store 2 t6 t122),none⟩,O 7 (.mv (I 6))] [4,121,122]) .ret) .skip)) (.seq (oQ [oT 123 2 4,⟨none,(.store 2 t6 t123),none⟩,O 7 (.mv (I 0))] [4,121,123]) .ret)))))))⟩
def yAp:TFn:=⟨2,[.cell 4 true 2,.tmp 5],(.seq (oQ [O 3 (.boxL t1),O 4 (.allocL (.agg [(.int .i64 (0)),(.int .i64 (0))])),O 5 (.mv (I 0))] [1,5]) (.seq (.seq (.ops [O 6 (.fad 1 t3),oF 7 1 6,O 8 (.bin .eql t7 (.c (.int .u8 (1))))] [⟨1,(.agg [.i .i64,.i .u8,.i .i64,.i .i64,.i .i64,.i .i64,.i .i64,.i .i64]),0⟩] [] [6,7]) (.cond t8 (.seq (.ops [M 9 0,O 10 (.fad 0 t3),oF 11 1 10,O 12 (.iad 3 t9 t11),oT 13 3 12,O 14 (.fad 2 t3),oT 15 2 14,O 16 (.fad 4 t3),oT 17 2 16,O 18 (.call (.f yhr) [t13,t15,t17]),O 19 (.ext t18 0),O 20 (.ext t18 1),⟨none,(.store 2 t4 t19),none⟩,M 5 20] [⟨2,(.agg [.i .i64,.i .u8,.i .i64,.i .i64,.i .i64,.i .i64,.i .i64,.i .i64]),0⟩,⟨3,(.agg [.i .i64,.d,.d]),0⟩,⟨4,(.agg [.i .i64,.d,.d]),0⟩,⟨6,(.agg [.i .i64,.i .u8,.i .i64,.i .i64,.i .i64,.i .i64,.i .i64,.i .i64]),0⟩,⟨8,(.agg [.i .i64,.i .u8,.i .i64,.i .i64,.i .i64,.i .i64,.i .i64,.i .i64]),0⟩] [(0,1),(0,2),(0,5),(1,5),(2,5),(3,5),(4,5),(0,6),(1,6),(2,6),(3,6),(4,6),(0,7),(1,7),(2,7),(3,7),(4,7),(5,7),(6,7),(0,8),(1,8),(2,8),(3,8),(4,8),(5,8),(6,8),(10,11)] [0,3,8,9,10,11,12,13,14,15,16,17,18,19,20]) .ret) .skip)) (.seq (.ops [M 21 0,O 22 (.fad 0 t3),oF 23 1 22,O 24 (.iad 3 t21 t23),oT 25 3 24,O 26 (.fad 2 t3),oT 27 2 26,O 28 (.fad 4 t3),oT 29 2 28,O 30 (.call (.f yiE) [t25,t27,t29]),O 31 (.ext t30 0),O 32 (.ext t30 1),⟨none,(.store 2 t4 t31),none⟩,M 5 32] [⟨2,(.agg [.i .i64,.i .u8,.i .i64,.i .i64,.i .i64,.i .i64,.i .i64,.i .i64]),0⟩,⟨3,(.agg [.i .i64,.d,.d]),0⟩,⟨4,(.agg [.i .i64,.d,.d]),0⟩,⟨6,(.agg [.i .i64,.i .u8,.i .i64,.i .i64,.i .i64,.i .i64,.i .i64,.i .i64]),0⟩,⟨8,(.agg [.i .i64,.i .u8,.i .i64,.i .i64,.i .i64,.i .i64,.i .i64,.i .i64]),0⟩] [(0,1),(0,2),(0,5),(1,5),(2,5),(3,5),(4,5),(0,6),(1,6),(2,6),(3,6),(4,6),(0,7),(1,7),(2,7),(3,7),(4,7),(5,7),(6,7),(0,8),(1,8),(2,8),(3,8),(4,8),(5,8),(6,8),(10,11)] [0,3,8,21,22,23,24,25,26,27,28,29,30,31,32]) .ret)))⟩
def yDl:TFn:=⟨2,[.cell 4 true 2,.cell 5 true 2,.tmp 6],(.seq (oQ [O 2 (.boxL t0),O 3 (.boxL t1),O 4 (.allocL (.agg [.nils,.nils])),O 5 (.allocL (.agg [(.int .i64 (0)),(.int .i64 (0))])),O 6 (.mv (I 0))] [0,1,6]) (.seq (.seq (oQ [oT 9 2 2,O 10 (.call (.f ydo) [t9]),O 11 (.bin .neq t10 (I 0))] [9,10]) (.cond t11 (.seq (oQ [O 12 (.build [.nils,.nils] []),O 13 (.build [(.int .i64 (0)),(.int .i64 (0))] []),oT 14 2 2,O 15 (.call (.f ydo) [t14]),⟨none,(.store 2 t4 t12),none⟩,⟨none,(.store 2 t5 t13),none⟩,M 6 15] [2,3,11,12,13,14,15]) .ret) .skip)) (.seq (.seq (.ops [oT 16 2 2,O 17 (.fad 0 t3),oF 18 1 17,O 19 (.call (.f yhq) [t16,t18]),O 20 (.un .not t19)] [⟨2,(.agg [.i .i64,.i .u8,.i .i64,.i .i64,.i .i64,.i .i64,.i .i64,.i .i64]),0⟩] [] [11,16,17,18,19]) (.cond t20 (.seq (oQ [O 21 (.build [.nils,.nils] []),O 22 (.build [(.int .i64 (0)),(.int .i64 (0))] []),⟨none,(.store 2 t4 t21),none⟩,⟨none,(.store 2 t5 t22),none⟩,O 6 (.mv (I 2))] [2,3,20,21,22]) .ret) .skip)) (.seq (.ops [O 24 (.fad 0 t2),oF 25 1 24,oT 26 8 3,O 27 (.call (.f ygm) [t25,t26]),M 23 27,O 28 (.ext t23 0),O 29 (.ext t23 1),O 7 (.allocL (.agg [(.int .i64 (0)),(.int .i64 (0))])),⟨none,(.store 2 t7 t28),none⟩,M 8 29] [⟨1,(.agg [.d,.d]),0⟩] [] [20,23,24,25,26,27,28,29]) (.seq (.seq (oQ [M 30 8,O 31 (.bin .neq t30 (I 0))] [30]) (.cond t31 (.seq (oQ [O 32 (.build [.nils,.nils] []),O 33 (.build [(.int .i64 (0)),(.int .i64 (0))] []),M 34 8,⟨none,(.store 2 t4 t32),none⟩,⟨none,(.store 2 t5 t33),none⟩,M 6 34] [2,3,7,8,31,32,33,34]) .ret) .skip)) (.seq (.seq (.ops [O 35 (.fad 1 t2),oF 36 1 35,O 37 (.len t36),O 38 (.bin .eql t37 (I 2000))] [⟨1,(.agg [.d,.d]),0⟩] [] [8,31,35,36,37]) (.cond t38 (.seq (oQ [O 39 (.build [.nils,.nils] []),O 40 (.build [(.int .i64 (0)),(.int .i64 (0))] []),⟨none,(.store 2 t4 t39),none⟩,⟨none,(.store 2 t5 t40),none⟩,O 6 (.mv (I 4))] [2,3,7,38,39,40]) .ret) .skip)) (.seq (.ops [oT 41 2 7,O 42 (.fad 6 t3),⟨none,(.store 2 t42 t41),none⟩] [⟨2,(.agg [.i .i64,.i .u8,.i .i64,.i .i64,.i .i64,.i .i64,.i .i64,.i .i64]),0⟩] [] [38,41,42]) (.seq (.ops [O 43 (.fad 0 t2),oF 44 1 43,O 45 (.call (.f yeG) [t44]),O 46 (.buildD 8 (.agg [(.int .i64 (0)),(.int .u8 (0)),(.int .i64 (0)),(.int .i64 (0)),(.int .i64 (0)),(.int .i64 (0)),(.int .i64 (0)),(.int .i64 (0))]) 0 []),O 47 (.fad 1 t2),oF 48 1 47,O 49 (.app true 8 64 t46 t48),oT 50 8 3,O 51 (.buildD 8 (.agg [(.int .i64 (0)),(.int .u8 (0)),(.int .i64 (0)),(.int .i64 (0)),(.int .i64 (0)),(.int .i64 (0)),(.int .i64 (0)),(.int .i64 (0))]) 1 [(0,t50)]),O 52 (.app true 8 64 t49 t51),O 53 (.build [.nils,.nils] [(0,1,t45),(1,1,t52)]),oT 54 2 7,⟨none,(.store 2 t4 t53),none⟩,⟨none,(.store 2 t5 t54),none⟩,O 6 (.mv (I 0))] [⟨1,(.agg [.d,.d]),0⟩,⟨5,(.agg [.d,.d]),0⟩] [(0,3),(1,3),(2,3),(0,4),(1,4),(2,4),(3,4),(0,5),(1,5),(2,5),(3,5),(0,7),(1,7),(2,7),(3,7),(4,7),(5,7),(6,7),(0,8),(1,8),(2,8),(3,8),(4,8),(5,8),(6,8),(0,11),(1,11),(2,11),(3,11),(4,11),(5,11),(6,11),(7,11),(8,11),(9,11),(10,11),(11,12)] [2,3,7,43,44,45,46,47,48,49,50,51,52,53,54]) .ret))))))))⟩
def yFE:TFn:=⟨4,[.cell 8 true 2,.cell 9 true 2,.tmp 10],(.seq (oQ [O 4 (.boxL t0),O 6 (.boxL t2),O 7 (.boxL t3),O 8 (.allocL (.agg [.nils,.nils])),O 9 (.allocL (.agg [(.int .i64 (0)),(.int .i64 (0))])),O 10 (.mv (I 0))] [0,2,3,10]) (.seq (oQ [oT 11 2 4,M 12 1,oT 13 2 6,oT 14 2 7,O 15 (.build [(.int .i64 (0)),(.int .u8 (0)),(.int .i64 (0)),(.int .i64 (0)),(.int .i64 (0)),(.int .i64 (0)),(.int .i64 (0)),(.int .i64 (0))] [(0,1,t12),(1,1,(.c (.int .u8 (2)))),(2,2,t13),(4,2,t14)]),O 16 (.call (.f yeL) [t11,t15]),O 17 (.ext t16 0),O 18 (.ext t16 1),O 19 (.ext t16 2),⟨none,(.store 2 t8 t17),none⟩,⟨none,(.store 2 t9 t18),none⟩,M 10 19] [1,4,6,7,11,12,13,14,15,16,17,18,19]) .ret))⟩
def yDm:TFn:=⟨4,[.cell 8 true 2,.cell 9 true 2,.tmp 10],(.seq (oQ [O 4 (.boxL t0),O 6 (.boxL t2),O 7 (.boxL t3),O 8 (.allocL (.agg [.nils,.nils])),O 9 (.allocL (.agg [(.int .i64 (0)),(.int .i64 (0))])),O 10 (.mv (I 0))] [0,2,3,10]) (.seq (oQ [oT 11 2 4,M 12 1,oT 13 2 6,oT 14 2 7,O 15 (.build [(.int .i64 (0)),(.int .u8 (0)),(.int .i64 (0)),(.int .i64 (0)),(.int .i64 (0)),(.int .i64 (0)),(.int .i64 (0)),(.int .i64 (0))] [(0,1,t12),(1,1,(.c (.int .u8 (1)))),(2,2,t13),(4,2,t14)]),O 16 (.call (.f yeL) [t11,t15]),O 17 (.ext t16 0),O 18 (.ext t16 1),O 19 (.ext t16 2),⟨none,(.store 2 t8 t17),none⟩,⟨none,(.store 2 t9 t18),none⟩,M 10 19] [1,4,6,7,11,12,13,14,15,16,17,18,19]) .ret))⟩
def yoR:TCode:=(.seq (.seq (oQ [M 45 11,M 46 1,O 47 (.len t46),oX 48 .lss 45 47,M 49 48,⟨some 50,(.mv t10),some (49,true)⟩,⟨some 51,(.bin .eql t50 (I 0)),some (49,true)⟩,O 52 (.pick t49 t51 (.c (.bool false)))] [45,46,47,48,49,50,51]) (.cond t52 .skip (.exit 0))) (.seq (.block 1 (.seq (oQ [O 55 (.build [(.int .i64 (0)),(.int .i64 (0))] []),O 12 (.allocL (.agg [(.int .i64 (0)),(.int .i64 (0))])),⟨none,(.store 2 t12 t55),none⟩] [10,52,55]) (.seq (.ops [oT 57 2 3,M 58 1,M 59 11,O 60 (.iad 1 t58 t59),oF 61 1 60,oT 62 2 5,O 63 (.fad 3 t9),oT 64 2 63,O 65 (.call (.f yhs) [t57,t61,t62,t64]),M 56 65,O 66 (.ext t56 0),O 67 (.ext t56 1),O 68 (.ext t56 2),⟨none,(.store 2 t3 t66),none⟩,⟨none,(.store 2 t12 t67),none⟩,M 10 68] [⟨3,(.one (.i .i64)),0⟩,⟨4,(.one (.i .i64)),0⟩,⟨7,(.agg [.i .i64,.i .i64,.i .i64,.i .i64,.i .i64,.i .i64]),0⟩] [(0,1),(0,2),(1,2),(0,3),(0,4),(0,5),(1,5),(2,5),(3,5),(4,5),(0,6),(1,6),(2,6),(3,6),(4,6),(5,6),(0,7),(1,7),(2,7),(3,7),(4,7),(5,7),(10,11),(10,12),(11,12),(11,13),(12,13),(12,14)] [56,57,58,59,60,61,62,63,64,65,66,67,68]) (.seq (.seq (.ops [M 69 10,O 70 (.bin .neq t69 (I 0)),M 71 70,⟨some 72,(.load true 2 t3),some (71,false)⟩,⟨some 73,(.mv t1),some (71,false)⟩,⟨some 74,(.mv t11),some (71,false)⟩,⟨some 75,(.iad 1 t73 t74),some (71,false)⟩,⟨some 76,(.load false 1 t75),some (71,false)⟩,⟨some 77,(.call (.f yeH) [t72,t76]),some (71,false)⟩,⟨some 78,(.load true 2 t12),some (71,false)⟩,⟨some 79,(.call (.f ya4) [t77,t78]),some (71,false)⟩,⟨some 80,(.un .not t79),some (71,false)⟩,O 81 (.pick t71 (.c (.bool true)) t80)] [⟨6,(.one (.i .i64)),0⟩,⟨7,(.one (.i .i64)),0⟩] [(3,4),(3,5),(4,5),(3,6),(3,7),(3,9),(4,9),(5,9),(6,9),(7,9),(8,9)] [12,69,70,71,72,73,74,75,76,77,78,79,80]) (.cond t81 (.exit 1) .skip)) (.seq (.ops [oT 83 2 3,M 84 1,M 85 11,O 86 (.iad 1 t84 t85),oF 87 1 86,oT 88 2 5,oT 89 2 3,M 90 1,M 91 11,O 92 (.iad 1 t90 t91),oF 93 1 92,O 94 (.call (.f yeH) [t89,t93]),O 95 (.call (.f ygK) [t83,t87,t88,t94]),M 82 95,O 96 (.ext t82 0),O 97 (.ext t82 1),O 98 (.ext t82 2),⟨none,(.store 2 t3 t96),none⟩,O 99 (.fad 3 t9),⟨none,(.store 2 t99 t97),none⟩,M 10 98] [⟨3,(.one (.i .i64)),0⟩,⟨4,(.one (.i .i64)),0⟩,⟨9,(.one (.i .i64)),0⟩,⟨10,(.one (.i .i64)),0⟩,⟨19,(.agg [.i .i64,.i .i64,.i .i64,.i .i64,.i .i64,.i .i64]),0⟩] [(0,1),(0,2),(1,2),(0,3),(0,4),(0,5),(1,5),(2,5),(3,5),(4,5),(0,6),(1,6),(2,6),(3,6),(4,6),(5,6),(0,7),(1,7),(2,7),(3,7),(4,7),(5,7),(6,7),(0,8),(1,8),(2,8),(3,8),(4,8),(5,8),(6,8),(7,8),(0,9),(1,9),(2,9),(3,9),(4,9),(5,9),(6,9),(0,10),(1,10),(2,10),(3,10),(4,10),(5,10),(6,10),(0,11),(1,11),(2,11),(3,11),(4,11),(5,11),(14,15),(14,16),(15,16),(15,17),(16,17),(16,18),(16,19)] [81,82,83,84,85,86,87,88,89,90,91,92,93,94,95,96,97,98,99]) (.seq (.ops [M 100 1,M 101 11,O 102 (.iad 1 t100 t101),oF 103 1 102,O 104 (.fad 0 t9),⟨none,(.store 1 t104 t103),none⟩] [⟨2,(.one (.i .i64)),0⟩,⟨3,(.one (.i .i64)),0⟩,⟨5,(.agg [.i .i64,.i .i64,.i .i64,.i .i64,.i .i64,.i .i64]),0⟩] [] [100,101,102,103,104]) (.ops [O 105 (.fad 5 t9),oF 106 1 105,O 107 (.bin .add t106 (I 1)),O 108 (.fad 5 t9),⟨none,(.store 1 t108 t107),none⟩] [⟨1,(.agg [.i .i64,.i .i64,.i .i64,.i .i64,.i .i64,.i .i64]),0⟩,⟨4,(.agg [.i .i64,.i .i64,.i .i64,.i .i64,.i .i64,.i .i64]),0⟩] [] [105,106,107,108]))))))) (oQ [M 53 11,O 54 (.bin .add t53 (I 1)),M 11 54] [53,54,81])))
def yDn:TFn:=⟨3,[.cell 6 true 2,.cell 7 true 6,.tmp 8],(.seq (oQ [O 3 (.boxL t0),O 5 (.boxL t2),O 6 (.allocL (.agg [.nils,.nils])),O 7 (.allocL (.agg [(.int .i64 (0)),(.int .i64 (0)),(.int .i64 (0)),(.int .i64 (0)),(.int .i64 (0)),(.int .i64 (0))])),O 8 (.mv (I 0))] [0,2,8]) (.seq (.ops [M 13 1,O 14 (.iad 1 t13 (I 0)),oF 15 1 14,oT 16 2 5,O 17 (.fad 0 t3),oF 18 1 17,O 19 (.iad 3 t18 (I 0)),O 20 (.fad 0 t19),oF 21 1 20,O 22 (.call (.f ycA) [t21]),O 23 (.build [(.int .i64 (0)),(.int .i64 (0)),(.int .i64 (0)),(.int .i64 (0)),(.int .i64 (0)),(.int .i64 (0))] [(0,1,t15),(1,2,t16),(3,2,t22)]),O 9 (.allocL (.agg [(.int .i64 (0)),(.int .i64 (0)),(.int .i64 (0)),(.int .i64 (0)),(.int .i64 (0)),(.int .i64 (0))])),⟨none,(.store 6 t9 t23),none⟩] [⟨1,(.one (.i .i64)),0⟩,⟨2,(.one (.i .i64)),0⟩,⟨5,(.agg [.d,.d]),0⟩,⟨6,(.agg [.i .i64,.d,.d]),0⟩,⟨8,(.agg [.i .i64,.d,.d]),0⟩] [(0,3),(1,3),(2,3),(0,4),(1,4),(2,4),(3,4),(0,5),(1,5),(2,5),(3,5),(0,6),(1,6),(2,6),(3,6),(0,7),(1,7),(2,7),(3,7),(0,8),(1,8),(2,8),(3,8),(0,9),(1,9),(2,9),(3,9),(0,11),(1,11),(2,11),(3,11),(4,11),(5,11),(6,11),(7,11),(8,11),(9,11),(10,11)] [13,14,15,16,17,18,19,20,21,22,23]) (.seq (.seq (oQ [M 24 1,O 25 (.len t24),O 26 (.bin .eql t25 (I 1))] [24,25]) (.cond t26 (.seq (.ops [oT 27 2 3,oT 28 6 9,⟨none,(.store 2 t6 t27),none⟩,⟨none,(.store 6 t7 t28),none⟩,O 8 (.mv (I 0))] [] [(0,1),(1,2)] [1,3,5,9,26,27,28]) .ret) .skip)) (.seq (oQ [O 10 (.mv (I 0))] [10,26]) (.seq (.ops [oT 30 2 3,M 31 1,O 32 (.iad 1 t31 (I 0)),oF 33 1 32,oT 34 2 5,oT 35 2 3,M 36 1,O 37 (.iad 1 t36 (I 0)),oF 38 1 37,O 39 (.call (.f yeH) [t35,t38]),O 40 (.call (.f ygK) [t30,t33,t34,t39]),M 29 40,O 41 (.ext t29 0),O 42 (.ext t29 1),O 43 (.ext t29 2),⟨none,(.store 2 t3 t41),none⟩,O 44 (.fad 3 t9),⟨none,(.store 2 t44 t42),none⟩,M 10 43] [⟨2,(.one (.i .i64)),0⟩,⟨3,(.one (.i .i64)),0⟩,⟨7,(.one (.i .i64)),0⟩,⟨8,(.one (.i .i64)),0⟩,⟨17,(.agg [.i .i64,.i .i64,.i .i64,.i .i64,.i .i64,.i .i64]),0⟩] [(0,1),(0,2),(0,3),(0,4),(1,4),(2,4),(3,4),(0,5),(1,5),(2,5),(3,5),(4,5),(0,6),(1,6),(2,6),(3,6),(4,6),(5,6),(0,7),(1,7),(2,7),(3,7),(4,7),(5,7),(0,8),(1,8),(2,8),(3,8),(4,8),(5,8),(0,9),(1,9),(2,9),(3,9),(4,9),(12,13),(12,14),(13,14),(13,15),(14,15),(14,16),(14,17)] [29,30,31,32,33,34,35,36,37,38,39,40,41,42,43,44]) (.seq (.seq (oQ [O 11 (.mv (I 1))] []) (.block 0 (.loop 6338900 yoR))) (.seq (.seq (oQ [M 109 10,O 110 (.bin .neq t109 (I 0))] [1,5,11,52,109]) (.cond t110 (.seq (oQ [O 111 (.build [.nils,.nils] []),O 112 (.build [(.int .i64 (0)),(.int .i64 (0)),(.int .i64 (0)),(.int .i64 (0)),(.int .i64 (0)),(.int .i64 (0))] []),M 113 10,⟨none,(.store 2 t6 t111),none⟩,⟨none,(.store 6 t7 t112),none⟩,M 8 113] [3,9,10,110,111,112,113]) .ret) .skip)) (.seq (.ops [oT 114 2 3,oT 115 6 9,⟨none,(.store 2 t6 t114),none⟩,⟨none,(.store 6 t7 t115),none⟩,O 8 (.mv (I 0))] [] [(0,1),(1,2)] [3,9,10,110,114,115]) .ret))))))))⟩
def ylp:TCode:=(.seq (.seq (oQ [M 7 6,M 8 0,O 9 (.len t8),oX 10 .lss 7 9] [7,8,9]) (.cond t10 .skip (.exit 0))) (.seq (.block 1 (.seq (.ops [M 13 0,M 14 6,O 15 (.iad 1 t13 t14),oF 16 1 15,M 17 1,oX 18 .neq 16 17] [⟨2,(.one (.i .i64)),0⟩,⟨3,(.one (.i .i64)),0⟩] [] [10,13,14,15,16,17]) (.cond t18 (.ops [M 19 5,M 20 0,M 21 6,O 22 (.iad 1 t20 t21),oF 23 1 22,O 24 (.buildD 1 (.int .i64 (0)) 1 [(0,t23)]),O 25 (.app true 1 8 t19 t24),M 5 25] [⟨3,(.one (.i .i64)),0⟩,⟨4,(.one (.i .i64)),0⟩] [] [18,19,20,21,22,23,24,25]) .skip))) (oQ [M 11 6,O 12 (.bin .add t11 (I 1)),M 6 12] [11,12,18])))
def yxW:TFn:=⟨2,[.tmp 4],(.seq (oQ [O 4 (.mv (.c .nils))] [4]) (.seq (oQ [O 5 (.mv (.c .nils))] []) (.seq (.seq (oQ [O 6 (.mv (I 0))] []) (.block 0 (.loop 48587300 ylp))) (.seq (oQ [M 26 5,M 4 26] [0,1,5,6,10,26]) .ret))))⟩
def ylq:TCode:=(.seq (.seq (oQ [M 29 10,M 30 0,O 31 (.len t30),oX 32 .lss 29 31] [29,30,31]) (.cond t32 .skip (.exit 0))) (.seq (.block 1 (oQ [M 35 9,M 36 10,O 37 (.buildD 1 (.int .i64 (0)) 1 [(0,t36)]),O 38 (.app true 1 8 t35 t37),M 9 38] [32,35,36,37,38])) (oQ [M 33 10,O 34 (.bin .add t33 (I 1)),M 10 34] [33,34])))
def ylr:TCode:=(.seq (.seq (oQ [M 40 9,O 41 (.len t40),O 42 (.bin .gtr t41 (I 0))] [40,41]) (.cond t42 .skip (.exit 2))) (.block 3 (.seq (oQ [oT 44 2 6,M 45 9,oT 46 2 12,O 47 (.call (.f yht) [t44,t45,t46]),M 43 47,O 48 (.ext t43 0),O 49 (.ext t43 1),O 50 (.ext t43 2),O 13 (.allocL (.agg [.nils,.nils])),O 14 (.allocL (.agg [(.int .i64 (0)),(.int .i64 (0)),(.int .i64 (0)),(.int .i64 (0)),(.int .i64 (0)),(.int .i64 (0))])),⟨none,(.store 2 t13 t48),none⟩,⟨none,(.store 6 t14 t49),none⟩,M 15 50] [42,43,44,45,46,47,48,49,50]) (.seq (.seq (oQ [M 51 15,O 52 (.bin .neq t51 (I 0))] [51]) (.cond t52 (.seq (oQ [O 53 (.build [.nils] []),M 54 15,⟨none,(.store 1 t2 t53),none⟩,O 3 (.mv (.c .nils)),O 4 (.mv (.c .nils)),M 5 54] [6,8,9,11,12,13,14,15,52,53,54]) .ret) .skip)) (.seq (.ops [O 55 (.fad 0 t8),oF 56 1 55,O 57 (.fad 0 t14),oF 58 1 57,O 59 (.fad 1 t14),oT 60 2 59,O 61 (.fad 3 t14),oT 62 2 61,O 63 (.build [(.int .i64 (0)),(.int .i64 (0)),(.int .i64 (0)),(.int .i64 (0))] [(0,2,t60),(2,2,t62)]),O 64 (.buildD 4 (.agg [(.int .i64 (0)),(.int .i64 (0)),(.int .i64 (0)),(.int .i64 (0))]) 1 [(0,t63)]),O 65 (.iad 1 t56 t58),⟨none,(.store 1 t65 t64),none⟩] [⟨1,(.agg [.d]),0⟩,⟨3,(.agg [.i .i64,.i .i64,.i .i64,.i .i64,.i .i64,.i .i64]),0⟩,⟨5,(.agg [.i .i64,.i .i64,.i .i64,.i .i64,.i .i64,.i .i64]),0⟩,⟨7,(.agg [.i .i64,.i .i64,.i .i64,.i .i64,.i .i64,.i .i64]),0⟩,⟨10,(.one (.d)),0⟩,⟨11,(.one (.d)),0⟩] [] [15,52,55,56,57,58,59,60,61,62,63,64,65]) (.seq (oQ [M 66 11,oT 67 6 14,O 68 (.buildD 6 (.agg [(.int .i64 (0)),(.int .i64 (0)),(.int .i64 (0)),(.int .i64 (0)),(.int .i64 (0)),(.int .i64 (0))]) 1 [(0,t67)]),O 69 (.app true 6 48 t66 t68),M 11 69] [66,67,68,69]) (.ops [oT 70 2 13,O 71 (.fad 3 t14),oT 72 2 71,M 73 9,O 74 (.fad 0 t14),oF 75 1 74,O 76 (.call (.f yfq) [t73,t75]),⟨none,(.store 2 t6 t70),none⟩,⟨none,(.store 2 t12 t72),none⟩,M 9 76] [⟨2,(.agg [.i .i64,.i .i64,.i .i64,.i .i64,.i .i64,.i .i64]),0⟩,⟨5,(.agg [.i .i64,.i .i64,.i .i64,.i .i64,.i .i64,.i .i64]),0⟩] [(0,1),(0,2),(0,3),(1,3),(2,3),(0,4),(1,4),(2,4),(3,4),(0,5),(1,5),(2,5),(3,5),(0,6),(1,6),(2,6),(1,7),(2,7)] [13,14,70,71,72,73,74,75,76])))))))
def yIb:TFn:=⟨1,[.cell 2 true 1,.tmp 3,.tmp 4,.tmp 5],(.seq (oQ [O 2 (.allocL (.agg [.nils])),O 3 (.mv (.c .nils)),O 4 (.mv (.c .nils)),O 5 (.mv (I 0))] [3,4,5]) (.seq (oQ [M 17 0,O 18 (.call (.f yiC) [t17]),M 16 18,O 19 (.ext t16 0),O 20 (.ext t16 1),O 6 (.allocL (.agg [.nils,.nils])),⟨none,(.store 2 t6 t19),none⟩,M 7 20] [16,17,18,19,20]) (.seq (.seq (oQ [M 21 7,O 22 (.bin .neq t21 (I 0))] [21]) (.cond t22 (.seq (oQ [O 23 (.build [.nils] []),M 24 7,⟨none,(.store 1 t2 t23),none⟩,O 3 (.mv (.c .nils)),O 4 (.mv (.c .nils)),M 5 24] [0,6,7,22,23,24]) .ret) .skip)) (.seq (oQ [M 25 0,O 26 (.len t25),O 27 (.mkSl true 1 24 (.data []) t26 t26),O 28 (.build [.nils] [(0,1,t27)]),O 8 (.allocL (.agg [.nils])),⟨none,(.store 1 t8 t28),none⟩] [7,22,25,26,27,28]) (.seq (oQ [O 9 (.mv (.c .nils))] []) (.seq (.seq (oQ [O 10 (.mv (I 0))] []) (.block 0 (.loop 34422000 ylq))) (.seq (oQ [O 11 (.mv (.c .nils))] [0,10,32]) (.seq (oQ [O 39 (.call (.f ycA) [(I 0)]),O 12 (.allocL (.agg [(.int .i64 (0)),(.int .i64 (0))])),⟨none,(.store 2 t12 t39),none⟩] [39]) (.seq (.block 2 (.loop 34422001 ylr)) (.seq (.ops [oT 77 1 8,M 78 11,O 79 (.fad 1 t6),oF 80 1 79,⟨none,(.store 1 t2 t77),none⟩,M 3 78,M 4 80,O 5 (.mv (I 0))] [⟨3,(.agg [.d,.d]),0⟩] [(0,1),(0,2),(1,2),(0,3),(1,3),(1,4),(2,4),(3,4),(2,5),(3,5)] [6,8,9,11,12,42,77,78,79,80]) .ret))))))))))⟩
def yls:TCode:=(.seq (.seq (oQ [M 11 5,M 12 0,O 13 (.len t12),oX 14 .lss 11 13] [11,12,13]) (.cond t14 .skip (.exit 0))) (.seq (.block 1 (.seq (.ops [M 17 0,M 18 5,O 19 (.iad 4 t17 t18),oT 20 4 19,M 21 1,M 22 5,O 23 (.iad 4 t21 t22),oT 24 4 23,O 25 (.eqA true 4 [(0,(some .i64)),(1,(some .i64)),(2,(some .i64)),(3,(some .i64))] t20 t24)] [⟨2,(.agg [.i .i64,.i .i64,.i .i64,.i .i64]),0⟩,⟨3,(.agg [.i .i64,.i .i64,.i .i64,.i .i64]),0⟩,⟨6,(.agg [.i .i64,.i .i64,.i .i64,.i .i64]),0⟩,⟨7,(.agg [.i .i64,.i .i64,.i .i64,.i .i64]),0⟩] [(0,1),(0,4),(1,4),(2,4),(3,4),(0,5),(1,5),(2,5),(3,5),(4,5),(0,6),(1,6),(2,6),(3,6),(0,7),(1,7),(2,7),(3,7)] [14,17,18,19,20,21,22,23,24]) (.cond t25 (.seq (oQ [O 4 (.mv (.c (.bool false)))] [0,1,5,25]) .ret) .skip))) (oQ [M 15 5,O 16 (.bin .add t15 (I 1)),M 5 16] [15,16,25])))
def yFF:TFn:=⟨2,[.tmp 4],(.seq (oQ [O 4 (.mv (.c (.bool false)))] [4]) (.seq (.seq (oQ [M 6 0,O 7 (.len t6),M 8 1,O 9 (.len t8),oX 10 .neq 7 9] [6,7,8,9]) (.cond t10 (.seq (oQ [O 4 (.mv (.c (.bool false)))] [0,1,10]) .ret) .skip)) (.seq (.seq (oQ [O 5 (.mv (I 0))] [10]) (.block 0 (.loop 27088800 yls))) (.seq (oQ [O 4 (.mv (.c (.bool true)))] [0,1,5,14]) .ret))))⟩
def ylt:TCode:=(.seq (.seq (.ops [M 13 5,O 14 (.fad 0 t2),oF 15 1 14,O 16 (.len t15),oX 17 .lss 13 16] [⟨2,(.agg [.d]),0⟩] [] [13,14,15,16]) (.cond t17 .skip (.exit 0))) (.seq (.block 1 (.seq (.ops [O 20 (.fad 0 t2),oF 21 1 20,M 22 5,O 23 (.iad 1 t21 t22),oF 24 1 23,O 25 (.fad 0 t3),oF 26 1 25,M 27 5,O 28 (.iad 1 t26 t27),oF 29 1 28,O 30 (.call (.f yiF) [t24,t29]),O 31 (.un .not t30)] [⟨1,(.agg [.d]),0⟩,⟨3,(.one (.d)),0⟩,⟨4,(.one (.d)),0⟩,⟨6,(.agg [.d]),0⟩,⟨8,(.one (.d)),0⟩,⟨9,(.one (.d)),0⟩] [(0,2),(1,2),(0,5),(1,5),(2,5),(3,5),(4,5),(0,6),(1,6),(2,6),(3,6),(4,6),(0,7),(1,7),(2,7),(3,7),(4,7),(5,7),(6,7),(0,8),(1,8),(2,8),(3,8),(4,8),(0,9),(1,9),(2,9),(3,9),(4,9)] [17,20,21,22,23,24,25,26,27,28,29,30]) (.cond t31 (.seq (oQ [O 4 (.mv (.c (.bool false)))] [2,3,5,31]) .ret) .skip))) (oQ [M 18 5,O 19 (.bin .add t18 (I 1)),M 5 19] [18,19,31])))
def yFG:TFn:=⟨2,[.tmp 4],(.seq (oQ [O 2 (.boxL t0),O 3 (.boxL t1),O 4 (.mv (.c (.bool false)))] [0,1,4]) (.seq (.seq (.ops [O 6 (.fad 0 t2),oF 7 1 6,O 8 (.len t7),O 9 (.fad 0 t3),oF 10 1 9,O 11 (.len t10),oX 12 .neq 8 11] [⟨1,(.agg [.d]),0⟩,⟨4,(.agg [.d]),0⟩] [] [6,7,8,9,10,11]) (.cond t12 (.seq (oQ [O 4 (.mv (.c (.bool false)))] [2,3,12]) .ret) .skip)) (.seq (.seq (oQ [O 5 (.mv (I 0))] [12]) (.block 0 (.loop 70742100 ylt))) (.seq (oQ [O 4 (.mv (.c (.bool true)))] [2,3,5,17]) .ret))))⟩
def ylu:TCode:=(.seq (.seq (oQ [M 11 5,M 12 0,O 13 (.len t12),oX 14 .lss 11 13] [11,12,13]) (.cond t14 .skip (.exit 0))) (.seq (.block 1 (.seq (.ops [M 17 0,M 18 5,O 19 (.iad 6 t17 t18),oT 20 6 19,M 21 1,M 22 5,O 23 (.iad 6 t21 t22),oT 24 6 23,O 25 (.eqA true 6 [(0,(some .i64)),(1,(some .i64)),(2,(some .i64)),(3,(some .i64)),(4,(some .i64)),(5,(some .i64))] t20 t24)] [⟨2,(.agg [.i .i64,.i .i64,.i .i64,.i .i64,.i .i64,.i .i64]),0⟩,⟨3,(.agg [.i .i64,.i .i64,.i .i64,.i .i64,.i .i64,.i .i64]),0⟩,⟨6,(.agg [.i .i64,.i .i64,.i .i64,.i .i64,.i .i64,.i .i64]),0⟩,⟨7,(.agg [.i .i64,.i .i64,.i .i64,.i .i64,.i .i64,.i .i64]),0⟩] [(0,1),(0,4),(1,4),(2,4),(3,4),(0,5),(1,5),(2,5),(3,5),(4,5),(0,6),(1,6),(2,6),(3,6),(0,7),(1,7),(2,7),(3,7)] [14,17,18,19,20,21,22,23,24]) (.cond t25 (.seq (oQ [O 4 (.mv (.c (.bool false)))] [0,1,5,25]) .ret) .skip))) (oQ [M 15 5,O 16 (.bin .add t15 (I 1)),M 5 16] [15,16,25])))
def yuK:TFn:=⟨2,[.tmp 4],(.seq (oQ [O 4 (.mv (.c (.bool false)))] [4]) (.seq (.seq (oQ [M 6 0,O 7 (.len t6),M 8 1,O 9 (.len t8),oX 10 .neq 7 9] [6,7,8,9]) (.cond t10 (.seq (oQ [O 4 (.mv (.c (.bool false)))] [0,1,10]) .ret) .skip)) (.seq (.seq (oQ [O 5 (.mv (I 0))] [10]) (.block 0 (.loop 32519300 ylu))) (.seq (oQ [O 4 (.mv (.c (.bool true)))] [0,1,5,14]) .ret))))⟩
def ylv:TCode:=(.seq (.seq (oQ [M 11 5,M 12 0,O 13 (.len t12),oX 14 .lss 11 13] [11,12,13]) (.cond t14 .skip (.exit 0))) (.seq (.block 1 (.seq (.ops [M 17 0,M 18 5,O 19 (.iad 8 t17 t18),oT 20 8 19,M 21 1,M 22 5,O 23 (.iad 8 t21 t22),oT 24 8 23,O 25 (.eqA true 8 [(0,(some .i64)),(1,(some .u8)),(2,(some .i64)),(3,(some .i64)),(4,(some .i64)),(5,(some .i64)),(6,(some .i64)),(7,(some .i64))] t20 t24)] [⟨2,(.agg [.i .i64,.i .u8,.i .i64,.i .i64,.i .i64,.i .i64,.i .i64,.i .i64]),0⟩,⟨3,(.agg [.i .i64,.i .u8,.i .i64,.i .i64,.i .i64,.i .i64,.i .i64,.i .i64]),0⟩,⟨6,(.agg [.i .i64,.i .u8,.i .i64,.i .i64,.i .i64,.i .i64,.i .i64,.i .i64]),0⟩,⟨7,(.agg [.i .i64,.i .u8,.i .i64,.i .i64,.i .i64,.i .i64,.i .i64,.i .i64]),0⟩] [(0,1),(0,4),(1,4),(2,4),(3,4),(0,5),(1,5),(2,5),(3,5),(4,5),(0,6),(1,6),(2,6),(3,6),(0,7),(1,7),(2,7),(3,7)] [14,17,18,19,20,21,22,23,24]) (.cond t25 (.seq (oQ [O 4 (.mv (.c (.bool false)))] [0,1,5,25]) .ret) .skip))) (oQ [M 15 5,O 16 (.bin .add t15 (I 1)),M 5 16] [15,16,25])))
def ywD:TFn:=⟨2,[.tmp 4],(.seq (oQ [O 4 (.mv (.c (.bool false)))] [4]) (.seq (.seq (oQ [M 6 0,O 7 (.len t6),M 8 1,O 9 (.len t8),oX 10 .neq 7 9] [6,7,8,9]) (.cond t10 (.seq (oQ [O 4 (.mv (.c (.bool false)))] [0,1,10]) .ret) .skip)) (.seq (.seq (oQ [O 5 (.mv (I 0))] [10]) (.block 0 (.loop 11728400 ylv))) (.seq (oQ [O 4 (.mv (.c (.bool true)))] [0,1,5,14]) .ret))))⟩
def ywE:TFn:=⟨2,[.tmp 4],(.seq (oQ [O 4 (.mv (.c (.bool false)))] [4]) (.seq (.seq (oQ [M 17 0,O 18 (.call (.f ydL) [t17])] [17]) (.cond t18 (.seq (oQ [O 4 (.mv (.c (.bool true)))] [0,1,18]) .ret) .skip)) (.seq (oQ [M 20 1,O 21 (.call (.f ygg) [t20]),M 19 21,O 22 (.ext t19 0),O 23 (.ext t19 1),M 5 22,M 6 23] [18,19,20,21,22,23]) (.seq (oQ [M 25 1,O 26 (.call (.f yhk) [t25]),M 24 26,O 27 (.ext t24 0),O 28 (.ext t24 1),M 7 27,M 8 28] [1,24,25,26,27,28]) (.seq (oQ [M 30 0,O 31 (.call (.f yiA) [t30]),M 29 31,O 32 (.ext t29 0),O 33 (.ext t29 1),O 34 (.ext t29 2),O 35 (.ext t29 3),O 9 (.allocL (.agg [.nils])),⟨none,(.store 1 t9 t32),none⟩,M 10 33,M 11 34,M 12 35] [29,30,31,32,33,34,35]) (.seq (oQ [M 37 0,O 38 (.call (.f ykq) [t37]),M 36 38,O 39 (.ext t36 0),O 40 (.ext t36 1),O 41 (.ext t36 2),O 42 (.ext t36 3),O 13 (.allocL (.agg [.nils])),⟨none,(.store 1 t13 t39),none⟩,M 14 40,M 15 41,M 16 42] [0,36,37,38,39,40,41,42]) (.seq (oQ [M 43 5,M 44 7,oX 45 .eql 43 44,M 46 45,⟨some 47,(.mv t6),some (46,true)⟩,⟨some 48,(.mv t8),some (46,true)⟩,⟨some 49,(.bin .eql t47 t48),some (46,true)⟩,O 50 (.pick t46 t49 (.c (.bool false))),M 51 50,⟨some 52,(.load true 1 t9),some (51,true)⟩,⟨some 53,(.load true 1 t13),some (51,true)⟩,⟨some 54,(.call (.f yiG) [t52,t53]),some (51,true)⟩,O 55 (.pick t51 t54 (.c (.bool false))),M 56 55,⟨some 57,(.mv t10),some (56,true)⟩,⟨some 58,(.mv t14),some (56,true)⟩,⟨some 59,(.call (.f yei) [t57,t58]),some (56,true)⟩,O 60 (.pick t56 t59 (.c (.bool false))),M 61 60,⟨some 62,(.mv t11),some (61,true)⟩,⟨some 63,(.mv t15),some (61,true)⟩,⟨some 64,(.call (.f yeM) [t62,t63]),some (61,true)⟩,O 65 (.pick t61 t64 (.c (.bool false))),M 66 65,⟨some 67,(.mv t12),some (66,true)⟩,⟨some 68,(.mv t16),some (66,true)⟩,⟨some 69,(.bin .eql t67 t68),some (66,true)⟩,O 70 (.pick t66 t69 (.c (.bool false))),M 4 70] [5,6,7,8,9,10,11,12,13,14,15,16,43,44,45,46,47,48,49,50,51,52,53,54,55,56,57,58,59,60,61,62,63,64,65,66,67,68,69,70]) .ret)))))))⟩
def tab:List (Nat×AFn):=[(yhj,yCR.fn),(ydL,ys8.fn),(ygg,yAb.fn),(yhk,yCS.fn),(yeh,yuI.fn),(yc8,yuJ.fn),(ybn,yAc.fn),(ycH,yCT.fn),(ybG,yG9.fn),(ydl,yAd.fn),(ygG,yFq.fn),(yax,yrH.fn),(ycD,yAe.fn),(ybx,ys9.fn),(ygh,yAf.fn),(yhl,yCU.fn),(yaL,yAg.fn),(yby,yCV.fn),(ybH,ywB.fn),(ygi,yAh.fn),(ye3,yAi.fn),(ybk,yxU.fn),(yaU,yAj.fn),(ycY,yqA.fn),(yaZ,yxV.fn),(ycj,yrI.fn),(ycz,yo3.fn),(ycP,yH0.fn),(ybU,yqB.fn),(ybz,ynn.fn),(ygj,yAk.fn),(yeF,yCW.fn),(ybg,yCX.fn),(ycE,yAl.fn),(ykm,yH1.fn),(ycZ,yqC.fn),(ygH,yH2.fn),(ykn,yH3.fn),(ycI,yCY.fn),(ydm,yCZ.fn),(ybW,yC0.fn),(yfO,yC1.fn),(yem,ypB.fn),(ynm,yC2.fn),(yhm,yC3.fn),(ydn,yrJ.fn),(ydM,ykr.fn),(yiz,yFr.fn),(ydN,ywC.fn),(ygk,yAm.fn),(yc0,yqD.fn),(yhn,yC4.fn),(yho,yC5.fn),(yd9,yAn.fn),(yaP,yjh.fn),(yer,ymY.fn),(ycF,ylf.fn),(yc9,yIO.fn),(yg8,ypC.fn),(yiA,yFu.fn),(ybN,yC7.fn),(ydo,yC8.fn),(yiB,yFv.fn),(yeG,yC9.fn),(yiC,yFw.fn),(ycA,yJv.fn),(yhp,yDa.fn),(ybc,yH4.fn),(ycQ,yH5.fn),(yea,yFx.fn),(yiD,yFy.fn),(yeH,yDb.fn),(yhq,yDc.fn),(ybX,yDd.fn),(ybA,yDe.fn),(yeI,yFz.fn),(ya4,yFA.fn),(yd1,yDf.fn),(yeJ,yDg.fn),(ygl,yAo.fn),(ybv,yFB.fn),(yko,yH6.fn),(yfy,yFC.fn),(yfP,yDh.fn),(yfQ,yDi.fn),(ye6,yH7.fn),(ygI,yH8.fn),(ygJ,yH9.fn),(yeK,yDj.fn),(yhr,yDk.fn),(ykp,yIa.fn),(yiE,yFD.fn),(ygm,yAp.fn),(yeL,yDl.fn),(ygK,yFE.fn),(yhs,yDm.fn),(yht,yDn.fn),(yfq,yxW.fn),(ykq,yIb.fn),(yiF,yFF.fn),(yiG,yFG.fn),(yei,yuK.fn),(yeM,ywD.fn),(yiH,ywE.fn)]
def quiL:List Nat:=[yhj,ydL,ygg,yhk,yeh,yc8,ybn,ycH,ybG,ydl,ygG,ycD,ybx,ygh,yhl,yaL,yby,ybH,ygi,ye3,ybk,yaU,ycY,yaZ,ycj,ycz,ycP,ybU,ybz,ygj,yeF,ybg,ycE,ye4,ye5,ykm,ycZ,ygH,ykn,ycI,ydm,ybW,yfO,yhm,ydn,yiz,ygk,yc0,yhn,yho,yiA,ybN,ydo,yiB,yeG,yiC,ycA,yhp,ybc,ycQ,yea,yiD,yeH,yhq,ybX,ybA,yeI,ya4,yd1,yeJ,ygl,ybv,yko,yfy,yfP,yfQ,ye6,ygI,ygJ,yeK,yhr,ykp,yiE,ygm,yeL,ygK,yhs,yht,yfq,ykq,yiF,yiG,yei,yeM,yiH,(yd9+4000000)]
def cloL:yeE:=[(ybG,1,8)]
def gloL:List (Nat×PV):=[]
def E (ef:Es):Env:=ynk ye4 ye5 tab quiL cloL gloL ef
def E0C:Env:=ymL ye4 ye5 tab quiL cloL gloL
def yHa:List Nat:=[]
abbrev EG (e:Es):Prop:=EffG E yHa e
theorem yaG:EG []:=⟨fun _ _ _ _ h=>(by cases h),fun _ _ _ _=>rfl⟩
theorem okU {e:Es} (he:EG e) {P:EP} {S:SE} {d n:Nat} {t:TFn} {s:Sg} {w:s.W} (hq:EqW S d t s w) (hS:SEOk P S) (hR:yiy P S.E (yki S d) t.body) (hl:LpOk P S.E S.lp [] t.body) (hE:S.E=E e:=by rfl) (hs:yvC ye4 ye5 cloL n=false:=by kernel_rfl) (hm:memN yHa n=false:=by kernel_rfl) (hf:S.E.fns n=some t.fn:=by kernel_rfl) (hu:S.E.qui n=true:=by kernel_rfl) (hn:S.E.nl n=false:=by kernel_rfl):∀ as K,s.pw w as K→∃ r,K r∧AnsP P n as r:=okW hq hS hR hl (fun _=>by rw [hE];exact ybu hs _) (by rw [hE];exact he.num _ hm) hf hu hn
abbrev yck:Type:=Ls→(Ls→Prop)→Prop
def ydp (p0:Ls) (K:Ls→Prop):Prop:=yG6 1 8 p0 K
def yqE (w:Ls→(Ls→Prop)→Prop) (as:Ls) (K:PV→Prop):Prop:=ywx w as K
def yqF (as:Ls) (K:PV→Prop):Prop:=ywy 1 8 as K
theorem yqG (e:Es) (_:EG e):OkF (E e) yqF ybG:=yHX (by kernel_rfl) (by kernel_rfl) (by kernel_rfl)
abbrev yzk:Type:=Int→Int→Int→(Int→Int→Prop)→Prop
abbrev yzl:Type:=Int→Int→Int→(Int→Int→Prop)→Prop
theorem yFH (e:Es) (_:EG e):OkF (E e) yqx ye4:=yHY
theorem yFI (e:Es) (_:EG e):OkF (E e) yqz ye5:=yHZ (by kernel_rfl)
end Go.Pf.Vc
namespace Go.Pf.Vc
open Go Go.Pf
set_option maxRecDepth 100000
abbrev yaq:Type:=Int→(Int→Prop)→Prop
def yjB (p0:Int) (K:Int→Prop):Prop :=
 (cbr (decide (p0<(0:Int)))
 (K (IntKind.u64.wrap ((0:Int)-(IntKind.u64.wrap p0))))
 (K (IntKind.u64.wrap p0)))
def ydq:yaq:=yjB
def pt0:VPt:=vI IntKind.i64
def pt1:LPt:=lC pt0 lN
def ypD:Sg:=⟨pt1,Int→Prop,fun K=>(fun r0=>K (.int .u64 r0))⟩
def yxX (e:Es):SE:=sE (E e) [] lp0
theorem yxY (e:Es):EqW (yxX e) 6 yAg ypD yjB:=fun _ _=>by kernel_rfl
theorem yfr (e:Es) (he:EG e):OkF (E e) (ypD.pw ydq) yaL:=okU he (yxY e) (yah (Sub.uni _) trivial trivial he.ok) yiy.flat (yaf (by kernel_rfl))
abbrev yao:Type:=Int→Int→(Int→Prop)→Prop
def yej (x0:Int→Int→Bool→Prop):Nat→Int→Int→Prop
 | 0,_,_=>False
 | n+1,i0,i1 =>
 (cbr (decide (i1>(0:Int)))
 (asr (!(decide (i1=(0:Int))))
 (yej x0 n i1 (Int.tmod i0 i1)))
 (x0 i0 i1 false))
def ylw (p0 p1:Int) (K:Int→Prop):Prop :=
 (∃ n:Nat,yej
 (fun a _ _=>(K a))
 n p0 p1)
def ybO:yao:=ylw
def pt2:VPt:=vI IntKind.u64
def pt3:LPt:=lC pt2 lN
def pt4:LPt:=lC pt2 pt3
def yrK:Sg:=⟨pt4,Int→Prop,fun K=>(fun r0=>K (.int .u64 r0))⟩
def yuL (Q:Qx):Int→Int→Bool→Prop:=(fun i0 i1 b2=>Q (.exit 0) [(0,.v (.int .u64 i0)),(1,.v (.int .u64 i1)),(6,.v (.bool b2))] [])
def pt5:Pat Sta:=pS hN (fV 0 pt2 (fV 1 pt2 fN)) fN
def yno (Q:Qx):List St:=[⟨pt5,yej (yuL Q)⟩]
def yrL:LP:=lpS [(32725300,yno)]
def ylx (e:Es):SE:=sE (E e) [] (yrL)
theorem ypE (e:Es) (he:EG e):SEOk (Uni (E e)) (ylx e):=yah (Sub.uni _) trivial trivial he.ok
theorem yta (e:Es):ybQ (ylx e) 5 a yk5 false (yno):=fun _=>⟨fun _=>by kernel_rfl,fun _ _=>by kernel_rfl,trivial⟩
theorem ytb (e:Es) (he:EG e):LpT (Uni (E e)) (yrL) [] 32725300 (.loop 32725300 yk5):=fun _ _ _=>yni.st (Sub.uni _) (yat (ypE e he) 5) (YOk.no _ _) (yaf (by kernel_rfl)) (yta e _)
theorem yAq (e:Es):EqW (ylx e) 6 yCV yrK ylw:=fun _ _=>by kernel_rfl
theorem yhS (e:Es) (he:EG e):OkF (E e) (yrK.pw ybO) yby:=okU he (yAq e) (ypE e he) yiy.flat (yaR (l:=[(32725300,.loop 32725300 yk5)]) ⟨ytb e he,trivial⟩ (by kernel_rfl))
abbrev yc1:Type:=Bool→Int→Int→(Int→Int→Int→Prop)→Prop
def yhB (p0:Bool) (p1 p2:Int) (K:Int→Int→Int→Prop):Prop :=
 (cbr (decide ((if p2>p1 then p2 else p1)>(1000000000000000000:Int)))
 (K (0:Int) (0:Int) (16:Int))
 (cbr p0
 (K (IntKind.i64.wrap ((0:Int)-(IntKind.i64.wrap p1))) (IntKind.i64.wrap p2) (0:Int))
 (K (IntKind.i64.wrap p1) (IntKind.i64.wrap p2) (0:Int))))
def ybI:yc1:=yhB
def yuM:Sg:=⟨(lC vB pt4),Int→Int→Int→Prop,fun K=>(fun r0 r1 r2=>K (.tup [(.agg [(.int .i64 r0),(.int .i64 r1)]),(.int .i64 r2)]))⟩
def yuN (e:Es):SE:=sE (E e) [] lp0
theorem yuO (e:Es):EqW (yuN e) 6 ywB yuM yhB:=fun _ _=>by kernel_rfl
theorem yhC (e:Es) (he:EG e):OkF (E e) (yuM.pw ybI) ybH:=okU he (yuO e) (yah (Sub.uni _) trivial trivial he.ok) yiy.flat (yaf (by kernel_rfl))
abbrev ye7:Type:=Int→Int→(Int→Int→Int→Prop)→Prop
def yjC (a0:yaq) (a1:yao) (a2:yc1) (p0 p1:Int) (K:Int→Int→Int→Prop):Prop :=
 (cbr (p1 ==(0:Int))
 (K (0:Int) (0:Int) (18:Int))
 (a0 p0 (fun b =>
 (a0 p1 (fun c =>
 (a1 b c (fun a =>
 (asr (!(decide (a=(0:Int))))
 (asr (!(decide (a=(0:Int))))
 (a2 ((decide (p0<(0:Int))) !=(decide (p1<(0:Int)))) (IntKind.u64.wrap (Int.tdiv b a)) (IntKind.u64.wrap (Int.tdiv c a)) (fun d e f =>
 (K d e f))))))))))))
def yeb:ye7:=yjC ydq ybO ybI
def pt6:LPt:=lC pt0 pt1
def ypF:Sg:=⟨pt6,Int→Int→Int→Prop,fun K=>(fun r0 r1 r2=>K (.tup [(.agg [(.int .i64 r0),(.int .i64 r1)]),(.int .i64 r2)]))⟩
def yxZ (e:Es) (a0:yaq) (a1:yao) (a2:yc1):SE:=sE (E e) [(yaL,ypD.pw a0),(yby,yrK.pw a1),(ybH,yuM.pw a2)] lp0
theorem yx0 (e:Es) (a0 a1 a2):EqW (yxZ e a0 a1 a2) 6 yAh ypF (yjC a0 a1 a2):=fun _ _=>by kernel_rfl
theorem ypG (e:Es) (he:EG e):OkF (E e) (ypF.pw yeb) ygi:=okU he (yx0 e _ _ _) (yah (Sub.uni _) ⟨(yfr e he),(yhS e he),(yhC e he),trivial⟩ trivial he.ok) yiy.flat (yaf (by kernel_rfl))
def yiI (a0:yaq) (a1:yao) (p0 p1:Int) (K:Int→Prop):Prop :=
 (cbr (decide (p1<(1:Int)))
 (K (8:Int))
 (a0 p0 (fun a =>
 (cbr (decide ((if (IntKind.u64.wrap p1)>a then (IntKind.u64.wrap p1) else a)>(1000000000000000000:Int)))
 (K (8:Int))
 (a0 p0 (fun b =>
 (a1 b (IntKind.u64.wrap p1) (fun c =>
 (cbr (decide (c>(1:Int)))
 (K (8:Int))
 (K (0:Int)))))))))))
def ya0:yao:=yiI ydq ybO
def pt7:VPt:=vA pt6
def pt8:LPt:=lC pt7 lN
def ynp:Sg:=⟨pt8,Int→Prop,fun K=>(fun r0=>K (.int .i64 r0))⟩
def ywF (e:Es) (a0:yaq) (a1:yao):SE:=sE (E e) [(yaL,ypD.pw a0),(yby,yrK.pw a1)] lp0
theorem ywG (e:Es) (a0 a1):EqW (ywF e a0 a1) 6 yxU ynp (yiI a0 a1):=fun _ _=>by kernel_rfl
theorem yeN (e:Es) (he:EG e):OkF (E e) (ynp.pw ya0) ybk:=okU he (ywG e _ _) (yah (Sub.uni _) ⟨(yfr e he),(yhS e he),trivial⟩ trivial he.ok) yiy.flat (yaf (by kernel_rfl))
abbrev yas:Type:=Ls→(Int→Prop)→Prop
def ybd (x0:Int→Prop) (x1:Int→Ls→Int→Int→Bool→Prop):Nat→Int→Ls→Int→Int→Prop
 | 0,_,_,_,_=>False
 | n+1,i0,l1,i2,i3 =>
 (cbr (decide (i3<i2))
 (asr (decide ((0:Int)≤i3))
 (asr (decide (i3<(((List.length l1):Nat):Int)))
 (asr (conf (.one (.i .i64)) (List.getD l1 (i3.toNat) .nils))
 (cbr ((yab (List.getD l1 (i3.toNat) .nils)) != i0)
 (x0 (yab (List.getD l1 (i3.toNat) .nils)))
 (ybd x0 x1 n i0 l1 i2 (IntKind.i64.wrap (i3+(1:Int))))))))
 (x1 i0 l1 i2 i3 false))
def yfh (p0:Ls) (K:Int→Prop):Prop :=
 (∃ n:Nat,ybd
 (fun a=>(K a))
 (fun b _ _ _ _=>(K b))
 n (0:Int) p0 (((List.length p0):Nat):Int) (0:Int))
def yec:yas:=yfh
def pt9:LPt:=lC vD lN
def ydI:Sg:=⟨pt9,Int→Prop,fun K=>(fun r0=>K (.int .i64 r0))⟩
def yly (Q:Qx):Int→Prop:=(fun i0=>Q .ret [(2,.v (.int .i64 i0))] [])
def ylz (Q:Qx):Int→Ls→Int→Int→Bool→Prop:=(fun i0 l1 i2 i3 b4=>Q (.exit 0) [(3,.v (.int .i64 i0)),(6,.v (.data l1)),(7,.v (.int .i64 i2)),(8,.v (.int .i64 i3)),(9,.v (.bool b4))] [])
def pt10:Pat Frm:=fV 7 pt0 (fV 8 pt0 fN)
def pt11:Pat Sta:=pS hN (fV 3 pt0 (fV 6 vD pt10)) fN
def ygz (Q:Qx):List St:=[⟨pt11,ybd (yly Q) (ylz Q)⟩]
def yhK:LP:=lpS [(38508400,ygz)]
def yfi (e:Es):SE:=sE (E e) [] (yhK)
theorem yhu (e:Es) (he:EG e):SEOk (Uni (E e)) (yfi e):=yah (Sub.uni _) trivial trivial he.ok
theorem yks (e:Es):ybQ (yfi e) 5 a yk6 false (ygz):=fun _=>⟨fun _=>by kernel_rfl,fun _ _=>by kernel_rfl,trivial⟩
theorem ykt (e:Es) (he:EG e):LpT (Uni (E e)) (yhK) [] 38508400 (.loop 38508400 yk6):=fun _ _ _=>yni.st (Sub.uni _) (yat (yhu e he) 5) (YOk.no _ _) (yaf (by kernel_rfl)) (yks e _)
theorem yo4 (e:Es):EqW (yfi e) 6 yqA ydI yfh:=fun _ _=>by kernel_rfl
theorem yo5 (e:Es) (he:EG e):OkF (E e) (ydI.pw yec) ycY:=okU he (yo4 e) (yhu e he) yiy.flat (yaR (l:=[(38508400,.loop 38508400 yk6)]) ⟨ykt e he,trivial⟩ (by kernel_rfl))
abbrev yaB:Type:=Int→Int→Int→Int→(Int→Prop)→Prop
def yiJ (a0:yao) (a1:yas) (p0 p1 p2 p3:Int) (K:Int→Prop):Prop :=
 (a0 p0 p1 (fun a =>
 (a0 p2 p3 (fun b =>
 (a1 ([(.int .i64 a),(.int .i64 b)]:Ls) (fun c =>
 (K c)))))))
def ycL:yaB:=yiJ ya0 yec
def pt12:LPt:=lC pt7 pt8
def ynq:Sg:=⟨pt12,Int→Prop,fun K=>(fun r0=>K (.int .i64 r0))⟩
def ywH (e:Es) (a0:yao) (a1:yas):SE:=sE (E e) [(ybk,ynp.pw a0),(ycY,ydI.pw a1)] lp0
theorem ywI (e:Es) (a0 a1):EqW (ywH e a0 a1) 6 yxV ynq (yiJ a0 a1):=fun _ _=>by kernel_rfl
theorem yeO (e:Es) (he:EG e):OkF (E e) (ynq.pw ycL) yaZ:=okU he (ywI e _ _) (yah (Sub.uni _) ⟨(yeN e he),(yo5 e he),trivial⟩ trivial he.ok) yiy.flat (yaf (by kernel_rfl))
abbrev ycl:Type:=Int→(Bool→Prop)→Prop
def yfz (p0:Int) (K:Bool→Prop):Prop :=
 (K (p0 != p0))
def ygn:ycl:=yfz
def yqH:Sg:=⟨pt1,Bool→Prop,fun K=>(fun r0=>K (.bool r0))⟩
def yqI (e:Es):SE:=sE (E e) [] lp0
theorem yqJ (e:Es):EqW (yqI e) 6 yrI yqH yfz:=fun _ _=>by kernel_rfl
theorem yqK (e:Es) (he:EG e):OkF (E e) (yqH.pw ygn) ycj:=okU he (yqJ e) (yah (Sub.uni _) trivial trivial he.ok) yiy.flat (yaf (by kernel_rfl))
def yeP (a0:ycl) (p0 p1:Int) (K:Int→Prop):Prop :=
 (a0 p0 (fun b =>
 (a0 p1 (fun a =>
 (cbr b
 (cbr a
 (K (0:Int))
 (K (-1:Int)))
 (cbr a
 (K (1:Int))
 (cbr (decide (p0<p1))
 (K (-1:Int))
 (cbr (decide (p0>p1))
 (K (1:Int))
 (K (0:Int))))))))))
def ydJ:yao:=yeP ygn
def ynr:Sg:=⟨pt6,Int→Prop,fun K=>(fun r0=>K (.int .i64 r0))⟩
def yns (e:Es) (a0:ycl):SE:=sE (E e) [(ycj,yqH.pw a0)] lp0
theorem ynt (e:Es) (a0):EqW (yns e a0) 6 yo3 ynr (yeP a0):=fun _ _=>by kernel_rfl
theorem ynu (e:Es) (he:EG e):OkF (E e) (ynr.pw ydJ) ycz:=okU he (ynt e _) (yah (Sub.uni _) ⟨(yqK e he),trivial⟩ trivial he.ok) yiy.flat (yaf (by kernel_rfl))
abbrev ybB:Type:=Int→Int→(Int→Int→Prop)→Prop
def yqL (p0 p1:Int) (K:Int→Int→Prop):Prop :=
 (K (IntKind.u64.wrap ((IntKind.u64.wrap ((IntKind.u64.wrap ((Int.fdiv p0 4294967296)*(Int.fdiv p1 4294967296)))+(Int.fdiv (IntKind.u64.wrap ((IntKind.u64.wrap ((Int.fdiv p0 4294967296)*(IntKind.u64.wrap (BitVec.ofInt IntKind.u64.bits p1&&&BitVec.ofInt IntKind.u64.bits (4294967295:Int)).toNat)))+(Int.fdiv (IntKind.u64.wrap ((IntKind.u64.wrap (BitVec.ofInt IntKind.u64.bits p0&&&BitVec.ofInt IntKind.u64.bits (4294967295:Int)).toNat)*(IntKind.u64.wrap (BitVec.ofInt IntKind.u64.bits p1&&&BitVec.ofInt IntKind.u64.bits (4294967295:Int)).toNat))) 4294967296))) 4294967296)))+(Int.fdiv (IntKind.u64.wrap ((IntKind.u64.wrap (BitVec.ofInt IntKind.u64.bits (IntKind.u64.wrap ((IntKind.u64.wrap ((Int.fdiv p0 4294967296)*(IntKind.u64.wrap (BitVec.ofInt IntKind.u64.bits p1&&&BitVec.ofInt IntKind.u64.bits (4294967295:Int)).toNat)))+(Int.fdiv (IntKind.u64.wrap ((IntKind.u64.wrap (BitVec.ofInt IntKind.u64.bits p0&&&BitVec.ofInt IntKind.u64.bits (4294967295:Int)).toNat)*(IntKind.u64.wrap (BitVec.ofInt IntKind.u64.bits p1&&&BitVec.ofInt IntKind.u64.bits (4294967295:Int)).toNat))) 4294967296)))&&&BitVec.ofInt IntKind.u64.bits (4294967295:Int)).toNat)+(IntKind.u64.wrap ((IntKind.u64.wrap (BitVec.ofInt IntKind.u64.bits p0&&&BitVec.ofInt IntKind.u64.bits (4294967295:Int)).toNat)*(Int.fdiv p1 4294967296))))) 4294967296))) (IntKind.u64.wrap (p0*p1)))
def ye8:ybB:=yqL
def yFJ:Sg:=⟨pt4,Int→Int→Prop,fun K=>(fun r0 r1=>K (.tup [(.int .u64 r0),(.int .u64 r1)]))⟩
def yFK (e:Es):SE:=sE (E e) [] lp0
theorem yFL (e:Es):EqW (yFK e) 6 yH0 yFJ yqL:=fun _ _=>by kernel_rfl
theorem yqM (e:Es) (he:EG e):OkF (E e) (yFJ.pw ye8) ycP:=okU he (yFL e) (yah (Sub.uni _) trivial trivial he.ok) yiy.flat (yaf (by kernel_rfl))
def yfj (p0:Int) (K:Bool→Prop):Prop :=
 (K (p0 != p0))
def yfA:ycl:=yfj
def yo6:Sg:=⟨pt3,Bool→Prop,fun K=>(fun r0=>K (.bool r0))⟩
def yo7 (e:Es):SE:=sE (E e) [] lp0
theorem yo8 (e:Es):EqW (yo7 e) 6 yqB yo6 yfj:=fun _ _=>by kernel_rfl
theorem yo9 (e:Es) (he:EG e):OkF (E e) (yo6.pw yfA) ybU:=okU he (yo8 e) (yah (Sub.uni _) trivial trivial he.ok) yiy.flat (yaf (by kernel_rfl))
def yet (a0:ycl) (p0 p1:Int) (K:Int→Prop):Prop :=
 (a0 p0 (fun b =>
 (a0 p1 (fun a =>
 (cbr b
 (cbr a
 (K (0:Int))
 (K (-1:Int)))
 (cbr a
 (K (1:Int))
 (cbr (decide (p0<p1))
 (K (-1:Int))
 (cbr (decide (p0>p1))
 (K (1:Int))
 (K (0:Int))))))))))
def ydr:yao:=yet yfA
def ymZ:Sg:=⟨pt4,Int→Prop,fun K=>(fun r0=>K (.int .i64 r0))⟩
def ym0 (e:Es) (a0:ycl):SE:=sE (E e) [(ybU,yo6.pw a0)] lp0
theorem ym1 (e:Es) (a0):EqW (ym0 e a0) 6 ynn ymZ (yet a0):=fun _ _=>by kernel_rfl
theorem ym2 (e:Es) (he:EG e):OkF (E e) (ymZ.pw ydr) ybz:=okU he (ym1 e _) (yah (Sub.uni _) ⟨(yo9 e he),trivial⟩ trivial he.ok) yiy.flat (yaf (by kernel_rfl))
def ycR (x0:Int→Prop) (x1:Int→Ls→Int→Int→Bool→Prop):Nat→Int→Ls→Int→Int→Prop
 | 0,_,_,_,_=>False
 | n+1,i0,l1,i2,i3 =>
 (cbr (decide (i3<i2))
 (asr (decide ((0:Int)≤i3))
 (asr (decide (i3<(((List.length l1):Nat):Int)))
 (asr (conf (.one (.i .i64)) (List.getD l1 (i3.toNat) .nils))
 (cbr ((yab (List.getD l1 (i3.toNat) .nils)) != i0)
 (x0 (yab (List.getD l1 (i3.toNat) .nils)))
 (ycR x0 x1 n i0 l1 i2 (IntKind.i64.wrap (i3+(1:Int))))))))
 (x1 i0 l1 i2 i3 false))
def yjD (p0:Ls) (K:Int→Prop):Prop :=
 (∃ n:Nat,ycR
 (fun a=>(K a))
 (fun b _ _ _ _=>(K b))
 n (0:Int) p0 (((List.length p0):Nat):Int) (0:Int))
def yhT:yas:=yjD
def ytc (Q:Qx):Int→Prop:=(fun i0=>Q .ret [(2,.v (.int .i64 i0))] [])
def ytd (Q:Qx):Int→Ls→Int→Int→Bool→Prop:=(fun i0 l1 i2 i3 b4=>Q (.exit 0) [(3,.v (.int .i64 i0)),(6,.v (.data l1)),(7,.v (.int .i64 i2)),(8,.v (.int .i64 i3)),(9,.v (.bool b4))] [])
def ymM (Q:Qx):List St:=[⟨pt11,ycR (ytc Q) (ytd Q)⟩]
def ypH:LP:=lpS [(53260600,ymM)]
def yjE (e:Es):SE:=sE (E e) [] (ypH)
theorem ynv (e:Es) (he:EG e):SEOk (Uni (E e)) (yjE e):=yah (Sub.uni _) trivial trivial he.ok
theorem yrM (e:Es):ybQ (yjE e) 5 a yk7 false (ymM):=fun _=>⟨fun _=>by kernel_rfl,fun _ _=>by kernel_rfl,trivial⟩
theorem yrN (e:Es) (he:EG e):LpT (Uni (E e)) (ypH) [] 53260600 (.loop 53260600 yk7):=fun _ _ _=>yni.st (Sub.uni _) (yat (ynv e he) 5) (YOk.no _ _) (yaf (by kernel_rfl)) (yrM e _)
theorem yx1 (e:Es):EqW (yjE e) 6 yAk ydI yjD:=fun _ _=>by kernel_rfl
theorem yx2 (e:Es) (he:EG e):OkF (E e) (ydI.pw yhT) ygj:=okU he (yx1 e) (ynv e he) yiy.flat (yaR (l:=[(53260600,.loop 53260600 yk7)]) ⟨yrN e he,trivial⟩ (by kernel_rfl))
abbrev yaw:Type:=Int→Int→Int→Int→(Int→Int→Prop)→Prop
def ylA (a0:yaB) (a1:yao) (a2:yaq) (a3:ybB) (a4:yao) (a5:yas) (p0 p1 p2 p3:Int) (K:Int→Int→Prop):Prop :=
 (a0 p0 p1 p2 p3 (fun a =>
 (cbr (a !=(0:Int))
 (K (0:Int) a)
 (cbr ((decide (p0<(0:Int))) !=(decide (p2<(0:Int))))
 (a1 p0 p2 (fun c =>
 (K c (0:Int))))
 (a2 p0 (fun d =>
 (a3 d (IntKind.u64.wrap p3) (fun e f =>
 (a2 p2 (fun g =>
 (a3 g (IntKind.u64.wrap p1) (fun h i =>
 (a4 e h (fun j =>
 (a4 f i (fun k =>
 (a5 ([(.int .i64 j),(.int .i64 k)]:Ls) (fun b =>
 (cbr (decide (p0<(0:Int)))
 (K (IntKind.i64.wrap ((0:Int)-b)) (0:Int))
 (K b (0:Int)))))))))))))))))))))
def yd2:yaw:=ylA ycL ydJ ydq ye8 ydr yhT
def yAr:Sg:=⟨pt12,Int→Int→Prop,fun K=>(fun r0 r1=>K (.tup [(.int .i64 r0),(.int .i64 r1)]))⟩
def yAs (e:Es) (a0:yaB) (a1:yao) (a2:yaq) (a3:ybB) (a4:yao) (a5:yas):SE:=sE (E e) [(yaZ,ynq.pw a0),(ycz,ynr.pw a1),(yaL,ypD.pw a2),(ycP,yFJ.pw a3),(ybz,ymZ.pw a4),(ygj,ydI.pw a5)] lp0
theorem yAt (e:Es) (a0 a1 a2 a3 a4 a5):EqW (yAs e a0 a1 a2 a3 a4 a5) 6 yCW yAr (ylA a0 a1 a2 a3 a4 a5):=fun _ _=>by kernel_rfl
theorem ylB (e:Es) (he:EG e):OkF (E e) (yAr.pw yd2) yeF:=okU he (yAt e _ _ _ _ _ _) (yah (Sub.uni _) ⟨(yeO e he),(ynu e he),(yfr e he),(yqM e he),(ym2 e he),(yx2 e he),trivial⟩ trivial he.ok) yiy.flat (yaf (by kernel_rfl))
def yqN (p0:Int) (K:Int→Prop):Prop :=
 (cbr (decide (p0≥(4294967296:Int)))
 (cbr (decide ((Int.fdiv p0 4294967296)≥(65536:Int)))
 (cbr (decide ((Int.fdiv (Int.fdiv p0 4294967296) 65536)≥(256:Int)))
 (asr (decide ((0:Int)≤(IntKind.u8.wrap (Int.fdiv (Int.fdiv (Int.fdiv p0 4294967296) 65536) 256))))
 (asr (decide ((IntKind.u8.wrap (Int.fdiv (Int.fdiv (Int.fdiv p0 4294967296) 65536) 256))<(256:Int)))
 (K (IntKind.i64.wrap ((56:Int)+(IntKind.i64.wrap (yab (List.getD yge ((IntKind.u8.wrap (Int.fdiv (Int.fdiv (Int.fdiv p0 4294967296) 65536) 256)).toNat) .nils))))))))
 (asr (decide ((0:Int)≤(IntKind.u8.wrap (Int.fdiv (Int.fdiv p0 4294967296) 65536))))
 (asr (decide ((IntKind.u8.wrap (Int.fdiv (Int.fdiv p0 4294967296) 65536))<(256:Int)))
 (K (IntKind.i64.wrap ((48:Int)+(IntKind.i64.wrap (yab (List.getD yge ((IntKind.u8.wrap (Int.fdiv (Int.fdiv p0 4294967296) 65536)).toNat) .nils)))))))))
 (cbr (decide ((Int.fdiv p0 4294967296)≥(256:Int)))
 (asr (decide ((0:Int)≤(IntKind.u8.wrap (Int.fdiv (Int.fdiv p0 4294967296) 256))))
 (asr (decide ((IntKind.u8.wrap (Int.fdiv (Int.fdiv p0 4294967296) 256))<(256:Int)))
 (K (IntKind.i64.wrap ((40:Int)+(IntKind.i64.wrap (yab (List.getD yge ((IntKind.u8.wrap (Int.fdiv (Int.fdiv p0 4294967296) 256)).toNat) .nils))))))))
 (asr (decide ((0:Int)≤(IntKind.u8.wrap (Int.fdiv p0 4294967296))))
 (asr (decide ((IntKind.u8.wrap (Int.fdiv p0 4294967296))<(256:Int)))
 (K (IntKind.i64.wrap ((32:Int)+(IntKind.i64.wrap (yab (List.getD yge ((IntKind.u8.wrap (Int.fdiv p0 4294967296)).toNat) .nils))))))))))
 (cbr (decide (p0≥(65536:Int)))
 (cbr (decide ((Int.fdiv p0 65536)≥(256:Int)))
 (asr (decide ((0:Int)≤(IntKind.u8.wrap (Int.fdiv (Int.fdiv p0 65536) 256))))
 (asr (decide ((IntKind.u8.wrap (Int.fdiv (Int.fdiv p0 65536) 256))<(256:Int)))
 (K (IntKind.i64.wrap ((24:Int)+(IntKind.i64.wrap (yab (List.getD yge ((IntKind.u8.wrap (Int.fdiv (Int.fdiv p0 65536) 256)).toNat) .nils))))))))
 (asr (decide ((0:Int)≤(IntKind.u8.wrap (Int.fdiv p0 65536))))
 (asr (decide ((IntKind.u8.wrap (Int.fdiv p0 65536))<(256:Int)))
 (K (IntKind.i64.wrap ((16:Int)+(IntKind.i64.wrap (yab (List.getD yge ((IntKind.u8.wrap (Int.fdiv p0 65536)).toNat) .nils)))))))))
 (cbr (decide (p0≥(256:Int)))
 (asr (decide ((0:Int)≤(IntKind.u8.wrap (Int.fdiv p0 256))))
 (asr (decide ((IntKind.u8.wrap (Int.fdiv p0 256))<(256:Int)))
 (K (IntKind.i64.wrap ((8:Int)+(IntKind.i64.wrap (yab (List.getD yge ((IntKind.u8.wrap (Int.fdiv p0 256)).toNat) .nils))))))))
 (asr (decide ((0:Int)≤(IntKind.u8.wrap p0)))
 (asr (decide ((IntKind.u8.wrap p0)<(256:Int)))
 (K (IntKind.i64.wrap ((0:Int)+(IntKind.i64.wrap (yab (List.getD yge ((IntKind.u8.wrap p0).toNat) .nils)))))))))))
def yoS:yaq:=yqN
def ywJ:Sg:=⟨pt3,Int→Prop,fun K=>(fun r0=>K (.int .i64 r0))⟩
def yFM (e:Es):SE:=sE (E e) [] lp0
theorem yFN (e:Es):EqW (yFM e) 6 yH1 ywJ yqN:=fun _ _=>by kernel_rfl
theorem yFO (e:Es) (he:EG e):OkF (E e) (ywJ.pw yoS) ykm:=okU he (yFN e) (yah (Sub.uni _) trivial trivial he.ok) yiy.flat (yaf (by kernel_rfl))
def yfk (a0:yaq) (p0:Int) (K:Int→Prop):Prop :=
 (a0 p0 (fun a =>
 (K (IntKind.i64.wrap ((64:Int)-a)))))
def ya6:yaq:=yfk yoS
def ypa (e:Es) (a0:yaq):SE:=sE (E e) [(ykm,ywJ.pw a0)] lp0
theorem ypb (e:Es) (a0):EqW (ypa e a0) 6 yqC ywJ (yfk a0):=fun _ _=>by kernel_rfl
theorem ypc (e:Es) (he:EG e):OkF (E e) (ywJ.pw ya6) ycZ:=okU he (ypb e _) (yah (Sub.uni _) ⟨(yFO e he),trivial⟩ trivial he.ok) yiy.flat (yaf (by kernel_rfl))
abbrev yku:Type:=Int→Int→Int→(Int→Int→Prop)→Prop
mutual
def yg9 (a0:yaq) (a:Int→Int→Int→Int→Int→Int→Int→Int→Int→Bool→Prop) (b:Int→Int→Int→Int→Int→Int→Int→Int→Int→Bool→Prop):Nat→Int→Int→Int→Int→Int→Int→Int→Int→Int→Prop
 | 0,_,_,_,_,_,_,_,_,_=>False
 | c+1,i0,i1,i2,i3,i4,i5,i6,i7,i8 =>
 (cbr (decide (i7≥(4294967296:Int)))
 (cbr (decide ((IntKind.u64.wrap (i8+i2))≥(4294967296:Int)))
 (a i0 i1 i2 i3 i4 i5 i6 (IntKind.u64.wrap (i7-(1:Int))) (IntKind.u64.wrap (i8+i2)) true)
 (ycM a0 a b c i0 i1 i2 i3 i4 i5 i6 (IntKind.u64.wrap (i7-(1:Int))) (IntKind.u64.wrap (i8+i2)) false))
 (cbr (decide ((IntKind.u64.wrap (i7*i3))>(IntKind.u64.wrap ((IntKind.u64.wrap ((4294967296:Int)*i8))+i5))))
 (cbr (decide ((IntKind.u64.wrap (i8+i2))≥(4294967296:Int)))
 (a i0 i1 i2 i3 i4 i5 i6 (IntKind.u64.wrap (i7-(1:Int))) (IntKind.u64.wrap (i8+i2)) true)
 (ycM a0 a b c i0 i1 i2 i3 i4 i5 i6 (IntKind.u64.wrap (i7-(1:Int))) (IntKind.u64.wrap (i8+i2)) false))
 (b i0 i1 i2 i3 i4 i5 i6 i7 i8 false)))
def ycM (a0:yaq) (a:Int→Int→Int→Int→Int→Int→Int→Int→Int→Bool→Prop) (b:Int→Int→Int→Int→Int→Int→Int→Int→Int→Bool→Prop):Nat→Int→Int→Int→Int→Int→Int→Int→Int→Int→Bool→Prop
 | 0,_,_,_,_,_,_,_,_,_,_=>False
 | c+1,i0,i1,i2,i3,i4,i5,i6,i7,i8,_ =>
 (cbr (decide (i7≥(4294967296:Int)))
 (cbr (decide ((IntKind.u64.wrap (i8+i2))≥(4294967296:Int)))
 (a i0 i1 i2 i3 i4 i5 i6 (IntKind.u64.wrap (i7-(1:Int))) (IntKind.u64.wrap (i8+i2)) true)
 (ycM a0 a b c i0 i1 i2 i3 i4 i5 i6 (IntKind.u64.wrap (i7-(1:Int))) (IntKind.u64.wrap (i8+i2)) false))
 (cbr (decide ((IntKind.u64.wrap (i7*i3))>(IntKind.u64.wrap ((IntKind.u64.wrap ((4294967296:Int)*i8))+i5))))
 (cbr (decide ((IntKind.u64.wrap (i8+i2))≥(4294967296:Int)))
 (a i0 i1 i2 i3 i4 i5 i6 (IntKind.u64.wrap (i7-(1:Int))) (IntKind.u64.wrap (i8+i2)) true)
 (ycM a0 a b c i0 i1 i2 i3 i4 i5 i6 (IntKind.u64.wrap (i7-(1:Int))) (IntKind.u64.wrap (i8+i2)) false))
 (b i0 i1 i2 i3 i4 i5 i6 i7 i8 false)))
end
mutual
def yen (a0:yaq) (a:Int→Int→Int→Int→Int→Int→Int→Int→Int→Bool→Prop) (b:Int→Int→Int→Int→Int→Int→Int→Int→Int→Bool→Prop):Nat→Int→Int→Int→Int→Int→Int→Int→Int→Int→Prop
 | 0,_,_,_,_,_,_,_,_,_=>False
 | c+1,i0,i1,i2,i3,i4,i5,i6,i7,i8 =>
 (cbr (decide (i8≥(4294967296:Int)))
 (cbr (decide ((IntKind.u64.wrap (i6+i2))≥(4294967296:Int)))
 (a i0 i1 i2 i3 i4 i5 (IntKind.u64.wrap (i6+i2)) i7 (IntKind.u64.wrap (i8-(1:Int))) true)
 (ycN a0 a b c i0 i1 i2 i3 i4 i5 (IntKind.u64.wrap (i6+i2)) i7 (IntKind.u64.wrap (i8-(1:Int))) false))
 (cbr (decide ((IntKind.u64.wrap (i8*i3))>(IntKind.u64.wrap ((IntKind.u64.wrap ((4294967296:Int)*i6))+i4))))
 (cbr (decide ((IntKind.u64.wrap (i6+i2))≥(4294967296:Int)))
 (a i0 i1 i2 i3 i4 i5 (IntKind.u64.wrap (i6+i2)) i7 (IntKind.u64.wrap (i8-(1:Int))) true)
 (ycN a0 a b c i0 i1 i2 i3 i4 i5 (IntKind.u64.wrap (i6+i2)) i7 (IntKind.u64.wrap (i8-(1:Int))) false))
 (b i0 i1 i2 i3 i4 i5 i6 i7 i8 false)))
def ycN (a0:yaq) (a:Int→Int→Int→Int→Int→Int→Int→Int→Int→Bool→Prop) (b:Int→Int→Int→Int→Int→Int→Int→Int→Int→Bool→Prop):Nat→Int→Int→Int→Int→Int→Int→Int→Int→Int→Bool→Prop
 | 0,_,_,_,_,_,_,_,_,_,_=>False
 | c+1,i0,i1,i2,i3,i4,i5,i6,i7,i8,_ =>
 (cbr (decide (i8≥(4294967296:Int)))
 (cbr (decide ((IntKind.u64.wrap (i6+i2))≥(4294967296:Int)))
 (a i0 i1 i2 i3 i4 i5 (IntKind.u64.wrap (i6+i2)) i7 (IntKind.u64.wrap (i8-(1:Int))) true)
 (ycN a0 a b c i0 i1 i2 i3 i4 i5 (IntKind.u64.wrap (i6+i2)) i7 (IntKind.u64.wrap (i8-(1:Int))) false))
 (cbr (decide ((IntKind.u64.wrap (i8*i3))>(IntKind.u64.wrap ((IntKind.u64.wrap ((4294967296:Int)*i6))+i4))))
 (cbr (decide ((IntKind.u64.wrap (i6+i2))≥(4294967296:Int)))
 (a i0 i1 i2 i3 i4 i5 (IntKind.u64.wrap (i6+i2)) i7 (IntKind.u64.wrap (i8-(1:Int))) true)
 (ycN a0 a b c i0 i1 i2 i3 i4 i5 (IntKind.u64.wrap (i6+i2)) i7 (IntKind.u64.wrap (i8-(1:Int))) false))
 (b i0 i1 i2 i3 i4 i5 i6 i7 i8 false)))
end
def yqO (a0:yaq) (p0 p1 p2:Int) (K:Int→Int→Prop):Prop :=
 (cbr (p2 ==(0:Int))
 False
 (cbr (decide (p2≤p0))
 False
 (cbr (p0 ==(0:Int))
 (asr (!(decide (p2=(0:Int))))
 (asr (!(decide (p2=(0:Int))))
 (K (IntKind.u64.wrap (Int.tdiv p1 p2)) (Int.tmod p1 p2))))
 (a0 p2 (fun a =>
 (asr (!(decide ((IntKind.u64.wrap a)<(0:Int))))
 (asr (!(decide ((IntKind.u64.wrap a)<(0:Int))))
 (asr (!(decide ((IntKind.u64.wrap ((64:Int)-(IntKind.u64.wrap a)))<(0:Int))))
 (asr (!(decide ((IntKind.u64.wrap a)<(0:Int))))
 (asr (!(decide ((Int.fdiv (IntKind.u64.wrap (p2*2 ^ (min (IntKind.u64.wrap a).toNat IntKind.u64.bits))) 4294967296)=(0:Int))))
 (∃ u:Nat,yg9 a0
 (fun b v c w h i x d _ _=>(asr (!(decide (c=(0:Int))))
 (∃ l:Nat,yen a0
 (fun y m _ _ z A _ B n _=>(asr (!(decide (m<(0:Int))))
 (K (IntKind.u64.wrap ((IntKind.u64.wrap (A*(4294967296:Int)))+n)) (Int.fdiv (IntKind.u64.wrap ((IntKind.u64.wrap ((IntKind.u64.wrap (B*(4294967296:Int)))+z))-(IntKind.u64.wrap (n*y)))) (2 ^ (min m.toNat IntKind.u64.bits))))))
 (fun C o _ _ D E _ F p _=>(asr (!(decide (o<(0:Int))))
 (K (IntKind.u64.wrap ((IntKind.u64.wrap (E*(4294967296:Int)))+p)) (Int.fdiv (IntKind.u64.wrap ((IntKind.u64.wrap ((IntKind.u64.wrap (F*(4294967296:Int)))+D))-(IntKind.u64.wrap (p*C)))) (2 ^ (min o.toNat IntKind.u64.bits))))))
 l b v c w x d (IntKind.u64.wrap ((IntKind.u64.wrap ((IntKind.u64.wrap ((IntKind.u64.wrap (h*(4294967296:Int)))+i))-(IntKind.u64.wrap (d*b))))-(IntKind.u64.wrap ((IntKind.u64.wrap (Int.tdiv (IntKind.u64.wrap ((IntKind.u64.wrap ((IntKind.u64.wrap (h*(4294967296:Int)))+i))-(IntKind.u64.wrap (d*b)))) c))*c)))) (IntKind.u64.wrap ((IntKind.u64.wrap ((IntKind.u64.wrap (h*(4294967296:Int)))+i))-(IntKind.u64.wrap (d*b)))) (IntKind.u64.wrap (Int.tdiv (IntKind.u64.wrap ((IntKind.u64.wrap ((IntKind.u64.wrap (h*(4294967296:Int)))+i))-(IntKind.u64.wrap (d*b)))) c)))))
 (fun e G f H j k I g _ _=>(asr (!(decide (f=(0:Int))))
 (∃ l:Nat,yen a0
 (fun J q _ _ L M _ N r _=>(asr (!(decide (q<(0:Int))))
 (K (IntKind.u64.wrap ((IntKind.u64.wrap (M*(4294967296:Int)))+r)) (Int.fdiv (IntKind.u64.wrap ((IntKind.u64.wrap ((IntKind.u64.wrap (N*(4294967296:Int)))+L))-(IntKind.u64.wrap (r*J)))) (2 ^ (min q.toNat IntKind.u64.bits))))))
 (fun O s _ _ Q R _ S t _=>(asr (!(decide (s<(0:Int))))
 (K (IntKind.u64.wrap ((IntKind.u64.wrap (R*(4294967296:Int)))+t)) (Int.fdiv (IntKind.u64.wrap ((IntKind.u64.wrap ((IntKind.u64.wrap (S*(4294967296:Int)))+Q))-(IntKind.u64.wrap (t*O)))) (2 ^ (min s.toNat IntKind.u64.bits))))))
 l e G f H I g (IntKind.u64.wrap ((IntKind.u64.wrap ((IntKind.u64.wrap ((IntKind.u64.wrap (j*(4294967296:Int)))+k))-(IntKind.u64.wrap (g*e))))-(IntKind.u64.wrap ((IntKind.u64.wrap (Int.tdiv (IntKind.u64.wrap ((IntKind.u64.wrap ((IntKind.u64.wrap (j*(4294967296:Int)))+k))-(IntKind.u64.wrap (g*e)))) f))*f)))) (IntKind.u64.wrap ((IntKind.u64.wrap ((IntKind.u64.wrap (j*(4294967296:Int)))+k))-(IntKind.u64.wrap (g*e)))) (IntKind.u64.wrap (Int.tdiv (IntKind.u64.wrap ((IntKind.u64.wrap ((IntKind.u64.wrap (j*(4294967296:Int)))+k))-(IntKind.u64.wrap (g*e)))) f)))))
 u (IntKind.u64.wrap (p2*2 ^ (min (IntKind.u64.wrap a).toNat IntKind.u64.bits))) (IntKind.u64.wrap a) (Int.fdiv (IntKind.u64.wrap (p2*2 ^ (min (IntKind.u64.wrap a).toNat IntKind.u64.bits))) 4294967296) (IntKind.u64.wrap (BitVec.ofInt IntKind.u64.bits (IntKind.u64.wrap (p2*2 ^ (min (IntKind.u64.wrap a).toNat IntKind.u64.bits)))&&&BitVec.ofInt IntKind.u64.bits (4294967295:Int)).toNat) (IntKind.u64.wrap (BitVec.ofInt IntKind.u64.bits (IntKind.u64.wrap (p0*2 ^ (min (IntKind.u64.wrap a).toNat IntKind.u64.bits)))|||BitVec.ofInt IntKind.u64.bits (Int.fdiv p1 (2 ^ (min (IntKind.u64.wrap ((64:Int)-(IntKind.u64.wrap a))).toNat IntKind.u64.bits)))).toNat) (Int.fdiv (IntKind.u64.wrap (p1*2 ^ (min (IntKind.u64.wrap a).toNat IntKind.u64.bits))) 4294967296) (IntKind.u64.wrap (BitVec.ofInt IntKind.u64.bits (IntKind.u64.wrap (p1*2 ^ (min (IntKind.u64.wrap a).toNat IntKind.u64.bits)))&&&BitVec.ofInt IntKind.u64.bits (4294967295:Int)).toNat) (IntKind.u64.wrap (Int.tdiv (IntKind.u64.wrap (BitVec.ofInt IntKind.u64.bits (IntKind.u64.wrap (p0*2 ^ (min (IntKind.u64.wrap a).toNat IntKind.u64.bits)))|||BitVec.ofInt IntKind.u64.bits (Int.fdiv p1 (2 ^ (min (IntKind.u64.wrap ((64:Int)-(IntKind.u64.wrap a))).toNat IntKind.u64.bits)))).toNat) (Int.fdiv (IntKind.u64.wrap (p2*2 ^ (min (IntKind.u64.wrap a).toNat IntKind.u64.bits))) 4294967296))) (IntKind.u64.wrap ((IntKind.u64.wrap (BitVec.ofInt IntKind.u64.bits (IntKind.u64.wrap (p0*2 ^ (min (IntKind.u64.wrap a).toNat IntKind.u64.bits)))|||BitVec.ofInt IntKind.u64.bits (Int.fdiv p1 (2 ^ (min (IntKind.u64.wrap ((64:Int)-(IntKind.u64.wrap a))).toNat IntKind.u64.bits)))).toNat)-(IntKind.u64.wrap ((IntKind.u64.wrap (Int.tdiv (IntKind.u64.wrap (BitVec.ofInt IntKind.u64.bits (IntKind.u64.wrap (p0*2 ^ (min (IntKind.u64.wrap a).toNat IntKind.u64.bits)))|||BitVec.ofInt IntKind.u64.bits (Int.fdiv p1 (2 ^ (min (IntKind.u64.wrap ((64:Int)-(IntKind.u64.wrap a))).toNat IntKind.u64.bits)))).toNat) (Int.fdiv (IntKind.u64.wrap (p2*2 ^ (min (IntKind.u64.wrap a).toNat IntKind.u64.bits))) 4294967296)))*(Int.fdiv (IntKind.u64.wrap (p2*2 ^ (min (IntKind.u64.wrap a).toNat IntKind.u64.bits))) 4294967296))))))))))))))))
def yfR:yku:=yqO ya6
def yFP:Sg:=⟨(lC pt2 pt4),Int→Int→Prop,fun K=>(fun r0 r1=>K (.tup [(.int .u64 r0),(.int .u64 r1)]))⟩
def ypI (Q:Qx):Int→Int→Int→Int→Int→Int→Int→Int→Int→Bool→Prop:=(fun i0 i1 i2 i3 i4 i5 i6 i7 i8 b9=>Q (.exit 0) [(2,.v (.int .u64 i0)),(8,.v (.int .u64 i1)),(9,.v (.int .u64 i2)),(10,.v (.int .u64 i3)),(11,.v (.int .u64 i4)),(13,.v (.int .u64 i5)),(14,.v (.int .u64 i6)),(15,.v (.int .u64 i7)),(16,.v (.int .u64 i8)),(85,.v (.bool b9))] [])
def ypJ (Q:Qx):Int→Int→Int→Int→Int→Int→Int→Int→Int→Bool→Prop:=(fun i0 i1 i2 i3 i4 i5 i6 i7 i8 b9=>Q (.exit 0) [(2,.v (.int .u64 i0)),(8,.v (.int .u64 i1)),(9,.v (.int .u64 i2)),(10,.v (.int .u64 i3)),(11,.v (.int .u64 i4)),(13,.v (.int .u64 i5)),(14,.v (.int .u64 i6)),(15,.v (.int .u64 i7)),(16,.v (.int .u64 i8)),(78,.v (.bool b9))] [])
def ypK (Q:Qx):Int→Int→Int→Int→Int→Int→Int→Int→Int→Bool→Prop:=(fun i0 i1 i2 i3 i4 i5 i6 i7 i8 b9=>Q (.exit 2) [(2,.v (.int .u64 i0)),(8,.v (.int .u64 i1)),(9,.v (.int .u64 i2)),(10,.v (.int .u64 i3)),(14,.v (.int .u64 i4)),(15,.v (.int .u64 i5)),(16,.v (.int .u64 i6)),(17,.v (.int .u64 i7)),(18,.v (.int .u64 i8)),(120,.v (.bool b9))] [])
def ypL (Q:Qx):Int→Int→Int→Int→Int→Int→Int→Int→Int→Bool→Prop:=(fun i0 i1 i2 i3 i4 i5 i6 i7 i8 b9=>Q (.exit 2) [(2,.v (.int .u64 i0)),(8,.v (.int .u64 i1)),(9,.v (.int .u64 i2)),(10,.v (.int .u64 i3)),(14,.v (.int .u64 i4)),(15,.v (.int .u64 i5)),(16,.v (.int .u64 i6)),(17,.v (.int .u64 i7)),(18,.v (.int .u64 i8)),(113,.v (.bool b9))] [])
def yrO (a0:yaq) (Q:Qx):List St:=[⟨(pS hN (fV 2 pt2 (fV 8 pt2 (fV 9 pt2 (fV 10 pt2 (fV 11 pt2 (fV 13 pt2 (fV 14 pt2 (fV 15 pt2 (fV 16 pt2 fN))))))))) fN),yg9 a0 (ypI Q) (ypJ Q)⟩,⟨(pS hN (fV 2 pt2 (fV 8 pt2 (fV 9 pt2 (fV 10 pt2 (fV 11 pt2 (fV 13 pt2 (fV 14 pt2 (fV 15 pt2 (fV 16 pt2 (fV 85 vB fN)))))))))) fN),ycM a0 (ypI Q) (ypJ Q)⟩]
def yrP (a0:yaq) (Q:Qx):List St:=[⟨(pS hN (fV 2 pt2 (fV 8 pt2 (fV 9 pt2 (fV 10 pt2 (fV 14 pt2 (fV 15 pt2 (fV 16 pt2 (fV 17 pt2 (fV 18 pt2 fN))))))))) fN),yen a0 (ypK Q) (ypL Q)⟩,⟨(pS hN (fV 2 pt2 (fV 8 pt2 (fV 9 pt2 (fV 10 pt2 (fV 14 pt2 (fV 15 pt2 (fV 16 pt2 (fV 17 pt2 (fV 18 pt2 (fV 120 vB fN)))))))))) fN),ycN a0 (ypK Q) (ypL Q)⟩]
def yqP (a0:yaq):LP:=lpS [(60530100,yrO a0),(60530101,yrP a0)]
def ylC (e:Es) (a0:yaq):SE:=sE (E e) [(ycZ,ywJ.pw a0)] (yqP a0)
theorem ynw (e:Es) (he:EG e):SEOk (Uni (E e)) (ylC e ya6):=yah (Sub.uni _) ⟨(ypc e he),trivial⟩ trivial he.ok
theorem ywK (e:Es) (a0):ybQ (ylC e a0) 5 a yk8 false (yrO a0):=fun _=>⟨fun _=>by kernel_rfl,fun _ _=>by kernel_rfl,fun _=>by kernel_rfl,fun _ _=>by kernel_rfl,trivial⟩
theorem ywL (e:Es) (he:EG e):LpT (Uni (E e)) (yqP ya6) [] 60530100 (.loop 60530100 yk8):=fun _ _ _=>yni.st (Sub.uni _) (yat (ynw e he) 5) (YOk.no _ _) (yaf (by kernel_rfl)) (ywK e _ _)
theorem ywM (e:Es) (a0):ybQ (ylC e a0) 5 a yk9 false (yrP a0):=fun _=>⟨fun _=>by kernel_rfl,fun _ _=>by kernel_rfl,fun _=>by kernel_rfl,fun _ _=>by kernel_rfl,trivial⟩
theorem ywN (e:Es) (he:EG e):LpT (Uni (E e)) (yqP ya6) [] 60530101 (.loop 60530101 yk9):=fun _ _ _=>yni.st (Sub.uni _) (yat (ynw e he) 5) (YOk.no _ _) (yaf (by kernel_rfl)) (ywM e _ _)
theorem yFQ (e:Es) (a0):EqW (ylC e a0) 6 yH2 yFP (yqO a0):=fun _ _=>by kernel_rfl
theorem ywO (e:Es) (he:EG e):OkF (E e) (yFP.pw yfR) ygH:=okU he (yFQ e _) (ynw e he) yiy.flat (yaR (l:=[(60530100,.loop 60530100 yk8),(60530101,.loop 60530101 yk9)]) ⟨ywL e he,ywN e he,trivial⟩ (by kernel_rfl))
abbrev yte:Type:=Int→Int→Int→(Int→Prop)→Prop
def yqQ (a0:yku) (p0 p1 p2:Int) (K:Int→Prop):Prop :=
 (asr (!(decide (p2=(0:Int))))
 (a0 (Int.tmod p0 p2) p1 p2 (fun _ a =>
 (K a))))
def ygL:yte:=yqQ yfR
def yFR:Sg:=⟨(lC pt2 pt4),Int→Prop,fun K=>(fun r0=>K (.int .u64 r0))⟩
def yFS (e:Es) (a0:yku):SE:=sE (E e) [(ygH,yFP.pw a0)] lp0
theorem yFT (e:Es) (a0):EqW (yFS e a0) 6 yH3 yFR (yqQ a0):=fun _ _=>by kernel_rfl
theorem yFU (e:Es) (he:EG e):OkF (E e) (yFR.pw ygL) ykn:=okU he (yFT e _) (yah (Sub.uni _) ⟨(ywO e he),trivial⟩ trivial he.ok) yiy.flat (yaf (by kernel_rfl))
abbrev yac:Type:=Int→Int→Int→Int→(Int→Int→Int→Prop)→Prop
def ylD (a0:yaB) (a1:yao) (a2:yaq) (a3:ybB) (a4:yzk) (a5:yte) (a6:yku) (a7:yc1) (a8:yzl) (p0 p1 p2 p3:Int) (K:Int→Int→Int→Prop):Prop :=
 (a0 p0 p1 p2 p3 (fun z =>
 (cbr (z !=(0:Int))
 (K (0:Int) (0:Int) z)
 (a1 (IntKind.u64.wrap p1) (IntKind.u64.wrap p3) (fun a =>
 (a2 p0 (fun A =>
 (asr (!(decide (a=(0:Int))))
 (a3 A (IntKind.u64.wrap (Int.tdiv (IntKind.u64.wrap p3) a)) (fun b i =>
 (a2 p2 (fun B =>
 (asr (!(decide (a=(0:Int))))
 (a3 B (IntKind.u64.wrap (Int.tdiv (IntKind.u64.wrap p1) a)) (fun c j =>
 (cbr ((decide (p0<(0:Int))) ==(decide (p2<(0:Int))))
 (a4 i j (0:Int) (fun k C =>
 (a4 b c C (fun d _ =>
 (cbr (d ==(0:Int))
 (cbr (k ==(0:Int))
 (K (0:Int) (1:Int) (0:Int))
 (a5 d k a (fun D =>
 (a1 D a (fun p =>
 (cbr (decide (d≥p))
 (K (0:Int) (0:Int) (16:Int))
 (a6 d k p (fun E _ =>
 (asr (!(decide (a=(0:Int))))
 (asr (!(decide (p=(0:Int))))
 (a3 (IntKind.u64.wrap (Int.tdiv (IntKind.u64.wrap p1) a)) (IntKind.u64.wrap (Int.tdiv (IntKind.u64.wrap p3) p)) (fun F G =>
 (cbr (decide (F>(0:Int)))
 (K (0:Int) (0:Int) (16:Int))
 (a7 (decide (p0<(0:Int))) E G (fun H I J =>
 (K H I J))))))))))))))))
 (a5 d k a (fun L =>
 (a1 L a (fun q =>
 (cbr (decide (d≥q))
 (K (0:Int) (0:Int) (16:Int))
 (a6 d k q (fun M _ =>
 (asr (!(decide (a=(0:Int))))
 (asr (!(decide (q=(0:Int))))
 (a3 (IntKind.u64.wrap (Int.tdiv (IntKind.u64.wrap p1) a)) (IntKind.u64.wrap (Int.tdiv (IntKind.u64.wrap p3) q)) (fun N O =>
 (cbr (decide (N>(0:Int)))
 (K (0:Int) (0:Int) (16:Int))
 (a7 (decide (p0<(0:Int))) M O (fun Q R S =>
 (K Q R S))))))))))))))))))))
 (cbr (decide (b<c))
 (a8 j i (0:Int) (fun l T =>
 (a8 c b T (fun e _ =>
 (cbr (e ==(0:Int))
 (cbr (l ==(0:Int))
 (K (0:Int) (1:Int) (0:Int))
 (a5 e l a (fun U =>
 (a1 U a (fun r =>
 (cbr (decide (e≥r))
 (K (0:Int) (0:Int) (16:Int))
 (a6 e l r (fun V _ =>
 (asr (!(decide (a=(0:Int))))
 (asr (!(decide (r=(0:Int))))
 (a3 (IntKind.u64.wrap (Int.tdiv (IntKind.u64.wrap p1) a)) (IntKind.u64.wrap (Int.tdiv (IntKind.u64.wrap p3) r)) (fun W X =>
 (cbr (decide (W>(0:Int)))
 (K (0:Int) (0:Int) (16:Int))
 (a7 (!(decide (p0<(0:Int)))) V X (fun Y Z va =>
 (K Y Z va))))))))))))))))
 (a5 e l a (fun vb =>
 (a1 vb a (fun s =>
 (cbr (decide (e≥s))
 (K (0:Int) (0:Int) (16:Int))
 (a6 e l s (fun vc _ =>
 (asr (!(decide (a=(0:Int))))
 (asr (!(decide (s=(0:Int))))
 (a3 (IntKind.u64.wrap (Int.tdiv (IntKind.u64.wrap p1) a)) (IntKind.u64.wrap (Int.tdiv (IntKind.u64.wrap p3) s)) (fun vd ve =>
 (cbr (decide (vd>(0:Int)))
 (K (0:Int) (0:Int) (16:Int))
 (a7 (!(decide (p0<(0:Int)))) vc ve (fun vf vg vh =>
 (K vf vg vh))))))))))))))))))))
 (cbr (b == c)
 (cbr (decide (i<j))
 (a8 j i (0:Int) (fun m vi =>
 (a8 c b vi (fun f _ =>
 (cbr (f ==(0:Int))
 (cbr (m ==(0:Int))
 (K (0:Int) (1:Int) (0:Int))
 (a5 f m a (fun vj =>
 (a1 vj a (fun t =>
 (cbr (decide (f≥t))
 (K (0:Int) (0:Int) (16:Int))
 (a6 f m t (fun vk _ =>
 (asr (!(decide (a=(0:Int))))
 (asr (!(decide (t=(0:Int))))
 (a3 (IntKind.u64.wrap (Int.tdiv (IntKind.u64.wrap p1) a)) (IntKind.u64.wrap (Int.tdiv (IntKind.u64.wrap p3) t)) (fun vl vm =>
 (cbr (decide (vl>(0:Int)))
 (K (0:Int) (0:Int) (16:Int))
 (a7 (!(decide (p0<(0:Int)))) vk vm (fun vn vo vp =>
 (K vn vo vp))))))))))))))))
 (a5 f m a (fun vq =>
 (a1 vq a (fun u =>
 (cbr (decide (f≥u))
 (K (0:Int) (0:Int) (16:Int))
 (a6 f m u (fun vr _ =>
 (asr (!(decide (a=(0:Int))))
 (asr (!(decide (u=(0:Int))))
 (a3 (IntKind.u64.wrap (Int.tdiv (IntKind.u64.wrap p1) a)) (IntKind.u64.wrap (Int.tdiv (IntKind.u64.wrap p3) u)) (fun vs vt =>
 (cbr (decide (vs>(0:Int)))
 (K (0:Int) (0:Int) (16:Int))
 (a7 (!(decide (p0<(0:Int)))) vr vt (fun vu vv vw =>
 (K vu vv vw))))))))))))))))))))
 (a8 i j (0:Int) (fun n vx =>
 (a8 b c vx (fun g _ =>
 (cbr (g ==(0:Int))
 (cbr (n ==(0:Int))
 (K (0:Int) (1:Int) (0:Int))
 (a5 g n a (fun vy =>
 (a1 vy a (fun v =>
 (cbr (decide (g≥v))
 (K (0:Int) (0:Int) (16:Int))
 (a6 g n v (fun vz _ =>
 (asr (!(decide (a=(0:Int))))
 (asr (!(decide (v=(0:Int))))
 (a3 (IntKind.u64.wrap (Int.tdiv (IntKind.u64.wrap p1) a)) (IntKind.u64.wrap (Int.tdiv (IntKind.u64.wrap p3) v)) (fun vA vB =>
 (cbr (decide (vA>(0:Int)))
 (K (0:Int) (0:Int) (16:Int))
 (a7 (decide (p0<(0:Int))) vz vB (fun vC vD vE =>
 (K vC vD vE))))))))))))))))
 (a5 g n a (fun vF =>
 (a1 vF a (fun w =>
 (cbr (decide (g≥w))
 (K (0:Int) (0:Int) (16:Int))
 (a6 g n w (fun vG _ =>
 (asr (!(decide (a=(0:Int))))
 (asr (!(decide (w=(0:Int))))
 (a3 (IntKind.u64.wrap (Int.tdiv (IntKind.u64.wrap p1) a)) (IntKind.u64.wrap (Int.tdiv (IntKind.u64.wrap p3) w)) (fun vH vI =>
 (cbr (decide (vH>(0:Int)))
 (K (0:Int) (0:Int) (16:Int))
 (a7 (decide (p0<(0:Int))) vG vI (fun vJ vK vL =>
 (K vJ vK vL)))))))))))))))))))))
 (a8 i j (0:Int) (fun o vM =>
 (a8 b c vM (fun h _ =>
 (cbr (h ==(0:Int))
 (cbr (o ==(0:Int))
 (K (0:Int) (1:Int) (0:Int))
 (a5 h o a (fun vN =>
 (a1 vN a (fun x =>
 (cbr (decide (h≥x))
 (K (0:Int) (0:Int) (16:Int))
 (a6 h o x (fun vO _ =>
 (asr (!(decide (a=(0:Int))))
 (asr (!(decide (x=(0:Int))))
 (a3 (IntKind.u64.wrap (Int.tdiv (IntKind.u64.wrap p1) a)) (IntKind.u64.wrap (Int.tdiv (IntKind.u64.wrap p3) x)) (fun vP vQ =>
 (cbr (decide (vP>(0:Int)))
 (K (0:Int) (0:Int) (16:Int))
 (a7 (decide (p0<(0:Int))) vO vQ (fun vR vS vT =>
 (K vR vS vT))))))))))))))))
 (a5 h o a (fun vU =>
 (a1 vU a (fun y =>
 (cbr (decide (h≥y))
 (K (0:Int) (0:Int) (16:Int))
 (a6 h o y (fun vV _ =>
 (asr (!(decide (a=(0:Int))))
 (asr (!(decide (y=(0:Int))))
 (a3 (IntKind.u64.wrap (Int.tdiv (IntKind.u64.wrap p1) a)) (IntKind.u64.wrap (Int.tdiv (IntKind.u64.wrap p3) y)) (fun vW vX =>
 (cbr (decide (vW>(0:Int)))
 (K (0:Int) (0:Int) (16:Int))
 (a7 (decide (p0<(0:Int))) vV vX (fun vY vZ v0 =>
 (K vY vZ v0))))))))))))))))))))))))))))))))))))))
def ya2:yac:=ylD ycL ybO ydq ye8 yh9 ygL yfR ybI yia
def yds:Sg:=⟨pt12,Int→Int→Int→Prop,fun K=>(fun r0 r1 r2=>K (.tup [(.agg [(.int .i64 r0),(.int .i64 r1)]),(.int .i64 r2)]))⟩
def yAu (e:Es) (a0:yaB) (a1:yao) (a2:yaq) (a3:ybB) (a4:yzk) (a5:yte) (a6:yku) (a7:yc1) (a8:yzl):SE:=sE (E e) [(yaZ,ynq.pw a0),(yby,yrK.pw a1),(yaL,ypD.pw a2),(ycP,yFJ.pw a3),(ye4,yqw a4),(ykn,yFR.pw a5),(ygH,yFP.pw a6),(ybH,yuM.pw a7),(ye5,yqy a8)] lp0
theorem yAv (e:Es) (a0 a1 a2 a3 a4 a5 a6 a7 a8):EqW (yAu e a0 a1 a2 a3 a4 a5 a6 a7 a8) 6 yCY yds (ylD a0 a1 a2 a3 a4 a5 a6 a7 a8):=fun _ _=>by kernel_rfl
theorem ygo (e:Es) (he:EG e):OkF (E e) (yds.pw ya2) ycI:=okU he (yAv e _ _ _ _ _ _ _ _ _) (yah (Sub.uni _) ⟨(yeO e he),(yhS e he),(yfr e he),(yqM e he),(yFH e he),(yFU e he),(ywO e he),(yhC e he),(yFI e he),trivial⟩ trivial he.ok) yiy.flat (yaf (by kernel_rfl))
def ylE (a0:yaB) (a1:yac) (p0 p1 p2 p3:Int) (K:Int→Int→Int→Prop):Prop :=
 (a0 p0 p1 p2 p3 (fun a =>
 (cbr (a !=(0:Int))
 (K (0:Int) (0:Int) a)
 (a1 p0 p1 (IntKind.i64.wrap ((0:Int)-p2)) p3 (fun b c d =>
 (K b c d))))))
def ya7:yac:=ylE ycL ya2
def yAw (e:Es) (a0:yaB) (a1:yac):SE:=sE (E e) [(yaZ,ynq.pw a0),(ycI,yds.pw a1)] lp0
theorem yAx (e:Es) (a0 a1):EqW (yAw e a0 a1) 6 yCZ yds (ylE a0 a1):=fun _ _=>by kernel_rfl
theorem yhU (e:Es) (he:EG e):OkF (E e) (yds.pw ya7) ydm:=okU he (yAx e _ _) (yah (Sub.uni _) ⟨(yeO e he),(ygo e he),trivial⟩ trivial he.ok) yiy.flat (yaf (by kernel_rfl))
def ylF (a0:yaB) (a1:yaq) (a2:yao) (a3:ybB) (a4:yc1) (p0 p1 p2 p3:Int) (K:Int→Int→Int→Prop):Prop :=
 (a0 p0 p1 p2 p3 (fun d =>
 (cbr (d !=(0:Int))
 (K (0:Int) (0:Int) d)
 (a1 p0 (fun e =>
 (a1 p2 (fun f =>
 (a2 e (IntKind.u64.wrap p3) (fun a =>
 (a2 f (IntKind.u64.wrap p1) (fun b =>
 (asr (!(decide (a=(0:Int))))
 (asr (!(decide (b=(0:Int))))
 (a3 (IntKind.u64.wrap (Int.tdiv e a)) (IntKind.u64.wrap (Int.tdiv f b)) (fun h c =>
 (asr (!(decide (b=(0:Int))))
 (asr (!(decide (a=(0:Int))))
 (a3 (IntKind.u64.wrap (Int.tdiv (IntKind.u64.wrap p1) b)) (IntKind.u64.wrap (Int.tdiv (IntKind.u64.wrap p3) a)) (fun i g =>
 (cbr (decide ((IntKind.u64.wrap (h+i))>(0:Int)))
 (K (0:Int) (0:Int) (16:Int))
 (cbr (decide (c>(0:Int)))
 (a4 ((decide (p0<(0:Int))) !=(decide (p2<(0:Int)))) c g (fun j k l =>
 (K j k l)))
 (a4 false c g (fun m n o =>
 (K m n o))))))))))))))))))))))))
def ya3:yac:=ylF ycL ydq ybO ye8 ybI
def yAy (e:Es) (a0:yaB) (a1:yaq) (a2:yao) (a3:ybB) (a4:yc1):SE:=sE (E e) [(yaZ,ynq.pw a0),(yaL,ypD.pw a1),(yby,yrK.pw a2),(ycP,yFJ.pw a3),(ybH,yuM.pw a4)] lp0
theorem yAz (e:Es) (a0 a1 a2 a3 a4):EqW (yAy e a0 a1 a2 a3 a4) 6 yC0 yds (ylF a0 a1 a2 a3 a4):=fun _ _=>by kernel_rfl
theorem ygp (e:Es) (he:EG e):OkF (E e) (yds.pw ya3) ybW:=okU he (yAz e _ _ _ _ _) (yah (Sub.uni _) ⟨(yeO e he),(yfr e he),(yhS e he),(yqM e he),(yhC e he),trivial⟩ trivial he.ok) yiy.flat (yaf (by kernel_rfl))
def ylG (a0:yaB) (a1:yac) (p0 p1 p2 p3:Int) (K:Int→Int→Int→Prop):Prop :=
 (a0 p0 p1 p2 p3 (fun a =>
 (cbr (a !=(0:Int))
 (K (0:Int) (0:Int) a)
 (cbr (p2 ==(0:Int))
 (K (0:Int) (0:Int) (18:Int))
 (cbr (decide (p2<(0:Int)))
 (a1 p0 p1 (IntKind.i64.wrap ((0:Int)-p3)) (IntKind.i64.wrap ((0:Int)-p2)) (fun b c d =>
 (K b c d)))
 (a1 p0 p1 p3 p2 (fun e f g =>
 (K e f g))))))))
def ybY:yac:=ylG ycL ya3
def yAA (e:Es) (a0:yaB) (a1:yac):SE:=sE (E e) [(yaZ,ynq.pw a0),(ybW,yds.pw a1)] lp0
theorem yAB (e:Es) (a0 a1):EqW (yAA e a0 a1) 6 yC1 yds (ylG a0 a1):=fun _ _=>by kernel_rfl
theorem ylH (e:Es) (he:EG e):OkF (E e) (yds.pw ybY) yfO:=okU he (yAB e _ _) (yah (Sub.uni _) ⟨(yeO e he),(ygp e he),trivial⟩ trivial he.ok) yiy.flat (yaf (by kernel_rfl))
end Go.Pf.Vc
namespace Go.Pf.Vc
open Go Go.Pf
set_option linter.unusedVariables false
theorem ywP (p0:Int) (p1:Int) (r0:Int) (r1:Int) (r2:Int) (h:∀ K:Int→Int→Int→Prop,K r0 r1 r2→yeb p0 p1 K) (K:Int→Int→Int→Prop):yeb p0 p1 K=K r0 r1 r2 :=
 propext ⟨fun k=>detC (ypG [] yaG) (as:=[(.int .i64 p0),(.int .i64 p1)]) (x:=(.tup [(.agg [(.int .i64 r0),(.int .i64 r1)]),(.int .i64 r2)])) (fun K' k'=>h (fun r0 r1 r2=>K' (.tup [(.agg [(.int .i64 r0),(.int .i64 r1)]),(.int .i64 r2)])) k') (K:=fun x=>match x with | (.tup [(.agg [(.int .i64 r0),(.int .i64 r1)]),(.int .i64 r2)])=>K r0 r1 r2 | _=>False) k,h K⟩
theorem yuP (p0:Int) (p1:Int) (r0:Int) (h:∀ K:Int→Prop,K r0→ya0 p0 p1 K) (K:Int→Prop):ya0 p0 p1 K=K r0 :=
 propext ⟨fun k=>detC (yeN [] yaG) (as:=[(.agg [(.int .i64 p0),(.int .i64 p1)])]) (x:=(.int .i64 r0)) (fun K' k'=>h (fun r0=>K' (.int .i64 r0)) k') (K:=fun x=>match x with | (.int .i64 r0)=>K r0 | _=>False) k,h K⟩
theorem yx3 (p0:Int) (p1:Int) (p2:Int) (p3:Int) (r0:Int) (r1:Int) (h:∀ K:Int→Int→Prop,K r0 r1→yd2 p0 p1 p2 p3 K) (K:Int→Int→Prop):yd2 p0 p1 p2 p3 K=K r0 r1 :=
 propext ⟨fun k=>detC (ylB [] yaG) (as:=[(.agg [(.int .i64 p0),(.int .i64 p1)]),(.agg [(.int .i64 p2),(.int .i64 p3)])]) (x:=(.tup [(.int .i64 r0),(.int .i64 r1)])) (fun K' k'=>h (fun r0 r1=>K' (.tup [(.int .i64 r0),(.int .i64 r1)])) k') (K:=fun x=>match x with | (.tup [(.int .i64 r0),(.int .i64 r1)])=>K r0 r1 | _=>False) k,h K⟩
theorem yx4 (p0:Int) (p1:Int) (p2:Int) (p3:Int) (r0:Int) (r1:Int) (r2:Int) (h:∀ K:Int→Int→Int→Prop,K r0 r1 r2→ya2 p0 p1 p2 p3 K) (K:Int→Int→Int→Prop):ya2 p0 p1 p2 p3 K=K r0 r1 r2 :=
 propext ⟨fun k=>detC (ygo [] yaG) (as:=[(.agg [(.int .i64 p0),(.int .i64 p1)]),(.agg [(.int .i64 p2),(.int .i64 p3)])]) (x:=(.tup [(.agg [(.int .i64 r0),(.int .i64 r1)]),(.int .i64 r2)])) (fun K' k'=>h (fun r0 r1 r2=>K' (.tup [(.agg [(.int .i64 r0),(.int .i64 r1)]),(.int .i64 r2)])) k') (K:=fun x=>match x with | (.tup [(.agg [(.int .i64 r0),(.int .i64 r1)]),(.int .i64 r2)])=>K r0 r1 r2 | _=>False) k,h K⟩
theorem yx5 (p0:Int) (p1:Int) (p2:Int) (p3:Int) (r0:Int) (r1:Int) (r2:Int) (h:∀ K:Int→Int→Int→Prop,K r0 r1 r2→ya7 p0 p1 p2 p3 K) (K:Int→Int→Int→Prop):ya7 p0 p1 p2 p3 K=K r0 r1 r2 :=
 propext ⟨fun k=>detC (yhU [] yaG) (as:=[(.agg [(.int .i64 p0),(.int .i64 p1)]),(.agg [(.int .i64 p2),(.int .i64 p3)])]) (x:=(.tup [(.agg [(.int .i64 r0),(.int .i64 r1)]),(.int .i64 r2)])) (fun K' k'=>h (fun r0 r1 r2=>K' (.tup [(.agg [(.int .i64 r0),(.int .i64 r1)]),(.int .i64 r2)])) k') (K:=fun x=>match x with | (.tup [(.agg [(.int .i64 r0),(.int .i64 r1)]),(.int .i64 r2)])=>K r0 r1 r2 | _=>False) k,h K⟩
theorem yx6 (p0:Int) (p1:Int) (p2:Int) (p3:Int) (r0:Int) (r1:Int) (r2:Int) (h:∀ K:Int→Int→Int→Prop,K r0 r1 r2→ya3 p0 p1 p2 p3 K) (K:Int→Int→Int→Prop):ya3 p0 p1 p2 p3 K=K r0 r1 r2 :=
 propext ⟨fun k=>detC (ygp [] yaG) (as:=[(.agg [(.int .i64 p0),(.int .i64 p1)]),(.agg [(.int .i64 p2),(.int .i64 p3)])]) (x:=(.tup [(.agg [(.int .i64 r0),(.int .i64 r1)]),(.int .i64 r2)])) (fun K' k'=>h (fun r0 r1 r2=>K' (.tup [(.agg [(.int .i64 r0),(.int .i64 r1)]),(.int .i64 r2)])) k') (K:=fun x=>match x with | (.tup [(.agg [(.int .i64 r0),(.int .i64 r1)]),(.int .i64 r2)])=>K r0 r1 r2 | _=>False) k,h K⟩
theorem yx7 (p0:Int) (p1:Int) (p2:Int) (p3:Int) (r0:Int) (r1:Int) (r2:Int) (h:∀ K:Int→Int→Int→Prop,K r0 r1 r2→ybY p0 p1 p2 p3 K) (K:Int→Int→Int→Prop):ybY p0 p1 p2 p3 K=K r0 r1 r2 :=
 propext ⟨fun k=>detC (ylH [] yaG) (as:=[(.agg [(.int .i64 p0),(.int .i64 p1)]),(.agg [(.int .i64 p2),(.int .i64 p3)])]) (x:=(.tup [(.agg [(.int .i64 r0),(.int .i64 r1)]),(.int .i64 r2)])) (fun K' k'=>h (fun r0 r1 r2=>K' (.tup [(.agg [(.int .i64 r0),(.int .i64 r1)]),(.int .i64 r2)])) k') (K:=fun x=>match x with | (.tup [(.agg [(.int .i64 r0),(.int .i64 r1)]),(.int .i64 r2)])=>K r0 r1 r2 | _=>False) k,h K⟩
end Go.Pf.Vc
namespace Go.Pf.Vc
open Go Go.Pf
set_option maxRecDepth 100000
def ybK (x0:Ls→Int→Int→Bool→Prop):Nat→Ls→Int→Int→Prop
 | 0,_,_,_=>False
 | n+1,l0,i1,i2 =>
 (cbr (decide (i2<(((List.length l0):Nat):Int)))
 (asr (decide ((0:Int)≤i2))
 (asr (decide (i2<(((List.length l0):Nat):Int)))
 (asr (conf (.one (.i .i64)) (List.getD l0 (i2.toNat) .nils))
 (ybK x0 n l0 (if (yab (List.getD l0 (i2.toNat) .nils))<i1 then (yab (List.getD l0 (i2.toNat) .nils)) else i1) (IntKind.i64.wrap (i2+(1:Int)))))))
 (x0 l0 i1 i2 false))
def ygM (p0:Ls) (K:Int→Prop):Prop :=
 (cbr (decide ((((List.length p0):Nat):Int)<(1:Int)))
 False
 (asr (decide ((0:Int)<(((List.length p0):Nat):Int)))
 (asr (conf (.one (.i .i64)) (List.getD p0 0 .nils))
 (∃ n:Nat,ybK
 (fun _ a _ _=>(K a))
 n p0 (yab (List.getD p0 0 .nils)) (1:Int)))))
def yda:yas:=ygM
def ypd (Q:Qx):Ls→Int→Int→Bool→Prop:=(fun l0 i1 i2 b3=>Q (.exit 0) [(0,.v (.data l0)),(3,.v (.int .i64 i1)),(4,.v (.int .i64 i2)),(15,.v (.bool b3))] [])
def pt13:Pat Frm:=fV 4 pt0 fN
def pt14:Pat Sta:=pS hN (fV 0 vD (fV 3 pt0 pt13)) fN
def yiK (Q:Qx):List St:=[⟨pt14,ybK (ypd Q)⟩]
def ykv:LP:=lpS [(10434000,yiK)]
def ygN (e:Es):SE:=sE (E e) [] (ykv)
theorem yji (e:Es) (he:EG e):SEOk (Uni (E e)) (ygN e):=yah (Sub.uni _) trivial trivial he.ok
theorem ynx (e:Es):ybQ (ygN e) 5 a ykX false (yiK):=fun _=>⟨fun _=>by kernel_rfl,fun _ _=>by kernel_rfl,trivial⟩
theorem yny (e:Es) (he:EG e):LpT (Uni (E e)) (ykv) [] 10434000 (.loop 10434000 ykX):=fun _ _ _=>yni.st (Sub.uni _) (yat (yji e he) 5) (YOk.no _ _) (yaf (by kernel_rfl)) (ynx e _)
theorem ytf (e:Es):EqW (ygN e) 6 yuI ydI ygM:=fun _ _=>by kernel_rfl
theorem ytg (e:Es) (he:EG e):OkF (E e) (ydI.pw yda) yeh:=okU he (ytf e) (yji e he) yiy.flat (yaR (l:=[(10434000,.loop 10434000 ykX)]) ⟨yny e he,trivial⟩ (by kernel_rfl))
def ybL (x0:Ls→Int→Int→Bool→Prop):Nat→Ls→Int→Int→Prop
 | 0,_,_,_=>False
 | n+1,l0,i1,i2 =>
 (cbr (decide (i2<(((List.length l0):Nat):Int)))
 (asr (decide ((0:Int)≤i2))
 (asr (decide (i2<(((List.length l0):Nat):Int)))
 (asr (conf (.one (.i .i64)) (List.getD l0 (i2.toNat) .nils))
 (ybL x0 n l0 (if (yab (List.getD l0 (i2.toNat) .nils))>i1 then (yab (List.getD l0 (i2.toNat) .nils)) else i1) (IntKind.i64.wrap (i2+(1:Int)))))))
 (x0 l0 i1 i2 false))
def ygO (p0:Ls) (K:Int→Prop):Prop :=
 (cbr (decide ((((List.length p0):Nat):Int)<(1:Int)))
 False
 (asr (decide ((0:Int)<(((List.length p0):Nat):Int)))
 (asr (conf (.one (.i .i64)) (List.getD p0 0 .nils))
 (∃ n:Nat,ybL
 (fun _ a _ _=>(K a))
 n p0 (yab (List.getD p0 0 .nils)) (1:Int)))))
def ydb:yas:=ygO
def ype (Q:Qx):Ls→Int→Int→Bool→Prop:=(fun l0 i1 i2 b3=>Q (.exit 0) [(0,.v (.data l0)),(3,.v (.int .i64 i1)),(4,.v (.int .i64 i2)),(15,.v (.bool b3))] [])
def yiL (Q:Qx):List St:=[⟨pt14,ybL (ype Q)⟩]
def ykw:LP:=lpS [(64079100,yiL)]
def ygP (e:Es):SE:=sE (E e) [] (ykw)
theorem yjj (e:Es) (he:EG e):SEOk (Uni (E e)) (ygP e):=yah (Sub.uni _) trivial trivial he.ok
theorem ynz (e:Es):ybQ (ygP e) 5 a ykY false (yiL):=fun _=>⟨fun _=>by kernel_rfl,fun _ _=>by kernel_rfl,trivial⟩
theorem ynA (e:Es) (he:EG e):LpT (Uni (E e)) (ykw) [] 64079100 (.loop 64079100 ykY):=fun _ _ _=>yni.st (Sub.uni _) (yat (yjj e he) 5) (YOk.no _ _) (yaf (by kernel_rfl)) (ynz e _)
theorem yth (e:Es):EqW (ygP e) 6 yuJ ydI ygO:=fun _ _=>by kernel_rfl
theorem yti (e:Es) (he:EG e):OkF (E e) (ydI.pw ydb) yc8:=okU he (yth e) (yjj e he) yiy.flat (yaR (l:=[(64079100,.loop 64079100 ykY)]) ⟨ynA e he,trivial⟩ (by kernel_rfl))
abbrev yai:Type:=Int→Ls→Ls→(Int→Prop)→Prop
def ycS (a0:yas) (a1:yas) (x0:Int→Prop) (x1:Int→Ls→Ls→Int→Int→Bool→Prop):Nat→Int→Ls→Ls→Int→Int→Prop
 | 0,_,_,_,_,_=>False
 | n+1,i0,l1,l2,i3,i4 =>
 (cbr (decide (i4<i3))
 (asr (decide ((0:Int)≤i4))
 (asr (decide (i4<(((List.length l1):Nat):Int)))
 (asr (conf (.one (.i .i64)) (List.getD l1 (i4.toNat) .nils))
 (asr (decide ((0:Int)≤(IntKind.i64.wrap (i4+(1:Int)))))
 (asr (decide ((IntKind.i64.wrap (i4+(1:Int)))<(((List.length l1):Nat):Int)))
 (asr (conf (.one (.i .i64)) (List.getD l1 ((IntKind.i64.wrap (i4+(1:Int))).toNat) .nils))
 (cbr (decide ((yab (List.getD l1 (i4.toNat) .nils))≥(yab (List.getD l1 ((IntKind.i64.wrap (i4+(1:Int))).toNat) .nils))))
 (x0 (8:Int))
 (ycS a0 a1 x0 x1 n i0 l1 l2 i3 (IntKind.i64.wrap (i4+(1:Int)))))))))))
 (x1 i0 l1 l2 i3 i4 false))
def yjF (a0:yas) (a1:yas) (p0:Int) (p1 p2:Ls) (K:Int→Prop):Prop :=
 (cbr (decide (p0>(1000:Int)))
 (K (4:Int))
 (cbr (decide ((((List.length p1):Nat):Int)>(40:Int)))
 (K (4:Int))
 (cbr (decide (p0<(1:Int)))
 (K (8:Int))
 (cbr (decide ((((List.length p1):Nat):Int)<(2:Int)))
 (K (8:Int))
 (cbr ((((List.length p2):Nat):Int) !=(IntKind.i64.wrap ((((List.length p1):Nat):Int)-(1:Int))))
 (K (8:Int))
 (asr (decide ((0:Int)<(((List.length p1):Nat):Int)))
 (asr (conf (.one (.i .i64)) (List.getD p1 0 .nils))
 (cbr ((yab (List.getD p1 0 .nils)) !=(0:Int))
 (K (8:Int))
 (asr (decide ((0:Int)≤(IntKind.i64.wrap ((((List.length p1):Nat):Int)-(1:Int)))))
 (asr (decide ((IntKind.i64.wrap ((((List.length p1):Nat):Int)-(1:Int)))<(((List.length p1):Nat):Int)))
 (asr (conf (.one (.i .i64)) (List.getD p1 ((IntKind.i64.wrap ((((List.length p1):Nat):Int)-(1:Int))).toNat) .nils))
 (cbr ((yab (List.getD p1 ((IntKind.i64.wrap ((((List.length p1):Nat):Int)-(1:Int))).toNat) .nils)) != p0)
 (K (8:Int))
 (∃ n:Nat,ycS a0 a1
 (fun b=>(K b))
 (fun _ _ a _ _ _=>(a0 a (fun c =>
 (cbr (decide (c<(0:Int)))
 (K (8:Int))
 (a1 a (fun d =>
 (cbr (decide (d>(12:Int)))
 (K (8:Int))
 (a1 a (fun e =>
 (cbr (e ==(0:Int))
 (K (8:Int))
 (K (0:Int))))))))))))
 n p0 p1 p2 (IntKind.i64.wrap ((((List.length p1):Nat):Int)-(1:Int))) (0:Int))))))))))))))
def yau:yai:=yjF yda ydb
def pt15:LPt:=lC vD pt9
def pt16:VPt:=vA (lC pt0 pt15)
def pt17:LPt:=lC pt16 lN
def yjG:Sg:=⟨pt17,Int→Prop,fun K=>(fun r0=>K (.int .i64 r0))⟩
def ytj (Q:Qx):Int→Prop:=(fun i0=>Q .ret [(2,.v (.int .i64 i0))] [])
def ytk (Q:Qx):Int→Ls→Ls→Int→Int→Bool→Prop:=(fun i0 l1 l2 i3 i4 b5=>Q (.exit 0) [(1,.box (.agg [(.int .i64 i0),(.data l1),(.data l2)])),(49,.v (.int .i64 i3)),(50,.v (.int .i64 i4)),(51,.v (.bool b5))] [])
def ymN (a0:yas) (a1:yas) (Q:Qx):List St:=[⟨(pS hN (fX 1 pt16 (fV 49 pt0 (fV 50 pt0 fN))) fN),ycS a0 a1 (ytj Q) (ytk Q)⟩]
def ypM (a0:yas) (a1:yas):LP:=lpS [(87419700,ymN a0 a1)]
def yjH (e:Es) (a0:yas) (a1:yas):SE:=sE (E e) [(yeh,ydI.pw a0),(yc8,ydI.pw a1)] (ypM a0 a1)
theorem ynB (e:Es) (he:EG e):SEOk (Uni (E e)) (yjH e yda ydb):=yah (Sub.uni _) ⟨(ytg e he),(yti e he),trivial⟩ trivial he.ok
theorem yrQ (e:Es) (a0 a1):ybQ (yjH e a0 a1) 5 a ykZ false (ymN a0 a1):=fun _=>⟨fun _=>by kernel_rfl,fun _ _=>by kernel_rfl,trivial⟩
theorem yrR (e:Es) (he:EG e):LpT (Uni (E e)) (ypM yda ydb) [] 87419700 (.loop 87419700 ykZ):=fun _ _ _=>yni.st (Sub.uni _) (yat (ynB e he) 5) (YOk.no _ _) (yaf (by kernel_rfl)) (yrQ e _ _ _)
theorem yx8 (e:Es) (a0 a1):EqW (yjH e a0 a1) 6 yAc yjG (yjF a0 a1):=fun _ _=>by kernel_rfl
theorem yeo (e:Es) (he:EG e):OkF (E e) (yjG.pw yau) ybn:=okU he (yx8 e _ _) (ynB e he) yiy.flat (yaR (l:=[(87419700,.loop 87419700 ykZ)]) ⟨yrR e he,trivial⟩ (by kernel_rfl))
abbrev ylI:Type:=Int→Ls→Ls→(Int→Int→Prop)→Prop
def ycT (a0:yai) (x0:Int→Ls→Ls→Int→Ls→Int→Int→Bool→Prop):Nat→Int→Ls→Ls→Int→Ls→Int→Int→Prop
 | 0,_,_,_,_,_,_,_=>False
 | n+1,i0,l1,l2,i3,l4,i5,i6 =>
 (cbr (decide (i6<i5))
 (asr (decide ((0:Int)≤i6))
 (asr (decide (i6<(((List.length l4):Nat):Int)))
 (asr (conf (.one (.i .i64)) (List.getD l4 (i6.toNat) .nils))
 (asr (decide ((0:Int)≤(IntKind.i64.wrap (i6+(1:Int)))))
 (asr (decide ((IntKind.i64.wrap (i6+(1:Int)))<(((List.length l1):Nat):Int)))
 (asr (conf (.one (.i .i64)) (List.getD l1 ((IntKind.i64.wrap (i6+(1:Int))).toNat) .nils))
 (asr (decide ((0:Int)≤i6))
 (asr (decide (i6<(((List.length l1):Nat):Int)))
 (asr (conf (.one (.i .i64)) (List.getD l1 (i6.toNat) .nils))
 (ycT a0 x0 n i0 l1 l2 (IntKind.i64.wrap (i3+(IntKind.i64.wrap ((yab (List.getD l4 (i6.toNat) .nils))*(IntKind.i64.wrap ((yab (List.getD l1 ((IntKind.i64.wrap (i6+(1:Int))).toNat) .nils))-(yab (List.getD l1 (i6.toNat) .nils)))))))) l4 i5 (IntKind.i64.wrap (i6+(1:Int)))))))))))))
 (x0 i0 l1 l2 i3 l4 i5 i6 false))
def yha (a0:yai) (p0:Int) (p1 p2:Ls) (K:Int→Int→Prop):Prop :=
 (a0 p0 p1 p2 (fun a =>
 (cbr (a !=(0:Int))
 (K (0:Int) a)
 (∃ n:Nat,ycT a0
 (fun _ _ _ b _ _ _ _=>(K b (0:Int)))
 n p0 p1 p2 (0:Int) p2 (((List.length p2):Nat):Int) (0:Int)))))
def yed:ylI:=yha yau
def yx9:Sg:=⟨pt17,Int→Int→Prop,fun K=>(fun r0 r1=>K (.tup [(.int .i64 r0),(.int .i64 r1)]))⟩
def ytl (Q:Qx):Int→Ls→Ls→Int→Ls→Int→Int→Bool→Prop:=(fun i0 l1 l2 i3 l4 i5 i6 b7=>Q (.exit 0) [(1,.box (.agg [(.int .i64 i0),(.data l1),(.data l2)])),(5,.v (.int .i64 i3)),(14,.v (.data l4)),(15,.v (.int .i64 i5)),(16,.v (.int .i64 i6)),(17,.v (.bool b7))] [])
def pt18:Pat Frm:=fV 14 vD (fV 15 pt0 (fV 16 pt0 fN))
def ymO (a0:yai) (Q:Qx):List St:=[⟨(pS hN (fX 1 pt16 (fV 5 pt0 pt18)) fN),ycT a0 (ytl Q)⟩]
def ypN (a0:yai):LP:=lpS [(45203600,ymO a0)]
def yjI (e:Es) (a0:yai):SE:=sE (E e) [(ybn,yjG.pw a0)] (ypN a0)
theorem ynC (e:Es) (he:EG e):SEOk (Uni (E e)) (yjI e yau):=yah (Sub.uni _) ⟨(yeo e he),trivial⟩ trivial he.ok
theorem yrS (e:Es) (a0):ybQ (yjI e a0) 5 a yk4 false (ymO a0):=fun _=>⟨fun _=>by kernel_rfl,fun _ _=>by kernel_rfl,trivial⟩
theorem yrT (e:Es) (he:EG e):LpT (Uni (E e)) (ypN yau) [] 45203600 (.loop 45203600 yk4):=fun _ _ _=>yni.st (Sub.uni _) (yat (ynC e he) 5) (YOk.no _ _) (yaf (by kernel_rfl)) (yrS e _ _)
theorem yya (e:Es) (a0):EqW (yjI e a0) 6 yAf yx9 (yha a0):=fun _ _=>by kernel_rfl
theorem ypO (e:Es) (he:EG e):OkF (E e) (yx9.pw yed) ygh:=okU he (yya e _) (ynC e he) yiy.flat (yaR (l:=[(45203600,.loop 45203600 yk4)]) ⟨yrT e he,trivial⟩ (by kernel_rfl))
abbrev yae:Type:=Int→(Int→Int→Prop)→Prop
def ypP (p0:Int) (K:Int→Int→Prop):Prop :=
 (K p0 (1:Int))
def ybo:yae:=ypP
def yjJ:Sg:=⟨pt1,Int→Int→Prop,fun K=>(fun r0 r1=>K (.agg [(.int .i64 r0),(.int .i64 r1)]))⟩
def yyb (e:Es):SE:=sE (E e) [] lp0
theorem yyc (e:Es):EqW (yyb e) 6 yAj yjJ ypP:=fun _ _=>by kernel_rfl
theorem yhb (e:Es) (he:EG e):OkF (E e) (yjJ.pw ybo) yaU:=okU he (yyc e) (yah (Sub.uni _) trivial trivial he.ok) yiy.flat (yaf (by kernel_rfl))
abbrev yal:Type:=Int→Int→Int→Int→(Bool→Prop)→Prop
def ylJ (a0:yaw) (p0 p1 p2 p3:Int) (K:Bool→Prop):Prop :=
 (a0 p0 p1 p2 p3 (fun a _ =>
 (K (decide (a<(0:Int))))))
def ybC:yal:=ylJ yd2
def ylK:Sg:=⟨pt12,Bool→Prop,fun K=>(fun r0=>K (.bool r0))⟩
def yAC (e:Es) (a0:yaw):SE:=sE (E e) [(yeF,yAr.pw a0)] lp0
theorem yAD (e:Es) (a0):EqW (yAC e a0) 6 yCX ylK (ylJ a0):=fun _ _=>by kernel_rfl
theorem yhV (e:Es) (he:EG e):OkF (E e) (ylK.pw ybC) ybg:=okU he (yAD e _) (yah (Sub.uni _) ⟨(ylB e he),trivial⟩ trivial he.ok) yiy.flat (yaf (by kernel_rfl))
abbrev ybp:Type:=Int→Ls→Ls→Int→Int→(Bool→Prop)→Prop
def yjK (a0:yao) (a1:yae) (a2:yal) (p0:Int) (_ _:Ls) (p3 p4:Int) (K:Bool→Prop):Prop :=
 (a0 p3 p4 (fun a =>
 (cbr (a ==(0:Int))
 (cbr (decide (p3≥(0:Int)))
 (a1 p0 (fun b c =>
 (a2 b c p3 p4 (fun d =>
 (K (!d))))))
 (K false))
 (K false))))
def ybq:ybp:=yjK ya0 ybo ybC
def yyd:Sg:=⟨(lC pt16 pt8),Bool→Prop,fun K=>(fun r0=>K (.bool r0))⟩
def yye (e:Es) (a0:yao) (a1:yae) (a2:yal):SE:=sE (E e) [(ybk,ynp.pw a0),(yaU,yjJ.pw a1),(ybg,ylK.pw a2)] lp0
theorem yyf (e:Es) (a0 a1 a2):EqW (yye e a0 a1 a2) 6 yAl yyd (yjK a0 a1 a2):=fun _ _=>by kernel_rfl
theorem yjL (e:Es) (he:EG e):OkF (E e) (yyd.pw ybq) ycE:=okU he (yyf e _ _ _) (yah (Sub.uni _) ⟨(yeN e he),(yhb e he),(yhV e he),trivial⟩ trivial he.ok) yiy.flat (yaf (by kernel_rfl))
abbrev ybP:Type:=Int→Ls→Ls→Int→Int→Int→Int→(Int→Int→Int→Prop)→Prop
def yaS (a0:yai) (a1:ybp) (a2:yao) (a3:yae) (a4:yal) (a5:yac) (a6:yac) (a7:yac) (a8:yac) (x0:Int→Int→Int→Int→Int→Int→Prop) (x1:Int→Int→Int→Int→Int→Int→Ls→Ls→Int→Int→Ls→Int→Int→Bool→Prop):Nat→Int→Int→Int→Int→Int→Int→Ls→Ls→Int→Int→Ls→Int→Int→Prop
 | 0,_,_,_,_,_,_,_,_,_,_,_,_,_=>False
 | n+1,i0,i1,i2,i3,i4,i5,l6,l7,i8,i9,l10,i11,i12 =>
 (cbr (decide (i12<i11))
 (asr (decide ((0:Int)≤i12))
 (asr (decide (i12<(((List.length l10):Nat):Int)))
 (asr (conf (.one (.i .i64)) (List.getD l10 (i12.toNat) .nils))
 (asr (decide ((0:Int)≤(IntKind.i64.wrap (i12+(1:Int)))))
 (asr (decide ((IntKind.i64.wrap (i12+(1:Int)))<(((List.length l6):Nat):Int)))
 (asr (conf (.one (.i .i64)) (List.getD l6 ((IntKind.i64.wrap (i12+(1:Int))).toNat) .nils))
 (a3 (yab (List.getD l6 ((IntKind.i64.wrap (i12+(1:Int))).toNat) .nils)) (fun a b =>
 (a4 i8 i9 a b (fun s =>
 (cbr (!s)
 (yaS a0 a1 a2 a3 a4 a5 a6 a7 a8 x0 x1 n i0 i1 i2 i3 i4 i5 l6 l7 i8 i9 l10 i11 (IntKind.i64.wrap (i12+(1:Int))))
 (a3 (0:Int) (fun j k =>
 (cbr (decide ((yab (List.getD l10 (i12.toNat) .nils))>(0:Int)))
 (a5 a b i8 i9 (fun t u l =>
 (cbr (l !=(0:Int))
 (x0 i0 i1 i2 i3 i4 l)
 (a3 (yab (List.getD l10 (i12.toNat) .nils)) (fun v w =>
 (a6 t u v w (fun m o p =>
 (cbr (p !=(0:Int))
 (x0 i0 i1 i2 i3 i4 p)
 (cbr ((yab (List.getD l10 (i12.toNat) .nils)) ==(0:Int))
 (yaS a0 a1 a2 a3 a4 a5 a6 a7 a8 x0 x1 n i0 i1 i2 i3 i4 i5 l6 l7 a b l10 i11 (IntKind.i64.wrap (i12+(1:Int))))
 (a4 m o i0 i1 (fun x =>
 (cbr x
 (a5 i0 i1 m o (fun e f c =>
 (cbr (c !=(0:Int))
 (cbr (c !=(0:Int))
 (x0 e f i2 i3 c (0:Int))
 (yaS a0 a1 a2 a3 a4 a5 a6 a7 a8 x0 x1 n e f i2 i3 c i5 l6 l7 a b l10 i11 (IntKind.i64.wrap (i12+(1:Int)))))
 (cbr (c !=(0:Int))
 (x0 e f i2 i3 (6:Int) (0:Int))
 (yaS a0 a1 a2 a3 a4 a5 a6 a7 a8 x0 x1 n e f i2 i3 (6:Int) i5 l6 l7 a b l10 i11 (IntKind.i64.wrap (i12+(1:Int))))))))
 (a3 (yab (List.getD l10 (i12.toNat) .nils)) (fun y z =>
 (a7 i0 i1 y z (fun A B q =>
 (cbr (q ==(0:Int))
 (a8 i8 i9 A B (fun C D E =>
 (x0 i0 i1 C D E (0:Int))))
 (x0 i0 i1 i2 i3 q (0:Int)))))))))))))))))))
 (cbr ((yab (List.getD l10 (i12.toNat) .nils)) ==(0:Int))
 (yaS a0 a1 a2 a3 a4 a5 a6 a7 a8 x0 x1 n i0 i1 i2 i3 i4 i5 l6 l7 a b l10 i11 (IntKind.i64.wrap (i12+(1:Int))))
 (a4 j k i0 i1 (fun F =>
 (cbr F
 (a5 i0 i1 j k (fun g h d =>
 (cbr (d !=(0:Int))
 (cbr (d !=(0:Int))
 (x0 g h i2 i3 d (0:Int))
 (yaS a0 a1 a2 a3 a4 a5 a6 a7 a8 x0 x1 n g h i2 i3 d i5 l6 l7 a b l10 i11 (IntKind.i64.wrap (i12+(1:Int)))))
 (cbr (d !=(0:Int))
 (x0 g h i2 i3 (6:Int) (0:Int))
 (yaS a0 a1 a2 a3 a4 a5 a6 a7 a8 x0 x1 n g h i2 i3 (6:Int) i5 l6 l7 a b l10 i11 (IntKind.i64.wrap (i12+(1:Int))))))))
 (a3 (yab (List.getD l10 (i12.toNat) .nils)) (fun G H =>
 (a7 i0 i1 G H (fun I J r =>
 (cbr (r ==(0:Int))
 (a8 i8 i9 I J (fun K L M =>
 (x0 i0 i1 K L M (0:Int))))
 (x0 i0 i1 i2 i3 r (0:Int)))))))))))))))))))))))))
 (x1 i0 i1 i2 i3 i4 i5 l6 l7 i8 i9 l10 i11 i12 false))
def ylL (a0:yai) (a1:ybp) (a2:yao) (a3:yae) (a4:yal) (a5:yac) (a6:yac) (a7:yac) (a8:yac) (p0:Int) (p1 p2:Ls) (p3 p4 p5 p6:Int) (K:Int→Int→Int→Prop):Prop :=
 (a0 p0 p1 p2 (fun b =>
 (cbr (b !=(0:Int))
 (K (0:Int) (0:Int) b)
 (a1 p0 p1 p2 p3 p4 (fun g =>
 (cbr (!g)
 (K (0:Int) (0:Int) (2:Int))
 (a2 p5 p6 (fun h =>
 (cbr (h !=(0:Int))
 (K (0:Int) (0:Int) (2:Int))
 (cbr (decide (p5<(0:Int)))
 (K (0:Int) (0:Int) (2:Int))
 (cbr (p5 ==(0:Int))
 (K p3 p4 (0:Int))
 (∃ n:Nat,yaS a0 a1 a2 a3 a4 a5 a6 a7 a8
 (fun _ _ c d e a=>(cbr (a !=(0:Int))
 (cbr (a !=(0:Int))
 (K (0:Int) (0:Int) a)
 (K c d (0:Int)))
 (cbr (e !=(0:Int))
 (K (0:Int) (0:Int) e)
 (K c d (0:Int)))))
 (fun _ _ i j f _ _ _ _ _ _ _ _ _=>(cbr (f !=(0:Int))
 (K (0:Int) (0:Int) f)
 (K i j (0:Int))))
 n p5 p6 (0:Int) (0:Int) (6:Int) p0 p1 p2 p3 p4 p2 (((List.length p2):Nat):Int) (0:Int)))))))))))))
def yfS:ybP:=ylL yau ybq ya0 ybo ybC ya7 ya3 ybY ya2
def pt19:LPt:=lC pt16 pt12
def yhW:Sg:=⟨pt19,Int→Int→Int→Prop,fun K=>(fun r0 r1 r2=>K (.tup [(.agg [(.int .i64 r0),(.int .i64 r1)]),(.int .i64 r2)]))⟩
def yuQ (Q:Qx):Int→Int→Int→Int→Int→Int→Prop:=(fun i0 i1 i2 i3 i4 i5=>Q .ret [(6,.v (.int .i64 i5))] [⟨false,true,2,([(.agg [(.int .i64 i0),(.int .i64 i1)])]:Ls)⟩,⟨false,true,2,([(.agg [(.int .i64 i2),(.int .i64 i3)])]:Ls)⟩,⟨false,true,1,([(.int .i64 i4)]:Ls)⟩])
def yuR (Q:Qx):Int→Int→Int→Int→Int→Int→Ls→Ls→Int→Int→Ls→Int→Int→Bool→Prop:=(fun i0 i1 i2 i3 i4 i5 l6 l7 i8 i9 l10 i11 i12 b13=>Q (.exit 0) [(2,.v (.fn (.func yem) [] [(.ptr 0 1 0 0),(.ptr 2 1 0 0),(.ptr 1 1 0 0)])),(3,.box (.agg [(.int .i64 i5),(.data l6),(.data l7)])),(4,.box (.agg [(.int .i64 i8),(.int .i64 i9)])),(14,.v (.data l10)),(15,.v (.int .i64 i11)),(16,.v (.int .i64 i12)),(17,.v (.bool b13))] [⟨false,true,2,([(.agg [(.int .i64 i0),(.int .i64 i1)])]:Ls)⟩,⟨false,true,2,([(.agg [(.int .i64 i2),(.int .i64 i3)])]:Ls)⟩,⟨false,true,1,([(.int .i64 i4)]:Ls)⟩])
def pt20:RPt:=rC pt0 rN
def pt21:VPt:=vP 2 0 (nK 1) (nK 0)
def pt22:VPt:=vP 1 0 (nK 1) (nK 0)
def ynD (a0:yai) (a1:ybp) (a2:yao) (a3:yae) (a4:yal) (a5:yac) (a6:yac) (a7:yac) (a8:yac) (Q:Qx):List St:=[⟨(pS (hB false true 2 (rC pt7 rN) (hB false true 2 (rC pt7 rN) (hB false true 1 pt20 hN))) (fV 2 (vF yem lN (lC (vP 0 0 (nK 1) (nK 0)) (lC pt21 (lC pt22 lN)))) (fX 3 pt16 (fX 4 pt7 pt18))) fN),yaS a0 a1 a2 a3 a4 a5 a6 a7 a8 (yuQ Q) (yuR Q)⟩]
def ylM (a0:yai) (a1:ybp) (a2:yao) (a3:yae) (a4:yal) (a5:yac) (a6:yac) (a7:yac) (a8:yac):LP:=lpS [(41613500,ynD a0 a1 a2 a3 a4 a5 a6 a7 a8)]
def yrU (e:Es) (a0:yai) (a1:ybp) (a2:yao) (a3:yae) (a4:yal) (a5:yac) (a6:yac) (a7:yac) (a8:yac):SE:=⟨(E e),yjf [(ybn,yjG.pw a0),(ycE,yyd.pw a1),(ybk,ynp.pw a2),(yaU,yjJ.pw a3),(ybg,ylK.pw a4),(ydm,yds.pw a5),(ybW,yds.pw a6),(yfO,yds.pw a7),(ycI,yds.pw a8)],yjg [(yem,ypB)],ylM a0 a1 a2 a3 a4 a5 a6 a7 a8,fun _=>none⟩
def yrV (e:Es) (a0:yai) (a1:ybp) (a2:yao) (a3:yae) (a4:yal) (a5:yac) (a6:yac) (a7:yac) (a8:yac):SE:=⟨(E e),yjf [(ybn,yjG.pw a0),(ycE,yyd.pw a1),(ybk,ynp.pw a2),(yaU,yjJ.pw a3),(ybg,ylK.pw a4),(ydm,yds.pw a5),(ybW,yds.pw a6),(yfO,yds.pw a7),(ycI,yds.pw a8)],yjg [(ynm,yC2),(yem,ypB)],ylM a0 a1 a2 a3 a4 a5 a6 a7 a8,fun _=>none⟩
theorem yyg (e:Es) (he:EG e):SEOk (Uni (E e)) (yrU e yau ybq ya0 ybo ybC ya7 ya3 ybY ya2):=yah (Sub.uni _) ⟨(yeo e he),(yjL e he),(yeN e he),(yhb e he),(yhV e he),(yhU e he),(ygp e he),(ylH e he),(ygo e he),trivial⟩ ⟨⟨by kernel_rfl,by kernel_rfl,rfl,fun as=>ybu (by kernel_rfl) as,he.num _ (by kernel_rfl),by kernel_rfl,(yaf (by kernel_rfl))⟩,trivial⟩ he.ok
theorem ytm (e:Es) (a0 a1 a2 a3 a4 a5 a6 a7 a8):ybQ (yrU e a0 a1 a2 a3 a4 a5 a6 a7 a8) 5 a yla false (ynD a0 a1 a2 a3 a4 a5 a6 a7 a8):=fun _=>⟨fun _=>by kernel_rfl,fun _ _=>by kernel_rfl,trivial⟩
theorem ytn (e:Es) (he:EG e):LpT (Uni (E e)) (ylM yau ybq ya0 ybo ybC ya7 ya3 ybY ya2) [] 41613500 (.loop 41613500 yla):=fun _ _ _=>yni.st (Sub.uni _) (yat (yyg e he) 5) (YOk.no _ _) (yaf (by kernel_rfl)) (ytm e _ _ _ _ _ _ _ _ _ _)
theorem yyh (e:Es) (he:EG e):SEOk (Uni (E e)) (yrV e yau ybq ya0 ybo ybC ya7 ya3 ybY ya2):=yah (Sub.uni _) ⟨(yeo e he),(yjL e he),(yeN e he),(yhb e he),(yhV e he),(yhU e he),(ygp e he),(ylH e he),(ygo e he),trivial⟩ ⟨⟨by kernel_rfl,by kernel_rfl,rfl,fun as=>ybu (by kernel_rfl) as,he.num _ (by kernel_rfl),by kernel_rfl,(yaR (l:=[(41613500,.loop 41613500 yla)]) ⟨ytn e he,trivial⟩ (by kernel_rfl))⟩,⟨by kernel_rfl,by kernel_rfl,rfl,fun as=>ybu (by kernel_rfl) as,he.num _ (by kernel_rfl),by kernel_rfl,(yaf (by kernel_rfl))⟩,trivial⟩ he.ok
theorem yAE (e:Es) (a0 a1 a2 a3 a4 a5 a6 a7 a8):EqW (yrV e a0 a1 a2 a3 a4 a5 a6 a7 a8) 6 yC3 yhW (ylL a0 a1 a2 a3 a4 a5 a6 a7 a8):=fun _ _=>by kernel_rfl
theorem yrW (e:Es) (he:EG e):OkF (E e) (yhW.pw yfS) yhm:=okU he (yAE e _ _ _ _ _ _ _ _ _) (yyh e he) yiy.flat (yaf (by kernel_rfl))
def yaD (a0:yai) (a1:ybp) (a2:yal) (a3:yae) (a4:yac) (a5:yac) (a6:yac) (x0:Int→Int→Int→Prop) (x1:Int→Ls→Ls→Int→Int→Int→Int→Int→Int→Int→Int→Ls→Int→Int→Bool→Prop):Nat→Int→Ls→Ls→Int→Int→Int→Int→Int→Int→Int→Int→Ls→Int→Int→Prop
 | 0,_,_,_,_,_,_,_,_,_,_,_,_,_,_=>False
 | n+1,i0,l1,l2,i3,i4,i5,i6,i7,i8,i9,i10,l11,i12,i13 =>
 (cbr (decide (i13<i12))
 (asr (decide ((0:Int)≤i13))
 (asr (decide (i13<(((List.length l11):Nat):Int)))
 (asr (conf (.one (.i .i64)) (List.getD l11 (i13.toNat) .nils))
 (asr (decide ((0:Int)≤(IntKind.i64.wrap (i13+(1:Int)))))
 (asr (decide ((IntKind.i64.wrap (i13+(1:Int)))<(((List.length l1):Nat):Int)))
 (asr (conf (.one (.i .i64)) (List.getD l1 ((IntKind.i64.wrap (i13+(1:Int))).toNat) .nils))
 (a3 (yab (List.getD l1 ((IntKind.i64.wrap (i13+(1:Int))).toNat) .nils)) (fun a b =>
 (a2 i3 i4 a b (fun j =>
 (cbr j
 (cbr ((yab (List.getD l11 (i13.toNat) .nils)) ==(0:Int))
 (a2 i9 i10 i3 i4 (fun k =>
 (cbr k
 (yaD a0 a1 a2 a3 a4 a5 a6 x0 x1 n i0 l1 l2 i3 i4 i5 i6 i7 i8 i3 i4 l11 i12 (IntKind.i64.wrap (i13+(1:Int))))
 (yaD a0 a1 a2 a3 a4 a5 a6 x0 x1 n i0 l1 l2 i3 i4 i5 i6 i7 i8 i9 i10 l11 i12 (IntKind.i64.wrap (i13+(1:Int)))))))
 (a2 i9 i10 i3 i4 (fun l =>
 (cbr (!l)
 (a2 i9 i10 i3 i4 (fun m =>
 (cbr m
 (yaD a0 a1 a2 a3 a4 a5 a6 x0 x1 n i0 l1 l2 i3 i4 i5 i6 i7 i8 i3 i4 l11 i12 (IntKind.i64.wrap (i13+(1:Int))))
 (yaD a0 a1 a2 a3 a4 a5 a6 x0 x1 n i0 l1 l2 i3 i4 i5 i6 i7 i8 i9 i10 l11 i12 (IntKind.i64.wrap (i13+(1:Int)))))))
 (a4 i3 i4 i9 i10 (fun o p c =>
 (cbr (c !=(0:Int))
 (x0 (0:Int) (0:Int) c)
 (a3 (yab (List.getD l11 (i13.toNat) .nils)) (fun q r =>
 (a5 o p q r (fun s t d =>
 (cbr (d !=(0:Int))
 (x0 (0:Int) (0:Int) d)
 (a6 i7 i8 s t (fun u v e =>
 (cbr (e !=(0:Int))
 (x0 (0:Int) (0:Int) e)
 (yaD a0 a1 a2 a3 a4 a5 a6 x0 x1 n i0 l1 l2 i3 i4 i5 i6 u v i3 i4 l11 i12 (IntKind.i64.wrap (i13+(1:Int)))))))))))))))))))
 (cbr ((yab (List.getD l11 (i13.toNat) .nils)) ==(0:Int))
 (a2 i9 i10 a b (fun w =>
 (cbr w
 (yaD a0 a1 a2 a3 a4 a5 a6 x0 x1 n i0 l1 l2 i3 i4 i5 i6 i7 i8 a b l11 i12 (IntKind.i64.wrap (i13+(1:Int))))
 (yaD a0 a1 a2 a3 a4 a5 a6 x0 x1 n i0 l1 l2 i3 i4 i5 i6 i7 i8 i9 i10 l11 i12 (IntKind.i64.wrap (i13+(1:Int)))))))
 (a2 i9 i10 a b (fun x =>
 (cbr (!x)
 (a2 i9 i10 a b (fun y =>
 (cbr y
 (yaD a0 a1 a2 a3 a4 a5 a6 x0 x1 n i0 l1 l2 i3 i4 i5 i6 i7 i8 a b l11 i12 (IntKind.i64.wrap (i13+(1:Int))))
 (yaD a0 a1 a2 a3 a4 a5 a6 x0 x1 n i0 l1 l2 i3 i4 i5 i6 i7 i8 i9 i10 l11 i12 (IntKind.i64.wrap (i13+(1:Int)))))))
 (a4 a b i9 i10 (fun z A f =>
 (cbr (f !=(0:Int))
 (x0 (0:Int) (0:Int) f)
 (a3 (yab (List.getD l11 (i13.toNat) .nils)) (fun B C =>
 (a5 z A B C (fun D E g =>
 (cbr (g !=(0:Int))
 (x0 (0:Int) (0:Int) g)
 (a6 i7 i8 D E (fun F G h =>
 (cbr (h !=(0:Int))
 (x0 (0:Int) (0:Int) h)
 (yaD a0 a1 a2 a3 a4 a5 a6 x0 x1 n i0 l1 l2 i3 i4 i5 i6 F G a b l11 i12 (IntKind.i64.wrap (i13+(1:Int))))))))))))))))))))))))))))))
 (x1 i0 l1 l2 i3 i4 i5 i6 i7 i8 i9 i10 l11 i12 i13 false))
def yjM (a0:yai) (a1:ybp) (a2:yal) (a3:yae) (a4:yac) (a5:yac) (a6:yac) (p0:Int) (p1 p2:Ls) (p3 p4 p5 p6:Int) (K:Int→Int→Int→Prop):Prop :=
 (a0 p0 p1 p2 (fun a =>
 (cbr (a !=(0:Int))
 (K (0:Int) (0:Int) a)
 (a1 p0 p1 p2 p3 p4 (fun b =>
 (cbr (!b)
 (K (0:Int) (0:Int) (2:Int))
 (a1 p0 p1 p2 p5 p6 (fun c =>
 (cbr (!c)
 (K (0:Int) (0:Int) (2:Int))
 (a2 p5 p6 p3 p4 (fun d =>
 (cbr d
 (K (0:Int) (0:Int) (2:Int))
 (a3 (0:Int) (fun e f =>
 (∃ n:Nat,yaD a0 a1 a2 a3 a4 a5 a6
 (fun g h i=>(K g h i))
 (fun _ _ _ _ _ _ _ j k _ _ _ _ _ _=>(K j k (0:Int)))
 n p0 p1 p2 p5 p6 (0:Int) (0:Int) e f p3 p4 p2 (((List.length p2):Nat):Int) (0:Int))))))))))))))))
def ye9:ybP:=yjM yau ybq ybC ybo ya7 ya3 ya2
def yto (Q:Qx):Int→Int→Int→Prop:=(fun i0 i1 i2=>Q .ret [(6,.box (.agg [(.int .i64 i0),(.int .i64 i1)])),(7,.v (.int .i64 i2))] [])
def ytp (Q:Qx):Int→Ls→Ls→Int→Int→Int→Int→Int→Int→Int→Int→Ls→Int→Int→Bool→Prop:=(fun i0 l1 l2 i3 i4 i5 i6 i7 i8 i9 i10 l11 i12 i13 b14=>Q (.exit 0) [(3,.box (.agg [(.int .i64 i0),(.data l1),(.data l2)])),(5,.box (.agg [(.int .i64 i3),(.int .i64 i4)])),(6,.box (.agg [(.int .i64 i5),(.int .i64 i6)])),(9,.box (.agg [(.int .i64 i7),(.int .i64 i8)])),(10,.box (.agg [(.int .i64 i9),(.int .i64 i10)])),(42,.v (.data l11)),(43,.v (.int .i64 i12)),(44,.v (.int .i64 i13)),(45,.v (.bool b14))] [])
def ymP (a0:yai) (a1:ybp) (a2:yal) (a3:yae) (a4:yac) (a5:yac) (a6:yac) (Q:Qx):List St:=[⟨(pS hN (fX 3 pt16 (fX 5 pt7 (fX 6 pt7 (fX 9 pt7 (fX 10 pt7 (fV 42 vD (fV 43 pt0 (fV 44 pt0 fN)))))))) fN),yaD a0 a1 a2 a3 a4 a5 a6 (yto Q) (ytp Q)⟩]
def ypQ (a0:yai) (a1:ybp) (a2:yal) (a3:yae) (a4:yac) (a5:yac) (a6:yac):LP:=lpS [(85339800,ymP a0 a1 a2 a3 a4 a5 a6)]
def yjN (e:Es) (a0:yai) (a1:ybp) (a2:yal) (a3:yae) (a4:yac) (a5:yac) (a6:yac):SE:=sE (E e) [(ybn,yjG.pw a0),(ycE,yyd.pw a1),(ybg,ylK.pw a2),(yaU,yjJ.pw a3),(ydm,yds.pw a4),(ybW,yds.pw a5),(ycI,yds.pw a6)] (ypQ a0 a1 a2 a3 a4 a5 a6)
theorem ynE (e:Es) (he:EG e):SEOk (Uni (E e)) (yjN e yau ybq ybC ybo ya7 ya3 ya2):=yah (Sub.uni _) ⟨(yeo e he),(yjL e he),(yhV e he),(yhb e he),(yhU e he),(ygp e he),(ygo e he),trivial⟩ trivial he.ok
theorem yrX (e:Es) (a0 a1 a2 a3 a4 a5 a6):ybQ (yjN e a0 a1 a2 a3 a4 a5 a6) 5 a ylb false (ymP a0 a1 a2 a3 a4 a5 a6):=fun _=>⟨fun _=>by kernel_rfl,fun _ _=>by kernel_rfl,trivial⟩
theorem yrY (e:Es) (he:EG e):LpT (Uni (E e)) (ypQ yau ybq ybC ybo ya7 ya3 ya2) [] 85339800 (.loop 85339800 ylb):=fun _ _ _=>yni.st (Sub.uni _) (yat (ynE e he) 5) (YOk.no _ _) (yaf (by kernel_rfl)) (yrX e _ _ _ _ _ _ _ _)
theorem yyi (e:Es) (a0 a1 a2 a3 a4 a5 a6):EqW (yjN e a0 a1 a2 a3 a4 a5 a6) 6 yAm yhW (yjM a0 a1 a2 a3 a4 a5 a6):=fun _ _=>by kernel_rfl
theorem ypR (e:Es) (he:EG e):OkF (E e) (yhW.pw ye9) ygk:=okU he (yyi e _ _ _ _ _ _ _) (ynE e he) yiy.flat (yaR (l:=[(85339800,.loop 85339800 ylb)]) ⟨yrY e he,trivial⟩ (by kernel_rfl))
end Go.Pf.Vc
namespace Go.Pf.Vc
open Go Go.Pf
set_option linter.unusedVariables false
theorem ywQ (p0:Int) (p1:Ls) (p2:Ls) (r0:Int) (h:∀ K:Int→Prop,K r0→yau p0 p1 p2 K) (K:Int→Prop):yau p0 p1 p2 K=K r0 :=
 propext ⟨fun k=>detC (yeo [] yaG) (as:=[(.agg [(.int .i64 p0),(.data p1),(.data p2)])]) (x:=(.int .i64 r0)) (fun K' k'=>h (fun r0=>K' (.int .i64 r0)) k') (K:=fun x=>match x with | (.int .i64 r0)=>K r0 | _=>False) k,h K⟩
theorem ywR (p0:Int) (p1:Ls) (p2:Ls) (r0:Int) (r1:Int) (h:∀ K:Int→Int→Prop,K r0 r1→yed p0 p1 p2 K) (K:Int→Int→Prop):yed p0 p1 p2 K=K r0 r1 :=
 propext ⟨fun k=>detC (ypO [] yaG) (as:=[(.agg [(.int .i64 p0),(.data p1),(.data p2)])]) (x:=(.tup [(.int .i64 r0),(.int .i64 r1)])) (fun K' k'=>h (fun r0 r1=>K' (.tup [(.int .i64 r0),(.int .i64 r1)])) k') (K:=fun x=>match x with | (.tup [(.int .i64 r0),(.int .i64 r1)])=>K r0 r1 | _=>False) k,h K⟩
theorem yyj (p0:Int) (p1:Ls) (p2:Ls) (p3:Int) (p4:Int) (p5:Int) (p6:Int) (r0:Int) (r1:Int) (r2:Int) (h:∀ K:Int→Int→Int→Prop,K r0 r1 r2→yfS p0 p1 p2 p3 p4 p5 p6 K) (K:Int→Int→Int→Prop):yfS p0 p1 p2 p3 p4 p5 p6 K=K r0 r1 r2 :=
 propext ⟨fun k=>detC (yrW [] yaG) (as:=[(.agg [(.int .i64 p0),(.data p1),(.data p2)]),(.agg [(.int .i64 p3),(.int .i64 p4)]),(.agg [(.int .i64 p5),(.int .i64 p6)])]) (x:=(.tup [(.agg [(.int .i64 r0),(.int .i64 r1)]),(.int .i64 r2)])) (fun K' k'=>h (fun r0 r1 r2=>K' (.tup [(.agg [(.int .i64 r0),(.int .i64 r1)]),(.int .i64 r2)])) k') (K:=fun x=>match x with | (.tup [(.agg [(.int .i64 r0),(.int .i64 r1)]),(.int .i64 r2)])=>K r0 r1 r2 | _=>False) k,h K⟩
theorem ywS (p0:Int) (p1:Ls) (p2:Ls) (p3:Int) (p4:Int) (p5:Int) (p6:Int) (r0:Int) (r1:Int) (r2:Int) (h:∀ K:Int→Int→Int→Prop,K r0 r1 r2→ye9 p0 p1 p2 p3 p4 p5 p6 K) (K:Int→Int→Int→Prop):ye9 p0 p1 p2 p3 p4 p5 p6 K=K r0 r1 r2 :=
 propext ⟨fun k=>detC (ypR [] yaG) (as:=[(.agg [(.int .i64 p0),(.data p1),(.data p2)]),(.agg [(.int .i64 p3),(.int .i64 p4)]),(.agg [(.int .i64 p5),(.int .i64 p6)])]) (x:=(.tup [(.agg [(.int .i64 r0),(.int .i64 r1)]),(.int .i64 r2)])) (fun K' k'=>h (fun r0 r1 r2=>K' (.tup [(.agg [(.int .i64 r0),(.int .i64 r1)]),(.int .i64 r2)])) k') (K:=fun x=>match x with | (.tup [(.agg [(.int .i64 r0),(.int .i64 r1)]),(.int .i64 r2)])=>K r0 r1 r2 | _=>False) k,h K⟩
end Go.Pf.Vc
namespace Go.Pf.Vc
open Go Go.Pf
set_option maxRecDepth 100000
abbrev ybh:Type:=Ls→Ls→(Int→Prop)→Prop
def ydc (a0:yai) (a:Int→Prop) (b:Ls→Ls→Ls→Int→Int→Bool→Prop):Nat→Ls→Ls→Ls→Int→Int→Prop
 | 0,_,_,_,_,_=>False
 | e+1,l0,l1,l2,i3,i4 =>
 (cbr (decide (i4<i3))
 (asr (decide ((0:Int)≤i4))
 (asr (decide (i4<(((List.length l2):Nat):Int)))
 (asr (conf (.agg [.i .i64,.d,.d]) (List.getD l2 (i4.toNat) .nils))
 (a0 (yab (yak (List.getD l2 (i4.toNat) .nils) 0)) (ybb (yak (List.getD l2 (i4.toNat) .nils) 1)) (ybb (yak (List.getD l2 (i4.toNat) .nils) 2)) (fun c =>
 (cbr (c !=(0:Int))
 (a c)
 (ydc a0 a b e l0 l1 l2 i3 (IntKind.i64.wrap (i4+(1:Int))))))))))
 (b l0 l1 l2 i3 i4 false))
def ycs (a0:yai) (a:Int→Prop) (b:Ls→Ls→Ls→Int→Int→Bool→Prop):Nat→Ls→Ls→Ls→Int→Int→Prop
 | 0,_,_,_,_,_=>False
 | c+1,l0,l1,l2,i3,i4 =>
 (cbr (decide (i4<i3))
 (asr (decide ((0:Int)≤i4))
 (asr (decide (i4<(((List.length l2):Nat):Int)))
 (asr (conf (.agg [.i .i64,.d,.d]) (List.getD l2 (i4.toNat) .nils))
 (asr (decide ((0:Int)<(((List.length l0):Nat):Int)))
 (asr (conf (.agg [.i .i64,.d,.d]) (List.getD l0 0 .nils))
 (cbr ((yab (yak (List.getD l2 (i4.toNat) .nils) 0)) !=(yab (yak (List.getD l0 0 .nils) 0)))
 (a (8:Int))
 (ycs a0 a b c l0 l1 l2 i3 (IntKind.i64.wrap (i4+(1:Int))))))))))
 (b l0 l1 l2 i3 i4 false))
def ylN (a0:yai) (p0 p1:Ls) (K:Int→Prop):Prop :=
 (cbr (decide ((((List.length p0):Nat):Int)>(6:Int)))
 (K (4:Int))
 (cbr (decide ((((List.length p1):Nat):Int)>(2000:Int)))
 (K (4:Int))
 (cbr ((((List.length p0):Nat):Int) ==(0:Int))
 (K (8:Int))
 (∃ b:Nat,ydc a0
 (fun c=>(K c))
 (fun a d _ _ _ _=>(∃ e:Nat,ycs a0
 (fun f=>(K f))
 (fun _ _ _ _ _ _=>(K (0:Int)))
 e a d a (((List.length a):Nat):Int) (0:Int)))
 b p0 p1 p0 (((List.length p0):Nat):Int) (0:Int)))))
def ydt:ybh:=ylN yau
def pt23:VPt:=vA pt15
def yrZ:Sg:=⟨(lC pt23 lN),Int→Prop,fun K=>(fun r0=>K (.int .i64 r0))⟩
def yuS (Q:Qx):Int→Prop:=(fun i0=>Q .ret [(2,.v (.int .i64 i0))] [])
def yuT (Q:Qx):Ls→Ls→Ls→Int→Int→Bool→Prop:=(fun l0 l1 l2 i3 i4 b5=>Q (.exit 0) [(1,.box (.agg [(.data l0),(.data l1)])),(23,.v (.data l2)),(24,.v (.int .i64 i3)),(25,.v (.int .i64 i4)),(26,.v (.bool b5))] [])
def yuU (Q:Qx):Int→Prop:=(fun i0=>Q .ret [(2,.v (.int .i64 i0))] [])
def yuV (Q:Qx):Ls→Ls→Ls→Int→Int→Bool→Prop:=(fun l0 l1 l2 i3 i4 b5=>Q (.exit 2) [(1,.box (.agg [(.data l0),(.data l1)])),(36,.v (.data l2)),(37,.v (.int .i64 i3)),(38,.v (.int .i64 i4)),(39,.v (.bool b5))] [])
def ynF (a0:yai) (Q:Qx):List St:=[⟨(pS hN (fX 1 pt23 (fV 23 vD (fV 24 pt0 (fV 25 pt0 fN)))) fN),ydc a0 (yuS Q) (yuT Q)⟩]
def ynG (a0:yai) (Q:Qx):List St:=[⟨(pS hN (fX 1 pt23 (fV 36 vD (fV 37 pt0 (fV 38 pt0 fN)))) fN),ycs a0 (yuU Q) (yuV Q)⟩]
def ylO (a0:yai):LP:=lpS [(12157600,ynF a0),(12157601,ynG a0)]
def yhX (e:Es) (a0:yai):SE:=sE (E e) [(ybn,yjG.pw a0)] (ylO a0)
theorem yjO (e:Es) (he:EG e):SEOk (Uni (E e)) (yhX e yau):=yah (Sub.uni _) ⟨(yeo e he),trivial⟩ trivial he.ok
theorem ytq (e:Es) (a0):ybQ (yhX e a0) 5 a yk1 false (ynF a0):=fun _=>⟨fun _=>by kernel_rfl,fun _ _=>by kernel_rfl,trivial⟩
theorem ytr (e:Es) (he:EG e):LpT (Uni (E e)) (ylO yau) [] 12157600 (.loop 12157600 yk1):=fun _ _ _=>yni.st (Sub.uni _) (yat (yjO e he) 5) (YOk.no _ _) (yaf (by kernel_rfl)) (ytq e _ _)
theorem yts (e:Es) (a0):ybQ (yhX e a0) 5 a yk2 false (ynG a0):=fun _=>⟨fun _=>by kernel_rfl,fun _ _=>by kernel_rfl,trivial⟩
theorem ytt (e:Es) (he:EG e):LpT (Uni (E e)) (ylO yau) [] 12157601 (.loop 12157601 yk2):=fun _ _ _=>yni.st (Sub.uni _) (yat (yjO e he) 5) (YOk.no _ _) (yaf (by kernel_rfl)) (yts e _ _)
theorem yAF (e:Es) (a0):EqW (yhX e a0) 6 yCT yrZ (ylN a0):=fun _ _=>by kernel_rfl
theorem ygq (e:Es) (he:EG e):OkF (E e) (yrZ.pw ydt) ycH:=okU he (yAF e _) (yjO e he) yiy.flat (yaR (l:=[(12157600,.loop 12157600 yk1),(12157601,.loop 12157601 yk2)]) ⟨ytr e he,ytt e he,trivial⟩ (by kernel_rfl))
abbrev ybr:Type:=Ls→(Ls→Prop)→Prop
mutual
def yfa (a0:yck) (x0:Ls→Ls→Int→Int→Bool→Prop) (x1:Ls→Int→Int→Bool→Prop):Nat→Ls→Int→Int→Prop
 | 0,_,_,_=>False
 | n+1,l0,i1,i2 =>
 (cbr (decide (i2<i1))
 (asr (decide ((0:Int)≤i2))
 (asr (decide (i2<(((List.length l0):Nat):Int)))
 (asr (conf (.agg [.i .i64,.d,.d]) (List.getD l0 (i2.toNat) .nils))
 (a0 (ybb (yak (List.getD l0 (i2.toNat) .nils) 1)) (fun a =>
 (a0 (ybb (yak (List.getD l0 (i2.toNat) .nils) 2)) (fun b =>
 (asr (decide (1=List.length ([(.agg [(.int .i64 (yab (yak (List.getD l0 (i2.toNat) .nils) 0))),(.data a),(.data b)])]:Ls))&&decide (1=List.length ([(.agg [(.int .i64 (yab (yak (List.getD l0 (i2.toNat) .nils) 0))),(.data a),(.data b)])]:Ls)))
 (ycU a0 x0 x1 n ([(.agg [(.int .i64 (yab (yak (List.getD l0 (i2.toNat) .nils) 0))),(.data a),(.data b)])]:Ls) l0 i1 (IntKind.i64.wrap (i2+(1:Int))))))))))))
 (x1 l0 i1 i2 false))
def ycU (a0:yck) (x0:Ls→Ls→Int→Int→Bool→Prop) (x1:Ls→Int→Int→Bool→Prop):Nat→Ls→Ls→Int→Int→Prop
 | 0,_,_,_,_=>False
 | n+1,l0,l3,i4,i5 =>
 (cbr (decide (i5<i4))
 (asr (decide ((0:Int)≤i5))
 (asr (decide (i5<(((List.length l3):Nat):Int)))
 (asr (conf (.agg [.i .i64,.d,.d]) (List.getD l3 (i5.toNat) .nils))
 (a0 (ybb (yak (List.getD l3 (i5.toNat) .nils) 1)) (fun a =>
 (a0 (ybb (yak (List.getD l3 (i5.toNat) .nils) 2)) (fun b =>
 (asr (decide ((List.length l0)=(List.length l0)))
 (asr (decide ((0+(List.length l0))≤(List.length l0)))
 (asr (!(decide (((0+(List.length l0))+1)≤(List.length l0))))
 (asr (decide ((List.length l0)=(List.length l0)))
 (asr (decide ((((List.length l0)+1)+64)*(56+1)≤room))
 (asr (decide ((List.length (l0++([(.agg [(.int .i64 (yab (yak (List.getD l3 (i5.toNat) .nils) 0))),(.data a),(.data b)])]:Ls)))=List.length (l0++([(.agg [(.int .i64 (yab (yak (List.getD l3 (i5.toNat) .nils) 0))),(.data a),(.data b)])]:Ls)))&&decide ((List.length (l0++([(.agg [(.int .i64 (yab (yak (List.getD l3 (i5.toNat) .nils) 0))),(.data a),(.data b)])]:Ls)))=List.length (l0++([(.agg [(.int .i64 (yab (yak (List.getD l3 (i5.toNat) .nils) 0))),(.data a),(.data b)])]:Ls))))
 (ycU a0 x0 x1 n (l0++([(.agg [(.int .i64 (yab (yak (List.getD l3 (i5.toNat) .nils) 0))),(.data a),(.data b)])]:Ls)) l3 i4 (IntKind.i64.wrap (i5+(1:Int)))))))))))))))))
 (x0 l0 l3 i4 i5 false))
end
def yjP (a0:yck) (p0:Ls) (K:Ls→Prop):Prop :=
 (∃ n:Nat,yfa a0
 (fun a _ _ _ _=>(asr (decide ((List.length a)=(List.length a)))
 (asr (decide ((0+(List.length a))≤(List.length a)))
 (K (List.take (List.length a) a)))))
 (fun _ _ _ _=>(K ([]:Ls)))
 n p0 (((List.length p0):Nat):Int) (0:Int))
def ydu:ybr:=yjP ydp
def ypS:Sg:=⟨pt9,Ls→Prop,fun K=>(fun r0=>K (.data r0))⟩
def ykx (Q:Qx):Ls→Ls→Int→Int→Bool→Prop:=(fun l0 l3 i4 i5 b6=>Q (.exit 0) [(3,.v (.own 0 0 (List.length l0) (List.length l0) none)),(6,.v (.data l3)),(7,.v (.int .i64 i4)),(8,.v (.int .i64 i5)),(9,.v (.bool b6))] [⟨false,true,3,l0⟩])
def yky (Q:Qx):Ls→Int→Int→Bool→Prop:=(fun l0 i1 i2 b3=>Q (.exit 0) [(3,.v .nils),(6,.v (.data l0)),(7,.v (.int .i64 i1)),(8,.v (.int .i64 i2)),(9,.v (.bool b3))] [])
def pt24:VPt:=vW 0 (nK 0) (nT 0) (nT 0)
def ymQ (a0:yck) (Q:Qx):List St:=[⟨(pS hN (fV 3 vNs (fV 6 vD pt10)) fN),yfa a0 (ykx Q) (yky Q)⟩,⟨(pS (hB false true 3 rA hN) (fV 3 pt24 (fV 6 vD pt10)) fN),ycU a0 (ykx Q) (yky Q)⟩]
def ypT (a0:yck):LP:=lpS [(94933800,ymQ a0)]
def yjQ (e:Es) (a0:yck):SE:=sE (E e) [(ybG,yqE a0)] (ypT a0)
theorem ynH (e:Es) (he:EG e):SEOk (Uni (E e)) (yjQ e ydp):=yah (Sub.uni _) ⟨(yqG e he),trivial⟩ trivial he.ok
theorem yr0 (e:Es) (a0):ybQ (yjQ e a0) 5 a yk3 false (ymQ a0):=fun _=>⟨fun _=>by kernel_rfl,fun _ _=>by kernel_rfl,fun _=>by kernel_rfl,fun _ _=>by kernel_rfl,trivial⟩
theorem yr1 (e:Es) (he:EG e):LpT (Uni (E e)) (ypT ydp) [] 94933800 (.loop 94933800 yk3):=fun _ _ _=>yni.st (Sub.uni _) (yat (ynH e he) 5) (YOk.no _ _) (yaf (by kernel_rfl)) (yr0 e _ _)
theorem yyk (e:Es) (a0):EqW (yjQ e a0) 6 yAd ypS (yjP a0):=fun _ _=>by kernel_rfl
theorem yhc (e:Es) (he:EG e):OkF (E e) (ypS.pw ydu) ydl:=okU he (yyk e _) (ynH e he) yiy.flat (yaR (l:=[(94933800,.loop 94933800 yk3)]) ⟨yr1 e he,trivial⟩ (by kernel_rfl))
abbrev yaE:Type:=Ls→(Ls→Ls→Int→Prop)→Prop
def ynI (a0:ybh) (a1:ybr) (p0:Ls) (K:Ls→Ls→Int→Prop):Prop :=
 (a0 p0 ([]:Ls) (fun a =>
 (cbr (a !=(0:Int))
 (K ([]:Ls) ([]:Ls) a)
 (a1 p0 (fun b =>
 (K b ([]:Ls) (0:Int)))))))
def yaV:yaE:=ynI ydt ydu
def yuj:Sg:=⟨pt9,Ls→Ls→Int→Prop,fun K=>(fun r0 r1 r2=>K (.tup [(.agg [(.data r0),(.data r1)]),(.int .i64 r2)]))⟩
def yDo (e:Es) (a0:ybh) (a1:ybr):SE:=sE (E e) [(ycH,yrZ.pw a0),(ydl,ypS.pw a1)] lp0
theorem yDp (e:Es) (a0 a1):EqW (yDo e a0 a1) 6 yFq yuj (ynI a0 a1):=fun _ _=>by kernel_rfl
theorem yuk (e:Es) (he:EG e):OkF (E e) (yuj.pw yaV) ygG:=okU he (yDp e _ _) (yah (Sub.uni _) ⟨(ygq e he),(yhc e he),trivial⟩ trivial he.ok) yiy.flat (yaf (by kernel_rfl))
abbrev ya1:Type:=Ls→Ls→Int→(Bool→Prop)→Prop
def ygr (p0 _:Ls) (p2:Int) (K:Bool→Prop):Prop :=
 (cbr (decide (p2≥(0:Int)))
 (K (decide (p2<(((List.length p0):Nat):Int))))
 (K false))
def ycV:ya1:=ygr
def pt25:LPt:=lC pt23 pt1
def yjk:Sg:=⟨pt25,Bool→Prop,fun K=>(fun r0=>K (.bool r0))⟩
def yr2 (e:Es):SE:=sE (E e) [] lp0
theorem yr3 (e:Es):EqW (yr2 e) 6 ys9 yjk ygr:=fun _ _=>by kernel_rfl
theorem ygs (e:Es) (he:EG e):OkF (E e) (yjk.pw ycV) ybx:=okU he (yr3 e) (yah (Sub.uni _) trivial trivial he.ok) yiy.flat (yaf (by kernel_rfl))
abbrev ya8:Type:=Ls→Ls→Int→(Int→Int→Prop)→Prop
def ylP (a0:ybh) (a1:ya1) (a2:ylI) (p0 p1:Ls) (p2:Int) (K:Int→Int→Prop):Prop :=
 (a0 p0 p1 (fun b =>
 (cbr (b !=(0:Int))
 (K (0:Int) b)
 (a1 p0 p1 p2 (fun c =>
 (cbr (!c)
 (K (0:Int) (2:Int))
 (asr (decide ((0:Int)≤p2))
 (asr (decide (p2<(((List.length p0):Nat):Int)))
 (lt (List.getD p0 (p2.toNat) .nils) (fun a =>
 (asr (conf (.agg [.i .i64,.d,.d]) a)
 (a2 (yab (yak a 0)) (ybb (yak a 1)) (ybb (yak a 2)) (fun e f =>
 (K e f))))))))))))))
def ynJ:ya8:=ylP ydt ycV yed
def yAG:Sg:=⟨pt25,Int→Int→Prop,fun K=>(fun r0 r1=>K (.tup [(.int .i64 r0),(.int .i64 r1)]))⟩
def yAH (e:Es) (a0:ybh) (a1:ya1) (a2:ylI):SE:=sE (E e) [(ycH,yrZ.pw a0),(ybx,yjk.pw a1),(ygh,yx9.pw a2)] lp0
theorem yAI (e:Es) (a0 a1 a2):EqW (yAH e a0 a1 a2) 6 yCU yAG (ylP a0 a1 a2):=fun _ _=>by kernel_rfl
theorem yAJ (e:Es) (he:EG e):OkF (E e) (yAG.pw ynJ) yhl:=okU he (yAI e _ _ _) (yah (Sub.uni _) ⟨(ygq e he),(ygs e he),(ypO e he),trivial⟩ trivial he.ok) yiy.flat (yaf (by kernel_rfl))
abbrev ycm:Type:=Ls→Ls→Int→Int→Int→Int→Int→(Int→Int→Int→Prop)→Prop
def yfB (a0:ybP) (p0 _:Ls) (p2 p3 p4 p5 p6:Int) (K:Int→Int→Int→Prop):Prop :=
 (asr (decide ((0:Int)≤p2))
 (asr (decide (p2<(((List.length p0):Nat):Int)))
 (asr (conf (.agg [.i .i64,.d,.d]) (List.getD p0 (p2.toNat) .nils))
 (a0 (yab (yak (List.getD p0 (p2.toNat) .nils) 0)) (ybb (yak (List.getD p0 (p2.toNat) .nils) 1)) (ybb (yak (List.getD p0 (p2.toNat) .nils) 2)) p3 p4 p5 p6 (fun a b c =>
 (K a b c))))))
def ygt:ycm:=yfB yfS
def pt26:LPt:=lC pt23 (lC pt0 pt12)
def yiM:Sg:=⟨pt26,Int→Int→Int→Prop,fun K=>(fun r0 r1 r2=>K (.tup [(.agg [(.int .i64 r0),(.int .i64 r1)]),(.int .i64 r2)]))⟩
def yqR (e:Es) (a0:ybP):SE:=sE (E e) [(yhm,yhW.pw a0)] lp0
theorem yqS (e:Es) (a0):EqW (yqR e a0) 6 yrJ yiM (yfB a0):=fun _ _=>by kernel_rfl
theorem yqT (e:Es) (he:EG e):OkF (E e) (yiM.pw ygt) ydn:=okU he (yqS e _) (yah (Sub.uni _) ⟨(yrW e he),trivial⟩ trivial he.ok) yiy.flat (yaf (by kernel_rfl))
abbrev yaH:Type:=Ls→Ls→Int→Int→Int→Int→Int→(Ls→Ls→Int→Int→Int→Prop)→Prop
def ynK (a0:ybh) (a1:ya1) (a2:ycm) (a3:ybr) (p0 p1:Ls) (p2 p3 p4 p5 p6:Int) (K:Ls→Ls→Int→Int→Int→Prop):Prop :=
 (a0 p0 p1 (fun c =>
 (cbr (c !=(0:Int))
 (K ([]:Ls) ([]:Ls) (0:Int) (0:Int) c)
 (a1 p0 p1 p2 (fun f =>
 (cbr (!f)
 (K ([]:Ls) ([]:Ls) (0:Int) (0:Int) (2:Int))
 (a2 p0 p1 p2 p3 p4 p5 p6 (fun a b d =>
 (cbr (d !=(0:Int))
 (K ([]:Ls) ([]:Ls) (0:Int) (0:Int) d)
 (cbr (decide ((((List.length p1):Nat):Int)≥(2000:Int)))
 (K ([]:Ls) ([]:Ls) (0:Int) (0:Int) (4:Int))
 (asr (decide ((0:Int)≤(IntKind.i64.wrap ((((List.length p1):Nat):Int)+(1:Int)))))
 (asr (decide ((((IntKind.i64.wrap ((((List.length p1):Nat):Int)+(1:Int))).toNat)+64)*(64+1)≤room))
 (a3 p0 (fun e =>
 (asr (ybR 8 p1)
 (asr (decide ((List.length (List.replicate ((IntKind.i64.wrap ((((List.length p1):Nat):Int)+(1:Int))).toNat) ((.agg [(.int .i64 (0)),(.int .u8 (0)),(.int .i64 (0)),(.int .i64 (0)),(.int .i64 (0)),(.int .i64 (0)),(.int .i64 (0)),(.int .i64 (0))]):PV)))=((IntKind.i64.wrap ((((List.length p1):Nat):Int)+(1:Int))).toNat)))
 (asr (decide (0≤((IntKind.i64.wrap ((((List.length p1):Nat):Int)+(1:Int))).toNat)))
 (cbr (List.isEmpty p1)
 (asr (decide ((List.length (List.replicate ((IntKind.i64.wrap ((((List.length p1):Nat):Int)+(1:Int))).toNat) ((.agg [(.int .i64 (0)),(.int .u8 (0)),(.int .i64 (0)),(.int .i64 (0)),(.int .i64 (0)),(.int .i64 (0)),(.int .i64 (0)),(.int .i64 (0))]):PV)))=((IntKind.i64.wrap ((((List.length p1):Nat):Int)+(1:Int))).toNat)))
 (asr (decide (0≤((IntKind.i64.wrap ((((List.length p1):Nat):Int)+(1:Int))).toNat)))
 (asr (decide (1≤((IntKind.i64.wrap ((((List.length p1):Nat):Int)+(1:Int))).toNat)))
 (asr (decide ((List.length (([(.agg [(.int .i64 p2),(.int .u8 (2:Int)),(.int .i64 p3),(.int .i64 p4),(.int .i64 p5),(.int .i64 p6),(.int .i64 a),(.int .i64 b)])]:Ls)++(List.drop 1 (List.replicate ((IntKind.i64.wrap ((((List.length p1):Nat):Int)+(1:Int))).toNat) ((.agg [(.int .i64 (0)),(.int .u8 (0)),(.int .i64 (0)),(.int .i64 (0)),(.int .i64 (0)),(.int .i64 (0)),(.int .i64 (0)),(.int .i64 (0))]):PV)))))=((IntKind.i64.wrap ((((List.length p1):Nat):Int)+(1:Int))).toNat)))
 (asr (decide (1≤((IntKind.i64.wrap ((((List.length p1):Nat):Int)+(1:Int))).toNat)))
 (K e (List.take 1 (([(.agg [(.int .i64 p2),(.int .u8 (2:Int)),(.int .i64 p3),(.int .i64 p4),(.int .i64 p5),(.int .i64 p6),(.int .i64 a),(.int .i64 b)])]:Ls)++(List.drop 1 (List.replicate ((IntKind.i64.wrap ((((List.length p1):Nat):Int)+(1:Int))).toNat) ((.agg [(.int .i64 (0)),(.int .u8 (0)),(.int .i64 (0)),(.int .i64 (0)),(.int .i64 (0)),(.int .i64 (0)),(.int .i64 (0)),(.int .i64 (0))]):PV))))) a b (0:Int)))))))
 (asr (decide ((0+(List.length p1))≤((IntKind.i64.wrap ((((List.length p1):Nat):Int)+(1:Int))).toNat)))
 (asr (decide ((List.length (p1++(List.drop (0+(List.length p1)) (List.replicate ((IntKind.i64.wrap ((((List.length p1):Nat):Int)+(1:Int))).toNat) ((.agg [(.int .i64 (0)),(.int .u8 (0)),(.int .i64 (0)),(.int .i64 (0)),(.int .i64 (0)),(.int .i64 (0)),(.int .i64 (0)),(.int .i64 (0))]):PV)))))=((IntKind.i64.wrap ((((List.length p1):Nat):Int)+(1:Int))).toNat)))
 (asr (decide ((0+(0+(List.length p1)))≤((IntKind.i64.wrap ((((List.length p1):Nat):Int)+(1:Int))).toNat)))
 (asr (decide (((0+(List.length p1))+1)≤((IntKind.i64.wrap ((((List.length p1):Nat):Int)+(1:Int))).toNat)))
 (asr (decide ((List.length ((List.take (0+(0+(List.length p1))) (p1++(List.drop (0+(List.length p1)) (List.replicate ((IntKind.i64.wrap ((((List.length p1):Nat):Int)+(1:Int))).toNat) ((.agg [(.int .i64 (0)),(.int .u8 (0)),(.int .i64 (0)),(.int .i64 (0)),(.int .i64 (0)),(.int .i64 (0)),(.int .i64 (0)),(.int .i64 (0))]):PV)))))++(([(.agg [(.int .i64 p2),(.int .u8 (2:Int)),(.int .i64 p3),(.int .i64 p4),(.int .i64 p5),(.int .i64 p6),(.int .i64 a),(.int .i64 b)])]:Ls)++(List.drop ((0+(0+(List.length p1)))+1) (p1++(List.drop (0+(List.length p1)) (List.replicate ((IntKind.i64.wrap ((((List.length p1):Nat):Int)+(1:Int))).toNat) ((.agg [(.int .i64 (0)),(.int .u8 (0)),(.int .i64 (0)),(.int .i64 (0)),(.int .i64 (0)),(.int .i64 (0)),(.int .i64 (0)),(.int .i64 (0))]):PV))))))))=((IntKind.i64.wrap ((((List.length p1):Nat):Int)+(1:Int))).toNat)))
 (asr (decide ((0+((0+(List.length p1))+1))≤((IntKind.i64.wrap ((((List.length p1):Nat):Int)+(1:Int))).toNat)))
 (K e (List.take ((0+(List.length p1))+1) ((List.take (0+(0+(List.length p1))) (p1++(List.drop (0+(List.length p1)) (List.replicate ((IntKind.i64.wrap ((((List.length p1):Nat):Int)+(1:Int))).toNat) ((.agg [(.int .i64 (0)),(.int .u8 (0)),(.int .i64 (0)),(.int .i64 (0)),(.int .i64 (0)),(.int .i64 (0)),(.int .i64 (0)),(.int .i64 (0))]):PV)))))++(([(.agg [(.int .i64 p2),(.int .u8 (2:Int)),(.int .i64 p3),(.int .i64 p4),(.int .i64 p5),(.int .i64 p6),(.int .i64 a),(.int .i64 b)])]:Ls)++(List.drop ((0+(0+(List.length p1)))+1) (p1++(List.drop (0+(List.length p1)) (List.replicate ((IntKind.i64.wrap ((((List.length p1):Nat):Int)+(1:Int))).toNat) ((.agg [(.int .i64 (0)),(.int .u8 (0)),(.int .i64 (0)),(.int .i64 (0)),(.int .i64 (0)),(.int .i64 (0)),(.int .i64 (0)),(.int .i64 (0))]):PV)))))))) a b (0:Int))))))))))))))))))))))))))
def yc2:yaH:=ynK ydt ycV ygt ydu
def yjl:Sg:=⟨pt26,Ls→Ls→Int→Int→Int→Prop,fun K=>(fun r0 r1 r2 r3 r4=>K (.tup [(.agg [(.data r0),(.data r1)]),(.agg [(.int .i64 r2),(.int .i64 r3)]),(.int .i64 r4)]))⟩
def yDq (e:Es) (a0:ybh) (a1:ya1) (a2:ycm) (a3:ybr):SE:=⟨(E e),yjf [(ycH,yrZ.pw a0),(ybx,yjk.pw a1),(ydn,yiM.pw a2),(ydl,ypS.pw a3)],yjg [(ydM,ykr)],lp0,fun _=>none⟩
theorem yDr (e:Es) (a0 a1 a2 a3):EqW (yDq e a0 a1 a2 a3) 6 yFr yjl (ynK a0 a1 a2 a3):=fun _ _=>by kernel_rfl
theorem yul (e:Es) (he:EG e):OkF (E e) (yjl.pw yc2) yiz:=okU he (yDr e _ _ _ _) (yah (Sub.uni _) ⟨(ygq e he),(ygs e he),(yqT e he),(yhc e he),trivial⟩ ⟨⟨by kernel_rfl,by kernel_rfl,rfl,fun as=>ybu (by kernel_rfl) as,he.num _ (by kernel_rfl),by kernel_rfl,(yaf (by kernel_rfl))⟩,trivial⟩ he.ok) yiy.flat (yaf (by kernel_rfl))
def yfl (a0:ybP) (p0 _:Ls) (p2 p3 p4 p5 p6:Int) (K:Int→Int→Int→Prop):Prop :=
 (asr (decide ((0:Int)≤p2))
 (asr (decide (p2<(((List.length p0):Nat):Int)))
 (asr (conf (.agg [.i .i64,.d,.d]) (List.getD p0 (p2.toNat) .nils))
 (a0 (yab (yak (List.getD p0 (p2.toNat) .nils) 0)) (ybb (yak (List.getD p0 (p2.toNat) .nils) 1)) (ybb (yak (List.getD p0 (p2.toNat) .nils) 2)) p3 p4 p5 p6 (fun a b c =>
 (K a b c))))))
def yfC:ycm:=yfl ye9
def ypf (e:Es) (a0:ybP):SE:=sE (E e) [(ygk,yhW.pw a0)] lp0
theorem ypg (e:Es) (a0):EqW (ypf e a0) 6 yqD yiM (yfl a0):=fun _ _=>by kernel_rfl
theorem yph (e:Es) (he:EG e):OkF (E e) (yiM.pw yfC) yc0:=okU he (ypg e _) (yah (Sub.uni _) ⟨(ypR e he),trivial⟩ trivial he.ok) yiy.flat (yaf (by kernel_rfl))
def ylQ (a0:ybh) (a1:ya1) (a2:ycm) (a3:ybr) (p0 p1:Ls) (p2 p3 p4 p5 p6:Int) (K:Ls→Ls→Int→Int→Int→Prop):Prop :=
 (a0 p0 p1 (fun c =>
 (cbr (c !=(0:Int))
 (K ([]:Ls) ([]:Ls) (0:Int) (0:Int) c)
 (a1 p0 p1 p2 (fun f =>
 (cbr (!f)
 (K ([]:Ls) ([]:Ls) (0:Int) (0:Int) (2:Int))
 (a2 p0 p1 p2 p3 p4 p5 p6 (fun a b d =>
 (cbr (d !=(0:Int))
 (K ([]:Ls) ([]:Ls) (0:Int) (0:Int) d)
 (cbr (decide ((((List.length p1):Nat):Int)≥(2000:Int)))
 (K ([]:Ls) ([]:Ls) (0:Int) (0:Int) (4:Int))
 (asr (decide ((0:Int)≤(IntKind.i64.wrap ((((List.length p1):Nat):Int)+(1:Int)))))
 (asr (decide ((((IntKind.i64.wrap ((((List.length p1):Nat):Int)+(1:Int))).toNat)+64)*(64+1)≤room))
 (a3 p0 (fun e =>
 (asr (ybR 8 p1)
 (asr (decide ((List.length (List.replicate ((IntKind.i64.wrap ((((List.length p1):Nat):Int)+(1:Int))).toNat) ((.agg [(.int .i64 (0)),(.int .u8 (0)),(.int .i64 (0)),(.int .i64 (0)),(.int .i64 (0)),(.int .i64 (0)),(.int .i64 (0)),(.int .i64 (0))]):PV)))=((IntKind.i64.wrap ((((List.length p1):Nat):Int)+(1:Int))).toNat)))
 (asr (decide (0≤((IntKind.i64.wrap ((((List.length p1):Nat):Int)+(1:Int))).toNat)))
 (cbr (List.isEmpty p1)
 (asr (decide ((List.length (List.replicate ((IntKind.i64.wrap ((((List.length p1):Nat):Int)+(1:Int))).toNat) ((.agg [(.int .i64 (0)),(.int .u8 (0)),(.int .i64 (0)),(.int .i64 (0)),(.int .i64 (0)),(.int .i64 (0)),(.int .i64 (0)),(.int .i64 (0))]):PV)))=((IntKind.i64.wrap ((((List.length p1):Nat):Int)+(1:Int))).toNat)))
 (asr (decide (0≤((IntKind.i64.wrap ((((List.length p1):Nat):Int)+(1:Int))).toNat)))
 (asr (decide (1≤((IntKind.i64.wrap ((((List.length p1):Nat):Int)+(1:Int))).toNat)))
 (asr (decide ((List.length (([(.agg [(.int .i64 p2),(.int .u8 (1:Int)),(.int .i64 p3),(.int .i64 p4),(.int .i64 p5),(.int .i64 p6),(.int .i64 a),(.int .i64 b)])]:Ls)++(List.drop 1 (List.replicate ((IntKind.i64.wrap ((((List.length p1):Nat):Int)+(1:Int))).toNat) ((.agg [(.int .i64 (0)),(.int .u8 (0)),(.int .i64 (0)),(.int .i64 (0)),(.int .i64 (0)),(.int .i64 (0)),(.int .i64 (0)),(.int .i64 (0))]):PV)))))=((IntKind.i64.wrap ((((List.length p1):Nat):Int)+(1:Int))).toNat)))
 (asr (decide (1≤((IntKind.i64.wrap ((((List.length p1):Nat):Int)+(1:Int))).toNat)))
 (K e (List.take 1 (([(.agg [(.int .i64 p2),(.int .u8 (1:Int)),(.int .i64 p3),(.int .i64 p4),(.int .i64 p5),(.int .i64 p6),(.int .i64 a),(.int .i64 b)])]:Ls)++(List.drop 1 (List.replicate ((IntKind.i64.wrap ((((List.length p1):Nat):Int)+(1:Int))).toNat) ((.agg [(.int .i64 (0)),(.int .u8 (0)),(.int .i64 (0)),(.int .i64 (0)),(.int .i64 (0)),(.int .i64 (0)),(.int .i64 (0)),(.int .i64 (0))]):PV))))) a b (0:Int)))))))
 (asr (decide ((0+(List.length p1))≤((IntKind.i64.wrap ((((List.length p1):Nat):Int)+(1:Int))).toNat)))
 (asr (decide ((List.length (p1++(List.drop (0+(List.length p1)) (List.replicate ((IntKind.i64.wrap ((((List.length p1):Nat):Int)+(1:Int))).toNat) ((.agg [(.int .i64 (0)),(.int .u8 (0)),(.int .i64 (0)),(.int .i64 (0)),(.int .i64 (0)),(.int .i64 (0)),(.int .i64 (0)),(.int .i64 (0))]):PV)))))=((IntKind.i64.wrap ((((List.length p1):Nat):Int)+(1:Int))).toNat)))
 (asr (decide ((0+(0+(List.length p1)))≤((IntKind.i64.wrap ((((List.length p1):Nat):Int)+(1:Int))).toNat)))
 (asr (decide (((0+(List.length p1))+1)≤((IntKind.i64.wrap ((((List.length p1):Nat):Int)+(1:Int))).toNat)))
 (asr (decide ((List.length ((List.take (0+(0+(List.length p1))) (p1++(List.drop (0+(List.length p1)) (List.replicate ((IntKind.i64.wrap ((((List.length p1):Nat):Int)+(1:Int))).toNat) ((.agg [(.int .i64 (0)),(.int .u8 (0)),(.int .i64 (0)),(.int .i64 (0)),(.int .i64 (0)),(.int .i64 (0)),(.int .i64 (0)),(.int .i64 (0))]):PV)))))++(([(.agg [(.int .i64 p2),(.int .u8 (1:Int)),(.int .i64 p3),(.int .i64 p4),(.int .i64 p5),(.int .i64 p6),(.int .i64 a),(.int .i64 b)])]:Ls)++(List.drop ((0+(0+(List.length p1)))+1) (p1++(List.drop (0+(List.length p1)) (List.replicate ((IntKind.i64.wrap ((((List.length p1):Nat):Int)+(1:Int))).toNat) ((.agg [(.int .i64 (0)),(.int .u8 (0)),(.int .i64 (0)),(.int .i64 (0)),(.int .i64 (0)),(.int .i64 (0)),(.int .i64 (0)),(.int .i64 (0))]):PV))))))))=((IntKind.i64.wrap ((((List.length p1):Nat):Int)+(1:Int))).toNat)))
 (asr (decide ((0+((0+(List.length p1))+1))≤((IntKind.i64.wrap ((((List.length p1):Nat):Int)+(1:Int))).toNat)))
 (K e (List.take ((0+(List.length p1))+1) ((List.take (0+(0+(List.length p1))) (p1++(List.drop (0+(List.length p1)) (List.replicate ((IntKind.i64.wrap ((((List.length p1):Nat):Int)+(1:Int))).toNat) ((.agg [(.int .i64 (0)),(.int .u8 (0)),(.int .i64 (0)),(.int .i64 (0)),(.int .i64 (0)),(.int .i64 (0)),(.int .i64 (0)),(.int .i64 (0))]):PV)))))++(([(.agg [(.int .i64 p2),(.int .u8 (1:Int)),(.int .i64 p3),(.int .i64 p4),(.int .i64 p5),(.int .i64 p6),(.int .i64 a),(.int .i64 b)])]:Ls)++(List.drop ((0+(0+(List.length p1)))+1) (p1++(List.drop (0+(List.length p1)) (List.replicate ((IntKind.i64.wrap ((((List.length p1):Nat):Int)+(1:Int))).toNat) ((.agg [(.int .i64 (0)),(.int .u8 (0)),(.int .i64 (0)),(.int .i64 (0)),(.int .i64 (0)),(.int .i64 (0)),(.int .i64 (0)),(.int .i64 (0))]):PV)))))))) a b (0:Int))))))))))))))))))))))))))
def ybZ:yaH:=ylQ ydt ycV yfC ydu
def yAK (e:Es) (a0:ybh) (a1:ya1) (a2:ycm) (a3:ybr):SE:=⟨(E e),yjf [(ycH,yrZ.pw a0),(ybx,yjk.pw a1),(yc0,yiM.pw a2),(ydl,ypS.pw a3)],yjg [(ydM,ykr)],lp0,fun _=>none⟩
theorem yAL (e:Es) (a0 a1 a2 a3):EqW (yAK e a0 a1 a2 a3) 6 yC4 yjl (ylQ a0 a1 a2 a3):=fun _ _=>by kernel_rfl
theorem yr8 (e:Es) (he:EG e):OkF (E e) (yjl.pw ybZ) yhn:=okU he (yAL e _ _ _ _) (yah (Sub.uni _) ⟨(ygq e he),(ygs e he),(yph e he),(yhc e he),trivial⟩ ⟨⟨by kernel_rfl,by kernel_rfl,rfl,fun as=>ybu (by kernel_rfl) as,he.num _ (by kernel_rfl),by kernel_rfl,(yaf (by kernel_rfl))⟩,trivial⟩ he.ok) yiy.flat (yaf (by kernel_rfl))
end Go.Pf.Vc
namespace Go.Pf.Vc
open Go Go.Pf
set_option linter.unusedVariables false
theorem yyl (p0:Ls) (p1:Ls) (r0:Int) (h:∀ K:Int→Prop,K r0→ydt p0 p1 K) (K:Int→Prop):ydt p0 p1 K=K r0 :=
 propext ⟨fun k=>detC (ygq [] yaG) (as:=[(.agg [(.data p0),(.data p1)])]) (x:=(.int .i64 r0)) (fun K' k'=>h (fun r0=>K' (.int .i64 r0)) k') (K:=fun x=>match x with | (.int .i64 r0)=>K r0 | _=>False) k,h K⟩
theorem ywT (p0:Ls) (r0:Ls) (h:∀ K:Ls→Prop,K r0→ydu p0 K) (K:Ls→Prop):ydu p0 K=K r0 :=
 propext ⟨fun k=>detC (yhc [] yaG) (as:=[(.data p0)]) (x:=(.data r0)) (fun K' k'=>h (fun r0=>K' (.data r0)) k') (K:=fun x=>match x with | (.data r0)=>K r0 | _=>False) k,h K⟩
theorem yAM (p0:Ls) (p1:Ls) (p2:Int) (p3:Int) (p4:Int) (p5:Int) (p6:Int) (r0:Ls) (r1:Ls) (r2:Int) (r3:Int) (r4:Int) (h:∀ K:Ls→Ls→Int→Int→Int→Prop,K r0 r1 r2 r3 r4→yc2 p0 p1 p2 p3 p4 p5 p6 K) (K:Ls→Ls→Int→Int→Int→Prop):yc2 p0 p1 p2 p3 p4 p5 p6 K=K r0 r1 r2 r3 r4 :=
 propext ⟨fun k=>detC (yul [] yaG) (as:=[(.agg [(.data p0),(.data p1)]),(.int .i64 p2),(.agg [(.int .i64 p3),(.int .i64 p4)]),(.agg [(.int .i64 p5),(.int .i64 p6)])]) (x:=(.tup [(.agg [(.data r0),(.data r1)]),(.agg [(.int .i64 r2),(.int .i64 r3)]),(.int .i64 r4)])) (fun K' k'=>h (fun r0 r1 r2 r3 r4=>K' (.tup [(.agg [(.data r0),(.data r1)]),(.agg [(.int .i64 r2),(.int .i64 r3)]),(.int .i64 r4)])) k') (K:=fun x=>match x with | (.tup [(.agg [(.data r0),(.data r1)]),(.agg [(.int .i64 r2),(.int .i64 r3)]),(.int .i64 r4)])=>K r0 r1 r2 r3 r4 | _=>False) k,h K⟩
theorem yym (p0:Ls) (p1:Ls) (p2:Int) (p3:Int) (p4:Int) (p5:Int) (p6:Int) (r0:Ls) (r1:Ls) (r2:Int) (r3:Int) (r4:Int) (h:∀ K:Ls→Ls→Int→Int→Int→Prop,K r0 r1 r2 r3 r4→ybZ p0 p1 p2 p3 p4 p5 p6 K) (K:Ls→Ls→Int→Int→Int→Prop):ybZ p0 p1 p2 p3 p4 p5 p6 K=K r0 r1 r2 r3 r4 :=
 propext ⟨fun k=>detC (yr8 [] yaG) (as:=[(.agg [(.data p0),(.data p1)]),(.int .i64 p2),(.agg [(.int .i64 p3),(.int .i64 p4)]),(.agg [(.int .i64 p5),(.int .i64 p6)])]) (x:=(.tup [(.agg [(.data r0),(.data r1)]),(.agg [(.int .i64 r2),(.int .i64 r3)]),(.int .i64 r4)])) (fun K' k'=>h (fun r0 r1 r2 r3 r4=>K' (.tup [(.agg [(.data r0),(.data r1)]),(.agg [(.int .i64 r2),(.int .i64 r3)]),(.int .i64 r4)])) k') (K:=fun x=>match x with | (.tup [(.agg [(.data r0),(.data r1)]),(.agg [(.int .i64 r2),(.int .i64 r3)]),(.int .i64 r4)])=>K r0 r1 r2 r3 r4 | _=>False) k,h K⟩
end Go.Pf.Vc
namespace Go.Pf.Vc
open Go Go.Pf
set_option maxRecDepth 100000
def yzm (p0:Int) (K:Int→Int→Prop):Prop :=
 (K p0 (1:Int))
def ybl:yae:=yzm
def yIc (e:Es):SE:=sE (E e) [] lp0
theorem yId (e:Es):EqW (yIc e) 6 yJv yjJ yzm:=fun _ _=>by kernel_rfl
theorem ykz (e:Es) (he:EG e):OkF (E e) (yjJ.pw ybl) ycA:=okU he (yId e) (yah (Sub.uni _) trivial trivial he.ok) yiy.flat (yaf (by kernel_rfl))
def yqU (p0:Int) (K:Int→Prop):Prop :=
 (cbr (decide (p0<(0:Int)))
 (K (IntKind.u64.wrap ((IntKind.u64.wrap (IntKind.i64.wrap ((0:Int)-(IntKind.i64.wrap (p0+(1:Int))))))+(1:Int))))
 (K (IntKind.u64.wrap p0)))
def yfT:yaq:=yqU
def yFV (e:Es):SE:=sE (E e) [] lp0
theorem yFW (e:Es):EqW (yFV e) 6 yH4 ypD yqU:=fun _ _=>by kernel_rfl
theorem yiN (e:Es) (he:EG e):OkF (E e) (ypD.pw yfT) ybc:=okU he (yFW e) (yah (Sub.uni _) trivial trivial he.ok) yiy.flat (yaf (by kernel_rfl))
def yfs (x0:Int→Int→Bool→Prop):Nat→Int→Int→Prop
 | 0,_,_=>False
 | n+1,i0,i1 =>
 (cbr (i1 !=(0:Int))
 (asr (!(decide (i1=(0:Int))))
 (yfs x0 n i1 (Int.tmod i0 i1)))
 (x0 i0 i1 false))
def yqV (p0 p1:Int) (K:Int→Prop):Prop :=
 (∃ n:Nat,yfs
 (fun a _ _=>(K a))
 n p0 p1)
def ydd:yao:=yqV
def yyn (Q:Qx):Int→Int→Bool→Prop:=(fun i0 i1 b2=>Q (.exit 0) [(0,.v (.int .u64 i0)),(1,.v (.int .u64 i1)),(6,.v (.bool b2))] [])
def yr9 (Q:Qx):List St:=[⟨pt5,yfs (yyn Q)⟩]
def ywU:LP:=lpS [(16774900,yr9)]
def yqW (e:Es):SE:=sE (E e) [] (ywU)
theorem yum (e:Es) (he:EG e):SEOk (Uni (E e)) (yqW e):=yah (Sub.uni _) trivial trivial he.ok
theorem ywV (e:Es):ybQ (yqW e) 5 a yll false (yr9):=fun _=>⟨fun _=>by kernel_rfl,fun _ _=>by kernel_rfl,trivial⟩
theorem ywW (e:Es) (he:EG e):LpT (Uni (E e)) (ywU) [] 16774900 (.loop 16774900 yll):=fun _ _ _=>yni.st (Sub.uni _) (yat (yum e he) 5) (YOk.no _ _) (yaf (by kernel_rfl)) (ywV e _)
theorem yFX (e:Es):EqW (yqW e) 6 yH5 yrK yqV:=fun _ _=>by kernel_rfl
theorem yiO (e:Es) (he:EG e):OkF (E e) (yrK.pw ydd) ycQ:=okU he (yFX e) (yum e he) yiy.flat (yaR (l:=[(16774900,.loop 16774900 yll)]) ⟨ywW e he,trivial⟩ (by kernel_rfl))
abbrev yfD:Type:=Bool→Int→Int→Int→Int→(Int→Int→Int→Prop)→Prop
def ynL (p0:Bool) (p1 p2 p3 p4:Int) (K:Int→Int→Int→Prop):Prop :=
 (cbr (decide (p1>(0:Int)))
 (K (0:Int) (0:Int) (16:Int))
 (cbr (decide (p3>(0:Int)))
 (K (0:Int) (0:Int) (16:Int))
 (cbr (decide (p2>(1000000000000000000:Int)))
 (K (0:Int) (0:Int) (16:Int))
 (cbr (decide (p4>(1000000000000000000:Int)))
 (K (0:Int) (0:Int) (16:Int))
 (cbr p0
 (K (IntKind.i64.wrap ((0:Int)-(IntKind.i64.wrap p2))) (IntKind.i64.wrap p4) (0:Int))
 (K (IntKind.i64.wrap p2) (IntKind.i64.wrap p4) (0:Int)))))))
def yfE:yfD:=ynL
def pt27:LPt:=lC (vA pt4) (lC (vA pt4) lN)
def yDs:Sg:=⟨(lC vB pt27),Int→Int→Int→Prop,fun K=>(fun r0 r1 r2=>K (.tup [(.agg [(.int .i64 r0),(.int .i64 r1)]),(.int .i64 r2)]))⟩
def yDt (e:Es):SE:=sE (E e) [] lp0
theorem yDu (e:Es):EqW (yDt e) 6 yFx yDs ynL:=fun _ _=>by kernel_rfl
theorem ynM (e:Es) (he:EG e):OkF (E e) (yDs.pw yfE) yea:=okU he (yDu e) (yah (Sub.uni _) trivial trivial he.ok) yiy.flat (yaf (by kernel_rfl))
def ynN (a0:yaq) (a1:yao) (a2:yfD) (p0 p1:Int) (K:Int→Int→Int→Prop):Prop :=
 (cbr (p1 ==(0:Int))
 (K (0:Int) (0:Int) (18:Int))
 (a0 p0 (fun b =>
 (a0 p1 (fun c =>
 (a1 b c (fun a =>
 (asr (!(decide (a=(0:Int))))
 (asr (!(decide (a=(0:Int))))
 (a2 ((decide (p0<(0:Int))) !=(decide (p1<(0:Int)))) (0:Int) (IntKind.u64.wrap (Int.tdiv b a)) (0:Int) (IntKind.u64.wrap (Int.tdiv c a)) (fun d e f =>
 (K d e f))))))))))))
def ylR:ye7:=ynN yfT ydd yfE
def yDv (e:Es) (a0:yaq) (a1:yao) (a2:yfD):SE:=sE (E e) [(ybc,ypD.pw a0),(ycQ,yrK.pw a1),(yea,yDs.pw a2)] lp0
theorem yDw (e:Es) (a0 a1 a2):EqW (yDv e a0 a1 a2) 6 yFy ypF (ynN a0 a1 a2):=fun _ _=>by kernel_rfl
theorem yDx (e:Es) (he:EG e):OkF (E e) (ypF.pw ylR) yiD:=okU he (yDw e _ _ _) (yah (Sub.uni _) ⟨(yiN e he),(yiO e he),(ynM e he),trivial⟩ trivial he.ok) yiy.flat (yaf (by kernel_rfl))
def ylS (a0:yaq) (a1:yao) (p0 p1:Int) (K:Int→Prop):Prop :=
 (cbr (decide (p1<(1:Int)))
 (K (8:Int))
 (cbr (decide (p1>(1000000000000000000:Int)))
 (K (8:Int))
 (cbr (decide (p0<(-1000000000000000000:Int)))
 (K (8:Int))
 (cbr (decide (p0>(1000000000000000000:Int)))
 (K (8:Int))
 (a0 p0 (fun a =>
 (a1 a (IntKind.u64.wrap p1) (fun b =>
 (cbr (b !=(1:Int))
 (K (8:Int))
 (K (0:Int)))))))))))
def ydv:yao:=ylS yfT ydd
def yAN (e:Es) (a0:yaq) (a1:yao):SE:=sE (E e) [(ybc,ypD.pw a0),(ycQ,yrK.pw a1)] lp0
theorem yAO (e:Es) (a0 a1):EqW (yAN e a0 a1) 6 yDd ynp (ylS a0 a1):=fun _ _=>by kernel_rfl
theorem ylT (e:Es) (he:EG e):OkF (E e) (ynp.pw ydv) ybX:=okU he (yAO e _ _) (yah (Sub.uni _) ⟨(yiN e he),(yiO e he),trivial⟩ trivial he.ok) yiy.flat (yaf (by kernel_rfl))
def ylU (p0 p1:Int) (K:Int→Int→Prop):Prop :=
 (K (IntKind.u64.wrap ((IntKind.u64.wrap ((IntKind.u64.wrap ((Int.fdiv p0 4294967296)*(Int.fdiv p1 4294967296)))+(Int.fdiv (IntKind.u64.wrap ((Int.fdiv p0 4294967296)*(IntKind.u64.wrap (BitVec.ofInt IntKind.u64.bits p1&&&BitVec.ofInt IntKind.u64.bits (4294967295:Int)).toNat))) 4294967296)))+(Int.fdiv (IntKind.u64.wrap ((IntKind.u64.wrap ((IntKind.u64.wrap (BitVec.ofInt IntKind.u64.bits (IntKind.u64.wrap ((Int.fdiv p0 4294967296)*(IntKind.u64.wrap (BitVec.ofInt IntKind.u64.bits p1&&&BitVec.ofInt IntKind.u64.bits (4294967295:Int)).toNat)))&&&BitVec.ofInt IntKind.u64.bits (4294967295:Int)).toNat)+(IntKind.u64.wrap ((IntKind.u64.wrap (BitVec.ofInt IntKind.u64.bits p0&&&BitVec.ofInt IntKind.u64.bits (4294967295:Int)).toNat)*(Int.fdiv p1 4294967296)))))+(Int.fdiv (IntKind.u64.wrap ((IntKind.u64.wrap (BitVec.ofInt IntKind.u64.bits p0&&&BitVec.ofInt IntKind.u64.bits (4294967295:Int)).toNat)*(IntKind.u64.wrap (BitVec.ofInt IntKind.u64.bits p1&&&BitVec.ofInt IntKind.u64.bits (4294967295:Int)).toNat))) 4294967296))) 4294967296))) (IntKind.u64.wrap (BitVec.ofInt IntKind.u64.bits (IntKind.u64.wrap ((IntKind.u64.wrap ((IntKind.u64.wrap ((IntKind.u64.wrap (BitVec.ofInt IntKind.u64.bits (IntKind.u64.wrap ((Int.fdiv p0 4294967296)*(IntKind.u64.wrap (BitVec.ofInt IntKind.u64.bits p1&&&BitVec.ofInt IntKind.u64.bits (4294967295:Int)).toNat)))&&&BitVec.ofInt IntKind.u64.bits (4294967295:Int)).toNat)+(IntKind.u64.wrap ((IntKind.u64.wrap (BitVec.ofInt IntKind.u64.bits p0&&&BitVec.ofInt IntKind.u64.bits (4294967295:Int)).toNat)*(Int.fdiv p1 4294967296)))))+(Int.fdiv (IntKind.u64.wrap ((IntKind.u64.wrap (BitVec.ofInt IntKind.u64.bits p0&&&BitVec.ofInt IntKind.u64.bits (4294967295:Int)).toNat)*(IntKind.u64.wrap (BitVec.ofInt IntKind.u64.bits p1&&&BitVec.ofInt IntKind.u64.bits (4294967295:Int)).toNat))) 4294967296)))*(4294967296:Int)))|||BitVec.ofInt IntKind.u64.bits (IntKind.u64.wrap (BitVec.ofInt IntKind.u64.bits (IntKind.u64.wrap ((IntKind.u64.wrap (BitVec.ofInt IntKind.u64.bits p0&&&BitVec.ofInt IntKind.u64.bits (4294967295:Int)).toNat)*(IntKind.u64.wrap (BitVec.ofInt IntKind.u64.bits p1&&&BitVec.ofInt IntKind.u64.bits (4294967295:Int)).toNat)))&&&BitVec.ofInt IntKind.u64.bits (4294967295:Int)).toNat)).toNat))
def yd3:ybB:=ylU
def yAP:Sg:=⟨pt4,Int→Int→Prop,fun K=>(fun r0 r1=>K (.agg [(.int .u64 r0),(.int .u64 r1)]))⟩
def yAQ (e:Es):SE:=sE (E e) [] lp0
theorem yAR (e:Es):EqW (yAQ e) 6 yDe yAP ylU:=fun _ _=>by kernel_rfl
theorem ylV (e:Es) (he:EG e):OkF (E e) (yAP.pw yd3) ybA:=okU he (yAR e) (yah (Sub.uni _) trivial trivial he.ok) yiy.flat (yaf (by kernel_rfl))
def ynO (p0 p1 p2 p3:Int) (K:Bool→Prop):Prop :=
 (cbr (decide (p0<p2))
 (K true)
 (cbr (p0 == p2)
 (K (decide (p1<p3)))
 (K false)))
def yiP:yal:=ynO
def yDy:Sg:=⟨pt27,Bool→Prop,fun K=>(fun r0=>K (.bool r0))⟩
def yDz (e:Es):SE:=sE (E e) [] lp0
theorem yDA (e:Es):EqW (yDz e) 6 yFz yDy ynO:=fun _ _=>by kernel_rfl
theorem yun (e:Es) (he:EG e):OkF (E e) (yDy.pw yiP) yeI:=okU he (yDA e) (yah (Sub.uni _) trivial trivial he.ok) yiy.flat (yaf (by kernel_rfl))
def ynP (a0:yaq) (a1:ybB) (a2:yal) (p0 p1 p2 p3:Int) (K:Bool→Prop):Prop :=
 (cbr ((decide (p0<(0:Int))) !=(decide (p2<(0:Int))))
 (K (decide (p0<(0:Int))))
 (a0 p0 (fun e =>
 (a1 e (IntKind.u64.wrap p3) (fun a b =>
 (a0 p2 (fun f =>
 (a1 f (IntKind.u64.wrap p1) (fun c d =>
 (cbr (decide (p0<(0:Int)))
 (a2 c d a b (fun g =>
 (K g)))
 (a2 a b c d (fun h =>
 (K h)))))))))))))
def yaT:yal:=ynP yfT yd3 yiP
def yDB (e:Es) (a0:yaq) (a1:ybB) (a2:yal):SE:=sE (E e) [(ybc,ypD.pw a0),(ybA,yAP.pw a1),(yeI,yDy.pw a2)] lp0
theorem yDC (e:Es) (a0 a1 a2):EqW (yDB e a0 a1 a2) 6 yFA ylK (ynP a0 a1 a2):=fun _ _=>by kernel_rfl
theorem yeQ (e:Es) (he:EG e):OkF (E e) (ylK.pw yaT) ya4:=okU he (yDC e _ _ _) (yah (Sub.uni _) ⟨(yiN e he),(ylV e he),(yun e he),trivial⟩ trivial he.ok) yiy.flat (yaf (by kernel_rfl))
def ynQ (a0:yao) (p0 p1 p2 p3:Int) (K:Int→Prop):Prop :=
 (a0 p0 p1 (fun a =>
 (cbr (a !=(0:Int))
 (a0 p0 p1 (fun b =>
 (K b)))
 (a0 p2 p3 (fun c =>
 (K c))))))
def yfF:yaB:=ynQ ydv
def yDD (e:Es) (a0:yao):SE:=sE (E e) [(ybX,ynp.pw a0)] lp0
theorem yDE (e:Es) (a0):EqW (yDD e a0) 6 yFB ynq (ynQ a0):=fun _ _=>by kernel_rfl
theorem yjm (e:Es) (he:EG e):OkF (E e) (ynq.pw yfF) ybv:=okU he (yDE e _) (yah (Sub.uni _) ⟨(ylT e he),trivial⟩ trivial he.ok) yiy.flat (yaf (by kernel_rfl))
def yqX (p0 p1:Int) (K:Int→Int→Prop):Prop :=
 (K (IntKind.i64.wrap ((0:Int)-p0)) p1)
def yoT:ybB:=yqX
def yFY:Sg:=⟨pt8,Int→Int→Prop,fun K=>(fun r0 r1=>K (.agg [(.int .i64 r0),(.int .i64 r1)]))⟩
def yFZ (e:Es):SE:=sE (E e) [] lp0
theorem yF0 (e:Es):EqW (yFZ e) 6 yH6 yFY yqX:=fun _ _=>by kernel_rfl
theorem yF1 (e:Es) (he:EG e):OkF (E e) (yFY.pw yoT) yko:=okU he (yF0 e) (yah (Sub.uni _) trivial trivial he.ok) yiy.flat (yaf (by kernel_rfl))
def ynR (p0 p1 p2 p3:Int) (K:Int→Int→Prop):Prop :=
 (cbr (decide ((IntKind.u64.wrap (p1+p3))<p1))
 (K (IntKind.u64.wrap ((IntKind.u64.wrap (p0+p2))+(1:Int))) (IntKind.u64.wrap (p1+p3)))
 (K (IntKind.u64.wrap (p0+p2)) (IntKind.u64.wrap (p1+p3))))
def ydB:yaw:=ynR
def yuo:Sg:=⟨pt27,Int→Int→Prop,fun K=>(fun r0 r1=>K (.agg [(.int .u64 r0),(.int .u64 r1)]))⟩
def yDF (e:Es):SE:=sE (E e) [] lp0
theorem yDG (e:Es):EqW (yDF e) 6 yFC yuo ynR:=fun _ _=>by kernel_rfl
theorem yup (e:Es) (he:EG e):OkF (E e) (yuo.pw ydB) yfy:=okU he (yDG e) (yah (Sub.uni _) trivial trivial he.ok) yiy.flat (yaf (by kernel_rfl))
def yhY (p0 p1 p2 p3:Int) (K:Int→Int→Prop):Prop :=
 (cbr (decide (p1<p3))
 (K (IntKind.u64.wrap ((IntKind.u64.wrap (p0-p2))-(1:Int))) (IntKind.u64.wrap (p1-p3)))
 (K (IntKind.u64.wrap (p0-p2)) (IntKind.u64.wrap (p1-p3))))
def yfU:yaw:=yhY
def yAS (e:Es):SE:=sE (E e) [] lp0
theorem yAT (e:Es):EqW (yAS e) 6 yDh yuo yhY:=fun _ _=>by kernel_rfl
theorem yAU (e:Es) (he:EG e):OkF (E e) (yuo.pw yfU) yfP:=okU he (yAT e) (yah (Sub.uni _) trivial trivial he.ok) yiy.flat (yaf (by kernel_rfl))
abbrev ynS:Type:=Int→Int→Int→(Int→Int→Int→Prop)→Prop
def yaY (a0:yaw) (x0:Int→Int→Int→Int→Int→Int→Int→Int→Int→Bool→Prop):Nat→Int→Int→Int→Int→Int→Int→Int→Int→Int→Prop
 | 0,_,_,_,_,_,_,_,_,_=>False
 | n+1,i0,i1,i2,i3,i4,i5,i6,i7,i8 =>
 (cbr (decide (i8≥(0:Int)))
 (asr (!(decide ((IntKind.i64.wrap (BitVec.ofInt IntKind.i64.bits i8&&&BitVec.ofInt IntKind.i64.bits (63:Int)).toNat)<(0:Int))))
 (cbr (decide (i8≥(64:Int)))
 (asr (!(decide ((IntKind.i64.wrap (BitVec.ofInt IntKind.i64.bits i8&&&BitVec.ofInt IntKind.i64.bits (63:Int)).toNat)<(0:Int))))
 (a0 i5 i6 i5 i6 (fun a b =>
 (cbr (decide ((IntKind.u64.wrap (BitVec.ofInt IntKind.u64.bits (IntKind.u64.wrap (i7*(2:Int)))|||BitVec.ofInt IntKind.u64.bits (IntKind.u64.wrap (BitVec.ofInt IntKind.u64.bits (Int.fdiv i1 (2 ^ (min (IntKind.i64.wrap (BitVec.ofInt IntKind.i64.bits i8&&&BitVec.ofInt IntKind.i64.bits (63:Int)).toNat).toNat IntKind.u64.bits)))&&&BitVec.ofInt IntKind.u64.bits (1:Int)).toNat)).toNat)≥i0))
 (yaY a0 x0 n i0 i1 i2 i3 i4 a (IntKind.u64.wrap (BitVec.ofInt IntKind.u64.bits b|||BitVec.ofInt IntKind.u64.bits (1:Int)).toNat) (IntKind.u64.wrap ((IntKind.u64.wrap (BitVec.ofInt IntKind.u64.bits (IntKind.u64.wrap (i7*(2:Int)))|||BitVec.ofInt IntKind.u64.bits (IntKind.u64.wrap (BitVec.ofInt IntKind.u64.bits (Int.fdiv i1 (2 ^ (min (IntKind.i64.wrap (BitVec.ofInt IntKind.i64.bits i8&&&BitVec.ofInt IntKind.i64.bits (63:Int)).toNat).toNat IntKind.u64.bits)))&&&BitVec.ofInt IntKind.u64.bits (1:Int)).toNat)).toNat)-i0)) (IntKind.i64.wrap (i8-(1:Int))))
 (yaY a0 x0 n i0 i1 i2 i3 i4 a b (IntKind.u64.wrap (BitVec.ofInt IntKind.u64.bits (IntKind.u64.wrap (i7*(2:Int)))|||BitVec.ofInt IntKind.u64.bits (IntKind.u64.wrap (BitVec.ofInt IntKind.u64.bits (Int.fdiv i1 (2 ^ (min (IntKind.i64.wrap (BitVec.ofInt IntKind.i64.bits i8&&&BitVec.ofInt IntKind.i64.bits (63:Int)).toNat).toNat IntKind.u64.bits)))&&&BitVec.ofInt IntKind.u64.bits (1:Int)).toNat)).toNat) (IntKind.i64.wrap (i8-(1:Int))))))))
 (a0 i5 i6 i5 i6 (fun c d =>
 (cbr (decide ((IntKind.u64.wrap (BitVec.ofInt IntKind.u64.bits (IntKind.u64.wrap (i7*(2:Int)))|||BitVec.ofInt IntKind.u64.bits (IntKind.u64.wrap (BitVec.ofInt IntKind.u64.bits (Int.fdiv i2 (2 ^ (min (IntKind.i64.wrap (BitVec.ofInt IntKind.i64.bits i8&&&BitVec.ofInt IntKind.i64.bits (63:Int)).toNat).toNat IntKind.u64.bits)))&&&BitVec.ofInt IntKind.u64.bits (1:Int)).toNat)).toNat)≥i0))
 (yaY a0 x0 n i0 i1 i2 i3 i4 c (IntKind.u64.wrap (BitVec.ofInt IntKind.u64.bits d|||BitVec.ofInt IntKind.u64.bits (1:Int)).toNat) (IntKind.u64.wrap ((IntKind.u64.wrap (BitVec.ofInt IntKind.u64.bits (IntKind.u64.wrap (i7*(2:Int)))|||BitVec.ofInt IntKind.u64.bits (IntKind.u64.wrap (BitVec.ofInt IntKind.u64.bits (Int.fdiv i2 (2 ^ (min (IntKind.i64.wrap (BitVec.ofInt IntKind.i64.bits i8&&&BitVec.ofInt IntKind.i64.bits (63:Int)).toNat).toNat IntKind.u64.bits)))&&&BitVec.ofInt IntKind.u64.bits (1:Int)).toNat)).toNat)-i0)) (IntKind.i64.wrap (i8-(1:Int))))
 (yaY a0 x0 n i0 i1 i2 i3 i4 c d (IntKind.u64.wrap (BitVec.ofInt IntKind.u64.bits (IntKind.u64.wrap (i7*(2:Int)))|||BitVec.ofInt IntKind.u64.bits (IntKind.u64.wrap (BitVec.ofInt IntKind.u64.bits (Int.fdiv i2 (2 ^ (min (IntKind.i64.wrap (BitVec.ofInt IntKind.i64.bits i8&&&BitVec.ofInt IntKind.i64.bits (63:Int)).toNat).toNat IntKind.u64.bits)))&&&BitVec.ofInt IntKind.u64.bits (1:Int)).toNat)).toNat) (IntKind.i64.wrap (i8-(1:Int)))))))))
 (x0 i0 i1 i2 i3 i4 i5 i6 i7 i8 false))
def ylW (a0:yaw) (p0 p1 p2:Int) (K:Int→Int→Int→Prop):Prop :=
 (∃ n:Nat,yaY a0
 (fun _ _ _ _ _ a b c _ _=>(K a b c))
 n p2 p0 p1 (0:Int) (0:Int) (0:Int) (0:Int) (0:Int) (127:Int))
def ydw:ynS:=ylW ydB
def yAV:Sg:=⟨(lC (vA pt4) pt3),Int→Int→Int→Prop,fun K=>(fun r0 r1 r2=>K (.tup [(.agg [(.int .u64 r0),(.int .u64 r1)]),(.int .u64 r2)]))⟩
def yuW (Q:Qx):Int→Int→Int→Int→Int→Int→Int→Int→Int→Bool→Prop:=(fun i0 i1 i2 i3 i4 i5 i6 i7 i8 b9=>Q (.exit 0) [(1,.v (.int .u64 i0)),(2,.box (.agg [(.int .u64 i1),(.int .u64 i2)])),(4,.box (.agg [(.int .u64 i3),(.int .u64 i4)])),(6,.box (.agg [(.int .u64 i5),(.int .u64 i6)])),(7,.v (.int .u64 i7)),(8,.v (.int .i64 i8)),(11,.v (.bool b9))] [])
def ynT (a0:yaw) (Q:Qx):List St:=[⟨(pS hN (fV 1 pt2 (fX 2 (vA pt4) (fX 4 (vA pt4) (fX 6 (vA pt4) (fV 7 pt2 (fV 8 pt0 fN)))))) fN),yaY a0 (yuW Q)⟩]
def ysa (a0:yaw):LP:=lpS [(22549700,ynT a0)]
def ylX (e:Es) (a0:yaw):SE:=sE (E e) [(yfy,yuo.pw a0)] (ysa a0)
theorem ypU (e:Es) (he:EG e):SEOk (Uni (E e)) (ylX e ydB):=yah (Sub.uni _) ⟨(yup e he),trivial⟩ trivial he.ok
theorem ytu (e:Es) (a0):ybQ (ylX e a0) 5 a ylm false (ynT a0):=fun _=>⟨fun _=>by kernel_rfl,fun _ _=>by kernel_rfl,trivial⟩
theorem ytv (e:Es) (he:EG e):LpT (Uni (E e)) (ysa ydB) [] 22549700 (.loop 22549700 ylm):=fun _ _ _=>yni.st (Sub.uni _) (yat (ypU e he) 5) (YOk.no _ _) (yaf (by kernel_rfl)) (ytu e _ _)
theorem yAW (e:Es) (a0):EqW (ylX e a0) 6 yDi yAV (ylW a0):=fun _ _=>by kernel_rfl
theorem ysb (e:Es) (he:EG e):OkF (E e) (yAV.pw ydw) yfQ:=okU he (yAW e _) (ypU e he) yiy.flat (yaR (l:=[(22549700,.loop 22549700 ylm)]) ⟨ytv e he,trivial⟩ (by kernel_rfl))
def yqY (a0:yaB) (a1:yao) (a2:yaq) (a3:ybB) (a4:yaw) (a5:yaw) (a6:yal) (a7:ynS) (a8:yfD) (p0 p1 p2 p3:Int) (K:Int→Int→Int→Prop):Prop :=
 (a0 p0 p1 p2 p3 (fun o =>
 (cbr (o !=(0:Int))
 (a0 p0 p1 p2 p3 (fun p =>
 (K (0:Int) (0:Int) p)))
 (a1 (IntKind.u64.wrap p1) (IntKind.u64.wrap p3) (fun a =>
 (a2 p0 (fun q =>
 (asr (!(decide (a=(0:Int))))
 (a3 q (IntKind.u64.wrap (Int.tdiv (IntKind.u64.wrap p3) a)) (fun b c =>
 (a2 p2 (fun r =>
 (asr (!(decide (a=(0:Int))))
 (a3 r (IntKind.u64.wrap (Int.tdiv (IntKind.u64.wrap p1) a)) (fun d e =>
 (a4 b c d e (fun f g =>
 (cbr ((decide (p0<(0:Int))) !=(decide (p2<(0:Int))))
 (a5 b c d e (fun h i =>
 (a6 b c d e (fun s =>
 (cbr s
 (a5 d e b c (fun j k =>
 (cbr ((j ==(0:Int))&&((k ==(0:Int))&&true))
 (K (0:Int) (1:Int) (0:Int))
 (a7 j k a (fun _ _ t =>
 (a1 t a (fun l =>
 (a7 j k l (fun u v _ =>
 (asr (!(decide (a=(0:Int))))
 (asr (!(decide (l=(0:Int))))
 (a3 (IntKind.u64.wrap (Int.tdiv (IntKind.u64.wrap p1) a)) (IntKind.u64.wrap (Int.tdiv (IntKind.u64.wrap p3) l)) (fun w x =>
 (a8 (decide (p2<(0:Int))) u v w x (fun y z A =>
 (K y z A))))))))))))))))
 (cbr ((h ==(0:Int))&&((i ==(0:Int))&&true))
 (K (0:Int) (1:Int) (0:Int))
 (a7 h i a (fun _ _ B =>
 (a1 B a (fun m =>
 (a7 h i m (fun C D _ =>
 (asr (!(decide (a=(0:Int))))
 (asr (!(decide (m=(0:Int))))
 (a3 (IntKind.u64.wrap (Int.tdiv (IntKind.u64.wrap p1) a)) (IntKind.u64.wrap (Int.tdiv (IntKind.u64.wrap p3) m)) (fun E F =>
 (a8 (decide (p0<(0:Int))) C D E F (fun G H I =>
 (K G H I)))))))))))))))))))
 (cbr ((f ==(0:Int))&&((g ==(0:Int))&&true))
 (K (0:Int) (1:Int) (0:Int))
 (a7 f g a (fun _ _ J =>
 (a1 J a (fun n =>
 (a7 f g n (fun L M _ =>
 (asr (!(decide (a=(0:Int))))
 (asr (!(decide (n=(0:Int))))
 (a3 (IntKind.u64.wrap (Int.tdiv (IntKind.u64.wrap p1) a)) (IntKind.u64.wrap (Int.tdiv (IntKind.u64.wrap p3) n)) (fun N O =>
 (a8 (decide (p0<(0:Int))) L M N O (fun Q R S =>
 (K Q R S))))))))))))))))))))))))))))))))
def yde:yac:=yqY yfF ydd yfT yd3 ydB yfU yiP ydw yfE
def yF2 (e:Es) (a0:yaB) (a1:yao) (a2:yaq) (a3:ybB) (a4:yaw) (a5:yaw) (a6:yal) (a7:ynS) (a8:yfD):SE:=sE (E e) [(ybv,ynq.pw a0),(ycQ,yrK.pw a1),(ybc,ypD.pw a2),(ybA,yAP.pw a3),(yfy,yuo.pw a4),(yfP,yuo.pw a5),(yeI,yDy.pw a6),(yfQ,yAV.pw a7),(yea,yDs.pw a8)] lp0
theorem yF3 (e:Es) (a0 a1 a2 a3 a4 a5 a6 a7 a8):EqW (yF2 e a0 a1 a2 a3 a4 a5 a6 a7 a8) 6 yH7 yds (yqY a0 a1 a2 a3 a4 a5 a6 a7 a8):=fun _ _=>by kernel_rfl
theorem yqZ (e:Es) (he:EG e):OkF (E e) (yds.pw yde) ye6:=okU he (yF3 e _ _ _ _ _ _ _ _ _) (yah (Sub.uni _) ⟨(yjm e he),(yiO e he),(yiN e he),(ylV e he),(yup e he),(yAU e he),(yun e he),(ysb e he),(ynM e he),trivial⟩ trivial he.ok) yiy.flat (yaf (by kernel_rfl))
def yq0 (a0:yaB) (a1:ybB) (a2:yac) (p0 p1 p2 p3:Int) (K:Int→Int→Int→Prop):Prop :=
 (a0 p0 p1 p2 p3 (fun a =>
 (cbr (a !=(0:Int))
 (a0 p0 p1 p2 p3 (fun b =>
 (K (0:Int) (0:Int) b)))
 (a1 p2 p3 (fun c d =>
 (a2 p0 p1 c d (fun e f g =>
 (K e f g))))))))
def yfV:yac:=yq0 yfF yoT yde
def yF4 (e:Es) (a0:yaB) (a1:ybB) (a2:yac):SE:=sE (E e) [(ybv,ynq.pw a0),(yko,yFY.pw a1),(ye6,yds.pw a2)] lp0
theorem yF5 (e:Es) (a0 a1 a2):EqW (yF4 e a0 a1 a2) 6 yH8 yds (yq0 a0 a1 a2):=fun _ _=>by kernel_rfl
theorem ywX (e:Es) (he:EG e):OkF (E e) (yds.pw yfV) ygI:=okU he (yF5 e _ _ _) (yah (Sub.uni _) ⟨(yjm e he),(yF1 e he),(yqZ e he),trivial⟩ trivial he.ok) yiy.flat (yaf (by kernel_rfl))
end Go.Pf.Vc
