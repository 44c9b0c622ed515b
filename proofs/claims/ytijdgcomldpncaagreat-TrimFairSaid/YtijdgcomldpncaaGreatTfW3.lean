/- Part 3. -/
import Derived.Test.YtijdgcomldpncaaGreatTfW2
namespace Go.Pf.Vc
open Go Go.Pf
def yFG:TFn:=⟨3,[.cell 6 true 2,.tmp 7],(zQ (oQ [O 3 (.boxL t0),O 4 (.boxL t1),O 5 (.boxH true 2 t2),O 6 (.aL (.agg [(.int .i64 (0)),(.int .i64 (0))])),O 7 (.mv (I 0))] [0,1,2,7]) (zQ (zQ (oQ [oT 12 3 3,O 13 (.call (.f yby) [t12]),M 8 13] [12,13]) (zQ (oQ [M 14 8,O 15 (.bin .neq t14 (I 0))] [14]) (zC t15 (zQ (oQ [O 16 (.build [(.int .i64 (0)),(.int .i64 (0))] []),M 17 8,zS 2 t6 t16,M 7 17] [3,4,5,8,15,16,17]) .ret) .skip))) (zQ (zQ (.ops [oT 18 3 3,oT 19 2 4,O 20 (.call (.f ydM) [t18,t19]),O 21 (.un .not t20),M 22 21,zF 23 22 (.load true 2 t5),zF 24 22 (.call (.f ycq) [t23]),zF 25 22 (.bin .neq t24 (I 0)),O 26 (.pick t22 (.c (.bool true)) t25),M 27 26,zF 28 27 (.fad 0 t5),zF 29 27 (.load false 1 t28),zF 30 27 (.bin .lss t29 (I 0)),O 31 (.pick t27 (.c (.bool true)) t30)] [⟨5,z2,0⟩,⟨11,z2,0⟩] [] [8,15,18,19,20,21,22,23,24,25,26,27,28,29,30]) (zC t31 (zQ (oQ [O 32 (.build [(.int .i64 (0)),(.int .i64 (0))] []),zS 2 t6 t32,O 7 (.mv (I 2))] [3,4,5,31,32]) .ret) .skip)) (zQ (zQ (.ops [O 33 (.fad 0 t5),oF 34 1 33,O 35 (.bin .eql t34 (I 0))] [⟨1,z2,0⟩] [] [31,33,34]) (zC t35 (zQ (oQ [oT 36 2 4,zS 2 t6 t36,O 7 (.mv (I 0))] [3,4,5,35,36]) .ret) .skip)) (zQ (oQ [O 9 (.aH true 2 (.agg [(.int .i64 (0)),(.int .i64 (0))]))] [35]) (zQ (.ops [O 10 (.aH true 1 (.int .i64 (0))),zS 1 t10 (I 6)] [⟨1,zI,0⟩] [] []) (zQ (oQ [oT 37 3 3,oT 38 2 4,O 39 (.mkFn (.func yfG) [] [t5,t10,t9]),O 40 (.call (.f ypa) [t37,t38,t39]),M 11 40] [3,4,5,37,38,39,40]) (zQ (zQ (oQ [M 41 11,O 42 (.bin .neq t41 (I 0))] [41]) (zC t42 (.ops [M 43 11,zS 1 t10 t43] [⟨1,zI,0⟩] [] [11,42,43]) .skip)) (zQ (zQ (.ops [oF 44 1 10,O 45 (.bin .neq t44 (I 0))] [⟨0,zI,0⟩] [] [11,42,44]) (zC t45 (zQ (.ops [O 46 (.build [(.int .i64 (0)),(.int .i64 (0))] []),oF 47 1 10,zS 2 t6 t46,M 7 47] [⟨1,zI,0⟩] [(0,1),(1,2)] [9,10,45,46,47]) .ret) .skip)) (zQ (.ops [oT 48 2 9,zS 2 t6 t48,O 7 (.mv (I 0))] [⟨0,z2,0⟩] [] [9,10,45,48]) .ret))))))))))⟩
def ytP:TFn:=⟨4,[.cell 8 true 2,.tmp 9],(zQ (oQ [O 4 (.boxL t0),O 6 (.boxL t2),O 7 (.boxL t3),O 8 (.aL (.agg [(.int .i64 (0)),(.int .i64 (0))])),O 9 (.mv (I 0))] [0,2,3,9]) (zQ (.ops [O 10 (.fad 0 t4),O 11 (.fad 0 t10),oF 12 1 11,M 13 1,O 14 (.iad 3 t12 t13),oT 15 3 14,oT 16 2 6,oT 17 2 7,O 18 (.call (.f yiJ) [t15,t16,t17]),O 19 (.ext t18 0),O 20 (.ext t18 1),zS 2 t8 t19,M 9 20] [⟨2,zE,0⟩,⟨4,zK,0⟩,⟨5,zK,0⟩] [(0,3),(1,3),(2,3),(0,6),(1,6),(2,6),(3,6),(4,6),(5,6),(0,7),(1,7),(2,7),(3,7),(4,7),(5,7),(6,7),(9,10)] [1,4,6,7,10,11,12,13,14,15,16,17,18,19,20]) .ret))⟩
def ymi:TFn:=⟨3,[.cell 6 true 2,.cell 7 true 2,.tmp 8],(zQ (oQ [O 3 (.boxL t0),O 4 (.boxL t1),O 6 (.aL (.agg [.nils,.nils])),O 7 (.aL (.agg [(.int .i64 (0)),(.int .i64 (0))])),O 8 (.mv (I 0))] [0,1,8]) (zQ (zQ (.ops [O 13 (.fad 0 t3),oT 14 2 13,O 15 (.call (.f ycj) [t14]),M 9 15] [⟨1,zE,0⟩] [] [13,14,15]) (zQ (oQ [M 16 9,O 17 (.bin .neq t16 (I 0))] [16]) (zC t17 (zQ (oQ [O 18 (.build [.nils,.nils] []),O 19 (.build [(.int .i64 (0)),(.int .i64 (0))] []),M 20 9,zS 2 t6 t18,zS 2 t7 t19,M 8 20] [2,3,4,9,17,18,19,20]) .ret) .skip))) (zQ (zQ (.ops [oT 21 2 3,O 22 (.fad 0 t4),oF 23 1 22,O 24 (.call (.f ybK) [t21,t23]),O 25 (.un .not t24)] [⟨2,(.agg [.i .i64,.i .u8,.i .i64,.i .i64,.i .i64,.i .i64,.i .i64,.i .i64]),0⟩] [] [9,17,21,22,23,24]) (zC t25 (zQ (oQ [O 26 (.build [.nils,.nils] []),O 27 (.build [(.int .i64 (0)),(.int .i64 (0))] []),zS 2 t6 t26,zS 2 t7 t27,O 8 (.mv (I 2))] [2,3,4,25,26,27]) .ret) .skip)) (zQ (.ops [M 29 2,O 30 (.fad 0 t4),oF 31 1 30,O 32 (.fad 2 t4),oT 33 2 32,O 34 (.fad 4 t4),oT 35 2 34,O 36 (.call t29 [t31,t33,t35]),M 28 36,O 37 (.ext t28 0),O 38 (.ext t28 1),O 10 (.aL (.agg [(.int .i64 (0)),(.int .i64 (0))])),zS 2 t10 t37,M 11 38] [⟨2,(.agg [.i .i64,.i .u8,.i .i64,.i .i64,.i .i64,.i .i64,.i .i64,.i .i64]),0⟩,⟨4,(.agg [.i .i64,.i .u8,.i .i64,.i .i64,.i .i64,.i .i64,.i .i64,.i .i64]),0⟩,⟨6,(.agg [.i .i64,.i .u8,.i .i64,.i .i64,.i .i64,.i .i64,.i .i64,.i .i64]),0⟩] [] [2,25,28,29,30,31,32,33,34,35,36,37,38]) (zQ (zQ (oQ [M 39 11,O 40 (.bin .neq t39 (I 0))] [39]) (zC t40 (zQ (oQ [O 41 (.build [.nils,.nils] []),O 42 (.build [(.int .i64 (0)),(.int .i64 (0))] []),M 43 11,zS 2 t6 t41,zS 2 t7 t42,M 8 43] [3,4,10,11,40,41,42,43]) .ret) .skip)) (zQ (zQ (.ops [O 44 (.fad 0 t3),O 45 (.fad 1 t44),oF 46 1 45,O 47 (.len t46),O 48 (.bin .geq t47 (I 2000))] [⟨2,zE,0⟩] [] [11,40,44,45,46,47]) (zC t48 (zQ (oQ [O 49 (.build [.nils,.nils] []),O 50 (.build [(.int .i64 (0)),(.int .i64 (0))] []),zS 2 t6 t49,zS 2 t7 t50,O 8 (.mv (I 4))] [3,4,10,48,49,50]) .ret) .skip)) (zQ (.ops [oT 51 2 10,O 52 (.fad 6 t4),zS 2 t52 t51] [⟨2,(.agg [.i .i64,.i .u8,.i .i64,.i .i64,.i .i64,.i .i64,.i .i64,.i .i64]),0⟩] [] [48,51,52]) (zQ (.ops [O 53 (.fad 0 t3),O 54 (.fad 1 t53),oF 55 1 54,O 56 (.len t55),O 57 (.bin .add t56 (I 1)),O 58 (.mkSl true 8 64 (.agg [(.int .i64 (0)),(.int .u8 (0)),(.int .i64 (0)),(.int .i64 (0)),(.int .i64 (0)),(.int .i64 (0)),(.int .i64 (0)),(.int .i64 (0))]) (I 0) t57),M 12 58] [⟨2,zE,0⟩] [] (zR 53 6)) (zQ (.ops [O 59 (.fad 0 t3),O 60 (.fad 0 t59),oF 61 1 60,O 62 (.call (.f yeD) [t61]),M 63 12,O 64 (.fad 0 t3),O 65 (.fad 1 t64),oF 66 1 65,O 67 (.app true 8 64 t63 t66),oT 68 8 4,O 69 (.bD 8 (.agg [(.int .i64 (0)),(.int .u8 (0)),(.int .i64 (0)),(.int .i64 (0)),(.int .i64 (0)),(.int .i64 (0)),(.int .i64 (0)),(.int .i64 (0))]) 1 [(0,t68)]),O 70 (.app true 8 64 t67 t69),O 71 (.build [.nils,.nils] [(0,1,t62),(1,1,t70)]),oT 72 2 10,zS 2 t6 t71,zS 2 t7 t72,O 8 (.mv (I 0))] [⟨2,zE,0⟩,⟨7,zE,0⟩] [(0,4),(1,4),(2,4),(3,4),(0,5),(1,5),(2,5),(3,5),(4,5),(0,6),(1,6),(2,6),(3,6),(4,6),(0,7),(1,7),(2,7),(3,7),(4,7),(0,9),(1,9),(2,9),(3,9),(4,9),(5,9),(6,9),(7,9),(8,9),(0,10),(1,10),(2,10),(3,10),(4,10),(5,10),(6,10),(7,10),(8,10),(0,13),(1,13),(2,13),(3,13),(4,13),(5,13),(6,13),(7,13),(8,13),(9,13),(10,13),(11,13),(12,13),(13,14)] [3,4,10,12,59,60,61,62,63,64,65,66,67,68,69,70,71,72]) .ret)))))))))⟩
def yHs:TFn:=⟨4,[.cell 8 true 2,.cell 9 true 2,.tmp 10],(zQ (oQ [O 4 (.boxL t0),O 6 (.boxL t2),O 7 (.boxL t3),O 8 (.aL (.agg [.nils,.nils])),O 9 (.aL (.agg [(.int .i64 (0)),(.int .i64 (0))])),O 10 (.mv (I 0))] [0,2,3,10]) (zQ (oQ [oT 12 2 4,O 13 (.build [.nils,.nils] [(0,2,t12)]),O 11 (.aL (.agg [.nils,.nils])),zS 2 t11 t13] [4,12,13]) (zQ (oQ [oT 14 2 11,M 15 1,oT 16 2 6,oT 17 2 7,O 18 (.build [(.int .i64 (0)),(.int .u8 (0)),(.int .i64 (0)),(.int .i64 (0)),(.int .i64 (0)),(.int .i64 (0)),(.int .i64 (0)),(.int .i64 (0))] [(0,1,t15),(1,1,(.c (.int .u8 (2)))),(2,2,t16),(4,2,t17)]),oT 19 2 11,O 20 (.mkFn (.func ycN) [t19] []),O 21 (.call (.f ye2) [t14,t18,t20]),O 22 (.ext t21 0),O 23 (.ext t21 1),O 24 (.ext t21 2),zS 2 t8 t22,zS 2 t9 t23,M 10 24] [1,6,7,11,14,15,16,17,18,19,20,21,22,23,24]) .ret)))⟩
def yy4:TFn:=⟨4,[.tmp 5],(zQ (oQ [O 5 (.mv (I 0))] [5]) (zQ (.ops [oT 10 2 1,M 11 0,oT 12 2 2,oT 13 2 1,M 14 0,O 15 (.call (.f ygh) [t13,t14]),O 16 (.call (.f yj7) [t10,t11,t12,t15]),M 9 16,O 17 (.ext t9 0),O 18 (.ext t9 1),O 19 (.ext t9 2),O 6 (.aL (.agg [.nils,.nils])),O 7 (.aL (.agg [(.int .i64 (0)),(.int .i64 (0))])),zS 2 t6 t17,zS 2 t7 t18,M 8 19] [] [(0,1),(0,2),(1,2),(0,3),(1,3),(2,3),(0,4),(1,4),(2,4),(3,4),(0,5),(1,5),(2,5),(8,9),(8,10),(9,10),(0,11),(1,11),(2,11),(3,11),(4,11),(5,11),(6,11),(7,11),(8,11),(9,11),(10,11),(0,12),(1,12),(2,12),(3,12),(4,12),(5,12),(6,12),(7,12),(8,12),(9,12),(10,12),(11,12),(9,13),(10,13),(10,14)] [2,9,10,11,12,13,14,15,16,17,18,19]) (zQ (zQ (oQ [M 20 8,O 21 (.bin .eql t20 (I 0))] [20]) (zC t21 (.ops [oT 22 2 6,oT 23 2 7,M 24 0,zS 2 t1 t22,O 25 (.fad 3 t3),zS 2 t25 t23,O 26 (.fad 0 t3),zS 1 t26 t24] [] [(0,1),(0,2),(1,2),(1,3),(2,3),(2,4),(2,5)] [0,1,3,6,7,21,22,23,24,25,26]) .skip)) (zQ (oQ [M 27 8,M 5 27] [0,1,3,6,7,8,21,27]) .ret))))⟩
def t100:Opd:=.t 100
def ym8:TC:=(zQ (oQ [oX 45 .lss 44 43] []) (zQ (zC t45 .skip (.exit 0)) (zQ (zB 1 (zQ (.ops [M 46 44,O 47 (.iad 1 t42 t44),oF 48 1 47,M 11 46,M 12 48] [⟨1,zI,0⟩,⟨2,zI,0⟩] [] (zR 45 4)) (zQ (.ops [O 49 (.fad 1 t3),oF 50 1 49,M 51 11,O 52 (.bin .add t51 (I 1)),O 53 (.iad 1 t50 t52),oF 54 1 53,O 55 (.call (.f ybz) [t54]),O 13 (.aL (.agg [(.int .i64 (0)),(.int .i64 (0))])),zS 2 t13 t55] [⟨1,zK,0⟩,⟨4,zI,0⟩,⟨5,zI,0⟩] [] [11,49,50,51,52,53,54,55]) (zQ (zQ (oQ [oT 56 2 5,oT 57 2 13,O 58 (.call (.f yck) [t56,t57])] [56,57]) (zC t58 (oQ [oT 59 2 5,zS 2 t13 t59] [58,59]) .skip)) (zQ (zQ (oQ [M 60 12,O 61 (.bin .eql t60 (I 0)),M 62 61,zF 63 62 (.load true 2 t10),zF 64 62 (.load true 2 t13),zF 65 62 (.call (.f yck) [t63,t64]),zF 66 62 (.un .not t65),O 67 (.pick t62 (.c (.bool true)) t66)] [58,60,61,62,63,64,65,66]) (zC t67 (zQ (zQ (oQ [oT 68 2 10,oT 69 2 13,O 70 (.call (.f yck) [t68,t69])] [12,67,68,69]) (zC t70 (oQ [oT 71 2 13,zS 2 t10 t71] [13,70,71]) .skip)) (.exit 1)) .skip)) (zQ (oQ [oT 73 2 13,oT 74 2 10,O 75 (.call (.f yeF) [t73,t74]),M 72 75,O 76 (.ext t72 0),O 77 (.ext t72 1),O 14 (.aL (.agg [(.int .i64 (0)),(.int .i64 (0))])),zS 2 t14 t76,M 15 77] [67,72,73,74,75,76,77]) (zQ (zQ (oQ [M 78 15,O 79 (.bin .neq t78 (I 0))] [78]) (zC t79 (zQ (oQ [O 80 (.build [(.int .i64 (0)),(.int .i64 (0))] []),M 81 15,zS 2 t6 t80,M 7 81] [3,5,9,10,12,13,14,15,42,43,44,79,80,81]) .ret) .skip)) (zQ (.ops [oT 83 2 14,M 84 12,O 85 (.call (.f ybz) [t84]),O 86 (.call (.f ydk) [t83,t85]),M 82 86,O 87 (.ext t82 0),O 88 (.ext t82 1),O 16 (.aL (.agg [(.int .i64 (0)),(.int .i64 (0))])),zS 2 t16 t87,M 15 88] [] [(0,1),(0,2),(5,6),(0,7),(1,7),(2,7),(3,7),(4,7),(5,7),(6,7),(6,8)] [12,14,79,82,83,84,85,86,87,88]) (zQ (zQ (oQ [M 89 15,O 90 (.bin .neq t89 (I 0))] [89]) (zC t90 (zQ (oQ [O 91 (.build [(.int .i64 (0)),(.int .i64 (0))] []),M 92 15,zS 2 t6 t91,M 7 92] [3,5,9,10,13,15,16,42,43,44,90,91,92]) .ret) .skip)) (zQ (zQ (oQ [oT 94 2 9,oT 95 2 16,O 96 (.call (.f ycD) [t94,t95]),M 93 96,O 97 (.ext t93 0),O 98 (.ext t93 1),zS 2 t9 t97,M 15 98] [16,90,93,94,95,96,97,98]) (zQ (oQ [M 99 15,O 100 (.bin .neq t99 (I 0))] [99]) (zC t100 (zQ (oQ [O 101 (.build [(.int .i64 (0)),(.int .i64 (0))] []),M 102 15,zS 2 t6 t101,M 7 102] [3,5,9,10,13,15,42,43,44,100,101,102]) .ret) .skip))) (oQ [oT 103 2 13,zS 2 t10 t103] [13,15,100,103]))))))))))) (oQ [O 104 (.bin .add t44 (I 1)),M 44 104] [13,70,104]))))
def yDo:TFn:=⟨3,[.cell 6 true 2,.tmp 7],(zQ (oQ [O 3 (.boxL t0),O 4 (.boxL t1),O 5 (.boxL t2),O 6 (.aL (.agg [(.int .i64 (0)),(.int .i64 (0))])),O 7 (.mv (I 0))] [0,1,2,7]) (zQ (zQ (oQ [oT 17 3 3,O 18 (.call (.f yby) [t17]),M 8 18] [17,18]) (zQ (oQ [M 19 8,O 20 (.bin .neq t19 (I 0))] [19]) (zC t20 (zQ (oQ [O 21 (.build [(.int .i64 (0)),(.int .i64 (0))] []),M 22 8,zS 2 t6 t21,M 7 22] [3,4,5,8,20,21,22]) .ret) .skip))) (zQ (zQ (oQ [oT 23 3 3,oT 24 2 4,O 25 (.call (.f ydM) [t23,t24]),O 26 (.un .not t25),M 27 26,zF 28 27 (.load true 3 t3),zF 29 27 (.load true 2 t5),zF 30 27 (.call (.f ydM) [t28,t29]),zF 31 27 (.un .not t30),O 32 (.pick t27 (.c (.bool true)) t31),M 33 32,zF 34 33 (.load true 2 t5),zF 35 33 (.load true 2 t4),zF 36 33 (.call (.f yck) [t34,t35]),O 37 (.pick t33 (.c (.bool true)) t36)] [8,20,23,24,25,26,27,28,29,30,31,32,33,34,35,36]) (zC t37 (zQ (oQ [O 38 (.build [(.int .i64 (0)),(.int .i64 (0))] []),zS 2 t6 t38,O 7 (.mv (I 2))] [3,4,5,37,38]) .ret) .skip)) (zQ (oQ [O 39 (.call (.f ybz) [(I 0)]),O 9 (.aL (.agg [(.int .i64 (0)),(.int .i64 (0))])),zS 2 t9 t39] [37,39]) (zQ (oQ [oT 40 2 4,O 10 (.aL (.agg [(.int .i64 (0)),(.int .i64 (0))])),zS 2 t10 t40] [4,40]) (zQ (zQ (.ops [O 41 (.fad 2 t3),oF 42 1 41,O 43 (.len t42),O 44 (.mv (I 0))] [⟨1,zK,0⟩] [] [41]) (zB 0 (.loop 85339800 ym8))) (zQ (oQ [oT 105 2 9,zS 2 t6 t105,O 7 (.mv (I 0))] [3,5,9,10,42,43,44,45,105]) .ret)))))))⟩
def ysy:TFn:=⟨4,[.cell 8 true 2,.tmp 9],(zQ (oQ [O 4 (.boxL t0),O 6 (.boxL t2),O 7 (.boxL t3),O 8 (.aL (.agg [(.int .i64 (0)),(.int .i64 (0))])),O 9 (.mv (I 0))] [0,2,3,9]) (zQ (.ops [O 10 (.fad 0 t4),O 11 (.fad 0 t10),oF 12 1 11,M 13 1,O 14 (.iad 3 t12 t13),oT 15 3 14,oT 16 2 6,oT 17 2 7,O 18 (.call (.f yeG) [t15,t16,t17]),O 19 (.ext t18 0),O 20 (.ext t18 1),zS 2 t8 t19,M 9 20] [⟨2,zE,0⟩,⟨4,zK,0⟩,⟨5,zK,0⟩] [(0,3),(1,3),(2,3),(0,6),(1,6),(2,6),(3,6),(4,6),(5,6),(0,7),(1,7),(2,7),(3,7),(4,7),(5,7),(6,7),(9,10)] [1,4,6,7,10,11,12,13,14,15,16,17,18,19,20]) .ret))⟩
def yFH:TFn:=⟨4,[.cell 8 true 2,.cell 9 true 2,.tmp 10],(zQ (oQ [O 4 (.boxL t0),O 6 (.boxL t2),O 7 (.boxL t3),O 8 (.aL (.agg [.nils,.nils])),O 9 (.aL (.agg [(.int .i64 (0)),(.int .i64 (0))])),O 10 (.mv (I 0))] [0,2,3,10]) (zQ (oQ [oT 12 2 4,O 13 (.build [.nils,.nils] [(0,2,t12)]),O 11 (.aL (.agg [.nils,.nils])),zS 2 t11 t13] [4,12,13]) (zQ (oQ [oT 14 2 11,M 15 1,oT 16 2 6,oT 17 2 7,O 18 (.build [(.int .i64 (0)),(.int .u8 (0)),(.int .i64 (0)),(.int .i64 (0)),(.int .i64 (0)),(.int .i64 (0)),(.int .i64 (0)),(.int .i64 (0))] [(0,1,t15),(1,1,(.c (.int .u8 (1)))),(2,2,t16),(4,2,t17)]),oT 19 2 11,O 20 (.mkFn (.func ycz) [t19] []),O 21 (.call (.f ye2) [t14,t18,t20]),O 22 (.ext t21 0),O 23 (.ext t21 1),O 24 (.ext t21 2),zS 2 t8 t22,zS 2 t9 t23,M 10 24] [1,6,7,11,14,15,16,17,18,19,20,21,22,23,24]) .ret)))⟩
def yFI:TFn:=⟨2,[.tmp 4],(zQ (oQ [O 2 (.boxL t0),O 3 (.boxL t1),O 4 (.mv (.c (.bool false)))] [0,1,4]) (zQ (oQ [oT 8 2 2,oT 9 2 3,O 10 (.call (.f ybU) [t8,t9]),M 7 10,O 11 (.ext t7 0),O 12 (.ext t7 1),M 5 11,M 6 12] [2,3,6,7,8,9,10,11,12]) (zQ (oQ [M 13 5,O 14 (.bin .gtr t13 (I 0)),M 4 14] [5,13,14]) .ret)))⟩
def ym9:TC:=(zQ (oQ [oX 32 .lss 31 30] []) (zQ (zC t32 .skip (.exit 0)) (zQ (zB 1 (zQ (.ops [M 33 31,O 34 (.iad 1 t29 t31),oF 35 1 34,M 11 33,M 12 35] [⟨1,zI,0⟩,⟨2,zI,0⟩] [] (zR 32 4)) (zQ (zQ (oQ [M 36 1,O 37 (.len t36),O 38 (.bin .eql t37 (I 1))] [36,37]) (zC t38 (.exit 0) .skip)) (zQ (zQ (oQ [M 39 11,O 40 (.bin .gtr t39 (I 0))] [11,38,39]) (zC t40 (zQ (.ops [oT 42 2 3,M 43 12,oT 44 2 5,O 45 (.fad 3 t9),oT 46 2 45,O 47 (.call (.f yiK) [t42,t43,t44,t46]),M 41 47,O 48 (.ext t41 0),O 49 (.ext t41 1),O 50 (.ext t41 2),O 13 (.aL (.agg [.nils,.nils])),O 14 (.aL (.agg [(.int .i64 (0)),(.int .i64 (0))])),zS 2 t13 t48,zS 2 t14 t49,M 15 50] [⟨0,zE,0⟩,⟨2,z2,0⟩,⟨4,(.agg [.i .i64,.i .i64,.i .i64,.i .i64,.i .i64,.i .i64]),0⟩] [] (zR 40 11)) (zQ (zQ (oQ [M 51 15,O 52 (.bin .neq t51 (I 0))] [51]) (zC t52 (zQ (oQ [O 53 (.build [.nils,.nils] []),O 54 (.build [(.int .i64 (0)),(.int .i64 (0)),(.int .i64 (0)),(.int .i64 (0)),(.int .i64 (0)),(.int .i64 (0))] []),M 55 15,zS 2 t6 t53,zS 6 t7 t54,M 8 55] [1,3,5,9,10,12,13,14,15,29,30,31,52,53,54,55]) .ret) .skip)) (zQ (.ops [oT 56 2 13,zS 2 t3 t56] [⟨1,zE,0⟩] [] [13,15,52,56]) (zQ (zQ (.ops [oT 57 2 14,oT 58 2 3,M 59 12,O 60 (.call (.f ygh) [t58,t59]),O 61 (.call (.f yiL) [t57,t60]),O 62 (.un .not t61)] [⟨1,zE,0⟩] [(0,1),(0,2),(1,2),(0,3)] [14,57,58,59,60,61]) (zC t62 (.exit 1) .skip)) (.ops [O 63 (.fad 5 t9),oF 64 1 63,O 65 (.bin .add t64 (I 1)),O 66 (.fad 5 t9),zS 1 t66 t65] [⟨1,(.agg [.i .i64,.i .i64,.i .i64,.i .i64,.i .i64,.i .i64]),0⟩,⟨4,(.agg [.i .i64,.i .i64,.i .i64,.i .i64,.i .i64,.i .i64]),0⟩] [] (zR 62 5)))))) .skip)) (zQ (oQ [M 67 10,M 68 12,O 69 (.call t67 [t68]),M 16 69] [12,40,67,68,69]) (zQ (oQ [M 70 16,O 71 (.bin .neq t70 (I 0))] [70]) (zC t71 (zQ (oQ [O 72 (.build [.nils,.nils] []),O 73 (.build [(.int .i64 (0)),(.int .i64 (0)),(.int .i64 (0)),(.int .i64 (0)),(.int .i64 (0)),(.int .i64 (0))] []),M 74 16,zS 2 t6 t72,zS 6 t7 t73,M 8 74] [1,3,5,9,10,16,29,30,31,71,72,73,74]) .ret) .skip))))))) (oQ [O 75 (.bin .add t31 (I 1)),M 31 75] [12,16,62,71,75]))))
def yDp:TFn:=⟨3,[.cell 6 true 2,.cell 7 true 6,.tmp 8],(zQ (oQ [O 3 (.boxH true 2 t0),O 5 (.boxH true 2 t2),O 6 (.aL (.agg [.nils,.nils])),O 7 (.aL (.agg [(.int .i64 (0)),(.int .i64 (0)),(.int .i64 (0)),(.int .i64 (0)),(.int .i64 (0)),(.int .i64 (0))])),O 8 (.mv (I 0))] [0,2,8]) (zQ (.ops [M 17 1,O 18 (.iad 1 t17 (I 0)),oF 19 1 18,oT 20 2 5,O 21 (.fad 0 t3),oF 22 1 21,O 23 (.iad 3 t22 (I 0)),O 24 (.fad 0 t23),oF 25 1 24,O 26 (.call (.f ydL) [t25]),O 27 (.build [(.int .i64 (0)),(.int .i64 (0)),(.int .i64 (0)),(.int .i64 (0)),(.int .i64 (0)),(.int .i64 (0))] [(0,1,t19),(1,2,t20),(3,2,t26)]),O 9 (.aH true 6 (.agg [(.int .i64 (0)),(.int .i64 (0)),(.int .i64 (0)),(.int .i64 (0)),(.int .i64 (0)),(.int .i64 (0))])),zS 6 t9 t27] [⟨1,zI,0⟩,⟨2,zI,0⟩,⟨3,z2,0⟩,⟨5,zE,0⟩,⟨6,zK,0⟩,⟨8,zK,0⟩,⟨12,(.agg [.i .i64,.i .i64,.i .i64,.i .i64,.i .i64,.i .i64]),0⟩] [(0,3),(1,3),(2,3),(0,4),(1,4),(2,4),(3,4),(0,5),(1,5),(2,5),(3,5),(0,6),(1,6),(2,6),(3,6),(0,7),(1,7),(2,7),(3,7),(0,8),(1,8),(2,8),(3,8),(0,9),(1,9),(2,9),(3,9),(0,11),(1,11),(2,11),(3,11),(4,11),(5,11),(6,11),(7,11),(8,11),(9,11),(10,11)] (zR 17 11)) (zQ (oQ [O 28 (.mkFn (.func ye3) [] [t3,t5,t9]),M 10 28] [28]) (zQ (zQ (oQ [M 29 1,O 30 (.len t29),O 31 (.mv (I 0))] []) (zB 0 (.loop 62467600 ym9))) (zQ (.ops [oT 76 2 3,oT 77 6 9,zS 2 t6 t76,zS 6 t7 t77,O 8 (.mv (I 0))] [⟨0,zE,0⟩,⟨1,(.agg [.i .i64,.i .i64,.i .i64,.i .i64,.i .i64,.i .i64]),0⟩] [(0,1),(1,2)] [1,3,5,9,10,11,12,29,30,31,32,38,76,77]) .ret)))))⟩
def ykT:TFn:=⟨2,[.tmp 3],(zQ (oQ [O 3 (.mv (.c (.bool false)))] [3]) (zQ (oQ [M 4 0,O 5 (.fad 0 t1),oF 6 1 5,oX 7 .eql 4 6,M 3 7] [0,1,4,5,6,7]) .ret))⟩
def yna:TC:=(zQ (oQ [oX 9 .lss 8 7] []) (zQ (zC t9 .skip (.exit 0)) (zQ (zB 1 (zQ (oQ [M 10 8,M 5 10] [9,10]) (zQ (.ops [M 11 1,M 12 0,M 13 5,O 14 (.iad 1 t12 t13),oF 15 1 14,O 16 (.call t11 [t15])] [⟨3,zI,0⟩,⟨4,zI,0⟩] [] (zR 11 5)) (zC t16 (zQ (oQ [M 17 5,M 4 17] [0,1,5,7,8,16,17]) .ret) .skip)))) (oQ [O 18 (.bin .add t8 (I 1)),M 8 18] [5,16,18]))))
def yoF:TFn:=⟨2,[.tmp 4],(zQ (oQ [O 4 (.mv (I 0))] [4]) (zQ (zQ (oQ [M 6 0,O 7 (.len t6),O 8 (.mv (I 0))] [6]) (zB 0 (.loop 91326000 yna))) (zQ (oQ [O 4 (.mv (I (-1)))] [0,1,7,8,9]) .ret)))⟩
def ynb:TC:=(zQ (zQ (oQ [M 16 6,M 17 0,O 18 (.len t17),oX 19 .lss 16 18] [16,17,18]) (zC t19 .skip (.exit 0))) (zQ (zB 1 (zQ (.ops [M 22 0,M 23 6,O 24 (.iad 1 t22 t23),oF 25 1 24,M 7 25] [⟨2,zI,0⟩,⟨3,zI,0⟩] [] [19,22,23,24,25]) (zQ (oQ [M 26 1,M 27 7,O 28 (.call t26 [t27]),O 29 (.un .not t28)] [26,27,28]) (zC t29 (zQ (.ops [M 30 0,M 31 5,M 32 7,O 33 (.iad 1 t30 t31),zS 1 t33 t32] [⟨3,zI,0⟩,⟨4,zI,0⟩] [] [7,29,30,31,32,33]) (oQ [M 34 5,O 35 (.bin .add t34 (I 1)),M 5 35] [34,35])) .skip)))) (oQ [M 20 6,O 21 (.bin .add t20 (I 1)),M 6 21] [7,20,21,29])))
def ync:TFn:=⟨2,[.tmp 4],(zQ (oQ [O 4 (.mv (.c .nils))] [4]) (zQ (oQ [M 8 0,M 9 1,O 10 (.call (.f yfL) [t8,t9]),M 5 10] [8,9,10]) (zQ (zQ (oQ [M 11 5,O 12 (.bin .eql t11 (I (-1)))] [11]) (zC t12 (zQ (oQ [M 13 0,M 4 13] [0,1,5,12,13]) .ret) .skip)) (zQ (zQ (oQ [M 14 5,O 15 (.bin .add t14 (I 1)),M 6 15] [12,14,15]) (zB 0 (.loop 55401000 ynb))) (zQ (oQ [M 36 0,M 37 5,O 38 (.slc 1 t36 (some t37) none none),⟨none,(.clr true 1 (.int .i64 (0)) t38),none⟩] [1,6,19,36,37,38]) (zQ (oQ [M 39 0,M 40 5,O 41 (.slc 1 t39 none (some t40) none),M 4 41] [0,5,39,40,41]) .ret))))))⟩
def yHt:TC:=(zQ (oQ [oX 17 .lss 16 15] []) (zQ (zC t17 .skip (.exit 0)) (zQ (zB 1 (zQ (oQ [M 18 16,M 5 18] [17,18]) (.ops [M 19 4,M 20 5,M 21 5,O 22 (.iad 1 t19 t20),zS 1 t22 t21] [⟨3,zI,0⟩,⟨4,zI,0⟩] [] [5,19,20,21,22]))) (oQ [O 23 (.bin .add t16 (I 1)),M 16 23] [23]))))
def yHu:TC:=(zQ (zQ (oQ [M 25 4,O 26 (.len t25),O 27 (.bin .gtr t26 (I 0))] [25,26]) (zC t27 .skip (.exit 2))) (zQ (zB 3 (zQ (.ops [oT 29 2 1,M 30 4,oT 31 2 6,O 32 (.call (.f yfl) [t29,t30,t31]),M 28 32,O 33 (.ext t28 0),O 34 (.ext t28 1),O 35 (.ext t28 2),O 7 (.aL (.agg [.nils,.nils])),O 8 (.aH true 6 (.agg [(.int .i64 (0)),(.int .i64 (0)),(.int .i64 (0)),(.int .i64 (0)),(.int .i64 (0)),(.int .i64 (0))])),zS 2 t7 t33,zS 6 t8 t34,M 9 35] [⟨11,(.agg [.i .i64,.i .i64,.i .i64,.i .i64,.i .i64,.i .i64]),0⟩] [] (zR 27 9)) (zQ (zQ (oQ [M 36 9,O 37 (.bin .neq t36 (I 0))] [36]) (zC t37 (zQ (oQ [oF 38 1 2,M 39 9,O 40 (.call t38 [t39])] [0,1,2,4,6,7,8,9,37,38,39,40]) .ret) .skip)) (zQ (.yret (.seq (.ops [M 41 0,oT 42 2 7,oT 43 6 8,O 44 (.call t41 [t42,t43]),O 45 (.un .not t44)] [] [9,37,41,42,43,44]) (.cond t45 .ret .skip)) [M 41 0,oT 42 2 7,oT 43 6 8] 44 t41 [t42,t43] 45 [9,37,41,42,43,44]) (zQ (.ops [oT 46 2 7,O 47 (.fad 3 t8),oT 48 2 47,zS 2 t1 t46,zS 2 t6 t48] [⟨2,(.agg [.i .i64,.i .i64,.i .i64,.i .i64,.i .i64,.i .i64]),0⟩] [(0,1),(0,2),(1,3),(2,3)] [7,45,46,47,48]) (oQ [M 49 4,O 50 (.mkFn (.func ybr) [] [t8]),O 51 (.call (.f ydN) [t49,t50]),M 4 51] [8,49,50,51])))))) (zQ (oQ [oT 52 2 6] [6]) (oQ [O 6 (.aL (.agg [(.int .i64 (0)),(.int .i64 (0))])),zS 2 t6 t52] [52]))))
def yKB:TFn:=⟨3,[],(zQ (oQ [O 10 (.fad 0 t1),oF 11 1 10,O 12 (.len t11),O 13 (.mkSl true 1 8 (.int .i64 (0)) t12 t12),M 4 13] (zR 10 4)) (zQ (zQ (oQ [M 14 4,O 15 (.len t14),O 16 (.mv (I 0))] [14]) (zB 0 (.lG 34581400 yHt))) (zQ (oQ [O 24 (.call (.f ydL) [(I 0)]),O 6 (.aL (.agg [(.int .i64 (0)),(.int .i64 (0))])),zS 2 t6 t24] [15,16,17,24]) (zB 2 (.lG 34581401 yHu)))))⟩
def yrB:TFn:=⟨2,[.tmp 4],(zQ (oQ [O 2 (.boxH true 2 t0),O 3 (.boxH false 1 t1),O 4 (.mv (.c .nilf))] [0,1,4]) (zQ (oQ [O 5 (.mkFn (.func yep) [] [t2,t3]),M 4 5] [2,3,5]) .ret))⟩
def ynd:TC:=(zQ (oQ [oX 17 .lss 16 15] []) (zQ (zC t17 .skip (.exit 0)) (zQ (zB 1 (zQ (oQ [M 18 16,M 5 18] [17,18]) (.ops [M 19 4,M 20 5,M 21 5,O 22 (.iad 1 t19 t20),zS 1 t22 t21] [⟨3,zI,0⟩,⟨4,zI,0⟩] [] [5,19,20,21,22]))) (oQ [O 23 (.bin .add t16 (I 1)),M 16 23] [23]))))
def yne:TC:=(zQ (zQ (oQ [M 25 4,O 26 (.len t25),O 27 (.bin .gtr t26 (I 0))] [25,26]) (zC t27 .skip (.exit 2))) (zQ (zB 3 (zQ (.ops [oT 29 2 1,M 30 4,oT 31 2 6,O 32 (.call (.f yfl) [t29,t30,t31]),M 28 32,O 33 (.ext t28 0),O 34 (.ext t28 1),O 35 (.ext t28 2),O 7 (.aL (.agg [.nils,.nils])),O 8 (.aH true 6 (.agg [(.int .i64 (0)),(.int .i64 (0)),(.int .i64 (0)),(.int .i64 (0)),(.int .i64 (0)),(.int .i64 (0))])),zS 2 t7 t33,zS 6 t8 t34,M 9 35] [⟨11,(.agg [.i .i64,.i .i64,.i .i64,.i .i64,.i .i64,.i .i64]),0⟩] [] (zR 27 9)) (zQ (zQ (oQ [M 36 9,O 37 (.bin .neq t36 (I 0))] [36]) (zC t37 (zQ (oQ [oF 38 1 2,M 39 9,O 40 (.call t38 [t39])] [0,1,2,4,6,7,8,9,37,38,39,40]) .ret) .skip)) (zQ (.yret (.seq (.ops [M 41 0,oT 42 2 7,oT 43 6 8,O 44 (.call t41 [t42,t43]),O 45 (.un .not t44)] [] [9,37,41,42,43,44]) (.cond t45 .ret .skip)) [M 41 0,oT 42 2 7,oT 43 6 8] 44 t41 [t42,t43] 45 [9,37,41,42,43,44]) (zQ (.ops [oT 46 2 7,O 47 (.fad 3 t8),oT 48 2 47,zS 2 t1 t46,zS 2 t6 t48] [⟨2,(.agg [.i .i64,.i .i64,.i .i64,.i .i64,.i .i64,.i .i64]),0⟩] [(0,1),(0,2),(1,3),(2,3)] [7,45,46,47,48]) (oQ [M 49 4,O 50 (.mkFn (.func ybr) [] [t8]),O 51 (.call (.f ydN) [t49,t50]),M 4 51] [8,49,50,51])))))) (zQ (oQ [oT 52 2 6] [6]) (oQ [O 6 (.aL (.agg [(.int .i64 (0)),(.int .i64 (0))])),zS 2 t6 t52] [52]))))
def ywG:TC:=(zQ (oQ [O 10 (.fad 0 t1),oF 11 1 10,O 12 (.len t11),O 13 (.mkSl true 1 8 (.int .i64 (0)) t12 t12),M 4 13] (zR 10 4)) (zQ (zQ (oQ [M 14 4,O 15 (.len t14),O 16 (.mv (I 0))] [14]) (zB 0 (.lG 82399400 ynd))) (zQ (oQ [O 24 (.call (.f ydL) [(I 0)]),O 6 (.aL (.agg [(.int .i64 (0)),(.int .i64 (0))])),zS 2 t6 t24] [15,16,17,24]) (zB 2 (.lG 82399401 yne)))))
def ydS:TC:=(zQ (.ops [O 7 (.aH true 2 (.agg [(.data []),(.data [])])),zS 2 t7 t25] [⟨1,zE,0⟩] [] [24,25]) (.ops [O 8 (.aH true 6 (.agg [(.int .i64 (0)),(.int .i64 (0)),(.int .i64 (0)),(.int .i64 (0)),(.int .i64 (0)),(.int .i64 (0))])),zS 6 t8 t26] [⟨1,(.agg [.i .i64,.i .i64,.i .i64,.i .i64,.i .i64,.i .i64]),0⟩] [] [26]))
def ydT:TC:=(zB 1 (zQ (.ops [oF 27 1 3,oT 28 6 8,O 29 (.bD 6 (.agg [(.int .i64 (0)),(.int .i64 (0)),(.int .i64 (0)),(.int .i64 (0)),(.int .i64 (0)),(.int .i64 (0))]) 1 [(0,t28)]),O 30 (.app true 6 48 t27 t29),zS 1 t3 t30] [⟨1,(.agg [.i .i64,.i .i64,.i .i64,.i .i64,.i .i64,.i .i64]),0⟩] [] (zR 27 4)) (zQ (.ops [O 31 (.fad 1 t7),oF 32 1 31,zS 1 t4 t32] [⟨1,zE,0⟩,⟨2,zD,0⟩] [] [7,31,32]) (zQ (.ops [O 33 (.fad 0 t2),oF 34 1 33,O 35 (.fad 0 t8),oF 36 1 35,O 37 (.fad 1 t8),oT 38 2 37,O 39 (.fad 3 t8),oT 40 2 39,O 41 (.build [(.int .i64 (0)),(.int .i64 (0)),(.int .i64 (0)),(.int .i64 (0))] [(0,2,t38),(2,2,t40)]),O 42 (.bD 4 (.agg [(.int .i64 (0)),(.int .i64 (0)),(.int .i64 (0)),(.int .i64 (0))]) 1 [(0,t41)]),O 43 (.iad 1 t34 t36),zS 1 t43 t42] [⟨3,(.agg [.i .i64,.i .i64,.i .i64,.i .i64,.i .i64,.i .i64]),0⟩,⟨5,(.agg [.i .i64,.i .i64,.i .i64,.i .i64,.i .i64,.i .i64]),0⟩,⟨7,(.agg [.i .i64,.i .i64,.i .i64,.i .i64,.i .i64,.i .i64]),0⟩,⟨10,zD,0⟩,⟨11,zD,0⟩] [] [8,33,34,35,36,37,38,39,40,41,42,43]) (zQ (.ops [oF 44 1 3,O 45 (.len t44),oF 46 1 1,O 47 (.len t46),oX 48 .eql 45 47] [⟨2,zD,0⟩] [] [1,44,45,46,47]) (zC t48 (.exit 0) .skip))))))
def yFJ:TC:=(.rangeF (.t 24) yep 3 ywG [25,26] ydS ydT)
def yHv:TFn:=⟨1,[.cell 2 true 1,.cell 3 false 1,.cell 4 false 1,.cell 5 false 1],(zQ (oQ [O 1 (.boxH true 1 t0),O 2 (.aH false 1 (.agg [.nils])),O 3 (.aH false 1 .nils),O 4 (.aH true 1 (.data [])),O 5 (.aH true 1 (.int .i64 (0)))] [0]) (zQ (.ops [oF 10 1 1,O 11 (.call (.f yhX) [t10]),M 9 11,O 12 (.ext t9 0),O 13 (.ext t9 1),O 6 (.aL (.agg [.nils,.nils])),zS 2 t6 t12,zS 1 t5 t13] [⟨0,zD,0⟩,⟨7,zI,0⟩] [] (zR 9 5)) (zQ (zQ (.ops [oF 14 1 5,O 15 (.bin .neq t14 (I 0))] [⟨0,zI,0⟩] [] [14]) (zC t15 (zQ (.ops [O 16 (.build [.nils] []),oF 17 1 5,zS 1 t2 t16,zS 1 t3 (.c .nils),zS 1 t4 (.c .nils),zS 1 t5 t17] [⟨1,zI,0⟩,⟨4,zD,0⟩,⟨5,zI,0⟩] [(0,1),(1,2),(1,3),(1,4)] [1,6,15,16,17]) .ret) .skip)) (zQ (.ops [oF 18 1 1,O 19 (.len t18),O 20 (.mkSl true 1 24 (.data []) t19 t19),O 21 (.fad 0 t2),zS 1 t21 t20] [⟨0,zD,0⟩] [] [15,18,19,20,21]) (zQ .skip (zQ (zQ (oQ [oT 22 2 6,O 23 (.mkFn (.func yaO) [] [t5]),O 24 (.call (.f yio) [t22,t23])] [6,22,23]) (zB 0 (.rangeF t24 yep 3 ywG [25,26] ydS ydT))) (zQ (zQ (.ops [oF 49 1 5,O 50 (.bin .neq t49 (I 0))] [⟨0,zI,0⟩] [] [1,24,48,49]) (zC t50 (zQ (.ops [O 51 (.build [.nils] []),oF 52 1 5,zS 1 t2 t51,zS 1 t3 (.c .nils),zS 1 t4 (.c .nils),zS 1 t5 t52] [⟨1,zI,0⟩,⟨4,zD,0⟩,⟨5,zI,0⟩] [(0,1),(1,2),(1,3),(1,4)] [50,51,52]) .ret) .skip)) (zQ (.ops [oT 53 1 2,oF 54 1 3,oF 55 1 4,zS 1 t2 t53,zS 1 t3 t54,zS 1 t4 t55,zS 1 t5 (I 0)] [⟨2,zD,0⟩,⟨5,zD,0⟩,⟨6,zI,0⟩] [(0,1),(0,2),(1,2),(1,3),(2,3),(2,4)] [50,53,54,55]) .ret))))))))⟩
def yDq:TFn:=⟨1,[.tmp 2,.tmp 3],(zQ (oQ [O 2 (.mv (I 0)),O 3 (.mv (I 0))] [2,3]) (zQ (zQ (oQ [M 4 0,O 5 (.bin .lss t4 (I 1)),M 6 5,zF 7 6 (.mv t0),zF 8 6 (.bin .gtr t7 (I 6)),O 9 (.pick t6 (.c (.bool true)) t8)] (zR 4 5)) (zC t9 (zQ (oQ [O 2 (.mv (I 0)),O 3 (.mv (I 2))] [0,9]) .ret) .skip)) (zQ (oQ [M 10 0,M 11 0,oX 12 .mul 10 11,O 13 (.bin .sub t12 (I 1)),M 2 13,O 3 (.mv (I 0))] [0,9,10,11,12,13]) .ret)))⟩
def yLi:TFn:=⟨1,[.cell 2 true 2],(zQ (oQ [O 2 (.aL (.agg [(.int .i64 (0)),(.int .i64 (0))]))] []) (zQ (oQ [M 3 0,O 4 (.build [(.int .i64 (0)),(.int .i64 (0))] [(0,1,t3),(1,1,(I 1))]),zS 2 t2 t4] [0,3,4]) .ret))⟩
def ynf:TC:=(zQ (zQ (oQ [M 11 5,M 12 0,O 13 (.len t12),oX 14 .lss 11 13] [11,12,13]) (zC t14 .skip (.exit 0))) (zQ (zB 1 (zQ (.ops [M 17 0,M 18 5,O 19 (.iad 6 t17 t18),oT 20 6 19,M 21 1,M 22 5,O 23 (.iad 6 t21 t22),oT 24 6 23,O 25 (.eqA true 6 [(0,(some .i64)),(1,(some .i64)),(2,(some .i64)),(3,(some .i64)),(4,(some .i64)),(5,(some .i64))] t20 t24)] [⟨2,(.agg [.i .i64,.i .i64,.i .i64,.i .i64,.i .i64,.i .i64]),0⟩,⟨3,(.agg [.i .i64,.i .i64,.i .i64,.i .i64,.i .i64,.i .i64]),0⟩,⟨6,(.agg [.i .i64,.i .i64,.i .i64,.i .i64,.i .i64,.i .i64]),0⟩,⟨7,(.agg [.i .i64,.i .i64,.i .i64,.i .i64,.i .i64,.i .i64]),0⟩] [(0,1),(0,4),(1,4),(2,4),(3,4),(0,5),(1,5),(2,5),(3,5),(4,5),(0,6),(1,6),(2,6),(3,6),(0,7),(1,7),(2,7),(3,7)] [14,17,18,19,20,21,22,23,24]) (zC t25 (zQ (oQ [O 4 (.mv (.c (.bool false)))] [0,1,5,25]) .ret) .skip))) (oQ [M 15 5,O 16 (.bin .add t15 (I 1)),M 5 16] [15,16,25])))
def ywZ:TFn:=⟨2,[.tmp 4],(zQ (oQ [O 4 (.mv (.c (.bool false)))] [4]) (zQ (zQ (oQ [M 6 0,O 7 (.len t6),M 8 1,O 9 (.len t8),oX 10 .neq 7 9] (zR 6 4)) (zC t10 (zQ (oQ [O 4 (.mv (.c (.bool false)))] [0,1,10]) .ret) .skip)) (zQ (zQ (oQ [O 5 (.mv (I 0))] [10]) (zB 0 (.loop 32519300 ynf))) (zQ (oQ [O 4 (.mv (.c (.bool true)))] [0,1,5,14]) .ret))))⟩
def yFK:TFn:=⟨0,[.tmp 0],(zQ (oQ [O 0 (.mv (.c (.bool false)))] [0]) (zQ (oQ [O 12 (.call (.f yiH) []),O 13 (.call (.f ygO) [t12]),M 11 13,O 14 (.ext t11 0),O 15 (.ext t11 1),O 16 (.ext t11 2),O 17 (.ext t11 3),O 1 (.aL (.agg [.nils])),zS 1 t1 t14,M 2 15,M 3 16,M 4 17] [1,11,12,13,14,15,16,17]) (zQ (oQ [O 19 (.call (.f yfm) [(I 3)]),M 18 19,O 20 (.ext t18 0),O 21 (.ext t18 1),M 5 20,M 6 21] (zR 18 4)) (zQ (oQ [O 22 (.call (.f ymh) [(I 0)]),O 23 (.build [(.int .i64 (0)),(.int .i64 (0))] [(0,1,(I 2)),(1,1,(I 3))]),O 24 (.build [(.int .i64 (0)),(.int .i64 (0))] [(0,1,(I 8)),(1,1,(I 3))]),O 25 (.call (.f ymh) [(I 6)]),O 7 (.aL (.agg [(.int .i64 (0)),(.int .i64 (0))])),O 8 (.aL (.agg [(.int .i64 (0)),(.int .i64 (0))])),O 9 (.aL (.agg [(.int .i64 (0)),(.int .i64 (0))])),O 10 (.aL (.agg [(.int .i64 (0)),(.int .i64 (0))])),zS 2 t7 t22,zS 2 t8 t23,zS 2 t9 t24,zS 2 t10 t25] (zR 22 4)) (zQ (oQ [M 26 4,O 27 (.bin .eql t26 (I 0)),M 28 27,zT 29 28 (.mv t2),zT 30 28 (.load true 2 t7),zT 31 28 (.load true 2 t8),zT 32 28 (.build [(.int .i64 (0)),(.int .i64 (0)),(.int .i64 (0)),(.int .i64 (0)),(.int .i64 (0)),(.int .i64 (0))] [(0,1,(I 2)),(1,2,t30),(3,2,t31),(5,1,(I 1))]),zT 33 28 (.load true 2 t8),zT 34 28 (.load true 2 t9),zT 35 28 (.build [(.int .i64 (0)),(.int .i64 (0)),(.int .i64 (0)),(.int .i64 (0)),(.int .i64 (0)),(.int .i64 (0))] [(0,1,(I 0)),(1,2,t33),(3,2,t34)]),zT 36 28 (.load true 2 t9),zT 37 28 (.load true 2 t10),zT 38 28 (.build [(.int .i64 (0)),(.int .i64 (0)),(.int .i64 (0)),(.int .i64 (0)),(.int .i64 (0)),(.int .i64 (0))] [(0,1,(I 1)),(1,2,t36),(3,2,t37)]),zT 39 28 (.bD 6 (.agg [(.int .i64 (0)),(.int .i64 (0)),(.int .i64 (0)),(.int .i64 (0)),(.int .i64 (0)),(.int .i64 (0))]) 3 [(0,t32),(1,t35),(2,t38)]),zT 40 28 (.call (.f yfB) [t29,t39]),O 41 (.pick t28 t40 (.c (.bool false))),M 42 41,zT 43 42 (.mv t3),zT 44 42 (.len t43),zT 45 42 (.bin .eql t44 (I 6)),O 46 (.pick t42 t45 (.c (.bool false))),M 47 46,zT 48 47 (.mv t6),zT 49 47 (.bin .eql t48 (I 0)),O 50 (.pick t47 t49 (.c (.bool false))),M 51 50,zT 52 51 (.mv t5),zT 53 51 (.bin .eql t52 (I 8)),O 54 (.pick t51 t53 (.c (.bool false))),M 0 54] [2,3,4,5,6,7,8,9,10,26,27,28,29,30,31,32,33,34,35,36,37,38,39,40,41,42,43,44,45,46,47,48,49,50,51,52,53,54]) .ret)))))⟩
def yng:TC:=(zQ (oQ [oX 28 .lss 27 26] []) (zQ (zC t28 .skip (.exit 0)) (zQ (zB 1 (zQ (.ops [M 29 27,O 30 (.iad 8 t25 t27),oT 31 8 30,O 9 (.aL (.agg [(.int .i64 (0)),(.int .u8 (0)),(.int .i64 (0)),(.int .i64 (0)),(.int .i64 (0)),(.int .i64 (0)),(.int .i64 (0)),(.int .i64 (0))])),M 8 29,zS 8 t9 t31] [⟨1,(.agg [.i .i64,.i .u8,.i .i64,.i .i64,.i .i64,.i .i64,.i .i64,.i .i64]),0⟩,⟨2,(.agg [.i .i64,.i .u8,.i .i64,.i .i64,.i .i64,.i .i64,.i .i64,.i .i64]),0⟩] [] (zR 28 4)) (zQ (oQ [oT 32 2 6,O 33 (.mkFn (.func ycz) [t32] []),M 10 33] [32,33]) (zQ (zQ (.ops [O 34 (.fad 1 t9),oF 35 1 34,O 36 (.bin .eql t35 (.c (.int .u8 (2))))] [⟨1,(.agg [.i .i64,.i .u8,.i .i64,.i .i64,.i .i64,.i .i64,.i .i64,.i .i64]),0⟩] [] [34,35]) (zC t36 (oQ [oT 37 2 6,O 38 (.mkFn (.func ycN) [t37] []),M 10 38] [36,37,38]) .skip)) (zQ (zQ (.ops [oT 39 2 6,O 40 (.fad 0 t9),oF 41 1 40,O 42 (.call (.f ybK) [t39,t41]),O 43 (.un .not t42),M 44 43,zF 45 44 (.fad 1 t9),zF 46 44 (.load false 1 t45),zF 47 44 (.bin .lss t46 (.c (.int .u8 (1)))),O 48 (.pick t44 (.c (.bool true)) t47),M 49 48,zF 50 49 (.fad 1 t9),zF 51 49 (.load false 1 t50),zF 52 49 (.bin .gtr t51 (.c (.int .u8 (2)))),O 53 (.pick t49 (.c (.bool true)) t52)] [⟨2,(.agg [.i .i64,.i .u8,.i .i64,.i .i64,.i .i64,.i .i64,.i .i64,.i .i64]),0⟩,⟨7,(.agg [.i .i64,.i .u8,.i .i64,.i .i64,.i .i64,.i .i64,.i .i64,.i .i64]),0⟩,⟨12,(.agg [.i .i64,.i .u8,.i .i64,.i .i64,.i .i64,.i .i64,.i .i64,.i .i64]),0⟩] [] [36,39,40,41,42,43,44,45,46,47,48,49,50,51,52]) (zC t53 (zQ (oQ [M 54 8,M 4 54,O 5 (.mv (I 0))] [1,6,8,9,10,25,26,27,53,54]) .ret) .skip)) (zQ (.ops [M 56 10,O 57 (.fad 0 t9),oF 58 1 57,O 59 (.fad 2 t9),oT 60 2 59,O 61 (.fad 4 t9),oT 62 2 61,O 63 (.call t56 [t58,t60,t62]),M 55 63,O 64 (.ext t55 0),O 65 (.ext t55 1),O 11 (.aL (.agg [(.int .i64 (0)),(.int .i64 (0))])),zS 2 t11 t64,M 12 65] [⟨2,(.agg [.i .i64,.i .u8,.i .i64,.i .i64,.i .i64,.i .i64,.i .i64,.i .i64]),0⟩,⟨4,(.agg [.i .i64,.i .u8,.i .i64,.i .i64,.i .i64,.i .i64,.i .i64,.i .i64]),0⟩,⟨6,(.agg [.i .i64,.i .u8,.i .i64,.i .i64,.i .i64,.i .i64,.i .i64,.i .i64]),0⟩] [] [10,53,55,56,57,58,59,60,61,62,63,64,65]) (zQ (.ops [M 66 12,O 67 (.bin .neq t66 (I 0)),M 68 67,zF 69 68 (.load true 2 t11),zF 70 68 (.fad 6 t9),zF 71 68 (.load true 2 t70),zF 72 68 (.eqA true 2 [(0,(some .i64)),(1,(some .i64))] t69 t71),O 73 (.pick t68 (.c (.bool true)) t72)] [⟨5,(.agg [.i .i64,.i .u8,.i .i64,.i .i64,.i .i64,.i .i64,.i .i64,.i .i64]),0⟩] [] [9,11,12,66,67,68,69,70,71,72]) (zC t73 (zQ (oQ [M 74 8,M 4 74,O 5 (.mv (I 0))] [1,6,8,25,26,27,73,74]) .ret) .skip)))))))) (oQ [O 75 (.bin .add t27 (I 1)),M 27 75] [8,73,75]))))
def yDr:TFn:=⟨2,[.tmp 4,.tmp 5],(zQ (oQ [O 4 (.mv (I 0)),O 5 (.mv (I 0))] [4,5]) (zQ (oQ [M 13 0,M 14 1,O 15 (.build [.nils,.nils] [(0,1,t13),(1,1,t14)]),O 16 (.build [.nils,.nils] [(0,2,t15)]),O 6 (.aL (.agg [.nils,.nils])),zS 2 t6 t16] [0,13,14,15,16]) (zQ (zQ (.ops [O 17 (.fad 0 t6),oT 18 2 17,O 19 (.call (.f ycj) [t18]),M 7 19] [⟨1,zE,0⟩] [] [17,18,19]) (zQ (oQ [M 20 7,O 21 (.bin .neq t20 (I 0))] [20]) (zC t21 (zQ (oQ [M 22 7,O 4 (.mv (I 0)),M 5 22] [1,6,7,21,22]) .ret) .skip))) (zQ (zQ (.ops [O 23 (.fad 0 t6),O 24 (.fad 1 t23),oF 25 1 24,O 26 (.len t25),O 27 (.mv (I 0))] [⟨2,zE,0⟩] [] [7,21,23,24]) (zB 0 (.loop 47732200 yng))) (zQ (oQ [M 76 1,O 77 (.len t76),M 4 77,O 5 (.mv (I 0))] [1,6,25,26,27,28,76,77]) .ret)))))⟩
def yAt:TFn:=⟨1,[.tmp 2],(zQ (oQ [O 1 (.boxL t0),O 2 (.mv (.c (.bool false)))] [0,2]) (zQ (.ops [O 6 (.fad 0 t1),oT 7 2 6,O 8 (.fad 2 t1),oT 9 2 8,O 10 (.call (.f ybU) [t7,t9]),M 5 10,O 11 (.ext t5 0),O 12 (.ext t5 1),M 3 11,M 4 12] [⟨1,z4,0⟩,⟨3,z4,0⟩] [] [1,5,6,7,8,9,10,11,12]) (zQ (oQ [M 13 4,O 14 (.bin .eql t13 (I 0)),M 15 14,zT 16 15 (.mv t3),zT 17 15 (.bin .lss t16 (I 0)),O 18 (.pick t15 t17 (.c (.bool false))),M 2 18] [3,4,13,14,15,16,17,18]) .ret)))⟩
def ynh:TC:=(zQ (oQ [oX 11 .lss 10 9] []) (zQ (zC t11 .skip (.exit 0)) (zQ (zB 1 (zQ (.ops [O 12 (.iad 4 t8 t10),oT 13 4 12,O 4 (.aL (.agg [(.int .i64 (0)),(.int .i64 (0)),(.int .i64 (0)),(.int .i64 (0))])),zS 4 t4 t13] [⟨0,z4,0⟩,⟨1,z4,0⟩] [] [11,12,13]) (zQ (oQ [oT 14 4 4,O 15 (.call (.f ygG) [t14]),O 16 (.un .not t15)] [4,14,15]) (zC t16 (zQ (oQ [O 2 (.mv (I 8))] [8,9,10,16]) .ret) .skip)))) (oQ [O 17 (.bin .add t10 (I 1)),M 10 17] [16,17]))))
def yFL:TFn:=⟨1,[.tmp 2],(zQ (oQ [O 2 (.mv (I 0))] [2]) (zQ (zQ (oQ [M 5 0,O 6 (.len t5),O 7 (.bin .gtr t6 (I 60))] [5,6]) (zC t7 (zQ (oQ [O 2 (.mv (I 4))] [0,7]) .ret) .skip)) (zQ (zQ (oQ [M 8 0,O 9 (.len t8),O 10 (.mv (I 0))] [0,7]) (zB 0 (.loop 56157900 ynh))) (zQ (oQ [O 2 (.mv (I 0))] (zR 8 4)) .ret))))⟩
def yAu:TFn:=⟨2,[.tmp 4],(zQ (oQ [O 2 (.boxL t0),O 3 (.boxL t1),O 4 (.mv (I 0))] [0,1,4]) (zQ (oQ [oT 8 2 2,oT 9 2 3,O 10 (.call (.f ybU) [t8,t9]),M 7 10,O 11 (.ext t7 0),O 12 (.ext t7 1),M 5 11,M 6 12] [2,3,6,7,8,9,10,11,12]) (zQ (oQ [M 13 5,M 4 13] [5,13]) .ret)))⟩
def yni:TC:=(zQ (zQ (oQ [M 10 4,M 11 0,O 12 (.len t11),oX 13 .lss 10 12] [10,11,12]) (zC t13 .skip (.exit 0))) (zQ (zB 1 (zQ (.ops [M 16 0,M 17 4,O 18 (.bin .sub t17 (I 1)),O 19 (.iad 4 t16 t18),O 20 (.fad 2 t19),oT 21 2 20,M 22 0,M 23 4,O 24 (.iad 4 t22 t23),O 25 (.fad 0 t24),oT 26 2 25,O 27 (.call (.f ydP) [t21,t26]),O 28 (.bin .geq t27 (I 0))] [⟨3,z4,0⟩,⟨5,z4,0⟩,⟨8,z4,0⟩,⟨10,z4,0⟩] [(0,1),(0,2),(0,6),(1,6),(2,6),(3,6),(4,6),(5,6),(0,7),(1,7),(2,7),(3,7),(4,7),(5,7),(6,7),(0,8),(1,8),(2,8),(3,8),(4,8),(5,8),(0,9),(1,9),(2,9),(3,9),(4,9),(5,9),(0,10),(1,10),(2,10),(3,10),(4,10),(5,10)] [13,16,17,18,19,20,21,22,23,24,25,26,27]) (zC t28 (zQ (oQ [O 2 (.mv (I 8))] [0,4,28]) .ret) .skip))) (oQ [M 14 4,O 15 (.bin .add t14 (I 1)),M 4 15] [14,15,28])))
def yAv:TFn:=⟨1,[.tmp 2],(zQ (oQ [O 2 (.mv (I 0))] [2]) (zQ (zQ (oQ [M 5 0,O 6 (.call (.f yiM) [t5]),M 3 6] [5,6]) (zQ (oQ [M 7 3,O 8 (.bin .neq t7 (I 0))] [7]) (zC t8 (zQ (oQ [M 9 3,M 2 9] [0,3,8,9]) .ret) .skip))) (zQ (zQ (oQ [O 4 (.mv (I 1))] [3,8]) (zB 0 (.loop 17365500 yni))) (zQ (oQ [O 2 (.mv (I 0))] [0,4,13]) .ret))))⟩
def yAw:TFn:=⟨1,[.cell 2 true 2],(zQ (oQ [O 2 (.aL (.agg [(.int .i64 (0)),(.int .i64 (0))]))] []) (zQ (oQ [M 3 0,O 4 (.build [(.int .i64 (0)),(.int .i64 (0))] [(0,1,t3),(1,1,(I 1))]),zS 2 t2 t4] [0,3,4]) .ret))⟩
def yDs:TFn:=⟨2,[.tmp 4],(zQ (oQ [O 2 (.boxL t0),O 3 (.boxL t1),O 4 (.mv (.c (.bool false)))] [0,1,4]) (zQ (oQ [oT 8 2 2,oT 9 2 3,O 10 (.call (.f ybU) [t8,t9]),M 7 10,O 11 (.ext t7 0),O 12 (.ext t7 1),M 5 11,M 6 12] [2,3,6,7,8,9,10,11,12]) (zQ (oQ [M 13 5,O 14 (.bin .lss t13 (I 0)),M 4 14] [5,13,14]) .ret)))⟩
def yqC:TC:=(zQ (oQ [oX 28 .lss 27 26] []) (zQ (zC t28 .skip (.exit 0)) (zQ (zB 1 (zQ (.ops [O 29 (.iad 1 t25 t27),oF 30 1 29,M 7 30] [⟨0,zD,0⟩,⟨1,zD,0⟩] [] [28,29,30]) (zQ (oQ [M 31 7,O 32 (.call (.f ydQ) [t31]),M 8 32] [7,31,32]) (zQ (oQ [M 33 8,O 34 (.bin .neq t33 (I 0))] [33]) (zC t34 (zQ (oQ [M 35 8,M 4 35] [0,3,8,25,26,27,34,35]) .ret) .skip))))) (oQ [O 36 (.bin .add t27 (I 1)),M 27 36] [8,34,36]))))
def yqD:TC:=(zQ (oQ [oX 41 .lss 40 39] []) (zQ (zC t41 .skip (.exit 2)) (zQ (zB 3 (zQ (.ops [O 42 (.iad 1 t38 t40),oF 43 1 42,M 10 43] [⟨0,zD,0⟩,⟨1,zD,0⟩] [] [41,42,43]) (zQ (oQ [M 44 10,O 45 (.len t44),M 11 45] [44,45]) (zQ (.ops [M 46 11,O 47 (.bin .gtr t46 (I 0)),M 48 47,zT 49 48 (.mv t10),zT 50 48 (.iad 4 t49 (I 0)),zT 51 48 (.fad 0 t50),zT 52 48 (.fad 0 t51),zT 53 48 (.load false 1 t52),zT 54 48 (.bin .lss t53 (I 0)),zT 55 48 (.mv t54),zF 56 55 (.mv t0),zF 57 55 (.iad 3 t56 (I 0)),zF 58 55 (.fad 0 t57),zF 59 55 (.load false 1 t58),zF 60 55 (.call (.f ybw) [t59]),zF 61 55 (.mv t10),zF 62 55 (.mv t11),zF 63 55 (.bin .sub t62 (I 1)),zF 64 55 (.iad 4 t61 t63),zF 65 55 (.fad 2 t64),zF 66 55 (.load true 2 t65),zF 67 55 (.call (.f ybo) [t60,t66]),zT 68 48 (.pick t55 (.c (.bool true)) t67),O 69 (.pick t48 t68 (.c (.bool false)))] [⟨4,z4,0⟩,⟨7,z4,0⟩,⟨11,zK,0⟩,⟨13,zK,0⟩,⟨18,z4,0⟩,⟨20,z4,0⟩] [(10,15),(11,15),(12,15),(13,15),(14,15),(10,16),(11,16),(12,16),(13,16),(14,16),(15,16),(10,17),(11,17),(12,17),(13,17),(14,17),(15,17),(10,18),(11,18),(12,18),(13,18),(14,18),(10,19),(11,19),(12,19),(13,19),(14,19),(10,20),(11,20),(12,20),(13,20),(14,20)] [10,11,46,47,48,49,50,51,52,53,54,55,56,57,58,59,60,61,62,63,64,65,66,67,68]) (zC t69 (zQ (oQ [O 4 (.mv (I 2))] [0,38,39,40,69]) .ret) .skip))))) (oQ [O 70 (.bin .add t40 (I 1)),M 40 70] [69,70]))))
def yAx:TFn:=⟨2,[.tmp 4],(zQ (oQ [O 3 (.boxL t1),O 4 (.mv (I 0))] [1,4]) (zQ (zQ (oQ [M 12 0,O 13 (.build [.nils,.nils] [(0,1,t12)]),O 14 (.call (.f ycj) [t13]),M 5 14] [12,13,14]) (zQ (oQ [M 15 5,O 16 (.bin .neq t15 (I 0))] [15]) (zC t16 (zQ (oQ [M 17 5,M 4 17] [0,3,5,16,17]) .ret) .skip))) (zQ (zQ (.ops [O 18 (.fad 0 t3),oF 19 1 18,O 20 (.len t19),M 21 0,O 22 (.len t21),oX 23 .neq 20 22] [⟨1,(.agg [.d]),0⟩] [] [5,16,18,19,20,21,22]) (zC t23 (zQ (oQ [O 4 (.mv (I 2))] [0,3,23]) .ret) .skip)) (zQ (zQ (.ops [O 24 (.fad 0 t3),oF 25 1 24,O 26 (.len t25),O 27 (.mv (I 0))] [⟨1,(.agg [.d]),0⟩] [] [23,24]) (zB 0 (.loop 8206000 yqC))) (zQ (zQ (.ops [O 37 (.fad 0 t3),oF 38 1 37,O 39 (.len t38),O 40 (.mv (I 0))] [⟨1,(.agg [.d]),0⟩] [] [3,25,26,27,28,37]) (zB 2 (.loop 8206001 yqD))) (zQ (oQ [O 4 (.mv (I 0))] [0,38,39,40,41]) .ret))))))⟩
def yoo:TFn:=⟨2,[.cell 3 true 2,.tmp 4],(zQ (oQ [O 2 (.boxL t0),O 3 (.aL (.agg [(.int .i64 (0)),(.int .i64 (0))])),O 4 (.mv (I 0))] [0,4]) (zQ (.ops [oT 5 3 1,O 6 (.fad 0 t2),oT 7 2 6,O 8 (.fad 2 t2),oT 9 2 8,O 10 (.call (.f yeG) [t5,t7,t9]),O 11 (.ext t10 0),O 12 (.ext t10 1),zS 2 t3 t11,M 4 12] [⟨2,z4,0⟩,⟨4,z4,0⟩] [] [1,2,5,6,7,8,9,10,11,12]) .ret))⟩
def ynj:TC:=(zQ (oQ [oX 15 .lss 14 13] []) (zQ (zC t15 .skip (.exit 0)) (zQ (zB 1 (zQ (.ops [O 16 (.iad 4 t12 t14),oT 17 4 16,O 8 (.aL (.agg [(.int .i64 (0)),(.int .i64 (0)),(.int .i64 (0)),(.int .i64 (0))])),zS 4 t8 t17] [⟨0,z4,0⟩,⟨1,z4,0⟩] [] [15,16,17]) (zQ (oQ [M 19 1,oT 20 4 8,O 21 (.call t19 [t20]),M 18 21,O 22 (.ext t18 0),O 23 (.ext t18 1),O 9 (.aL (.agg [(.int .i64 (0)),(.int .i64 (0))])),zS 2 t9 t22,M 10 23] [8,18,19,20,21,22,23]) (zQ (zQ (oQ [M 24 10,O 25 (.bin .neq t24 (I 0))] [24]) (zC t25 (zQ (oQ [O 26 (.build [(.int .i64 (0)),(.int .i64 (0))] []),M 27 10,zS 2 t4 t26,M 5 27] [1,6,9,10,12,13,14,25,26,27]) .ret) .skip)) (zQ (oQ [oT 29 2 6,oT 30 2 9,O 31 (.call (.f ycD) [t29,t30]),M 28 31,O 32 (.ext t28 0),O 33 (.ext t28 1),zS 2 t6 t32,M 10 33] [9,25,28,29,30,31,32,33]) (zQ (oQ [M 34 10,O 35 (.bin .neq t34 (I 0))] [34]) (zC t35 (zQ (oQ [O 36 (.build [(.int .i64 (0)),(.int .i64 (0))] []),M 37 10,zS 2 t4 t36,M 5 37] [1,6,10,12,13,14,35,36,37]) .ret) .skip))))))) (oQ [O 38 (.bin .add t14 (I 1)),M 14 38] [10,35,38]))))
def yFM:TFn:=⟨2,[.cell 4 true 2,.tmp 5],(zQ (oQ [O 4 (.aL (.agg [(.int .i64 (0)),(.int .i64 (0))])),O 5 (.mv (I 0))] [5]) (zQ (oQ [O 11 (.build [(.int .i64 (0)),(.int .i64 (0))] [(1,1,(I 1))]),O 6 (.aL (.agg [(.int .i64 (0)),(.int .i64 (0))])),zS 2 t6 t11] [11]) (zQ (zQ (oQ [M 12 0,O 13 (.len t12),O 14 (.mv (I 0))] [0]) (zB 0 (.loop 87165700 ynj))) (zQ (oQ [oT 39 2 6,zS 2 t4 t39,O 5 (.mv (I 0))] [1,6,12,13,14,15,39]) .ret))))⟩
def yAy:TFn:=⟨2,[.cell 4 true 2,.tmp 5],(zQ (oQ [O 2 (.boxH true 3 t0),O 4 (.aL (.agg [(.int .i64 (0)),(.int .i64 (0))])),O 5 (.mv (I 0))] [0,5]) (zQ (zQ (.ops [oT 9 3 2,O 10 (.call (.f yby) [t9]),M 6 10] [⟨0,zK,0⟩] [] [9,10]) (zQ (oQ [M 11 6,O 12 (.bin .neq t11 (I 0))] [11]) (zC t12 (zQ (oQ [O 13 (.build [(.int .i64 (0)),(.int .i64 (0))] []),M 14 6,zS 2 t4 t13,M 5 14] [1,2,6,12,13,14]) .ret) .skip))) (zQ (zQ (oQ [M 15 1,O 16 (.call (.f ydQ) [t15]),M 7 16] [6,12,15,16]) (zQ (oQ [M 17 7,O 18 (.bin .neq t17 (I 0))] [17]) (zC t18 (zQ (oQ [O 19 (.build [(.int .i64 (0)),(.int .i64 (0))] []),M 20 7,zS 2 t4 t19,M 5 20] [1,2,7,18,19,20]) .ret) .skip))) (zQ (zQ (oQ [M 21 1,O 22 (.len t21),M 8 22] [7,18,21,22]) (zQ (.ops [M 23 8,O 24 (.bin .gtr t23 (I 0)),M 25 24,zT 26 25 (.mv t1),zT 27 25 (.iad 4 t26 (I 0)),zT 28 25 (.fad 0 t27),zT 29 25 (.fad 0 t28),zT 30 25 (.load false 1 t29),zT 31 25 (.bin .lss t30 (I 0)),zT 32 25 (.mv t31),zF 33 32 (.mv t1),zF 34 32 (.mv t8),zF 35 32 (.bin .sub t34 (I 1)),zF 36 32 (.iad 4 t33 t35),zF 37 32 (.fad 2 t36),zF 38 32 (.load true 2 t37),zF 39 32 (.fad 0 t2),zF 40 32 (.load false 1 t39),zF 41 32 (.build [(.int .i64 (0)),(.int .i64 (0))] [(0,1,t40),(1,1,(I 1))]),zF 42 32 (.call (.f ydP) [t38,t41]),zF 43 32 (.bin .gtr t42 (I 0)),zT 44 25 (.pick t32 (.c (.bool true)) t43),O 45 (.pick t25 t44 (.c (.bool false)))] [⟨4,z4,0⟩,⟨7,z4,0⟩,⟨13,z4,0⟩,⟨15,z4,0⟩,⟨17,zK,0⟩] [(10,11),(10,12),(10,16),(11,16),(12,16),(13,16),(14,16),(15,16),(10,17),(11,17),(12,17),(13,17),(14,17),(15,17),(10,18),(11,18),(12,18),(13,18),(14,18),(15,18)] [8,23,24,25,26,27,28,29,30,31,32,33,34,35,36,37,38,39,40,41,42,43,44]) (zC t45 (zQ (oQ [O 46 (.build [(.int .i64 (0)),(.int .i64 (0))] []),zS 2 t4 t46,O 5 (.mv (I 2))] [1,2,45,46]) .ret) .skip))) (zQ (oQ [M 47 1,O 48 (.mkFn (.func yeq) [] [t2]),O 49 (.call (.f ypb) [t47,t48]),O 50 (.ext t49 0),O 51 (.ext t49 1),zS 2 t4 t50,M 5 51] [1,2,45,47,48,49,50,51]) .ret)))))⟩
def yhZ:TC:=(zQ (oQ [oX 34 .lss 33 32] []) (zQ (zC t34 .skip (.exit 2)) (zQ (zB 3 (zQ (oQ [O 35 (.iad 1 t31 t33),oF 36 1 35,M 11 36] [34,35,36]) (zQ (oQ [oT 38 3 9,M 39 11,O 40 (.call (.f ybY) [t38,t39]),M 37 40,O 41 (.ext t37 0),O 42 (.ext t37 1),O 12 (.aL (.agg [(.int .i64 (0)),(.int .i64 (0))])),zS 2 t12 t41,M 13 42] [11,37,38,39,40,41,42]) (zQ (zQ (oQ [M 43 13,O 44 (.bin .neq t43 (I 0))] [43]) (zC t44 (zQ (oQ [M 45 13,O 4 (.mv (.c .nils)),M 5 45] [3,7,8,9,12,13,23,24,25,31,32,33,44,45]) .ret) .skip)) (.ops [M 46 7,M 47 8,M 48 7,M 49 8,O 50 (.iad 1 t48 t49),oF 51 1 50,oT 52 2 12,O 53 (.bD 2 (.agg [(.int .i64 (0)),(.int .i64 (0))]) 1 [(0,t52)]),O 54 (.app true 2 16 t51 t53),O 55 (.iad 1 t46 t47),zS 1 t55 t54] [] [(0,1),(0,2),(1,2),(0,3),(1,3),(2,3),(0,4),(1,4),(0,5),(1,5),(0,6),(1,6),(2,6),(3,6),(4,6),(5,6),(0,7),(1,7),(2,7),(3,7),(4,7),(5,7),(0,8),(1,8)] [12,13,44,46,47,48,49,50,51,52,53,54,55]))))) (oQ [O 56 (.bin .add t33 (I 1)),M 33 56] [56]))))
def ynk:TC:=(zQ (oQ [oX 26 .lss 25 24] []) (zQ (zC t26 .skip (.exit 0)) (zQ (zB 1 (zQ (oQ [M 27 25,O 28 (.iad 3 t23 t25),oT 29 3 28,O 9 (.aL (.agg [(.int .i64 (0)),.nils,.nils])),M 8 27,zS 3 t9 t29] (zR 26 4)) (zQ (oQ [O 30 (.fad 0 t3),oF 31 1 30,O 32 (.len t31),O 33 (.mv (I 0))] [30]) (zB 2 (.loop 14283600 yhZ))))) (oQ [O 57 (.bin .add t25 (I 1)),M 25 57] [8,9,31,32,33,34,57]))))
def yrC:TFn:=⟨2,[.tmp 4,.tmp 5],(zQ (oQ [O 3 (.boxL t1),O 4 (.mv (.c .nils)),O 5 (.mv (I 0))] [1,4,5]) (zQ (zQ (oQ [M 14 0,oT 15 1 3,O 16 (.call (.f ydR) [t14,t15]),M 6 16] [14,15,16]) (zQ (oQ [M 17 6,O 18 (.bin .neq t17 (I 0))] [17]) (zC t18 (zQ (oQ [M 19 6,O 4 (.mv (.c .nils)),M 5 19] [0,3,6,18,19]) .ret) .skip))) (zQ (oQ [M 20 0,O 21 (.len t20),O 22 (.mkSl false 1 24 .nils t21 t21),M 7 22] [6,18,20,21,22]) (zQ (zQ (oQ [M 23 0,O 24 (.len t23),O 25 (.mv (I 0))] [0]) (zB 0 (.loop 14283601 ynk))) (zQ (oQ [M 58 7,M 4 58,O 5 (.mv (I 0))] [3,7,23,24,25,26,58]) .ret)))))⟩
def ygk:TFn:=⟨2,[.tmp 4,.tmp 5],(zQ (oQ [O 3 (.boxL t1),O 4 (.mv (.c .nilp)),O 5 (.mv (I 0))] [1,4,5]) (zQ (oQ [M 9 0,oT 10 1 3,O 11 (.call (.f ybc) [t9,t10]),M 8 11,O 12 (.ext t8 0),O 13 (.ext t8 1),M 6 12,M 7 13] (zR 8 6)) (zQ (zQ (oQ [M 14 7,O 15 (.bin .neq t14 (I 0))] [14]) (zC t15 (zQ (oQ [M 16 7,O 4 (.mv (.c .nilp)),M 5 16] [0,3,6,7,15,16]) .ret) .skip)) (zQ (.ops [M 17 0,O 18 (.fad 0 t3),oF 19 1 18,M 20 6,O 21 (.build [.nils,.nils,.nils,.nils] [(0,1,t17),(1,1,t19),(2,1,t20)]),O 22 (.boxH false 4 t21),M 4 22,O 5 (.mv (I 0))] [⟨2,(.agg [.d]),0⟩] [] [0,3,6,7,15,17,18,19,20,21,22]) .ret))))⟩
def ygP:TC:=(zQ (oQ [oX 14 .lss 13 12] []) (zQ (zC t14 .skip (.exit 0)) (zQ (zB 1 (zQ (oQ [M 15 13,M 3 15] [14,15]) (zQ (.ops [M 17 0,O 18 (.nilchk t17),O 19 (.fad 0 t18),oF 20 1 19,M 21 3,O 22 (.iad 3 t20 t21),oT 23 3 22,O 24 (.call (.f ycb) [t23]),M 16 24,O 25 (.ext t16 0),O 26 (.ext t16 1),M 4 25,M 5 26] [⟨5,zK,0⟩,⟨6,zK,0⟩] [] [5,16,17,18,19,20,21,22,23,24,25,26]) (zQ (.ops [M 28 0,O 29 (.nilchk t28),O 30 (.fad 2 t29),oF 31 1 30,M 32 3,O 33 (.iad 1 t31 t32),oF 34 1 33,M 35 3,O 36 (.iad 2 t34 t35),oT 37 2 36,M 38 4,O 39 (.call (.f ybw) [t38]),O 40 (.call (.f ydl) [t37,t39]),M 27 40,O 41 (.ext t27 0),O 42 (.ext t27 1),O 6 (.aL (.agg [(.int .i64 (0)),(.int .i64 (0))])),zS 2 t6 t41,M 7 42] [⟨5,zD,0⟩,⟨6,zD,0⟩,⟨8,z2,0⟩,⟨9,z2,0⟩] [(0,4),(1,4),(2,4),(3,4),(0,7),(1,7),(2,7),(3,7),(4,7),(5,7),(6,7),(0,10),(1,10),(2,10),(3,10),(4,10),(5,10),(6,10),(7,10),(8,10),(9,10),(0,11),(1,11),(2,11),(3,11),(4,11),(5,11),(6,11),(7,11),(8,11),(9,11),(14,15),(0,16),(1,16),(2,16),(3,16),(4,16),(5,16),(6,16),(7,16),(8,16),(9,16),(10,16),(11,16),(12,16),(13,16),(14,16),(15,16),(15,17)] [3,4,27,28,29,30,31,32,33,34,35,36,37,38,39,40,41,42]) (zQ (zQ (oQ [M 43 7,O 44 (.bin .neq t43 (I 0))] [43]) (zC t44 (zQ (oQ [M 45 7,M 2 45] [0,6,7,12,13,44,45]) .ret) .skip)) (.ops [M 46 0,M 47 0,O 48 (.nilchk t47),O 49 (.fad 3 t48),oF 50 1 49,oT 51 2 6,O 52 (.bD 2 (.agg [(.int .i64 (0)),(.int .i64 (0))]) 1 [(0,t51)]),O 53 (.app true 2 16 t50 t52),O 54 (.nilchk t46),O 55 (.fad 3 t54),zS 1 t55 t53] [] [(0,1),(0,2),(0,3),(0,4),(0,5),(1,5),(2,5),(3,5),(4,5),(0,6),(1,6),(2,6),(3,6),(4,6),(0,7)] [6,7,44,46,47,48,49,50,51,52,53,54,55])))))) (oQ [O 56 (.bin .add t13 (I 1)),M 13 56] [56]))))
def yj9:TFn:=⟨1,[.tmp 2],(zQ (oQ [O 2 (.mv (I 0))] [2]) (zQ (zQ (oQ [M 8 0,O 9 (.nilchk t8),O 10 (.fad 0 t9),oF 11 1 10,O 12 (.len t11),O 13 (.mv (I 0))] (zR 8 4)) (zB 0 (.loop 20643600 ygP))) (zQ (oQ [O 2 (.mv (I 0))] [0,12,13,14]) .ret)))⟩
def ykU:TFn:=⟨2,[.tmp 3],(zQ (oQ [O 2 (.boxL t0),O 3 (.mv (.c (.bool false)))] [0,3]) (zQ (.ops [O 4 (.fad 0 t1),oT 5 2 4,O 6 (.fad 2 t2),oT 7 2 6,O 8 (.call (.f ybo) [t5,t7]),M 9 8,zT 10 9 (.fad 0 t2),zT 11 9 (.load true 2 t10),zT 12 9 (.fad 2 t1),zT 13 9 (.load true 2 t12),zT 14 9 (.call (.f ybo) [t11,t13]),O 15 (.pick t9 t14 (.c (.bool false))),M 3 15] [⟨3,z4,0⟩,⟨7,z4,0⟩] [] [1,2,4,5,6,7,8,9,10,11,12,13,14,15]) .ret))⟩
def ygQ:TC:=(zQ (oQ [oX 9 .lss 8 7] []) (zQ (zC t9 .skip (.exit 0)) (zQ (zB 1 (zQ (oQ [M 10 8,M 5 10] [9,10]) (zQ (.ops [M 11 1,M 12 0,M 13 5,O 14 (.iad 4 t12 t13),oT 15 4 14,O 16 (.call t11 [t15])] [⟨3,z4,0⟩,⟨4,z4,0⟩] [] (zR 11 5)) (zC t16 (zQ (oQ [M 17 5,M 4 17] [0,1,5,7,8,16,17]) .ret) .skip)))) (oQ [O 18 (.bin .add t8 (I 1)),M 8 18] [5,16,18]))))
def yeT:TFn:=⟨2,[.tmp 4],(zQ (oQ [O 4 (.mv (I 0))] [4]) (zQ (zQ (oQ [M 6 0,O 7 (.len t6),O 8 (.mv (I 0))] [6]) (zB 0 (.loop 68674300 ygQ))) (zQ (oQ [O 4 (.mv (I (-1)))] [0,1,7,8,9]) .ret)))⟩
def ybF:TFn:=⟨2,[.tmp 4],(zQ (oQ [O 4 (.mv (.c (.bool false)))] [4]) (zQ (oQ [M 5 0,M 6 1,O 7 (.call (.f ybT) [t5,t6]),O 8 (.bin .geq t7 (I 0)),M 4 8] [0,1,5,6,7,8]) .ret))⟩
def yw0:TFn:=⟨2,[.tmp 3],(zQ (oQ [O 2 (.boxH false 4 t0),O 3 (.mv (.c (.bool false)))] [0,3]) (zQ (oQ [oF 4 1 1,O 5 (.mkFn (.func ydr) [] [t2]),O 6 (.call (.f yaK) [t4,t5]),M 3 6] [1,2,4,5,6]) .ret))⟩
def yAz:TFn:=⟨2,[.tmp 4],(zQ (oQ [O 3 (.boxH false 1 t1),O 4 (.mv (.c (.bool false)))] [1,4]) (zQ (oQ [M 5 0,O 6 (.mkFn (.func ycu) [] [t3]),O 7 (.call (.f yaK) [t5,t6]),M 4 7] [0,3,5,6,7]) .ret))⟩
def yhs:TFn:=⟨3,[.tmp 5],(zQ (oQ [O 5 (.mv (.c (.bool false)))] [5]) (zQ (.ops [M 6 0,M 7 1,oX 8 .lss 6 7,M 9 8,zT 10 9 (.load false 1 t2),zT 11 9 (.nilchk t10),zT 12 9 (.fad 1 t11),zT 13 9 (.load false 1 t12),zT 14 9 (.mv t0),zT 15 9 (.iad 1 t13 t14),zT 16 9 (.load false 1 t15),zT 17 9 (.load false 1 t2),zT 18 9 (.nilchk t17),zT 19 9 (.fad 1 t18),zT 20 9 (.load false 1 t19),zT 21 9 (.mv t1),zT 22 9 (.iad 1 t20 t21),zT 23 9 (.load false 1 t22),zT 24 9 (.call (.f yfH) [t16,t23]),O 25 (.pick t9 t24 (.c (.bool false))),M 5 25] [⟨7,(.agg [.d,.d,.d,.d]),0⟩,⟨9,zD,0⟩,⟨10,zD,0⟩,⟨14,(.agg [.d,.d,.d,.d]),0⟩,⟨16,zD,0⟩,⟨17,zD,0⟩] [(0,1),(4,8),(5,8),(6,8),(7,8),(4,11),(5,11),(6,11),(7,11),(8,11),(9,11),(10,11),(4,12),(5,12),(6,12),(7,12),(8,12),(9,12),(10,12),(4,13),(5,13),(6,13),(7,13),(8,13),(9,13),(10,13),(4,14),(5,14),(6,14),(7,14),(8,14),(9,14),(10,14),(4,15),(5,15),(6,15),(7,15),(8,15),(9,15),(10,15),(11,15),(12,15),(13,15),(14,15),(4,16),(5,16),(6,16),(7,16),(8,16),(9,16),(10,16),(4,17),(5,17),(6,17),(7,17),(8,17),(9,17),(10,17)] [0,1,2,6,7,8,9,10,11,12,13,14,15,16,17,18,19,20,21,22,23,24,25]) .ret))⟩
def yka:TC:=(zQ (oQ [oX 23 .lss 22 21] []) (zQ (zC t23 .skip (.exit 2)) (zQ (zB 3 (zQ (oQ [M 24 22,M 8 24] [23,24]) (zQ (oQ [M 25 1,M 26 7,M 27 8,O 28 (.call t25 [t26,t27])] [25,26,27]) (zC t28 (zQ (oQ [M 29 7,M 30 8,M 4 29,M 5 30,O 6 (.mv (.c (.bool true)))] [0,1,7,8,13,14,21,22,28,29,30]) .ret) .skip)))) (oQ [O 31 (.bin .add t22 (I 1)),M 22 31] [8,28,31]))))
def ynl:TC:=(zQ (oQ [oX 15 .lss 14 13] []) (zQ (zC t15 .skip (.exit 0)) (zQ (zB 1 (zQ (oQ [M 16 14,M 7 16] [15,16]) (zQ (oQ [M 17 0,O 18 (.nilchk t17),O 19 (.fad 0 t18),oF 20 1 19,O 21 (.len t20),O 22 (.mv (I 0))] (zR 17 4)) (zB 2 (.loop 97930200 yka))))) (oQ [O 32 (.bin .add t14 (I 1)),M 14 32] [7,21,22,23,32]))))
def yqQ:TFn:=⟨2,[.tmp 4,.tmp 5,.tmp 6],(zQ (oQ [O 4 (.mv (I 0)),O 5 (.mv (I 0)),O 6 (.mv (.c (.bool false)))] [4,5,6]) (zQ (zQ (oQ [M 9 0,O 10 (.nilchk t9),O 11 (.fad 0 t10),oF 12 1 11,O 13 (.len t12),O 14 (.mv (I 0))] (zR 9 4)) (zB 0 (.loop 97930201 ynl))) (zQ (oQ [O 4 (.mv (I 0)),O 5 (.mv (I 0)),O 6 (.mv (.c (.bool false)))] [0,1,13,14,15]) .ret)))⟩
def yf4:TFn:=⟨2,[.tmp 4],(zQ (oQ [O 4 (.mv (.c .nils))] [4]) (zQ (zQ (oQ [M 5 1,O 6 (.bin .lss t5 (I 0))] [5]) (zC t6 (oQ [⟨some 7,.bad,none⟩,⟨none,.bad,none⟩] [6,7]) .skip)) (zQ (zQ (oQ [M 8 1,M 9 0,O 10 (.cap t9),M 11 0,O 12 (.len t11),oX 13 .sub 10 12,oX 14 .sub 8 13,M 1 14] [6,8,9,10,11,12,13,14]) (zQ (oQ [M 15 1,O 16 (.bin .gtr t15 (I 0))] [15]) (zC t16 (oQ [M 17 0,M 18 0,O 19 (.cap t18),O 20 (.slc 4 t17 none (some t19) none),M 21 1,O 22 (.appZ true 4 32 (.agg [(.int .i64 (0)),(.int .i64 (0)),(.int .i64 (0)),(.int .i64 (0))]) t20 t21),M 23 0,O 24 (.len t23),O 25 (.slc 4 t22 none (some t24) none),M 0 25] [1,16,17,18,19,20,21,22,23,24,25]) .skip))) (zQ (oQ [M 26 0,M 4 26] [0,1,16,26]) .ret))))⟩
def ynm:TC:=(zQ (oQ [oX 12 .lss 11 10] []) (zQ (zC t12 .skip (.exit 0)) (zQ (zB 1 (zQ (.ops [O 13 (.iad 1 t9 t11),oF 14 1 13,M 5 14] [⟨0,zD,0⟩,⟨1,zD,0⟩] [] [12,13,14]) (zQ (oQ [M 15 3,M 16 5,O 17 (.len t16),oX 18 .add 15 17,M 3 18] [5,15,16,17,18]) (zQ (oQ [M 19 3,O 20 (.bin .lss t19 (I 0))] [19]) (zC t20 (oQ [⟨some 21,.bad,none⟩,⟨none,.bad,none⟩] [20,21]) .skip))))) (oQ [O 22 (.bin .add t11 (I 1)),M 11 22] [20,22]))))
def ynn:TC:=(zQ (oQ [oX 28 .lss 27 26] []) (zQ (zC t28 .skip (.exit 2)) (zQ (zB 3 (zQ (.ops [O 29 (.iad 1 t25 t27),oF 30 1 29,M 8 30] [⟨0,zD,0⟩,⟨1,zD,0⟩] [] [28,29,30]) (.ops [M 31 6,M 32 8,O 33 (.app true 4 32 t31 t32),M 6 33] [⟨2,.raw,1⟩] [] [8,31,32,33]))) (oQ [O 34 (.bin .add t27 (I 1)),M 27 34] [34]))))
def yiZ:TFn:=⟨1,[.tmp 2],(zQ (oQ [O 2 (.mv (.c .nils))] [2]) (zQ (oQ [O 3 (.mv (I 0))] []) (zQ (zQ (oQ [M 9 0,O 10 (.len t9),O 11 (.mv (I 0))] []) (zB 0 (.loop 14451100 ynm))) (zQ (oQ [M 23 3,O 24 (.call (.f ycO) [(.c .nils),t23]),M 6 24] [3,9,10,11,12,23,24]) (zQ (zQ (oQ [M 25 0,O 26 (.len t25),O 27 (.mv (I 0))] [0]) (zB 2 (.loop 14451101 ynn))) (zQ (oQ [M 35 6,M 2 35] [6,25,26,27,28,35]) .ret))))))⟩
def yOJ:TFn:=⟨1,[.tmp 2],(zQ (oQ [O 2 (.mv (I 0))] []) (zQ (zQ (oQ [M 3 0,O 4 (.bin .geq t3 (.c (.int .u32 (65536))))] [3]) (zC t4 (zQ (oQ [M 5 0,O 6 (.bin .shr t5 (.c (.int .u64 (16)))),M 0 6] [2,4,5,6]) (oQ [O 2 (.mv (I 16))] [])) .skip)) (zQ (zQ (oQ [M 7 0,O 8 (.bin .geq t7 (.c (.int .u32 (256))))] [4,7]) (zC t8 (zQ (oQ [M 9 0,O 10 (.bin .shr t9 (.c (.int .u64 (8)))),M 0 10] [8,9,10]) (oQ [M 11 2,O 12 (.bin .add t11 (I 8)),M 2 12] [11,12])) .skip)) (zQ (oQ [M 13 2,M 14 0,O 15 (.conv .u8 t14),O 16 (.idx false 256 1 (.c (.agg [(.int .u8 (0)),(.int .u8 (1)),(.int .u8 (2)),(.int .u8 (2)),(.int .u8 (3)),(.int .u8 (3)),(.int .u8 (3)),(.int .u8 (3)),(.int .u8 (4)),(.int .u8 (4)),(.int .u8 (4)),(.int .u8 (4)),(.int .u8 (4)),(.int .u8 (4)),(.int .u8 (4)),(.int .u8 (4)),(.int .u8 (5)),(.int .u8 (5)),(.int .u8 (5)),(.int .u8 (5)),(.int .u8 (5)),(.int .u8 (5)),(.int .u8 (5)),(.int .u8 (5)),(.int .u8 (5)),(.int .u8 (5)),(.int .u8 (5)),(.int .u8 (5)),(.int .u8 (5)),(.int .u8 (5)),(.int .u8 (5)),(.int .u8 (5)),(.int .u8 (6)),(.int .u8 (6)),(.int .u8 (6)),(.int .u8 (6)),(.int .u8 (6)),(.int .u8 (6)),(.int .u8 (6)),(.int .u8 (6)),(.int .u8 (6)),(.int .u8 (6)),(.int .u8 (6)),(.int .u8 (6)),(.int .u8 (6)),(.int .u8 (6)),(.int .u8 (6)),(.int .u8 (6)),(.int .u8 (6)),(.int .u8 (6)),(.int .u8 (6)),(.int .u8 (6)),(.int .u8 (6)),(.int .u8 (6)),(.int .u8 (6)),(.int .u8 (6)),(.int .u8 (6)),(.int .u8 (6)),(.int .u8 (6)),(.int .u8 (6)),(.int .u8 (6)),(.int .u8 (6)),(.int .u8 (6)),(.int .u8 (6)),(.int .u8 (7)),(.int .u8 (7)),(.int .u8 (7)),(.int .u8 (7)),(.int .u8 (7)),(.int .u8 (7)),(.int .u8 (7)),(.int .u8 (7)),(.int .u8 (7)),(.int .u8 (7)),(.int .u8 (7)),(.int .u8 (7)),(.int .u8 (7)),(.int .u8 (7)),(.int .u8 (7)),(.int .u8 (7)),(.int .u8 (7)),(.int .u8 (7)),(.int .u8 (7)),(.int .u8 (7)),(.int .u8 (7)),(.int .u8 (7)),(.int .u8 (7)),(.int .u8 (7)),(.int .u8 (7)),(.int .u8 (7)),(.int .u8 (7)),(.int .u8 (7)),(.int .u8 (7)),(.int .u8 (7)),(.int .u8 (7)),(.int .u8 (7)),(.int .u8 (7)),(.int .u8 (7)),(.int .u8 (7)),(.int .u8 (7)),(.int .u8 (7)),(.int .u8 (7)),(.int .u8 (7)),(.int .u8 (7)),(.int .u8 (7)),(.int .u8 (7)),(.int .u8 (7)),(.int .u8 (7)),(.int .u8 (7)),(.int .u8 (7)),(.int .u8 (7)),(.int .u8 (7)),(.int .u8 (7)),(.int .u8 (7)),(.int .u8 (7)),(.int .u8 (7)),(.int .u8 (7)),(.int .u8 (7)),(.int .u8 (7)),(.int .u8 (7)),(.int .u8 (7)),(.int .u8 (7)),(.int .u8 (7)),(.int .u8 (7)),(.int .u8 (7)),(.int .u8 (7)),(.int .u8 (7)),(.int .u8 (7)),(.int .u8 (8)),(.int .u8 (8)),(.int .u8 (8)),(.int .u8 (8)),(.int .u8 (8)),(.int .u8 (8)),(.int .u8 (8)),(.int .u8 (8)),(.int .u8 (8)),(.int .u8 (8)),(.int .u8 (8)),(.int .u8 (8)),(.int .u8 (8)),(.int .u8 (8)),(.int .u8 (8)),(.int .u8 (8)),(.int .u8 (8)),(.int .u8 (8)),(.int .u8 (8)),(.int .u8 (8)),(.int .u8 (8)),(.int .u8 (8)),(.int .u8 (8)),(.int .u8 (8)),(.int .u8 (8)),(.int .u8 (8)),(.int .u8 (8)),(.int .u8 (8)),(.int .u8 (8)),(.int .u8 (8)),(.int .u8 (8)),(.int .u8 (8)),(.int .u8 (8)),(.int .u8 (8)),(.int .u8 (8)),(.int .u8 (8)),(.int .u8 (8)),(.int .u8 (8)),(.int .u8 (8)),(.int .u8 (8)),(.int .u8 (8)),(.int .u8 (8)),(.int .u8 (8)),(.int .u8 (8)),(.int .u8 (8)),(.int .u8 (8)),(.int .u8 (8)),(.int .u8 (8)),(.int .u8 (8)),(.int .u8 (8)),(.int .u8 (8)),(.int .u8 (8)),(.int .u8 (8)),(.int .u8 (8)),(.int .u8 (8)),(.int .u8 (8)),(.int .u8 (8)),(.int .u8 (8)),(.int .u8 (8)),(.int .u8 (8)),(.int .u8 (8)),(.int .u8 (8)),(.int .u8 (8)),(.int .u8 (8)),(.int .u8 (8)),(.int .u8 (8)),(.int .u8 (8)),(.int .u8 (8)),(.int .u8 (8)),(.int .u8 (8)),(.int .u8 (8)),(.int .u8 (8)),(.int .u8 (8)),(.int .u8 (8)),(.int .u8 (8)),(.int .u8 (8)),(.int .u8 (8)),(.int .u8 (8)),(.int .u8 (8)),(.int .u8 (8)),(.int .u8 (8)),(.int .u8 (8)),(.int .u8 (8)),(.int .u8 (8)),(.int .u8 (8)),(.int .u8 (8)),(.int .u8 (8)),(.int .u8 (8)),(.int .u8 (8)),(.int .u8 (8)),(.int .u8 (8)),(.int .u8 (8)),(.int .u8 (8)),(.int .u8 (8)),(.int .u8 (8)),(.int .u8 (8)),(.int .u8 (8)),(.int .u8 (8)),(.int .u8 (8)),(.int .u8 (8)),(.int .u8 (8)),(.int .u8 (8)),(.int .u8 (8)),(.int .u8 (8)),(.int .u8 (8)),(.int .u8 (8)),(.int .u8 (8)),(.int .u8 (8)),(.int .u8 (8)),(.int .u8 (8)),(.int .u8 (8)),(.int .u8 (8)),(.int .u8 (8)),(.int .u8 (8)),(.int .u8 (8)),(.int .u8 (8)),(.int .u8 (8)),(.int .u8 (8)),(.int .u8 (8)),(.int .u8 (8)),(.int .u8 (8)),(.int .u8 (8)),(.int .u8 (8)),(.int .u8 (8)),(.int .u8 (8)),(.int .u8 (8)),(.int .u8 (8)),(.int .u8 (8))])) t15),O 17 (.conv .i64 t16),oX 18 .add 13 17,M 2 18] [0,8,13,14,15,16,17,18]) .ret))))⟩
def yPx:TFn:=⟨1,[.tmp 2],(zQ (oQ [O 2 (.mv (I 0))] [2]) (zQ (zC (.c (.bool false)) (zQ (oQ [M 3 0,O 4 (.conv .u32 t3),O 5 (.call (.f yvr) [t4]),M 2 5] [0,3,4,5]) .ret) .skip) (zQ (oQ [M 6 0,O 7 (.call (.f yjH) [t6]),M 2 7] [0,6,7]) .ret)))⟩
def yHw:TC:=(zQ (zQ (.ops [M 18 9,M 19 1,oX 20 .gtr 18 19,M 21 20,zT 22 21 (.mv t3),zT 23 21 (.mv t0),zT 24 21 (.mv t9),zT 25 21 (.iad 4 t23 t24),zT 26 21 (.load true 4 t25),zT 27 21 (.mv t0),zT 28 21 (.mv t9),zT 29 21 (.bin .sub t28 (I 1)),zT 30 21 (.iad 4 t27 t29),zT 31 21 (.load true 4 t30),zT 32 21 (.call t22 [t26,t31]),zT 33 21 (.bin .lss t32 (I 0)),O 34 (.pick t21 t33 (.c (.bool false)))] [⟨7,z4,0⟩,⟨8,z4,0⟩,⟨12,z4,0⟩,⟨13,z4,0⟩] [(0,1),(4,5),(4,6),(5,6),(4,7),(4,8),(4,9),(5,9),(6,9),(7,9),(8,9),(4,10),(5,10),(6,10),(7,10),(8,10),(9,10),(4,11),(5,11),(6,11),(7,11),(8,11),(9,11),(4,12),(5,12),(6,12),(7,12),(8,12),(4,13),(5,13),(6,13),(7,13),(8,13)] (zR 18 16)) (zC t34 .skip (.exit 2))) (zQ (zB 3 (.ops [M 37 0,M 38 9,M 39 0,M 40 9,O 41 (.bin .sub t40 (I 1)),M 42 0,M 43 9,O 44 (.bin .sub t43 (I 1)),O 45 (.iad 4 t42 t44),oT 46 4 45,M 47 0,M 48 9,O 49 (.iad 4 t47 t48),oT 50 4 49,O 51 (.iad 4 t37 t38),zS 4 t51 t46,O 52 (.iad 4 t39 t41),zS 4 t52 t50] [⟨8,z4,0⟩,⟨9,z4,0⟩,⟨12,z4,0⟩,⟨13,z4,0⟩,⟨14,z4,0⟩,⟨15,z4,0⟩,⟨16,z4,0⟩,⟨17,z4,0⟩] [(0,1),(0,2),(1,2),(0,3),(1,3),(2,3),(0,4),(1,4),(2,4),(0,5),(1,5),(2,5),(3,5),(4,5),(0,6),(1,6),(2,6),(3,6),(4,6),(5,6),(0,7),(1,7),(2,7),(3,7),(4,7),(5,7),(0,8),(1,8),(2,8),(3,8),(4,8),(0,9),(1,9),(2,9),(3,9),(4,9),(0,10),(1,10),(2,10),(3,10),(4,10),(5,10),(6,10),(7,10),(8,10),(9,10),(0,11),(1,11),(2,11),(3,11),(4,11),(5,11),(6,11),(7,11),(8,11),(9,11),(10,11),(0,12),(1,12),(2,12),(3,12),(4,12),(5,12),(6,12),(7,12),(8,12),(9,12),(0,13),(1,13),(2,13),(3,13),(4,13),(5,13),(6,13),(7,13),(8,13),(9,13),(2,14),(3,14),(4,14),(2,15),(3,15),(4,15)] [34,37,38,39,40,41,42,43,44,45,46,47,48,49,50,51,52])) (oQ [M 35 9,O 36 (.bin .sub t35 (I 1)),M 9 36] [35,36])))
def yHx:TC:=(zQ (zQ (oQ [M 12 8,M 13 2,oX 14 .lss 12 13] [12,13]) (zC t14 .skip (.exit 0))) (zQ (zB 1 (zQ (oQ [M 17 8,M 9 17] [14,17]) (zB 2 (.loop 53122800 yHw)))) (oQ [M 15 8,O 16 (.bin .add t15 (I 1)),M 8 16] [9,15,16,34])))
def ypd:TFn:=⟨4,[],(zQ (oQ [M 10 1,O 11 (.bin .add t10 (I 1)),M 8 11] [10,11]) (zB 0 (.loop 53122801 yHx)))⟩
def t96:Opd:=.t 96
def t135:Opd:=.t 135
def t141:Opd:=.t 141
def t142:Opd:=.t 142
def t144:Opd:=.t 144
def yHy:TC:=(zB 1 (zQ (oQ [M 21 2,M 22 1,oX 23 .sub 21 22,M 12 23] [21,22,23]) (zQ (zQ (oQ [M 24 12,O 25 (.bin .leq t24 (I 12))] [24]) (zC t25 (zQ (oQ [M 26 0,M 27 1,M 28 2,M 29 4,O 30 (.call (.f ydm) [t26,t27,t28,t29])] [0,1,2,3,4,10,11,12,25,26,27,28,29,30]) .ret) .skip)) (zQ (zQ (oQ [M 31 3,O 32 (.bin .eql t31 (I 0))] [25,31]) (zC t32 (zQ (oQ [M 33 0,M 34 1,M 35 2,M 36 4,O 37 (.call (.f 193) [t33,t34,t35,t36])] [0,1,2,3,4,10,11,12,32,33,34,35,36,37]) .ret) .skip)) (zQ (zQ (oQ [M 38 10,O 39 (.un .not t38)] [32,38]) (zC t39 (zQ (oQ [M 40 0,M 41 1,M 42 2,M 43 4,O 44 (.call (.f 194) [t40,t41,t42,t43])] (zR 39 6)) (oQ [M 45 3,O 46 (.bin .sub t45 (I 1)),M 3 46] [45,46])) .skip)) (zQ (oQ [M 48 0,M 49 1,M 50 2,M 51 4,O 52 (.call (.f 195) [t48,t49,t50,t51]),M 47 52,O 53 (.ext t47 0),O 54 (.ext t47 1),M 13 53,M 14 54] [39,47,48,49,50,51,52,53,54]) (zQ (zQ (oQ [M 55 14,O 56 (.bin .eql t55 (I 2))] [55]) (zC t56 (zQ (oQ [M 57 0,M 58 1,M 59 2,M 60 4,O 61 (.call (.f 196) [t57,t58,t59,t60])] [14,56,57,58,59,60,61]) (zQ (oQ [M 62 2,O 63 (.bin .sub t62 (I 1)),M 64 13,M 65 1,oX 66 .sub 64 65,oX 67 .sub 63 66,M 13 67] (zR 62 6)) (oQ [O 14 (.mv (I 1))] []))) .skip)) (zQ (zQ (oQ [M 68 10,M 69 68,zT 70 69 (.mv t11),O 71 (.pick t69 t70 (.c (.bool false))),M 72 71,zT 73 72 (.mv t14),zT 74 72 (.bin .eql t73 (I 1)),O 75 (.pick t72 t74 (.c (.bool false)))] [14,56,68,69,70,71,72,73,74]) (zC t75 (zQ (oQ [M 76 0,M 77 1,M 78 2,M 79 4,O 80 (.call (.f 197) [t76,t77,t78,t79])] (zR 75 5)) (zC t80 .ret .skip)) .skip)) (zQ (zQ (.ops [M 81 1,O 82 (.bin .gtr t81 (I 0)),M 83 82,zT 84 83 (.mv t4),zT 85 83 (.mv t0),zT 86 83 (.mv t1),zT 87 83 (.bin .sub t86 (I 1)),zT 88 83 (.iad 4 t85 t87),zT 89 83 (.load true 4 t88),zT 90 83 (.mv t0),zT 91 83 (.mv t13),zT 92 83 (.iad 4 t90 t91),zT 93 83 (.load true 4 t92),zT 94 83 (.call t84 [t89,t93]),zT 95 83 (.bin .lss t94 (I 0)),zT 96 83 (.un .not t95),O 97 (.pick t83 t96 (.c (.bool false)))] [⟨7,z4,0⟩,⟨8,z4,0⟩,⟨11,z4,0⟩,⟨12,z4,0⟩] [(3,4),(3,5),(4,5),(3,6),(4,6),(3,7),(3,8),(3,9),(4,9),(5,9),(6,9),(7,9),(8,9),(3,10),(4,10),(5,10),(6,10),(7,10),(8,10),(9,10),(3,11),(4,11),(5,11),(6,11),(7,11),(8,11),(3,12),(4,12),(5,12),(6,12),(7,12),(8,12)] [75,80,81,82,83,84,85,86,87,88,89,90,91,92,93,94,95,96]) (zC t97 (zQ (oQ [M 98 0,M 99 1,M 100 2,M 101 13,M 102 4,O 103 (.call (.f 198) [t98,t99,t100,t101,t102]),M 15 103] [1,12,13,97,98,99,100,101,102,103]) (zQ (oQ [M 104 15,M 1 104] [15,104]) (.exit 1))) .skip)) (zQ (oQ [M 106 0,M 107 1,M 108 2,M 109 13,M 110 4,O 111 (.call (.f 199) [t106,t107,t108,t109,t110]),M 105 111,O 112 (.ext t105 0),O 113 (.ext t105 1),M 16 112,M 17 113] [10,11,13,97,105,106,107,108,109,110,111,112,113]) (zQ (oQ [M 114 17,M 11 114] [17,114]) (zQ (oQ [M 115 16,M 116 1,oX 117 .sub 115 116,M 118 2,M 119 16,oX 120 .sub 118 119,M 18 117,M 19 120] (zR 115 6)) (zQ (oQ [M 121 12,O 122 (.bin .quo t121 (I 8)),M 20 122] [12,121,122]) (zQ (oQ [M 123 18,M 124 19,oX 125 .lss 123 124] [123,124]) (zC t125 (zQ (oQ [M 126 18,M 127 20,oX 128 .geq 126 127,M 10 128] [18,19,20,125,126,127,128]) (zQ (oQ [M 129 0,M 130 1,M 131 16,M 132 3,M 133 4,O 134 (.call (.f ybQ) [t129,t130,t131,t132,t133])] [1,129,130,131,132,133,134]) (oQ [M 135 16,O 136 (.bin .add t135 (I 1)),M 1 136] [16,135,136]))) (zQ (oQ [M 137 19,M 138 20,oX 139 .geq 137 138,M 10 139] [18,19,20,125,137,138,139]) (zQ (oQ [M 140 0,M 141 16,O 142 (.bin .add t141 (I 1)),M 143 2,M 144 3,M 145 4,O 146 (.call (.f ybQ) [t140,t142,t143,t144,t145])] [2,140,141,142,143,144,145,146]) (oQ [M 147 16,M 2 147] [16,147]))))))))))))))))))
def ytQ:TFn:=⟨5,[],(zQ (oQ [O 10 (.mv (.c (.bool true)))] []) (zQ (oQ [O 11 (.mv (.c (.bool true)))] []) (zB 0 (.loop 92709400 yHy))))⟩
def yvu:TFn:=⟨2,[],(zQ (oQ [M 5 0,O 6 (.len t5),M 4 6] [5,6]) (oQ [M 7 0,M 8 4,M 9 4,O 10 (.conv .u64 t9),O 11 (.call (.f yDd) [t10]),M 12 1,O 13 (.call (.f ybQ) [t7,(I 0),t8,t11,t12])] [0,1,4,7,8,9,10,11,12,13]))⟩
def yqR:TFn:=⟨2,[.tmp 4],(zQ (oQ [O 2 (.boxL t0),O 3 (.boxL t1),O 4 (.mv (I 0))] [0,1,4]) (zQ (.ops [O 8 (.fad 0 t2),oT 9 2 8,O 10 (.fad 0 t3),oT 11 2 10,O 12 (.call (.f ybU) [t9,t11]),M 7 12,O 13 (.ext t7 0),O 14 (.ext t7 1),M 5 13,M 6 14] [⟨1,z4,0⟩,⟨3,z4,0⟩] [] [2,3,6,7,8,9,10,11,12,13,14]) (zQ (oQ [M 15 5,M 4 15] [5,15]) .ret)))⟩
def yno:TC:=(zQ (oQ [oX 18 .lss 17 16] []) (zQ (zC t18 .skip (.exit 0)) (zQ (zB 1 (zQ (.ops [O 19 (.iad 4 t15 t17),oT 20 4 19,O 6 (.aL (.agg [(.int .i64 (0)),(.int .i64 (0)),(.int .i64 (0)),(.int .i64 (0))])),zS 4 t6 t20] [⟨0,z4,0⟩,⟨1,z4,0⟩] [] [18,19,20]) (zQ (zQ (.ops [oT 21 2 4,O 22 (.fad 0 t6),oT 23 2 22,O 24 (.call (.f ybo) [t21,t23])] [⟨2,z4,0⟩] [] [21,22,23]) (zC t24 (zQ (oQ [O 2 (.mv (.c (.bool true)))] [0,4,6,15,16,17,24]) .ret) .skip)) (zQ (.ops [oT 25 2 4,O 26 (.fad 2 t6),oT 27 2 26,O 28 (.call (.f ybo) [t25,t27])] [⟨2,z4,0⟩] [] (zR 24 4)) (zC t28 (.ops [O 29 (.fad 2 t6),oT 30 2 29,zS 2 t4 t30] [⟨1,z4,0⟩] [] [6,28,29,30]) .skip))))) (oQ [O 31 (.bin .add t17 (I 1)),M 17 31] [6,28,31]))))
def ytR:TFn:=⟨1,[.tmp 2],(zQ (oQ [O 2 (.mv (.c (.bool false)))] [2]) (zQ (oQ [M 7 0,O 8 (.nilchk t7),O 9 (.fad 1 t8),oF 10 1 9,O 11 (.call (.f ydy) [t10]),M 3 11] (zR 7 5)) (zQ (oQ [M 12 3,O 13 (.call (.f ybj) [t12,(.f ycg)])] [12,13]) (zQ (oQ [O 14 (.call (.f ybw) [(I 0)]),O 4 (.aL (.agg [(.int .i64 (0)),(.int .i64 (0))])),zS 2 t4 t14] [14]) (zQ (zQ (oQ [M 15 3,O 16 (.len t15),O 17 (.mv (I 0))] [3]) (zB 0 (.loop 93107500 yno))) (zQ (.ops [oT 32 2 4,M 33 0,O 34 (.nilchk t33),O 35 (.fad 0 t34),oF 36 1 35,O 37 (.iad 3 t36 (I 0)),O 38 (.fad 0 t37),oF 39 1 38,O 40 (.call (.f ybw) [t39]),O 41 (.call (.f ybo) [t32,t40]),M 2 41] [⟨5,zK,0⟩,⟨7,zK,0⟩] [(0,1),(0,2),(0,3),(0,4),(0,5),(0,6),(0,7),(0,8)] [0,4,15,16,17,18,32,33,34,35,36,37,38,39,40,41]) .ret))))))⟩
def yht:TFn:=⟨3,[.tmp 5],(zQ (oQ [O 5 (.mv (.c (.bool false)))] [5]) (zQ (.ops [oF 11 1 2,O 12 (.nilchk t11),O 13 (.fad 0 t12),oF 14 1 13,M 15 0,O 16 (.iad 3 t14 t15),oT 17 3 16,O 18 (.call (.f ycb) [t17]),M 10 18,O 19 (.ext t10 0),O 20 (.ext t10 1),M 6 19,M 7 20] [⟨3,(.agg [.d,.d,.d,.d]),0⟩,⟨5,zK,0⟩,⟨6,zK,0⟩] [] [7,10,11,12,13,14,15,16,17,18,19,20]) (zQ (.ops [M 22 6,oF 23 1 2,O 24 (.nilchk t23),O 25 (.fad 0 t24),oF 26 1 25,O 27 (.len t26),O 28 (.call (.f yeE) [t22,t27]),M 21 28,O 29 (.ext t21 0),O 30 (.ext t21 1),O 8 (.aL (.agg [(.int .i64 (0)),(.int .i64 (0))])),zS 2 t8 t29,M 9 30] [⟨4,(.agg [.d,.d,.d,.d]),0⟩] [] [6,9,21,22,23,24,25,26,27,28,29,30]) (zQ (.ops [M 31 0,M 32 1,oX 33 .eql 31 32,M 34 33,zT 35 34 (.load false 1 t2),zT 36 34 (.nilchk t35),zT 37 34 (.fad 2 t36),zT 38 34 (.load false 1 t37),zT 39 34 (.mv t0),zT 40 34 (.iad 1 t38 t39),zT 41 34 (.load false 1 t40),zT 42 34 (.mv t0),zT 43 34 (.iad 2 t41 t42),zT 44 34 (.load true 2 t43),zT 45 34 (.load true 2 t8),zT 46 34 (.call (.f ybo) [t44,t45]),O 47 (.pick t34 t46 (.c (.bool false))),M 5 47] [⟨7,(.agg [.d,.d,.d,.d]),0⟩,⟨9,zD,0⟩,⟨10,zD,0⟩,⟨12,z2,0⟩,⟨13,z2,0⟩] [(0,1),(4,8),(5,8),(6,8),(7,8),(4,11),(5,11),(6,11),(7,11),(8,11),(9,11),(10,11),(4,14),(5,14),(6,14),(7,14),(8,14),(9,14),(10,14),(11,14),(12,14),(13,14)] [0,1,2,8,31,32,33,34,35,36,37,38,39,40,41,42,43,44,45,46,47]) .ret))))⟩
def yhu:TFn:=⟨3,[.tmp 5],(zQ (oQ [O 5 (.mv (.c (.bool false)))] [5]) (zQ (.ops [oF 6 1 2,O 7 (.nilchk t6),O 8 (.fad 2 t7),oF 9 1 8,M 10 0,O 11 (.iad 1 t9 t10),oF 12 1 11,M 13 0,O 14 (.iad 2 t12 t13),oT 15 2 14,oF 16 1 2,O 17 (.nilchk t16),O 18 (.fad 2 t17),oF 19 1 18,M 20 0,O 21 (.iad 1 t19 t20),oF 22 1 21,M 23 1,O 24 (.iad 2 t22 t23),oT 25 2 24,O 26 (.call (.f ybo) [t15,t25]),M 5 26] [⟨3,(.agg [.d,.d,.d,.d]),0⟩,⟨5,zD,0⟩,⟨6,zD,0⟩,⟨8,z2,0⟩,⟨9,z2,0⟩,⟨13,(.agg [.d,.d,.d,.d]),0⟩,⟨15,zD,0⟩,⟨16,zD,0⟩,⟨18,z2,0⟩,⟨19,z2,0⟩] [(0,4),(1,4),(2,4),(3,4),(0,7),(1,7),(2,7),(3,7),(4,7),(5,7),(6,7),(0,10),(1,10),(2,10),(3,10),(4,10),(5,10),(6,10),(7,10),(8,10),(9,10),(0,11),(1,11),(2,11),(3,11),(4,11),(5,11),(6,11),(7,11),(8,11),(9,11),(0,12),(1,12),(2,12),(3,12),(4,12),(5,12),(6,12),(7,12),(8,12),(9,12),(0,13),(1,13),(2,13),(3,13),(4,13),(5,13),(6,13),(7,13),(8,13),(9,13),(0,14),(1,14),(2,14),(3,14),(4,14),(5,14),(6,14),(7,14),(8,14),(9,14),(10,14),(11,14),(12,14),(13,14),(0,15),(1,15),(2,15),(3,15),(4,15),(5,15),(6,15),(7,15),(8,15),(9,15),(0,16),(1,16),(2,16),(3,16),(4,16),(5,16),(6,16),(7,16),(8,16),(9,16),(0,17),(1,17),(2,17),(3,17),(4,17),(5,17),(6,17),(7,17),(8,17),(9,17),(10,17),(11,17),(12,17),(13,17),(14,17),(15,17),(16,17),(0,18),(1,18),(2,18),(3,18),(4,18),(5,18),(6,18),(7,18),(8,18),(9,18),(0,19),(1,19),(2,19),(3,19),(4,19),(5,19),(6,19),(7,19),(8,19),(9,19)] [0,1,2,6,7,8,9,10,11,12,13,14,15,16,17,18,19,20,21,22,23,24,25,26]) .ret))⟩
def yhv:TFn:=⟨3,[.tmp 5],(zQ (oQ [O 5 (.mv (.c (.bool false)))] [5]) (zQ (.ops [M 6 1,O 7 (.bin .eql t6 (I 0)),M 8 7,zT 9 8 (.load false 1 t2),zT 10 8 (.nilchk t9),zT 11 8 (.fad 3 t10),zT 12 8 (.load false 1 t11),zT 13 8 (.mv t0),zT 14 8 (.iad 2 t12 t13),zT 15 8 (.load true 2 t14),zT 16 8 (.load false 1 t2),zT 17 8 (.nilchk t16),zT 18 8 (.fad 3 t17),zT 19 8 (.load false 1 t18),zT 20 8 (.iad 2 t19 (I 0)),zT 21 8 (.load true 2 t20),zT 22 8 (.eqA true 2 [(0,(some .i64)),(1,(some .i64))] t15 t21),O 23 (.pick t8 t22 (.c (.bool false))),M 5 23] [⟨6,(.agg [.d,.d,.d,.d]),0⟩,⟨8,z2,0⟩,⟨9,z2,0⟩,⟨13,(.agg [.d,.d,.d,.d]),0⟩,⟨14,z2,0⟩,⟨15,z2,0⟩] [(3,7),(4,7),(5,7),(6,7),(3,10),(4,10),(5,10),(6,10),(7,10),(8,10),(9,10),(3,11),(4,11),(5,11),(6,11),(7,11),(8,11),(9,11),(3,12),(4,12),(5,12),(6,12),(7,12),(8,12),(9,12),(3,13),(4,13),(5,13),(6,13),(7,13),(8,13),(9,13),(3,14),(4,14),(5,14),(6,14),(7,14),(8,14),(9,14),(3,15),(4,15),(5,15),(6,15),(7,15),(8,15),(9,15)] [0,1,2,6,7,8,9,10,11,12,13,14,15,16,17,18,19,20,21,22,23]) .ret))⟩
def yhw:TFn:=⟨3,[.tmp 5],(zQ (oQ [O 5 (.mv (.c (.bool false)))] [5]) (zQ (.ops [M 6 0,M 7 1,oX 8 .eql 6 7,M 9 8,zT 10 9 (.load false 1 t2),zT 11 9 (.nilchk t10),zT 12 9 (.fad 1 t11),zT 13 9 (.load false 1 t12),zT 14 9 (.mv t0),zT 15 9 (.iad 1 t13 t14),zT 16 9 (.load false 1 t15),zT 17 9 (.len t16),zT 18 9 (.bin .neq t17 (I 1)),O 19 (.pick t9 t18 (.c (.bool false))),M 5 19] [⟨7,(.agg [.d,.d,.d,.d]),0⟩,⟨9,zD,0⟩,⟨10,zD,0⟩] [] [0,1,2,6,7,8,9,10,11,12,13,14,15,16,17,18,19]) .ret))⟩
def ype:TFn:=⟨2,[.tmp 4,.tmp 5,.tmp 6],(zQ (oQ [O 2 (.boxH false 1 t0),O 4 (.mv (I 0)),O 5 (.mv (I 0)),O 6 (.mv (.c (.bool false)))] [0,4,5,6]) (zQ (zQ (oQ [M 10 1] [1]) (zB 0 (zQ (oQ [O 12 (.bin .eql t10 (.c (.int .u8 (1)))),M 11 12] [12]) (zC t11 (zQ (oQ [oF 14 1 2,O 15 (.mkFn (.func ybA) [] [t2]),O 16 (.call (.f ycf) [t14,t15]),M 13 16,O 17 (.ext t13 0),O 18 (.ext t13 1),O 19 (.ext t13 2),M 7 17,M 8 18,M 9 19] [10,11,13,14,15,16,17,18,19]) (zQ (zQ (oQ [M 20 9,O 21 (.un .not t20),M 22 21,zT 23 22 (.load false 1 t2),zT 24 22 (.call (.f ycP) [t23]),O 25 (.pick t22 t24 (.c (.bool false)))] [2,20,21,22,23,24]) (zC t25 (zQ (oQ [O 4 (.mv (I (-1))),O 5 (.mv (I (-1))),O 6 (.mv (.c (.bool true)))] [7,8,9,25]) .ret) .skip)) (zQ (oQ [M 26 7,M 27 8,M 28 9,M 4 26,M 5 27,M 6 28] [7,8,9,25,26,27,28]) .ret))) (zQ (oQ [O 30 (.bin .eql t10 (.c (.int .u8 (2)))),M 29 30] [11,30]) (zC t29 (zQ (oQ [oF 31 1 2,O 32 (.mkFn (.func ybB) [] [t2]),O 33 (.call (.f ycf) [t31,t32]),O 34 (.ext t33 0),O 35 (.ext t33 1),O 36 (.ext t33 2),M 4 34,M 5 35,M 6 36] [2,10,29,31,32,33,34,35,36]) .ret) (zQ (oQ [O 38 (.bin .eql t10 (.c (.int .u8 (4)))),M 37 38] [29,38]) (zC t37 (zQ (oQ [oF 39 1 2,O 40 (.mkFn (.func ybC) [] [t2]),O 41 (.call (.f ycf) [t39,t40]),O 42 (.ext t41 0),O 43 (.ext t41 1),O 44 (.ext t41 2),M 4 42,M 5 43,M 6 44] [2,10,37,39,40,41,42,43,44]) .ret) (zQ (oQ [O 46 (.bin .eql t10 (.c (.int .u8 (8)))),M 45 46] [10,37,46]) (zC t45 (zQ (oQ [oF 47 1 2,O 48 (.mkFn (.func ybD) [] [t2]),O 49 (.call (.f ycf) [t47,t48]),O 50 (.ext t49 0),O 51 (.ext t49 1),O 52 (.ext t49 2),M 4 50,M 5 51,M 6 52] [2,45,47,48,49,50,51,52]) .ret) .skip)))))))))) (zQ (oQ [oF 53 1 2,O 54 (.mkFn (.func ybE) [] [t2]),O 55 (.call (.f ycf) [t53,t54]),O 56 (.ext t55 0),O 57 (.ext t55 1),O 58 (.ext t55 2),M 4 56,M 5 57,M 6 58] [2,45,53,54,55,56,57,58]) .ret)))⟩
def ynp:TC:=(zQ (oQ [O 33 (.bin .lss t32 (I 5))] []) (zQ (zC t33 .skip (.exit 0)) (zQ (zB 1 (zQ (oQ [M 34 32,M 9 34] [33,34]) (zQ (oQ [M 36 6,M 37 9,O 38 (.bin .shl (.c (.int .u8 (1))) t37),O 39 (.call (.f ybh) [t36,t38]),M 35 39,O 40 (.ext t35 0),O 41 (.ext t35 1),O 42 (.ext t35 2),M 10 40,M 11 41,M 12 42] [10,11,35,36,37,38,39,40,41,42]) (zQ (oQ [M 43 12,O 44 (.un .not t43)] [12,43]) (zC t44 (.ops [O 45 (.fad 0 t8),oF 46 1 45,M 47 9,O 48 (.bin .shl (.c (.int .u8 (1))) t47),oX 49 .or 46 48,O 50 (.fad 0 t8),zS 1 t50 t49] [⟨1,(.agg [.i .u8,.d]),0⟩,⟨6,(.agg [.i .u8,.d]),0⟩] [(0,2),(1,2),(0,3),(1,3)] [9,44,45,46,47,48,49,50]) .skip))))) (oQ [O 51 (.bin .add t32 (I 1)),M 32 51] [9,44,51]))))
def yDt:TFn:=⟨2,[.cell 4 true 2,.tmp 5],(zQ (oQ [O 3 (.boxL t1),O 4 (.aL (.agg [(.int .u8 (0)),.nils])),O 5 (.mv (I 0))] [1,5]) (zQ (oQ [M 14 0,oT 15 1 3,O 16 (.call (.f yc9) [t14,t15]),M 13 16,O 17 (.ext t13 0),O 18 (.ext t13 1),M 6 17,M 7 18] [0,3,13,14,15,16,17,18]) (zQ (zQ (oQ [M 19 7,O 20 (.bin .eql t19 (I 0))] [19]) (zC t20 (oQ [M 21 6,O 22 (.call (.f yeb) [t21]),M 7 22] [20,21,22]) .skip)) (zQ (zQ (oQ [M 23 7,O 24 (.bin .neq t23 (I 0))] [20,23]) (zC t24 (zQ (oQ [O 25 (.build [(.int .u8 (0)),.nils] []),M 26 7,zS 2 t4 t25,M 5 26] [6,7,24,25,26]) .ret) .skip)) (zQ (oQ [M 27 6,O 28 (.nilchk t27),O 29 (.fad 2 t28),oF 30 1 29,O 31 (.build [(.int .u8 (0)),.nils] [(1,1,t30)]),O 8 (.aL (.agg [(.int .u8 (0)),.nils])),zS 2 t8 t31] [7,24,27,28,29,30,31]) (zQ (zQ (oQ [O 32 (.mv (I 0))] []) (zB 0 (.loop 65264200 ynp))) (zQ (oQ [oT 52 2 8,zS 2 t4 t52,O 5 (.mv (I 0))] [6,8,32,33,52]) .ret)))))))⟩
def yqE:TC:=(zQ (oQ [oX 18 .lss 17 16] []) (zQ (zC t18 .skip (.exit 0)) (zQ (zB 1 (zQ (.ops [M 19 17,O 20 (.iad 1 t15 t17),oF 21 1 20,M 7 19,M 8 21] [⟨1,zD,0⟩,⟨2,zD,0⟩] [] (zR 18 4)) (zQ (.ops [M 22 1,M 23 7,O 24 (.iad 1 t22 t23),oF 25 1 24,M 9 25] [⟨2,zD,0⟩,⟨3,zD,0⟩] [] [7,22,23,24,25]) (zQ (oQ [M 26 2,M 27 8,M 28 9,O 29 (.call t26 [t27,t28]),O 30 (.un .not t29)] [8,9,26,27,28,29]) (zC t30 (zQ (oQ [O 6 (.mv (.c (.bool false)))] [1,2,15,16,17,30]) .ret) .skip))))) (oQ [O 31 (.bin .add t17 (I 1)),M 17 31] [30,31]))))
def ydI:TFn:=⟨3,[.tmp 6],(zQ (oQ [O 6 (.mv (.c (.bool false)))] [6]) (zQ (zQ (oQ [M 10 0,O 11 (.len t10),M 12 1,O 13 (.len t12),oX 14 .neq 11 13] (zR 10 4)) (zC t14 (zQ (oQ [O 6 (.mv (.c (.bool false)))] [0,1,2,14]) .ret) .skip)) (zQ (zQ (oQ [M 15 0,O 16 (.len t15),O 17 (.mv (I 0))] [0,14]) (zB 0 (.loop 8009400 yqE))) (zQ (oQ [O 6 (.mv (.c (.bool true)))] [1,2,15,16,17,18]) .ret))))⟩
def ynq:TC:=(zQ (oQ [oX 14 .lss 13 12] []) (zQ (zC t14 .skip (.exit 0)) (zQ (zB 1 (zQ (oQ [M 15 13,M 5 15] [14,15]) (zQ (.ops [M 16 0,M 17 5,O 18 (.iad 2 t16 t17),oT 19 2 18,M 20 1,M 21 5,O 22 (.iad 2 t20 t21),oT 23 2 22,O 24 (.eqA true 2 [(0,(some .i64)),(1,(some .i64))] t19 t23)] [⟨2,z2,0⟩,⟨3,z2,0⟩,⟨6,z2,0⟩,⟨7,z2,0⟩] [(0,1),(0,4),(1,4),(2,4),(3,4),(0,5),(1,5),(2,5),(3,5),(4,5),(0,6),(1,6),(2,6),(3,6),(0,7),(1,7),(2,7),(3,7)] [5,16,17,18,19,20,21,22,23]) (zC t24 (zQ (oQ [O 4 (.mv (.c (.bool false)))] [0,1,12,13,24]) .ret) .skip)))) (oQ [O 25 (.bin .add t13 (I 1)),M 13 25] [24,25]))))
def yiN:TFn:=⟨2,[.tmp 4],(zQ (oQ [O 4 (.mv (.c (.bool false)))] [4]) (zQ (zQ (oQ [M 6 0,O 7 (.len t6),M 8 1,O 9 (.len t8),oX 10 .neq 7 9] (zR 6 4)) (zC t10 (zQ (oQ [O 4 (.mv (.c (.bool false)))] [0,1,10]) .ret) .skip)) (zQ (zQ (oQ [M 11 0,O 12 (.len t11),O 13 (.mv (I 0))] [10,11]) (zB 0 (.loop 11234800 ynq))) (zQ (oQ [O 4 (.mv (.c (.bool true)))] [0,1,12,13,14]) .ret))))⟩
def ynr:TC:=(zQ (oQ [O 47 (.bin .lss t46 (I 5))] []) (zQ (zC t47 .skip (.exit 0)) (zQ (zB 1 (zQ (oQ [M 48 46,M 11 48] [47,48]) (zQ (zQ (.ops [O 49 (.fad 0 t5),oF 50 1 49,M 51 11,oX 52 .shr 50 51,O 53 (.bin .and t52 (.c (.int .u8 (1)))),O 54 (.bin .eql t53 (.c (.int .u8 (0))))] [⟨1,(.agg [.i .u8,.d]),0⟩] [] (zR 49 5)) (zC t54 (.exit 1) .skip)) (zQ (oQ [M 56 8,M 57 11,O 58 (.bin .shl (.c (.int .u8 (1))) t57),O 59 (.call (.f ybh) [t56,t58]),M 55 59,O 60 (.ext t55 0),O 61 (.ext t55 1),O 62 (.ext t55 2),M 12 60,M 13 61,M 14 62] [11,12,13,54,55,56,57,58,59,60,61,62]) (zQ (oQ [M 63 14] [14]) (zC t63 (zQ (oQ [O 6 (.mv (.c (.bool false))),O 7 (.mv (I 0))] [5,8,46,63]) .ret) .skip)))))) (oQ [O 64 (.bin .add t46 (I 1)),M 46 64] [11,54,63,64]))))
def yy5:TFn:=⟨3,[.tmp 6,.tmp 7],(zQ (oQ [O 4 (.boxL t1),O 5 (.boxL t2),O 6 (.mv (.c (.bool false))),O 7 (.mv (I 0))] [1,2,6,7]) (zQ (oQ [M 16 0,oT 17 1 4,O 18 (.call (.f yc9) [t16,t17]),M 15 18,O 19 (.ext t15 0),O 20 (.ext t15 1),M 8 19,M 9 20] [0,4,15,16,17,18,19,20]) (zQ (zQ (oQ [M 21 9,O 22 (.bin .neq t21 (I 0))] [21]) (zC t22 (zQ (oQ [M 23 9,O 6 (.mv (.c (.bool false))),M 7 23] [5,8,9,22,23]) .ret) .skip)) (zQ (zQ (.ops [O 24 (.fad 0 t5),oF 25 1 24,O 26 (.bin .geq t25 (.c (.int .u8 (32)))),M 27 26,zF 28 27 (.mv t8),zF 29 27 (.nilchk t28),zF 30 27 (.fad 2 t29),zF 31 27 (.load false 1 t30),zF 32 27 (.fad 1 t5),zF 33 27 (.load false 1 t32),zF 34 27 (.call (.f ybf) [t31,t33,(.f yaR)]),zF 35 27 (.un .not t34),O 36 (.pick t27 (.c (.bool true)) t35)] [⟨1,(.agg [.i .u8,.d]),0⟩,⟨9,(.agg [.i .u8,.d]),0⟩] [(4,8),(5,8),(6,8),(7,8),(4,9),(5,9),(6,9),(7,9)] [9,22,24,25,26,27,28,29,30,31,32,33,34,35]) (zC t36 (zQ (oQ [O 6 (.mv (.c (.bool false))),O 7 (.mv (I 0))] [5,8,36]) .ret) .skip)) (zQ (zQ (.ops [O 37 (.fad 0 t5),oF 38 1 37,O 39 (.bin .and t38 (.c (.int .u8 (8)))),O 40 (.bin .neq t39 (.c (.int .u8 (0))))] [⟨1,(.agg [.i .u8,.d]),0⟩] [] (zR 36 4)) (zC t40 (zQ (oQ [M 41 8,O 42 (.call (.f yeb) [t41]),M 10 42] [40,41,42]) (zQ (oQ [M 43 10,O 44 (.bin .neq t43 (I 0))] [43]) (zC t44 (zQ (oQ [M 45 10,O 6 (.mv (.c (.bool false))),M 7 45] [5,8,10,44,45]) .ret) .skip))) .skip)) (zQ (zQ (oQ [O 46 (.mv (I 0))] [10,40,44]) (zB 0 (.loop 47320500 ynr))) (zQ (oQ [O 6 (.mv (.c (.bool true))),O 7 (.mv (I 0))] [5,8,46,47]) .ret)))))))⟩
def yy6:TFn:=⟨1,[.tmp 2],(zQ (oQ [O 2 (.mv (.c (.bool false)))] [2]) (zQ (zQ (oQ [M 15 0,O 16 (.call (.f ymf) [t15]),O 17 (.un .not t16)] [15,16]) (zC t17 (zQ (oQ [O 18 (.call (.f yg4) []),M 2 18] [0,17,18]) .ret) .skip)) (zQ (oQ [M 20 0,O 21 (.call (.f ygO) [t20]),M 19 21,O 22 (.ext t19 0),O 23 (.ext t19 1),O 24 (.ext t19 2),O 25 (.ext t19 3),O 3 (.aL (.agg [.nils])),zS 1 t3 t22,M 4 23,M 5 24,M 6 25] [4,17,19,20,21,22,23,24,25]) (zQ (oQ [M 27 0,O 28 (.len t27),O 29 (.call (.f yfm) [t28]),M 26 29,O 30 (.ext t26 0),O 31 (.ext t26 1),M 7 30,M 8 31] (zR 26 6)) (zQ (oQ [M 33 0,M 34 5,O 35 (.call (.f yhq) [t33,t34]),M 32 35,O 36 (.ext t32 0),O 37 (.ext t32 1),M 9 36,M 10 37] (zR 32 6)) (zQ (oQ [M 39 0,oT 40 1 3,O 41 (.call (.f yhr) [t39,t40]),M 38 41,O 42 (.ext t38 0),O 43 (.ext t38 1),O 11 (.aL (.agg [(.int .u8 (0)),.nils])),zS 2 t11 t42,M 12 43] (zR 38 6)) (zQ (zQ (oQ [M 44 6,O 45 (.bin .neq t44 (I 0)),M 46 45,zF 47 46 (.mv t8),zF 48 46 (.bin .neq t47 (I 0)),O 49 (.pick t46 (.c (.bool true)) t48),M 50 49,zF 51 50 (.mv t10),zF 52 50 (.bin .neq t51 (I 0)),O 53 (.pick t50 (.c (.bool true)) t52),M 54 53,zF 55 54 (.mv t9),zF 56 54 (.mv t5),zF 57 54 (.len t56),zF 58 54 (.bin .neq t55 t57),O 59 (.pick t54 (.c (.bool true)) t58),M 60 59,zF 61 60 (.mv t5),zF 62 60 (.len t61),zF 63 60 (.mv t7),zF 64 60 (.bin .gtr t62 t63),O 65 (.pick t60 (.c (.bool true)) t64),M 66 65,zF 67 66 (.mv t12),zF 68 66 (.bin .neq t67 (I 0)),O 69 (.pick t66 (.c (.bool true)) t68)] [5,6,7,8,9,10,12,44,45,46,47,48,49,50,51,52,53,54,55,56,57,58,59,60,61,62,63,64,65,66,67,68]) (zC t69 (zQ (oQ [O 2 (.mv (.c (.bool false)))] [0,3,11,69]) .ret) .skip)) (zQ (.ops [M 71 0,oT 72 1 3,O 73 (.fad 1 t11),oF 74 1 73,O 75 (.build [(.int .u8 (0)),.nils] [(0,1,(.c (.int .u8 (19)))),(1,1,t74)]),O 76 (.call (.f yf3) [t71,t72,t75]),M 70 76,O 77 (.ext t70 0),O 78 (.ext t70 1),M 13 77,M 14 78] [⟨3,(.agg [.i .u8,.d]),0⟩] [] [0,3,11,69,70,71,72,73,74,75,76,77,78]) (zQ (oQ [M 79 14,O 80 (.bin .eql t79 (I 0)),M 81 80,zT 82 81 (.mv t13),O 83 (.pick t81 t82 (.c (.bool false))),M 84 83,zT 85 84 (.call (.f yg4) []),O 86 (.pick t84 t85 (.c (.bool false))),M 2 86] [13,14,79,80,81,82,83,84,85,86]) .ret)))))))))⟩
def tab:List (Nat×AFn):=[(yiF,yFs.fn),(ye1,yvs.fn),(yg3,yFt.fn),(yiG,yFu.fn),(ymf,yJS.fn),(yiH,yFv.fn),(yfA,ywX.fn),(yeo,ywY.fn),(yby,yDe.fn),(ycj,yFw.fn),(ycL,yIH.fn),(yeD,yDf.fn),(yhX,yHr.fn),(yaO,ytN.fn),(ydL,yDg.fn),(ybK,yvt.fn),(ycb,yDh.fn),(yiI,yFx.fn),(ybn,yDi.fn),(ycB,yFy.fn),(ycM,yy3.fn),(yeE,yDj.fn),(ygh,yDk.fn),(ycq,yAr.fn),(ybz,yDl.fn),(yd9,ysv.fn),(ybL,yAs.fn),(ydq,ytO.fn),(ydH,yqP.fn),(ydZ,yJT.fn),(yc8,ysw.fn),(ycC,ypc.fn),(yhp,yDm.fn),(ybU,yFz.fn),(yck,yFA.fn),(ydM,yDn.fn),(yjH,yJU.fn),(yea,ysx.fn),(yhY,yJV.fn),(ymg,yJW.fn),(ycD,yFB.fn),(yeF,yFC.fn),(ydk,yFD.fn),(ydl,yFE.fn),(yfG,yrA.fn),(ypa,yFF.fn),(yiJ,yFG.fn),(ycN,ytP.fn),(ye2,ymi.fn),(yj7,yHs.fn),(ye3,yy4.fn),(yeG,yDo.fn),(ycz,ysy.fn),(yiK,yFH.fn),(yiL,yFI.fn),(yfl,yDp.fn),(ybr,ykT.fn),(yfL,yoF.fn),(ydN,ync.fn),(yep,yKB.fn),(yio,yrB.fn),(ygO,yHv.fn),(yfm,yDq.fn),(ymh,yLi.fn),(yfB,ywZ.fn),(yg4,yFK.fn),(yhq,yDr.fn),(ygG,yAt.fn),(yiM,yFL.fn),(ydP,yAu.fn),(ydQ,yAv.fn),(ybw,yAw.fn),(ybo,yDs.fn),(ydR,yAx.fn),(yeq,yoo.fn),(ypb,yFM.fn),(ybY,yAy.fn),(ybc,yrC.fn),(yc9,ygk.fn),(yeb,yj9.fn),(ydr,ykU.fn),(ybT,yeT.fn),(yaK,ybF.fn),(ycu,yw0.fn),(yfH,yAz.fn),(ybA,yhs.fn),(ycf,yqQ.fn),(ycO,yf4.fn),(ydy,yiZ.fn),(yvr,yOJ.fn),(yDd,yPx.fn),(ydm,ypd.fn),(ybQ,ytQ.fn),(ybj,yvu.fn),(ycg,yqR.fn),(ycP,ytR.fn),(ybB,yht.fn),(ybC,yhu.fn),(ybD,yhv.fn),(ybE,yhw.fn),(ybh,ype.fn),(yhr,yDt.fn),(ybf,ydI.fn),(yaR,yiN.fn),(yf3,yy5.fn),(yj8,yy6.fn)]
def quiL:List Nat:=[yiF,ye1,yg3,yiG,ymf,yiH,yfA,yeo,yby,ycj,ycL,yeD,yhX,ydL,ybK,ycb,yiI,ybn,ycB,ycM,yeE,ygh,ycq,ybz,yd9,ybL,ydq,ydH,ydZ,yc8,ycC,yhp,ybU,yck,ydM,ygi,ygj,yjH,yea,yhY,ymg,ycD,yeF,ydk,ydl,yiJ,ycN,yj7,yeG,ycz,yiK,yiL,ygO,yfm,ymh,yfB,yg4,yhq,ygG,yiM,ydP,ydQ,ybw,ybo,ydR,ybY,ybc,ycu,yfH,yvr,yDd,ycg,ycP,ybh,yhr,yaR,yf3,yj8,(ybc+1000000),(ycu+3000000),(ybh+3000000),(ycP+3000000),(yfl+4000000)]
def cloL:yfK:=[(ycL,1,8)]
def gloL:List (Nat×PV):=[]
def E (ef:Es):Env:=(yom ygi ygj tab quiL cloL gloL ef)
def E0C:Env:=yol ygi ygj tab quiL cloL gloL
abbrev yoG:Srts:=ykS ybj ycg
def yII:List Nat:=[ybj]
abbrev EG (e:Es):Prop:=EffG E yII e
theorem ybm:EG []:=⟨fun _ _ _ _ h=>(by cases h),fun _ _ _ _=>rfl⟩
def ef0:Es:=[(ybj,yy1 yoG.s yoG.srt)]
theorem okU {e:Es} (he:EG e) {P:EP} {S:SE} {d n:Nat} {t:TFn} {s:Sg} {w:s.W} (hq:EqW S d t s w) (hS:SEOk P S) (hR:yj6 P S.E (yhO S d) t.body) (hl:LpOk P S.E S.lp [] t.body) (hE:S.E=E e:=by rfl) (hs:ytJ ygi ygj cloL n=false:=by kernel_rfl) (hm:memN yII n=false:=by kernel_rfl) (hf:S.E.fns n=some t.fn:=by kernel_rfl) (hu:S.E.qui n=true:=by kernel_rfl) (hn:S.E.nl n=false:=by kernel_rfl):∀ as K,s.pw w as K→∃ r,K r∧AnsP P n as r:=okW hq hS hR hl (fun _=>by rw [hE];exact yax hs _) (by rw [hE];exact he.num _ hm) hf hu hn
theorem ycJ:EG ef0:=⟨yJO (by kernel_rfl),fun n h xs H=>yy2 (l:=ef0) h⟩
abbrev yds:Type:=Ls→(Ls→Prop)→Prop
def yeH (p0:Ls) (K:Ls→Prop):Prop:=yID 1 8 p0 K
def ysz (w:Ls→(Ls→Prop)→Prop) (as:Ls) (K:PV→Prop):Prop:=yyX w as K
def ysA (as:Ls) (K:PV→Prop):Prop:=yyY 1 8 as K
theorem ysB (e:Es) (_:EG e):OkF (E e) ysA ycL:=yJP (by kernel_rfl) (by kernel_rfl) (by kernel_rfl)
abbrev yB6:Type:=Int→Int→Int→(Int→Int→Prop)→Prop
abbrev yB7:Type:=Int→Int→Int→(Int→Int→Prop)→Prop
theorem yHz (e:Es) (_:EG e):OkF (E e) ysr ygi:=yJQ
theorem yHA (e:Es) (_:EG e):OkF (E e) yst ygj:=yJR (by kernel_rfl)
set_option maxRecDepth 100000
abbrev yaP:Type:=Int→(Int→Prop)→Prop
def ylh (p0:Int) (K:Int→Prop):Prop :=
 (cbr (decide (p0<(0:Int)))
 (K (IntKind.u64.wrap ((0:Int)-(IntKind.u64.wrap p0))))
 (K (IntKind.u64.wrap p0)))
def yeI:yaP:=ylh
def pt0:VPt:=vI IntKind.i64
def pt1:LPt:=lC pt0 lN
def yAA:Sg:=⟨pt1,Int→Prop,fun K=>(fun r0=>K (.int .u64 r0))⟩
def yAB (e:Es):SE:=sE (E e) [] lp0
theorem yAC (e:Es):EqW (yAB e) 6 yDi yAA ylh:=fun _ _=>by kernel_rfl
theorem ygH (e:Es) (he:EG e):OkF (E e) (yAA.pw yeI) ybn:=okU he (yAC e) (yaw (Sub.uni _) trivial trivial he.ok) yj6.flat (yai (by kernel_rfl))
abbrev yaS:Type:=Int→Int→(Int→Prop)→Prop
def yfC (x0:Int→Int→Bool→Prop):Nat→Int→Int→Prop
 | 0,_,_=>False
 | n+1,i0,i1 =>
 (cbr (decide (i1>(0:Int)))
 (asr (!(decide (i1=(0:Int))))
 (yfC x0 n i1 (Int.tmod i0 i1)))
 (x0 i0 i1 false))
def yns (p0 p1:Int) (K:Int→Prop):Prop :=
 (∃ n:Nat,yfC
 (fun a _ _=>(K a))
 n p0 p1)
def ycZ:yaS:=yns
def pt2:VPt:=vI IntKind.u64
def pt3:LPt:=lC pt2 lN
def pt4:LPt:=lC pt2 pt3
def yDu:Sg:=⟨pt4,Int→Prop,fun K=>(fun r0=>K (.int .u64 r0))⟩
def yw1 (Q:Qx):Int→Int→Bool→Prop:=(fun i0 i1 b2=>Q (.exit 0) [(0,.v (.int .u64 i0)),(1,.v (.int .u64 i1)),(6,.v (.bool b2))] [])
def ypf (Q:Qx):List St:=[⟨(pS hN (fV 0 pt2 (fV 1 pt2 fN)) fN),yfC (yw1 Q)⟩]
def ytS:LP:=lpS [(32725300,ypf)]
def ynt (e:Es):SE:=sE (E e) [] (ytS)
theorem yrD (e:Es) (he:EG e):SEOk (Uni (E e)) (ynt e):=yaw (Sub.uni _) trivial trivial he.ok
theorem yvv (e:Es):ycp (ynt e) 5 a ym2 false (ypf):=fun _=>⟨fun _=>by kernel_rfl,fun _ _=>by kernel_rfl,trivial⟩
theorem yvw (e:Es) (he:EG e):LpT (Uni (E e)) (ytS) [] 32725300 (.loop 32725300 ym2):=fun _ _ _=>yok.st (Sub.uni _) (yaD (yrD e he) 5) (YOk.no _ _) (yai (by kernel_rfl)) (yvv e _)
theorem yDv (e:Es):EqW (ynt e) 6 yFy yDu yns:=fun _ _=>by kernel_rfl
theorem yjs (e:Es) (he:EG e):OkF (E e) (yDu.pw ycZ) ycB:=okU he (yDv e) (yrD e he) yj6.flat (ybe (l:=[(32725300,.loop 32725300 ym2)]) ⟨yvw e he,trivial⟩ (by kernel_rfl))
abbrev yec:Type:=Bool→Int→Int→(Int→Int→Int→Prop)→Prop
def yja (p0:Bool) (p1 p2:Int) (K:Int→Int→Int→Prop):Prop :=
 (cbr (decide ((if p2>p1 then p2 else p1)>(1000000000000000000:Int)))
 (K (0:Int) (0:Int) (16:Int))
 (cbr p0
 (K (IntKind.i64.wrap ((0:Int)-(IntKind.i64.wrap p1))) (IntKind.i64.wrap p2) (0:Int))
 (K (IntKind.i64.wrap p1) (IntKind.i64.wrap p2) (0:Int))))
def ycQ:yec:=yja
def yw2:Sg:=⟨(lC vB pt4),Int→Int→Int→Prop,fun K=>(fun r0 r1 r2=>K (.tup [(.agg [(.int .i64 r0),(.int .i64 r1)]),(.int .i64 r2)]))⟩
def yw3 (e:Es):SE:=sE (E e) [] lp0
theorem yw4 (e:Es):EqW (yw3 e) 6 yy3 yw2 yja:=fun _ _=>by kernel_rfl
theorem yjb (e:Es) (he:EG e):OkF (E e) (yw2.pw ycQ) ycM:=okU he (yw4 e) (yaw (Sub.uni _) trivial trivial he.ok) yj6.flat (yai (by kernel_rfl))
abbrev ybg:Type:=Int→Int→(Int→Int→Int→Prop)→Prop
def yli (a0:yaP) (a1:yaS) (a2:yec) (p0 p1:Int) (K:Int→Int→Int→Prop):Prop :=
 (cbr (p1 ==(0:Int))
 (K (0:Int) (0:Int) (18:Int))
 (a0 p0 (fun b =>
 (a0 p1 (fun c =>
 (a1 b c (fun a =>
 (asr (!(decide (a=(0:Int))))
 (asr (!(decide (a=(0:Int))))
 (a2 ((decide (p0<(0:Int))) !=(decide (p1<(0:Int)))) (IntKind.u64.wrap (Int.tdiv b a)) (IntKind.u64.wrap (Int.tdiv c a)) (fun d e f =>
 (K d e f))))))))))))
def yao:ybg:=yli yeI ycZ ycQ
def pt5:LPt:=lC pt0 pt1
def yAD:Sg:=⟨pt5,Int→Int→Int→Prop,fun K=>(fun r0 r1 r2=>K (.tup [(.agg [(.int .i64 r0),(.int .i64 r1)]),(.int .i64 r2)]))⟩
def yAE (e:Es) (a0:yaP) (a1:yaS) (a2:yec):SE:=sE (E e) [(ybn,yAA.pw a0),(ycB,yDu.pw a1),(ycM,yw2.pw a2)] lp0
theorem yAF (e:Es) (a0 a1 a2):EqW (yAE e a0 a1 a2) 6 yDj yAD (yli a0 a1 a2):=fun _ _=>by kernel_rfl
theorem yip (e:Es) (he:EG e):OkF (E e) (yAD.pw yao) yeE:=okU he (yAF e _ _ _) (yaw (Sub.uni _) ⟨(ygH e he),(yjs e he),(yjb e he),trivial⟩ trivial he.ok) yj6.flat (yai (by kernel_rfl))
def ykb (a0:yaP) (a1:yaS) (p0 p1:Int) (K:Int→Prop):Prop :=
 (cbr (decide (p1<(1:Int)))
 (K (8:Int))
 (a0 p0 (fun a =>
 (cbr (decide ((if (IntKind.u64.wrap p1)>a then (IntKind.u64.wrap p1) else a)>(1000000000000000000:Int)))
 (K (8:Int))
 (a0 p0 (fun b =>
 (a1 b (IntKind.u64.wrap p1) (fun c =>
 (cbr (decide (c>(1:Int)))
 (K (8:Int))
 (K (0:Int)))))))))))
def ybM:yaS:=ykb yeI ycZ
def pt6:VPt:=vA pt5
def yy7:Sg:=⟨(lC pt6 lN),Int→Prop,fun K=>(fun r0=>K (.int .i64 r0))⟩
def yy8 (e:Es) (a0:yaP) (a1:yaS):SE:=sE (E e) [(ybn,yAA.pw a0),(ycB,yDu.pw a1)] lp0
theorem yy9 (e:Es) (a0 a1):EqW (yy8 e a0 a1) 6 yAr yy7 (ykb a0 a1):=fun _ _=>by kernel_rfl
theorem yf5 (e:Es) (he:EG e):OkF (E e) (yy7.pw ybM) ycq:=okU he (yy9 e _ _) (yaw (Sub.uni _) ⟨(ygH e he),(yjs e he),trivial⟩ trivial he.ok) yj6.flat (yai (by kernel_rfl))
abbrev yak:Type:=Ls→(Int→Prop)→Prop
def ycc (x0:Int→Prop) (x1:Int→Ls→Int→Int→Bool→Prop):Nat→Int→Ls→Int→Int→Prop
 | 0,_,_,_,_=>False
 | n+1,i0,l1,i2,i3 =>
 (cbr (decide (i3<i2))
 (asr (decide ((0:Int)≤i3))
 (asr (decide (i3<(((List.length l1):Nat):Int)))
 (asr (conf zI (List.getD l1 (i3.toNat) .nils))
 (cbr ((yac (List.getD l1 (i3.toNat) .nils)) != i0)
 (x0 (yac (List.getD l1 (i3.toNat) .nils)))
 (ycc x0 x1 n i0 l1 i2 (IntKind.i64.wrap (i3+(1:Int))))))))
 (x1 i0 l1 i2 i3 false))
def ygu (p0:Ls) (K:Int→Prop):Prop :=
 (∃ n:Nat,ycc
 (fun a=>(K a))
 (fun b _ _ _ _=>(K b))
 n (0:Int) p0 (((List.length p0):Nat):Int) (0:Int))
def yfn:yak:=ygu
def pt7:LPt:=lC vD lN
def ycU:Sg:=⟨pt7,Int→Prop,fun K=>(fun r0=>K (.int .i64 r0))⟩
def ynu (Q:Qx):Int→Prop:=(fun i0=>Q .ret [(2,.v (.int .i64 i0))] [])
def ynv (Q:Qx):Int→Ls→Int→Int→Bool→Prop:=(fun i0 l1 i2 i3 b4=>Q (.exit 0) [(3,.v (.int .i64 i0)),(6,.v (.data l1)),(7,.v (.int .i64 i2)),(8,.v (.int .i64 i3)),(9,.v (.bool b4))] [])
def pt8:Pat Frm:=fV 7 pt0 (fV 8 pt0 fN)
def pt9:Pat Sta:=pS hN (fV 3 pt0 (fV 6 vD pt8)) fN
def yhP (Q:Qx):List St:=[⟨pt9,ycc (ynu Q) (ynv Q)⟩]
def yjk:LP:=lpS [(38508400,yhP)]
def ygv (e:Es):SE:=sE (E e) [] (yjk)
theorem yiO (e:Es) (he:EG e):SEOk (Uni (E e)) (ygv e):=yaw (Sub.uni _) trivial trivial he.ok
theorem ymj (e:Es):ycp (ygv e) 5 a ym3 false (yhP):=fun _=>⟨fun _=>by kernel_rfl,fun _ _=>by kernel_rfl,trivial⟩
theorem ymk (e:Es) (he:EG e):LpT (Uni (E e)) (yjk) [] 38508400 (.loop 38508400 ym3):=fun _ _ _=>yok.st (Sub.uni _) (yaD (yiO e he) 5) (YOk.no _ _) (yai (by kernel_rfl)) (ymj e _)
theorem yqS (e:Es):EqW (ygv e) 6 ysv ycU ygu:=fun _ _=>by kernel_rfl
theorem yqT (e:Es) (he:EG e):OkF (E e) (ycU.pw yfn) yd9:=okU he (yqS e) (yiO e he) yj6.flat (ybe (l:=[(38508400,.loop 38508400 ym3)]) ⟨ymk e he,trivial⟩ (by kernel_rfl))
abbrev yaH:Type:=Int→Int→Int→Int→(Int→Prop)→Prop
def ykc (a0:yaS) (a1:yak) (p0 p1 p2 p3:Int) (K:Int→Prop):Prop :=
 (a0 p0 p1 (fun a =>
 (a0 p2 p3 (fun b =>
 (a1 ([(.int .i64 a),(.int .i64 b)]:Ls) (fun c =>
 (K c)))))))
def ydU:yaH:=ykc ybM yfn
def pt10:LPt:=lC pt6 (lC pt6 lN)
def ypg:Sg:=⟨pt10,Int→Prop,fun K=>(fun r0=>K (.int .i64 r0))⟩
def yza (e:Es) (a0:yaS) (a1:yak):SE:=sE (E e) [(ycq,yy7.pw a0),(yd9,ycU.pw a1)] lp0
theorem yzb (e:Es) (a0 a1):EqW (yza e a0 a1) 6 yAs ypg (ykc a0 a1):=fun _ _=>by kernel_rfl
theorem yf6 (e:Es) (he:EG e):OkF (E e) (ypg.pw ydU) ybL:=okU he (yzb e _ _) (yaw (Sub.uni _) ⟨(yf5 e he),(yqT e he),trivial⟩ trivial he.ok) yj6.flat (yai (by kernel_rfl))
abbrev ydt:Type:=Int→(Bool→Prop)→Prop
def ygR (p0:Int) (K:Bool→Prop):Prop :=
 (K (p0 != p0))
def yhx:ydt:=ygR
def ysC:Sg:=⟨pt1,Bool→Prop,fun K=>(fun r0=>K (.bool r0))⟩
def ysD (e:Es):SE:=sE (E e) [] lp0
theorem ysE (e:Es):EqW (ysD e) 6 ytO ysC ygR:=fun _ _=>by kernel_rfl
theorem ysF (e:Es) (he:EG e):OkF (E e) (ysC.pw yhx) ydq:=okU he (ysE e) (yaw (Sub.uni _) trivial trivial he.ok) yj6.flat (yai (by kernel_rfl))
def yf7 (a0:ydt) (p0 p1:Int) (K:Int→Prop):Prop :=
 (a0 p0 (fun b =>
 (a0 p1 (fun a =>
 (cbr b
 (cbr a
 (K (0:Int))
 (K (-1:Int)))
 (cbr a
 (K (1:Int))
 (cbr (decide (p0<p1))
 (K (-1:Int))
 (cbr (decide (p0>p1))
 (K (1:Int))
 (K (0:Int))))))))))
def yeX:yaS:=yf7 yhx
def yph:Sg:=⟨pt5,Int→Prop,fun K=>(fun r0=>K (.int .i64 r0))⟩
def ypi (e:Es) (a0:ydt):SE:=sE (E e) [(ydq,ysC.pw a0)] lp0
theorem ypj (e:Es) (a0):EqW (ypi e a0) 6 yqP yph (yf7 a0):=fun _ _=>by kernel_rfl
theorem ypk (e:Es) (he:EG e):OkF (E e) (yph.pw yeX) ydH:=okU he (ypj e _) (yaw (Sub.uni _) ⟨(ysF e he),trivial⟩ trivial he.ok) yj6.flat (yai (by kernel_rfl))
abbrev yh0:Type:=Int→Int→(Int→Int→Prop)→Prop
def ysG (p0 p1:Int) (K:Int→Int→Prop):Prop :=
 (K (IntKind.u64.wrap ((IntKind.u64.wrap ((IntKind.u64.wrap ((Int.fdiv p0 4294967296)*(Int.fdiv p1 4294967296)))+(Int.fdiv (IntKind.u64.wrap ((IntKind.u64.wrap ((Int.fdiv p0 4294967296)*(IntKind.u64.wrap (BitVec.ofInt IntKind.u64.bits p1&&&BitVec.ofInt IntKind.u64.bits (4294967295:Int)).toNat)))+(Int.fdiv (IntKind.u64.wrap ((IntKind.u64.wrap (BitVec.ofInt IntKind.u64.bits p0&&&BitVec.ofInt IntKind.u64.bits (4294967295:Int)).toNat)*(IntKind.u64.wrap (BitVec.ofInt IntKind.u64.bits p1&&&BitVec.ofInt IntKind.u64.bits (4294967295:Int)).toNat))) 4294967296))) 4294967296)))+(Int.fdiv (IntKind.u64.wrap ((IntKind.u64.wrap (BitVec.ofInt IntKind.u64.bits (IntKind.u64.wrap ((IntKind.u64.wrap ((Int.fdiv p0 4294967296)*(IntKind.u64.wrap (BitVec.ofInt IntKind.u64.bits p1&&&BitVec.ofInt IntKind.u64.bits (4294967295:Int)).toNat)))+(Int.fdiv (IntKind.u64.wrap ((IntKind.u64.wrap (BitVec.ofInt IntKind.u64.bits p0&&&BitVec.ofInt IntKind.u64.bits (4294967295:Int)).toNat)*(IntKind.u64.wrap (BitVec.ofInt IntKind.u64.bits p1&&&BitVec.ofInt IntKind.u64.bits (4294967295:Int)).toNat))) 4294967296)))&&&BitVec.ofInt IntKind.u64.bits (4294967295:Int)).toNat)+(IntKind.u64.wrap ((IntKind.u64.wrap (BitVec.ofInt IntKind.u64.bits p0&&&BitVec.ofInt IntKind.u64.bits (4294967295:Int)).toNat)*(Int.fdiv p1 4294967296))))) 4294967296))) (IntKind.u64.wrap (p0*p1)))
def ygl:yh0:=ysG
def yHB:Sg:=⟨pt4,Int→Int→Prop,fun K=>(fun r0 r1=>K (.tup [(.int .u64 r0),(.int .u64 r1)]))⟩
def yHC (e:Es):SE:=sE (E e) [] lp0
theorem yHD (e:Es):EqW (yHC e) 6 yJT yHB ysG:=fun _ _=>by kernel_rfl
theorem ysH (e:Es) (he:EG e):OkF (E e) (yHB.pw ygl) ydZ:=okU he (yHD e) (yaw (Sub.uni _) trivial trivial he.ok) yj6.flat (yai (by kernel_rfl))
def ygw (p0:Int) (K:Bool→Prop):Prop :=
 (K (p0 != p0))
def ygS:ydt:=ygw
def yqU:Sg:=⟨pt3,Bool→Prop,fun K=>(fun r0=>K (.bool r0))⟩
def yqV (e:Es):SE:=sE (E e) [] lp0
theorem yqW (e:Es):EqW (yqV e) 6 ysw yqU ygw:=fun _ _=>by kernel_rfl
theorem yqX (e:Es) (he:EG e):OkF (E e) (yqU.pw ygS) yc8:=okU he (yqW e) (yaw (Sub.uni _) trivial trivial he.ok) yj6.flat (yai (by kernel_rfl))
def yfM (a0:ydt) (p0 p1:Int) (K:Int→Prop):Prop :=
 (a0 p0 (fun b =>
 (a0 p1 (fun a =>
 (cbr b
 (cbr a
 (K (0:Int))
 (K (-1:Int)))
 (cbr a
 (K (1:Int))
 (cbr (decide (p0<p1))
 (K (-1:Int))
 (cbr (decide (p0>p1))
 (K (1:Int))
 (K (0:Int))))))))))
def yeJ:yaS:=yfM ygS
def yoH:Sg:=⟨pt4,Int→Prop,fun K=>(fun r0=>K (.int .i64 r0))⟩
def yoI (e:Es) (a0:ydt):SE:=sE (E e) [(yc8,yqU.pw a0)] lp0
theorem yoJ (e:Es) (a0):EqW (yoI e a0) 6 ypc yoH (yfM a0):=fun _ _=>by kernel_rfl
theorem yoK (e:Es) (he:EG e):OkF (E e) (yoH.pw yeJ) ycC:=okU he (yoJ e _) (yaw (Sub.uni _) ⟨(yqX e he),trivial⟩ trivial he.ok) yj6.flat (yai (by kernel_rfl))
def yd0 (x0:Int→Prop) (x1:Int→Ls→Int→Int→Bool→Prop):Nat→Int→Ls→Int→Int→Prop
 | 0,_,_,_,_=>False
 | n+1,i0,l1,i2,i3 =>
 (cbr (decide (i3<i2))
 (asr (decide ((0:Int)≤i3))
 (asr (decide (i3<(((List.length l1):Nat):Int)))
 (asr (conf zI (List.getD l1 (i3.toNat) .nils))
 (cbr ((yac (List.getD l1 (i3.toNat) .nils)) != i0)
 (x0 (yac (List.getD l1 (i3.toNat) .nils)))
 (yd0 x0 x1 n i0 l1 i2 (IntKind.i64.wrap (i3+(1:Int))))))))
 (x1 i0 l1 i2 i3 false))
def ylj (p0:Ls) (K:Int→Prop):Prop :=
 (∃ n:Nat,yd0
 (fun a=>(K a))
 (fun b _ _ _ _=>(K b))
 n (0:Int) p0 (((List.length p0):Nat):Int) (0:Int))
def yjt:yak:=ylj
def yvx (Q:Qx):Int→Prop:=(fun i0=>Q .ret [(2,.v (.int .i64 i0))] [])
def yvy (Q:Qx):Int→Ls→Int→Int→Bool→Prop:=(fun i0 l1 i2 i3 b4=>Q (.exit 0) [(3,.v (.int .i64 i0)),(6,.v (.data l1)),(7,.v (.int .i64 i2)),(8,.v (.int .i64 i3)),(9,.v (.bool b4))] [])
def yop (Q:Qx):List St:=[⟨pt9,yd0 (yvx Q) (yvy Q)⟩]
def yrE:LP:=lpS [(53260600,yop)]
def ylk (e:Es):SE:=sE (E e) [] (yrE)
theorem ypl (e:Es) (he:EG e):SEOk (Uni (E e)) (ylk e):=yaw (Sub.uni _) trivial trivial he.ok
theorem ytT (e:Es):ycp (ylk e) 5 a ym4 false (yop):=fun _=>⟨fun _=>by kernel_rfl,fun _ _=>by kernel_rfl,trivial⟩
theorem ytU (e:Es) (he:EG e):LpT (Uni (E e)) (yrE) [] 53260600 (.loop 53260600 ym4):=fun _ _ _=>yok.st (Sub.uni _) (yaD (ypl e he) 5) (YOk.no _ _) (yai (by kernel_rfl)) (ytT e _)
theorem yAG (e:Es):EqW (ylk e) 6 yDm ycU ylj:=fun _ _=>by kernel_rfl
theorem yAH (e:Es) (he:EG e):OkF (E e) (ycU.pw yjt) yhp:=okU he (yAG e) (ypl e he) yj6.flat (ybe (l:=[(53260600,.loop 53260600 ym4)]) ⟨ytU e he,trivial⟩ (by kernel_rfl))
abbrev ycE:Type:=Int→Int→Int→Int→(Int→Int→Prop)→Prop
def ynw (a0:yaH) (a1:yaS) (a2:yaP) (a3:yh0) (a4:yaS) (a5:yak) (p0 p1 p2 p3:Int) (K:Int→Int→Prop):Prop :=
 (a0 p0 p1 p2 p3 (fun a =>
 (cbr (a !=(0:Int))
 (K (0:Int) a)
 (cbr ((decide (p0<(0:Int))) !=(decide (p2<(0:Int))))
 (a1 p0 p2 (fun c =>
 (K c (0:Int))))
 (a2 p0 (fun d =>
 (a3 d (IntKind.u64.wrap p3) (fun e f =>
 (a2 p2 (fun g =>
 (a3 g (IntKind.u64.wrap p1) (fun h i =>
 (a4 e h (fun j =>
 (a4 f i (fun k =>
 (a5 ([(.int .i64 j),(.int .i64 k)]:Ls) (fun b =>
 (cbr (decide (p0<(0:Int)))
 (K (IntKind.i64.wrap ((0:Int)-b)) (0:Int))
 (K b (0:Int)))))))))))))))))))))
def yc0:ycE:=ynw ydU yeX yeI ygl yeJ yjt
def yDw:Sg:=⟨pt10,Int→Int→Prop,fun K=>(fun r0 r1=>K (.tup [(.int .i64 r0),(.int .i64 r1)]))⟩
def yDx (e:Es) (a0:yaH) (a1:yaS) (a2:yaP) (a3:yh0) (a4:yaS) (a5:yak):SE:=sE (E e) [(ybL,ypg.pw a0),(ydH,yph.pw a1),(ybn,yAA.pw a2),(ydZ,yHB.pw a3),(ycC,yoH.pw a4),(yhp,ycU.pw a5)] lp0
theorem yDy (e:Es) (a0 a1 a2 a3 a4 a5):EqW (yDx e a0 a1 a2 a3 a4 a5) 6 yFz yDw (ynw a0 a1 a2 a3 a4 a5):=fun _ _=>by kernel_rfl
theorem yfo (e:Es) (he:EG e):OkF (E e) (yDw.pw yc0) ybU:=okU he (yDy e _ _ _ _ _ _) (yaw (Sub.uni _) ⟨(yf6 e he),(ypk e he),(ygH e he),(ysH e he),(yoK e he),(yAH e he),trivial⟩ trivial he.ok) yj6.flat (yai (by kernel_rfl))
def ysI (p0:Int) (K:Int→Prop):Prop :=
 (cbr (decide (p0≥(4294967296:Int)))
 (cbr (decide ((Int.fdiv p0 4294967296)≥(65536:Int)))
 (cbr (decide ((Int.fdiv (Int.fdiv p0 4294967296) 65536)≥(256:Int)))
 (asr (decide ((0:Int)≤(IntKind.u8.wrap (Int.fdiv (Int.fdiv (Int.fdiv p0 4294967296) 65536) 256))))
 (asr (decide ((IntKind.u8.wrap (Int.fdiv (Int.fdiv (Int.fdiv p0 4294967296) 65536) 256))<(256:Int)))
 (K (IntKind.i64.wrap ((56:Int)+(IntKind.i64.wrap (yac (List.getD yhn ((IntKind.u8.wrap (Int.fdiv (Int.fdiv (Int.fdiv p0 4294967296) 65536) 256)).toNat) .nils))))))))
 (asr (decide ((0:Int)≤(IntKind.u8.wrap (Int.fdiv (Int.fdiv p0 4294967296) 65536))))
 (asr (decide ((IntKind.u8.wrap (Int.fdiv (Int.fdiv p0 4294967296) 65536))<(256:Int)))
 (K (IntKind.i64.wrap ((48:Int)+(IntKind.i64.wrap (yac (List.getD yhn ((IntKind.u8.wrap (Int.fdiv (Int.fdiv p0 4294967296) 65536)).toNat) .nils)))))))))
 (cbr (decide ((Int.fdiv p0 4294967296)≥(256:Int)))
 (asr (decide ((0:Int)≤(IntKind.u8.wrap (Int.fdiv (Int.fdiv p0 4294967296) 256))))
 (asr (decide ((IntKind.u8.wrap (Int.fdiv (Int.fdiv p0 4294967296) 256))<(256:Int)))
 (K (IntKind.i64.wrap ((40:Int)+(IntKind.i64.wrap (yac (List.getD yhn ((IntKind.u8.wrap (Int.fdiv (Int.fdiv p0 4294967296) 256)).toNat) .nils))))))))
 (asr (decide ((0:Int)≤(IntKind.u8.wrap (Int.fdiv p0 4294967296))))
 (asr (decide ((IntKind.u8.wrap (Int.fdiv p0 4294967296))<(256:Int)))
 (K (IntKind.i64.wrap ((32:Int)+(IntKind.i64.wrap (yac (List.getD yhn ((IntKind.u8.wrap (Int.fdiv p0 4294967296)).toNat) .nils))))))))))
 (cbr (decide (p0≥(65536:Int)))
 (cbr (decide ((Int.fdiv p0 65536)≥(256:Int)))
 (asr (decide ((0:Int)≤(IntKind.u8.wrap (Int.fdiv (Int.fdiv p0 65536) 256))))
 (asr (decide ((IntKind.u8.wrap (Int.fdiv (Int.fdiv p0 65536) 256))<(256:Int)))
 (K (IntKind.i64.wrap ((24:Int)+(IntKind.i64.wrap (yac (List.getD yhn ((IntKind.u8.wrap (Int.fdiv (Int.fdiv p0 65536) 256)).toNat) .nils))))))))
 (asr (decide ((0:Int)≤(IntKind.u8.wrap (Int.fdiv p0 65536))))
 (asr (decide ((IntKind.u8.wrap (Int.fdiv p0 65536))<(256:Int)))
 (K (IntKind.i64.wrap ((16:Int)+(IntKind.i64.wrap (yac (List.getD yhn ((IntKind.u8.wrap (Int.fdiv p0 65536)).toNat) .nils)))))))))
 (cbr (decide (p0≥(256:Int)))
 (asr (decide ((0:Int)≤(IntKind.u8.wrap (Int.fdiv p0 256))))
 (asr (decide ((IntKind.u8.wrap (Int.fdiv p0 256))<(256:Int)))
 (K (IntKind.i64.wrap ((8:Int)+(IntKind.i64.wrap (yac (List.getD yhn ((IntKind.u8.wrap (Int.fdiv p0 256)).toNat) .nils))))))))
 (asr (decide ((0:Int)≤(IntKind.u8.wrap p0)))
 (asr (decide ((IntKind.u8.wrap p0)<(256:Int)))
 (K (IntKind.i64.wrap ((0:Int)+(IntKind.i64.wrap (yac (List.getD yhn ((IntKind.u8.wrap p0).toNat) .nils)))))))))))
def yqF:yaP:=ysI
def yzc:Sg:=⟨pt3,Int→Prop,fun K=>(fun r0=>K (.int .i64 r0))⟩
def yHE (e:Es):SE:=sE (E e) [] lp0
theorem yHF (e:Es):EqW (yHE e) 6 yJU yzc ysI:=fun _ _=>by kernel_rfl
theorem yHG (e:Es) (he:EG e):OkF (E e) (yzc.pw yqF) yjH:=okU he (yHF e) (yaw (Sub.uni _) trivial trivial he.ok) yj6.flat (yai (by kernel_rfl))
def ygx (a0:yaP) (p0:Int) (K:Int→Prop):Prop :=
 (a0 p0 (fun a =>
 (K (IntKind.i64.wrap ((64:Int)-a)))))
def ybV:yaP:=ygx yqF
def yqY (e:Es) (a0:yaP):SE:=sE (E e) [(yjH,yzc.pw a0)] lp0
theorem yqZ (e:Es) (a0):EqW (yqY e a0) 6 ysx yzc (ygx a0):=fun _ _=>by kernel_rfl
theorem yq0 (e:Es) (he:EG e):OkF (E e) (yzc.pw ybV) yea:=okU he (yqZ e _) (yaw (Sub.uni _) ⟨(yHG e he),trivial⟩ trivial he.ok) yj6.flat (yai (by kernel_rfl))
abbrev yml:Type:=Int→Int→Int→(Int→Int→Prop)→Prop
mutual
def yiq (a0:yaP) (a:Int→Int→Int→Int→Int→Int→Int→Int→Int→Bool→Prop) (b:Int→Int→Int→Int→Int→Int→Int→Int→Int→Bool→Prop):Nat→Int→Int→Int→Int→Int→Int→Int→Int→Int→Prop
 | 0,_,_,_,_,_,_,_,_,_=>False
 | c+1,i0,i1,i2,i3,i4,i5,i6,i7,i8 =>
 (cbr (decide (i7≥(4294967296:Int)))
 (cbr (decide ((IntKind.u64.wrap (i8+i2))≥(4294967296:Int)))
 (a i0 i1 i2 i3 i4 i5 i6 (IntKind.u64.wrap (i7-(1:Int))) (IntKind.u64.wrap (i8+i2)) true)
 (ydV a0 a b c i0 i1 i2 i3 i4 i5 i6 (IntKind.u64.wrap (i7-(1:Int))) (IntKind.u64.wrap (i8+i2)) false))
 (cbr (decide ((IntKind.u64.wrap (i7*i3))>(IntKind.u64.wrap ((IntKind.u64.wrap ((4294967296:Int)*i8))+i5))))
 (cbr (decide ((IntKind.u64.wrap (i8+i2))≥(4294967296:Int)))
 (a i0 i1 i2 i3 i4 i5 i6 (IntKind.u64.wrap (i7-(1:Int))) (IntKind.u64.wrap (i8+i2)) true)
 (ydV a0 a b c i0 i1 i2 i3 i4 i5 i6 (IntKind.u64.wrap (i7-(1:Int))) (IntKind.u64.wrap (i8+i2)) false))
 (b i0 i1 i2 i3 i4 i5 i6 i7 i8 false)))
def ydV (a0:yaP) (a:Int→Int→Int→Int→Int→Int→Int→Int→Int→Bool→Prop) (b:Int→Int→Int→Int→Int→Int→Int→Int→Int→Bool→Prop):Nat→Int→Int→Int→Int→Int→Int→Int→Int→Int→Bool→Prop
 | 0,_,_,_,_,_,_,_,_,_,_=>False
 | c+1,i0,i1,i2,i3,i4,i5,i6,i7,i8,_ =>
 (cbr (decide (i7≥(4294967296:Int)))
 (cbr (decide ((IntKind.u64.wrap (i8+i2))≥(4294967296:Int)))
 (a i0 i1 i2 i3 i4 i5 i6 (IntKind.u64.wrap (i7-(1:Int))) (IntKind.u64.wrap (i8+i2)) true)
 (ydV a0 a b c i0 i1 i2 i3 i4 i5 i6 (IntKind.u64.wrap (i7-(1:Int))) (IntKind.u64.wrap (i8+i2)) false))
 (cbr (decide ((IntKind.u64.wrap (i7*i3))>(IntKind.u64.wrap ((IntKind.u64.wrap ((4294967296:Int)*i8))+i5))))
 (cbr (decide ((IntKind.u64.wrap (i8+i2))≥(4294967296:Int)))
 (a i0 i1 i2 i3 i4 i5 i6 (IntKind.u64.wrap (i7-(1:Int))) (IntKind.u64.wrap (i8+i2)) true)
 (ydV a0 a b c i0 i1 i2 i3 i4 i5 i6 (IntKind.u64.wrap (i7-(1:Int))) (IntKind.u64.wrap (i8+i2)) false))
 (b i0 i1 i2 i3 i4 i5 i6 i7 i8 false)))
end
mutual
def yfI (a0:yaP) (a:Int→Int→Int→Int→Int→Int→Int→Int→Int→Bool→Prop) (b:Int→Int→Int→Int→Int→Int→Int→Int→Int→Bool→Prop):Nat→Int→Int→Int→Int→Int→Int→Int→Int→Int→Prop
 | 0,_,_,_,_,_,_,_,_,_=>False
 | c+1,i0,i1,i2,i3,i4,i5,i6,i7,i8 =>
 (cbr (decide (i8≥(4294967296:Int)))
 (cbr (decide ((IntKind.u64.wrap (i6+i2))≥(4294967296:Int)))
 (a i0 i1 i2 i3 i4 i5 (IntKind.u64.wrap (i6+i2)) i7 (IntKind.u64.wrap (i8-(1:Int))) true)
 (ydW a0 a b c i0 i1 i2 i3 i4 i5 (IntKind.u64.wrap (i6+i2)) i7 (IntKind.u64.wrap (i8-(1:Int))) false))
 (cbr (decide ((IntKind.u64.wrap (i8*i3))>(IntKind.u64.wrap ((IntKind.u64.wrap ((4294967296:Int)*i6))+i4))))
 (cbr (decide ((IntKind.u64.wrap (i6+i2))≥(4294967296:Int)))
 (a i0 i1 i2 i3 i4 i5 (IntKind.u64.wrap (i6+i2)) i7 (IntKind.u64.wrap (i8-(1:Int))) true)
 (ydW a0 a b c i0 i1 i2 i3 i4 i5 (IntKind.u64.wrap (i6+i2)) i7 (IntKind.u64.wrap (i8-(1:Int))) false))
 (b i0 i1 i2 i3 i4 i5 i6 i7 i8 false)))
def ydW (a0:yaP) (a:Int→Int→Int→Int→Int→Int→Int→Int→Int→Bool→Prop) (b:Int→Int→Int→Int→Int→Int→Int→Int→Int→Bool→Prop):Nat→Int→Int→Int→Int→Int→Int→Int→Int→Int→Bool→Prop
 | 0,_,_,_,_,_,_,_,_,_,_=>False
 | c+1,i0,i1,i2,i3,i4,i5,i6,i7,i8,_ =>
 (cbr (decide (i8≥(4294967296:Int)))
 (cbr (decide ((IntKind.u64.wrap (i6+i2))≥(4294967296:Int)))
 (a i0 i1 i2 i3 i4 i5 (IntKind.u64.wrap (i6+i2)) i7 (IntKind.u64.wrap (i8-(1:Int))) true)
 (ydW a0 a b c i0 i1 i2 i3 i4 i5 (IntKind.u64.wrap (i6+i2)) i7 (IntKind.u64.wrap (i8-(1:Int))) false))
 (cbr (decide ((IntKind.u64.wrap (i8*i3))>(IntKind.u64.wrap ((IntKind.u64.wrap ((4294967296:Int)*i6))+i4))))
 (cbr (decide ((IntKind.u64.wrap (i6+i2))≥(4294967296:Int)))
 (a i0 i1 i2 i3 i4 i5 (IntKind.u64.wrap (i6+i2)) i7 (IntKind.u64.wrap (i8-(1:Int))) true)
 (ydW a0 a b c i0 i1 i2 i3 i4 i5 (IntKind.u64.wrap (i6+i2)) i7 (IntKind.u64.wrap (i8-(1:Int))) false))
 (b i0 i1 i2 i3 i4 i5 i6 i7 i8 false)))
end
def ysJ (a0:yaP) (p0 p1 p2:Int) (K:Int→Int→Prop):Prop :=
 (cbr (p2 ==(0:Int))
 False
 (cbr (decide (p2≤p0))
 False
 (cbr (p0 ==(0:Int))
 (asr (!(decide (p2=(0:Int))))
 (asr (!(decide (p2=(0:Int))))
 (K (IntKind.u64.wrap (Int.tdiv p1 p2)) (Int.tmod p1 p2))))
 (a0 p2 (fun a =>
 (asr (!(decide ((IntKind.u64.wrap a)<(0:Int))))
 (asr (!(decide ((IntKind.u64.wrap a)<(0:Int))))
 (asr (!(decide ((IntKind.u64.wrap ((64:Int)-(IntKind.u64.wrap a)))<(0:Int))))
 (asr (!(decide ((IntKind.u64.wrap a)<(0:Int))))
 (asr (!(decide ((Int.fdiv (IntKind.u64.wrap (p2*2 ^ (min (IntKind.u64.wrap a).toNat IntKind.u64.bits))) 4294967296)=(0:Int))))
 (∃ u:Nat,yiq a0
 (fun b v c w h i x d _ _=>(asr (!(decide (c=(0:Int))))
 (∃ l:Nat,yfI a0
 (fun y m _ _ z A _ B n _=>(asr (!(decide (m<(0:Int))))
 (K (IntKind.u64.wrap ((IntKind.u64.wrap (A*(4294967296:Int)))+n)) (Int.fdiv (IntKind.u64.wrap ((IntKind.u64.wrap ((IntKind.u64.wrap (B*(4294967296:Int)))+z))-(IntKind.u64.wrap (n*y)))) (2 ^ (min m.toNat IntKind.u64.bits))))))
 (fun C o _ _ D E _ F p _=>(asr (!(decide (o<(0:Int))))
 (K (IntKind.u64.wrap ((IntKind.u64.wrap (E*(4294967296:Int)))+p)) (Int.fdiv (IntKind.u64.wrap ((IntKind.u64.wrap ((IntKind.u64.wrap (F*(4294967296:Int)))+D))-(IntKind.u64.wrap (p*C)))) (2 ^ (min o.toNat IntKind.u64.bits))))))
 l b v c w x d (IntKind.u64.wrap ((IntKind.u64.wrap ((IntKind.u64.wrap ((IntKind.u64.wrap (h*(4294967296:Int)))+i))-(IntKind.u64.wrap (d*b))))-(IntKind.u64.wrap ((IntKind.u64.wrap (Int.tdiv (IntKind.u64.wrap ((IntKind.u64.wrap ((IntKind.u64.wrap (h*(4294967296:Int)))+i))-(IntKind.u64.wrap (d*b)))) c))*c)))) (IntKind.u64.wrap ((IntKind.u64.wrap ((IntKind.u64.wrap (h*(4294967296:Int)))+i))-(IntKind.u64.wrap (d*b)))) (IntKind.u64.wrap (Int.tdiv (IntKind.u64.wrap ((IntKind.u64.wrap ((IntKind.u64.wrap (h*(4294967296:Int)))+i))-(IntKind.u64.wrap (d*b)))) c)))))
 (fun e G f H j k I g _ _=>(asr (!(decide (f=(0:Int))))
 (∃ l:Nat,yfI a0
 (fun J q _ _ L M _ N r _=>(asr (!(decide (q<(0:Int))))
 (K (IntKind.u64.wrap ((IntKind.u64.wrap (M*(4294967296:Int)))+r)) (Int.fdiv (IntKind.u64.wrap ((IntKind.u64.wrap ((IntKind.u64.wrap (N*(4294967296:Int)))+L))-(IntKind.u64.wrap (r*J)))) (2 ^ (min q.toNat IntKind.u64.bits))))))
 (fun O s _ _ Q R _ S t _=>(asr (!(decide (s<(0:Int))))
 (K (IntKind.u64.wrap ((IntKind.u64.wrap (R*(4294967296:Int)))+t)) (Int.fdiv (IntKind.u64.wrap ((IntKind.u64.wrap ((IntKind.u64.wrap (S*(4294967296:Int)))+Q))-(IntKind.u64.wrap (t*O)))) (2 ^ (min s.toNat IntKind.u64.bits))))))
 l e G f H I g (IntKind.u64.wrap ((IntKind.u64.wrap ((IntKind.u64.wrap ((IntKind.u64.wrap (j*(4294967296:Int)))+k))-(IntKind.u64.wrap (g*e))))-(IntKind.u64.wrap ((IntKind.u64.wrap (Int.tdiv (IntKind.u64.wrap ((IntKind.u64.wrap ((IntKind.u64.wrap (j*(4294967296:Int)))+k))-(IntKind.u64.wrap (g*e)))) f))*f)))) (IntKind.u64.wrap ((IntKind.u64.wrap ((IntKind.u64.wrap (j*(4294967296:Int)))+k))-(IntKind.u64.wrap (g*e)))) (IntKind.u64.wrap (Int.tdiv (IntKind.u64.wrap ((IntKind.u64.wrap ((IntKind.u64.wrap (j*(4294967296:Int)))+k))-(IntKind.u64.wrap (g*e)))) f)))))
 u (IntKind.u64.wrap (p2*2 ^ (min (IntKind.u64.wrap a).toNat IntKind.u64.bits))) (IntKind.u64.wrap a) (Int.fdiv (IntKind.u64.wrap (p2*2 ^ (min (IntKind.u64.wrap a).toNat IntKind.u64.bits))) 4294967296) (IntKind.u64.wrap (BitVec.ofInt IntKind.u64.bits (IntKind.u64.wrap (p2*2 ^ (min (IntKind.u64.wrap a).toNat IntKind.u64.bits)))&&&BitVec.ofInt IntKind.u64.bits (4294967295:Int)).toNat) (IntKind.u64.wrap (BitVec.ofInt IntKind.u64.bits (IntKind.u64.wrap (p0*2 ^ (min (IntKind.u64.wrap a).toNat IntKind.u64.bits)))|||BitVec.ofInt IntKind.u64.bits (Int.fdiv p1 (2 ^ (min (IntKind.u64.wrap ((64:Int)-(IntKind.u64.wrap a))).toNat IntKind.u64.bits)))).toNat) (Int.fdiv (IntKind.u64.wrap (p1*2 ^ (min (IntKind.u64.wrap a).toNat IntKind.u64.bits))) 4294967296) (IntKind.u64.wrap (BitVec.ofInt IntKind.u64.bits (IntKind.u64.wrap (p1*2 ^ (min (IntKind.u64.wrap a).toNat IntKind.u64.bits)))&&&BitVec.ofInt IntKind.u64.bits (4294967295:Int)).toNat) (IntKind.u64.wrap (Int.tdiv (IntKind.u64.wrap (BitVec.ofInt IntKind.u64.bits (IntKind.u64.wrap (p0*2 ^ (min (IntKind.u64.wrap a).toNat IntKind.u64.bits)))|||BitVec.ofInt IntKind.u64.bits (Int.fdiv p1 (2 ^ (min (IntKind.u64.wrap ((64:Int)-(IntKind.u64.wrap a))).toNat IntKind.u64.bits)))).toNat) (Int.fdiv (IntKind.u64.wrap (p2*2 ^ (min (IntKind.u64.wrap a).toNat IntKind.u64.bits))) 4294967296))) (IntKind.u64.wrap ((IntKind.u64.wrap (BitVec.ofInt IntKind.u64.bits (IntKind.u64.wrap (p0*2 ^ (min (IntKind.u64.wrap a).toNat IntKind.u64.bits)))|||BitVec.ofInt IntKind.u64.bits (Int.fdiv p1 (2 ^ (min (IntKind.u64.wrap ((64:Int)-(IntKind.u64.wrap a))).toNat IntKind.u64.bits)))).toNat)-(IntKind.u64.wrap ((IntKind.u64.wrap (Int.tdiv (IntKind.u64.wrap (BitVec.ofInt IntKind.u64.bits (IntKind.u64.wrap (p0*2 ^ (min (IntKind.u64.wrap a).toNat IntKind.u64.bits)))|||BitVec.ofInt IntKind.u64.bits (Int.fdiv p1 (2 ^ (min (IntKind.u64.wrap ((64:Int)-(IntKind.u64.wrap a))).toNat IntKind.u64.bits)))).toNat) (Int.fdiv (IntKind.u64.wrap (p2*2 ^ (min (IntKind.u64.wrap a).toNat IntKind.u64.bits))) 4294967296)))*(Int.fdiv (IntKind.u64.wrap (p2*2 ^ (min (IntKind.u64.wrap a).toNat IntKind.u64.bits))) 4294967296))))))))))))))))
def yg5:yml:=ysJ ybV
def yHH:Sg:=⟨(lC pt2 pt4),Int→Int→Prop,fun K=>(fun r0 r1=>K (.tup [(.int .u64 r0),(.int .u64 r1)]))⟩
def yrF (Q:Qx):Int→Int→Int→Int→Int→Int→Int→Int→Int→Bool→Prop:=(fun i0 i1 i2 i3 i4 i5 i6 i7 i8 b9=>Q (.exit 0) [(2,.v (.int .u64 i0)),(8,.v (.int .u64 i1)),(9,.v (.int .u64 i2)),(10,.v (.int .u64 i3)),(11,.v (.int .u64 i4)),(13,.v (.int .u64 i5)),(14,.v (.int .u64 i6)),(15,.v (.int .u64 i7)),(16,.v (.int .u64 i8)),(85,.v (.bool b9))] [])
def yrG (Q:Qx):Int→Int→Int→Int→Int→Int→Int→Int→Int→Bool→Prop:=(fun i0 i1 i2 i3 i4 i5 i6 i7 i8 b9=>Q (.exit 0) [(2,.v (.int .u64 i0)),(8,.v (.int .u64 i1)),(9,.v (.int .u64 i2)),(10,.v (.int .u64 i3)),(11,.v (.int .u64 i4)),(13,.v (.int .u64 i5)),(14,.v (.int .u64 i6)),(15,.v (.int .u64 i7)),(16,.v (.int .u64 i8)),(78,.v (.bool b9))] [])
def yrH (Q:Qx):Int→Int→Int→Int→Int→Int→Int→Int→Int→Bool→Prop:=(fun i0 i1 i2 i3 i4 i5 i6 i7 i8 b9=>Q (.exit 2) [(2,.v (.int .u64 i0)),(8,.v (.int .u64 i1)),(9,.v (.int .u64 i2)),(10,.v (.int .u64 i3)),(14,.v (.int .u64 i4)),(15,.v (.int .u64 i5)),(16,.v (.int .u64 i6)),(17,.v (.int .u64 i7)),(18,.v (.int .u64 i8)),(120,.v (.bool b9))] [])
def yrI (Q:Qx):Int→Int→Int→Int→Int→Int→Int→Int→Int→Bool→Prop:=(fun i0 i1 i2 i3 i4 i5 i6 i7 i8 b9=>Q (.exit 2) [(2,.v (.int .u64 i0)),(8,.v (.int .u64 i1)),(9,.v (.int .u64 i2)),(10,.v (.int .u64 i3)),(14,.v (.int .u64 i4)),(15,.v (.int .u64 i5)),(16,.v (.int .u64 i6)),(17,.v (.int .u64 i7)),(18,.v (.int .u64 i8)),(113,.v (.bool b9))] [])
def ytV (a0:yaP) (Q:Qx):List St:=[⟨(pS hN (fV 2 pt2 (fV 8 pt2 (fV 9 pt2 (fV 10 pt2 (fV 11 pt2 (fV 13 pt2 (fV 14 pt2 (fV 15 pt2 (fV 16 pt2 fN))))))))) fN),yiq a0 (yrF Q) (yrG Q)⟩,⟨(pS hN (fV 2 pt2 (fV 8 pt2 (fV 9 pt2 (fV 10 pt2 (fV 11 pt2 (fV 13 pt2 (fV 14 pt2 (fV 15 pt2 (fV 16 pt2 (fV 85 vB fN)))))))))) fN),ydV a0 (yrF Q) (yrG Q)⟩]
def ytW (a0:yaP) (Q:Qx):List St:=[⟨(pS hN (fV 2 pt2 (fV 8 pt2 (fV 9 pt2 (fV 10 pt2 (fV 14 pt2 (fV 15 pt2 (fV 16 pt2 (fV 17 pt2 (fV 18 pt2 fN))))))))) fN),yfI a0 (yrH Q) (yrI Q)⟩,⟨(pS hN (fV 2 pt2 (fV 8 pt2 (fV 9 pt2 (fV 10 pt2 (fV 14 pt2 (fV 15 pt2 (fV 16 pt2 (fV 17 pt2 (fV 18 pt2 (fV 120 vB fN)))))))))) fN),ydW a0 (yrH Q) (yrI Q)⟩]
def ysK (a0:yaP):LP:=lpS [(60530100,ytV a0),(60530101,ytW a0)]
def ynx (e:Es) (a0:yaP):SE:=sE (E e) [(yea,yzc.pw a0)] (ysK a0)
theorem ypm (e:Es) (he:EG e):SEOk (Uni (E e)) (ynx e ybV):=yaw (Sub.uni _) ⟨(yq0 e he),trivial⟩ trivial he.ok
theorem yzd (e:Es) (a0):ycp (ynx e a0) 5 a ym5 false (ytV a0):=fun _=>⟨fun _=>by kernel_rfl,fun _ _=>by kernel_rfl,fun _=>by kernel_rfl,fun _ _=>by kernel_rfl,trivial⟩
theorem yze (e:Es) (he:EG e):LpT (Uni (E e)) (ysK ybV) [] 60530100 (.loop 60530100 ym5):=fun _ _ _=>yok.st (Sub.uni _) (yaD (ypm e he) 5) (YOk.no _ _) (yai (by kernel_rfl)) (yzd e _ _)
theorem yzf (e:Es) (a0):ycp (ynx e a0) 5 a ym6 false (ytW a0):=fun _=>⟨fun _=>by kernel_rfl,fun _ _=>by kernel_rfl,fun _=>by kernel_rfl,fun _ _=>by kernel_rfl,trivial⟩
theorem yzg (e:Es) (he:EG e):LpT (Uni (E e)) (ysK ybV) [] 60530101 (.loop 60530101 ym6):=fun _ _ _=>yok.st (Sub.uni _) (yaD (ypm e he) 5) (YOk.no _ _) (yai (by kernel_rfl)) (yzf e _ _)
theorem yHI (e:Es) (a0):EqW (ynx e a0) 6 yJV yHH (ysJ a0):=fun _ _=>by kernel_rfl
theorem yzh (e:Es) (he:EG e):OkF (E e) (yHH.pw yg5) yhY:=okU he (yHI e _) (ypm e he) yj6.flat (ybe (l:=[(60530100,.loop 60530100 ym5),(60530101,.loop 60530101 ym6)]) ⟨yze e he,yzg e he,trivial⟩ (by kernel_rfl))
abbrev yvz:Type:=Int→Int→Int→(Int→Prop)→Prop
def ysL (a0:yml) (p0 p1 p2:Int) (K:Int→Prop):Prop :=
 (asr (!(decide (p2=(0:Int))))
 (a0 (Int.tmod p0 p2) p1 p2 (fun _ a =>
 (K a))))
def yh1:yvz:=ysL yg5
def yHJ:Sg:=⟨(lC pt2 pt4),Int→Prop,fun K=>(fun r0=>K (.int .u64 r0))⟩
def yHK (e:Es) (a0:yml):SE:=sE (E e) [(yhY,yHH.pw a0)] lp0
theorem yHL (e:Es) (a0):EqW (yHK e a0) 6 yJW yHJ (ysL a0):=fun _ _=>by kernel_rfl
theorem yHM (e:Es) (he:EG e):OkF (E e) (yHJ.pw yh1) ymg:=okU he (yHL e _) (yaw (Sub.uni _) ⟨(yzh e he),trivial⟩ trivial he.ok) yj6.flat (yai (by kernel_rfl))
abbrev yag:Type:=Int→Int→Int→Int→(Int→Int→Int→Prop)→Prop
def yny (a0:yaH) (a1:yaS) (a2:yaP) (a3:yh0) (a4:yB6) (a5:yvz) (a6:yml) (a7:yec) (a8:yB7) (p0 p1 p2 p3:Int) (K:Int→Int→Int→Prop):Prop :=
 (a0 p0 p1 p2 p3 (fun z =>
 (cbr (z !=(0:Int))
 (K (0:Int) (0:Int) z)
 (a1 (IntKind.u64.wrap p1) (IntKind.u64.wrap p3) (fun a =>
 (a2 p0 (fun A =>
 (asr (!(decide (a=(0:Int))))
 (a3 A (IntKind.u64.wrap (Int.tdiv (IntKind.u64.wrap p3) a)) (fun b i =>
 (a2 p2 (fun B =>
 (asr (!(decide (a=(0:Int))))
 (a3 B (IntKind.u64.wrap (Int.tdiv (IntKind.u64.wrap p1) a)) (fun c j =>
 (cbr ((decide (p0<(0:Int))) ==(decide (p2<(0:Int))))
 (a4 i j (0:Int) (fun k C =>
 (a4 b c C (fun d _ =>
 (cbr (d ==(0:Int))
 (cbr (k ==(0:Int))
 (K (0:Int) (1:Int) (0:Int))
 (a5 d k a (fun D =>
 (a1 D a (fun p =>
 (cbr (decide (d≥p))
 (K (0:Int) (0:Int) (16:Int))
 (a6 d k p (fun E _ =>
 (asr (!(decide (a=(0:Int))))
 (asr (!(decide (p=(0:Int))))
 (a3 (IntKind.u64.wrap (Int.tdiv (IntKind.u64.wrap p1) a)) (IntKind.u64.wrap (Int.tdiv (IntKind.u64.wrap p3) p)) (fun F G =>
 (cbr (decide (F>(0:Int)))
 (K (0:Int) (0:Int) (16:Int))
 (a7 (decide (p0<(0:Int))) E G (fun H I J =>
 (K H I J))))))))))))))))
 (a5 d k a (fun L =>
 (a1 L a (fun q =>
 (cbr (decide (d≥q))
 (K (0:Int) (0:Int) (16:Int))
 (a6 d k q (fun M _ =>
 (asr (!(decide (a=(0:Int))))
 (asr (!(decide (q=(0:Int))))
 (a3 (IntKind.u64.wrap (Int.tdiv (IntKind.u64.wrap p1) a)) (IntKind.u64.wrap (Int.tdiv (IntKind.u64.wrap p3) q)) (fun N O =>
 (cbr (decide (N>(0:Int)))
 (K (0:Int) (0:Int) (16:Int))
 (a7 (decide (p0<(0:Int))) M O (fun Q R S =>
 (K Q R S))))))))))))))))))))
 (cbr (decide (b<c))
 (a8 j i (0:Int) (fun l T =>
 (a8 c b T (fun e _ =>
 (cbr (e ==(0:Int))
 (cbr (l ==(0:Int))
 (K (0:Int) (1:Int) (0:Int))
 (a5 e l a (fun U =>
 (a1 U a (fun r =>
 (cbr (decide (e≥r))
 (K (0:Int) (0:Int) (16:Int))
 (a6 e l r (fun V _ =>
 (asr (!(decide (a=(0:Int))))
 (asr (!(decide (r=(0:Int))))
 (a3 (IntKind.u64.wrap (Int.tdiv (IntKind.u64.wrap p1) a)) (IntKind.u64.wrap (Int.tdiv (IntKind.u64.wrap p3) r)) (fun W X =>
 (cbr (decide (W>(0:Int)))
 (K (0:Int) (0:Int) (16:Int))
 (a7 (!(decide (p0<(0:Int)))) V X (fun Y Z va =>
 (K Y Z va))))))))))))))))
 (a5 e l a (fun vb =>
 (a1 vb a (fun s =>
 (cbr (decide (e≥s))
 (K (0:Int) (0:Int) (16:Int))
 (a6 e l s (fun vc _ =>
 (asr (!(decide (a=(0:Int))))
 (asr (!(decide (s=(0:Int))))
 (a3 (IntKind.u64.wrap (Int.tdiv (IntKind.u64.wrap p1) a)) (IntKind.u64.wrap (Int.tdiv (IntKind.u64.wrap p3) s)) (fun vd ve =>
 (cbr (decide (vd>(0:Int)))
 (K (0:Int) (0:Int) (16:Int))
 (a7 (!(decide (p0<(0:Int)))) vc ve (fun vf vg vh =>
 (K vf vg vh))))))))))))))))))))
 (cbr (b == c)
 (cbr (decide (i<j))
 (a8 j i (0:Int) (fun m vi =>
 (a8 c b vi (fun f _ =>
 (cbr (f ==(0:Int))
 (cbr (m ==(0:Int))
 (K (0:Int) (1:Int) (0:Int))
 (a5 f m a (fun vj =>
 (a1 vj a (fun t =>
 (cbr (decide (f≥t))
 (K (0:Int) (0:Int) (16:Int))
 (a6 f m t (fun vk _ =>
 (asr (!(decide (a=(0:Int))))
 (asr (!(decide (t=(0:Int))))
 (a3 (IntKind.u64.wrap (Int.tdiv (IntKind.u64.wrap p1) a)) (IntKind.u64.wrap (Int.tdiv (IntKind.u64.wrap p3) t)) (fun vl vm =>
 (cbr (decide (vl>(0:Int)))
 (K (0:Int) (0:Int) (16:Int))
 (a7 (!(decide (p0<(0:Int)))) vk vm (fun vn vo vp =>
 (K vn vo vp))))))))))))))))
 (a5 f m a (fun vq =>
 (a1 vq a (fun u =>
 (cbr (decide (f≥u))
 (K (0:Int) (0:Int) (16:Int))
 (a6 f m u (fun vr _ =>
 (asr (!(decide (a=(0:Int))))
 (asr (!(decide (u=(0:Int))))
 (a3 (IntKind.u64.wrap (Int.tdiv (IntKind.u64.wrap p1) a)) (IntKind.u64.wrap (Int.tdiv (IntKind.u64.wrap p3) u)) (fun vs vt =>
 (cbr (decide (vs>(0:Int)))
 (K (0:Int) (0:Int) (16:Int))
 (a7 (!(decide (p0<(0:Int)))) vr vt (fun vu vv vw =>
 (K vu vv vw))))))))))))))))))))
 (a8 i j (0:Int) (fun n vx =>
 (a8 b c vx (fun g _ =>
 (cbr (g ==(0:Int))
 (cbr (n ==(0:Int))
 (K (0:Int) (1:Int) (0:Int))
 (a5 g n a (fun vy =>
 (a1 vy a (fun v =>
 (cbr (decide (g≥v))
 (K (0:Int) (0:Int) (16:Int))
 (a6 g n v (fun vz _ =>
 (asr (!(decide (a=(0:Int))))
 (asr (!(decide (v=(0:Int))))
 (a3 (IntKind.u64.wrap (Int.tdiv (IntKind.u64.wrap p1) a)) (IntKind.u64.wrap (Int.tdiv (IntKind.u64.wrap p3) v)) (fun vA vB =>
 (cbr (decide (vA>(0:Int)))
 (K (0:Int) (0:Int) (16:Int))
 (a7 (decide (p0<(0:Int))) vz vB (fun vC vD vE =>
 (K vC vD vE))))))))))))))))
 (a5 g n a (fun vF =>
 (a1 vF a (fun w =>
 (cbr (decide (g≥w))
 (K (0:Int) (0:Int) (16:Int))
 (a6 g n w (fun vG _ =>
 (asr (!(decide (a=(0:Int))))
 (asr (!(decide (w=(0:Int))))
 (a3 (IntKind.u64.wrap (Int.tdiv (IntKind.u64.wrap p1) a)) (IntKind.u64.wrap (Int.tdiv (IntKind.u64.wrap p3) w)) (fun vH vI =>
 (cbr (decide (vH>(0:Int)))
 (K (0:Int) (0:Int) (16:Int))
 (a7 (decide (p0<(0:Int))) vG vI (fun vJ vK vL =>
 (K vJ vK vL)))))))))))))))))))))
 (a8 i j (0:Int) (fun o vM =>
 (a8 b c vM (fun h _ =>
 (cbr (h ==(0:Int))
 (cbr (o ==(0:Int))
 (K (0:Int) (1:Int) (0:Int))
 (a5 h o a (fun vN =>
 (a1 vN a (fun x =>
 (cbr (decide (h≥x))
 (K (0:Int) (0:Int) (16:Int))
 (a6 h o x (fun vO _ =>
 (asr (!(decide (a=(0:Int))))
 (asr (!(decide (x=(0:Int))))
 (a3 (IntKind.u64.wrap (Int.tdiv (IntKind.u64.wrap p1) a)) (IntKind.u64.wrap (Int.tdiv (IntKind.u64.wrap p3) x)) (fun vP vQ =>
 (cbr (decide (vP>(0:Int)))
 (K (0:Int) (0:Int) (16:Int))
 (a7 (decide (p0<(0:Int))) vO vQ (fun vR vS vT =>
 (K vR vS vT))))))))))))))))
 (a5 h o a (fun vU =>
 (a1 vU a (fun y =>
 (cbr (decide (h≥y))
 (K (0:Int) (0:Int) (16:Int))
 (a6 h o y (fun vV _ =>
 (asr (!(decide (a=(0:Int))))
 (asr (!(decide (y=(0:Int))))
 (a3 (IntKind.u64.wrap (Int.tdiv (IntKind.u64.wrap p1) a)) (IntKind.u64.wrap (Int.tdiv (IntKind.u64.wrap p3) y)) (fun vW vX =>
 (cbr (decide (vW>(0:Int)))
 (K (0:Int) (0:Int) (16:Int))
 (a7 (decide (p0<(0:Int))) vV vX (fun vY vZ v0 =>
 (K vY vZ v0))))))))))))))))))))))))))))))))))))))
def yaU:yag:=yny ydU ycZ yeI ygl yjF yh1 yg5 ycQ yjG
def yju:Sg:=⟨pt10,Int→Int→Int→Prop,fun K=>(fun r0 r1 r2=>K (.tup [(.agg [(.int .i64 r0),(.int .i64 r1)]),(.int .i64 r2)]))⟩
def yDz (e:Es) (a0:yaH) (a1:yaS) (a2:yaP) (a3:yh0) (a4:yB6) (a5:yvz) (a6:yml) (a7:yec) (a8:yB7):SE:=sE (E e) [(ybL,ypg.pw a0),(ycB,yDu.pw a1),(ybn,yAA.pw a2),(ydZ,yHB.pw a3),(ygi,ysq a4),(ymg,yHJ.pw a5),(yhY,yHH.pw a6),(ycM,yw2.pw a7),(ygj,yss a8)] lp0
theorem yDA (e:Es) (a0 a1 a2 a3 a4 a5 a6 a7 a8):EqW (yDz e a0 a1 a2 a3 a4 a5 a6 a7 a8) 6 yFB yju (yny a0 a1 a2 a3 a4 a5 a6 a7 a8):=fun _ _=>by kernel_rfl
theorem yfp (e:Es) (he:EG e):OkF (E e) (yju.pw yaU) ycD:=okU he (yDA e _ _ _ _ _ _ _ _ _) (yaw (Sub.uni _) ⟨(yf6 e he),(yjs e he),(ygH e he),(ysH e he),(yHz e he),(yHM e he),(yzh e he),(yjb e he),(yHA e he),trivial⟩ trivial he.ok) yj6.flat (yai (by kernel_rfl))
def ynz (a0:yaH) (a1:yag) (p0 p1 p2 p3:Int) (K:Int→Int→Int→Prop):Prop :=
 (a0 p0 p1 p2 p3 (fun a =>
 (cbr (a !=(0:Int))
 (K (0:Int) (0:Int) a)
 (a1 p0 p1 (IntKind.i64.wrap ((0:Int)-p2)) p3 (fun b c d =>
 (K b c d))))))
def ybW:yag:=ynz ydU yaU
def yDB (e:Es) (a0:yaH) (a1:yag):SE:=sE (E e) [(ybL,ypg.pw a0),(ycD,yju.pw a1)] lp0
theorem yDC (e:Es) (a0 a1):EqW (yDB e a0 a1) 6 yFC yju (ynz a0 a1):=fun _ _=>by kernel_rfl
theorem yjv (e:Es) (he:EG e):OkF (E e) (yju.pw ybW) yeF:=okU he (yDC e _ _) (yaw (Sub.uni _) ⟨(yf6 e he),(yfp e he),trivial⟩ trivial he.ok) yj6.flat (yai (by kernel_rfl))
def ynA (a0:yaH) (a1:yaP) (a2:yaS) (a3:yh0) (a4:yec) (p0 p1 p2 p3:Int) (K:Int→Int→Int→Prop):Prop :=
 (a0 p0 p1 p2 p3 (fun d =>
 (cbr (d !=(0:Int))
 (K (0:Int) (0:Int) d)
 (a1 p0 (fun e =>
 (a1 p2 (fun f =>
 (a2 e (IntKind.u64.wrap p3) (fun a =>
 (a2 f (IntKind.u64.wrap p1) (fun b =>
 (asr (!(decide (a=(0:Int))))
 (asr (!(decide (b=(0:Int))))
 (a3 (IntKind.u64.wrap (Int.tdiv e a)) (IntKind.u64.wrap (Int.tdiv f b)) (fun h c =>
 (asr (!(decide (b=(0:Int))))
 (asr (!(decide (a=(0:Int))))
 (a3 (IntKind.u64.wrap (Int.tdiv (IntKind.u64.wrap p1) b)) (IntKind.u64.wrap (Int.tdiv (IntKind.u64.wrap p3) a)) (fun i g =>
 (cbr (decide ((IntKind.u64.wrap (h+i))>(0:Int)))
 (K (0:Int) (0:Int) (16:Int))
 (cbr (decide (c>(0:Int)))
 (a4 ((decide (p0<(0:Int))) !=(decide (p2<(0:Int)))) c g (fun j k l =>
 (K j k l)))
 (a4 false c g (fun m n o =>
 (K m n o))))))))))))))))))))))))
def ybO:yag:=ynA ydU yeI ycZ ygl ycQ
def yDD (e:Es) (a0:yaH) (a1:yaP) (a2:yaS) (a3:yh0) (a4:yec):SE:=sE (E e) [(ybL,ypg.pw a0),(ybn,yAA.pw a1),(ycB,yDu.pw a2),(ydZ,yHB.pw a3),(ycM,yw2.pw a4)] lp0
theorem yDE (e:Es) (a0 a1 a2 a3 a4):EqW (yDD e a0 a1 a2 a3 a4) 6 yFD yju (ynA a0 a1 a2 a3 a4):=fun _ _=>by kernel_rfl
theorem yhy (e:Es) (he:EG e):OkF (E e) (yju.pw ybO) ydk:=okU he (yDE e _ _ _ _ _) (yaw (Sub.uni _) ⟨(yf6 e he),(ygH e he),(yjs e he),(ysH e he),(yjb e he),trivial⟩ trivial he.ok) yj6.flat (yai (by kernel_rfl))
def ynB (a0:yaH) (a1:yag) (p0 p1 p2 p3:Int) (K:Int→Int→Int→Prop):Prop :=
 (a0 p0 p1 p2 p3 (fun a =>
 (cbr (a !=(0:Int))
 (K (0:Int) (0:Int) a)
 (cbr (p2 ==(0:Int))
 (K (0:Int) (0:Int) (18:Int))
 (cbr (decide (p2<(0:Int)))
 (a1 p0 p1 (IntKind.i64.wrap ((0:Int)-p3)) (IntKind.i64.wrap ((0:Int)-p2)) (fun b c d =>
 (K b c d)))
 (a1 p0 p1 p3 p2 (fun e f g =>
 (K e f g))))))))
def yaJ:yag:=ynB ydU ybO
def yDF (e:Es) (a0:yaH) (a1:yag):SE:=sE (E e) [(ybL,ypg.pw a0),(ydk,yju.pw a1)] lp0
theorem yDG (e:Es) (a0 a1):EqW (yDF e a0 a1) 6 yFE yju (ynB a0 a1):=fun _ _=>by kernel_rfl
theorem yfq (e:Es) (he:EG e):OkF (E e) (yju.pw yaJ) ydl:=okU he (yDG e _ _) (yaw (Sub.uni _) ⟨(yf6 e he),(yhy e he),trivial⟩ trivial he.ok) yj6.flat (yai (by kernel_rfl))
set_option linter.unusedVariables false
theorem yzi (p0:Int) (p1:Int) (r0:Int) (r1:Int) (r2:Int) (h:∀ K:Int→Int→Int→Prop,K r0 r1 r2→yao p0 p1 K) (K:Int→Int→Int→Prop):yao p0 p1 K=K r0 r1 r2 :=
 propext ⟨fun k=>detC (yip [] ybm) (as:=[(.int .i64 p0),(.int .i64 p1)]) (x:=(.tup [(.agg [(.int .i64 r0),(.int .i64 r1)]),(.int .i64 r2)])) (fun K' k'=>h (fun r0 r1 r2=>K' (.tup [(.agg [(.int .i64 r0),(.int .i64 r1)]),(.int .i64 r2)])) k') (K:=fun x=>match x with | (.tup [(.agg [(.int .i64 r0),(.int .i64 r1)]),(.int .i64 r2)])=>K r0 r1 r2 | _=>False) k,h K⟩
theorem yw5 (p0:Int) (p1:Int) (r0:Int) (h:∀ K:Int→Prop,K r0→ybM p0 p1 K) (K:Int→Prop):ybM p0 p1 K=K r0 :=
 propext ⟨fun k=>detC (yf5 [] ybm) (as:=[(.agg [(.int .i64 p0),(.int .i64 p1)])]) (x:=(.int .i64 r0)) (fun K' k'=>h (fun r0=>K' (.int .i64 r0)) k') (K:=fun x=>match x with | (.int .i64 r0)=>K r0 | _=>False) k,h K⟩
theorem yAI (p0:Int) (p1:Int) (p2:Int) (p3:Int) (r0:Int) (r1:Int) (h:∀ K:Int→Int→Prop,K r0 r1→yc0 p0 p1 p2 p3 K) (K:Int→Int→Prop):yc0 p0 p1 p2 p3 K=K r0 r1 :=
 propext ⟨fun k=>detC (yfo [] ybm) (as:=[(.agg [(.int .i64 p0),(.int .i64 p1)]),(.agg [(.int .i64 p2),(.int .i64 p3)])]) (x:=(.tup [(.int .i64 r0),(.int .i64 r1)])) (fun K' k'=>h (fun r0 r1=>K' (.tup [(.int .i64 r0),(.int .i64 r1)])) k') (K:=fun x=>match x with | (.tup [(.int .i64 r0),(.int .i64 r1)])=>K r0 r1 | _=>False) k,h K⟩
theorem yAJ (p0:Int) (p1:Int) (p2:Int) (p3:Int) (r0:Int) (r1:Int) (r2:Int) (h:∀ K:Int→Int→Int→Prop,K r0 r1 r2→yaU p0 p1 p2 p3 K) (K:Int→Int→Int→Prop):yaU p0 p1 p2 p3 K=K r0 r1 r2 :=
 propext ⟨fun k=>detC (yfp [] ybm) (as:=[(.agg [(.int .i64 p0),(.int .i64 p1)]),(.agg [(.int .i64 p2),(.int .i64 p3)])]) (x:=(.tup [(.agg [(.int .i64 r0),(.int .i64 r1)]),(.int .i64 r2)])) (fun K' k'=>h (fun r0 r1 r2=>K' (.tup [(.agg [(.int .i64 r0),(.int .i64 r1)]),(.int .i64 r2)])) k') (K:=fun x=>match x with | (.tup [(.agg [(.int .i64 r0),(.int .i64 r1)]),(.int .i64 r2)])=>K r0 r1 r2 | _=>False) k,h K⟩
theorem yAK (p0:Int) (p1:Int) (p2:Int) (p3:Int) (r0:Int) (r1:Int) (r2:Int) (h:∀ K:Int→Int→Int→Prop,K r0 r1 r2→ybW p0 p1 p2 p3 K) (K:Int→Int→Int→Prop):ybW p0 p1 p2 p3 K=K r0 r1 r2 :=
 propext ⟨fun k=>detC (yjv [] ybm) (as:=[(.agg [(.int .i64 p0),(.int .i64 p1)]),(.agg [(.int .i64 p2),(.int .i64 p3)])]) (x:=(.tup [(.agg [(.int .i64 r0),(.int .i64 r1)]),(.int .i64 r2)])) (fun K' k'=>h (fun r0 r1 r2=>K' (.tup [(.agg [(.int .i64 r0),(.int .i64 r1)]),(.int .i64 r2)])) k') (K:=fun x=>match x with | (.tup [(.agg [(.int .i64 r0),(.int .i64 r1)]),(.int .i64 r2)])=>K r0 r1 r2 | _=>False) k,h K⟩
theorem yAL (p0:Int) (p1:Int) (p2:Int) (p3:Int) (r0:Int) (r1:Int) (r2:Int) (h:∀ K:Int→Int→Int→Prop,K r0 r1 r2→ybO p0 p1 p2 p3 K) (K:Int→Int→Int→Prop):ybO p0 p1 p2 p3 K=K r0 r1 r2 :=
 propext ⟨fun k=>detC (yhy [] ybm) (as:=[(.agg [(.int .i64 p0),(.int .i64 p1)]),(.agg [(.int .i64 p2),(.int .i64 p3)])]) (x:=(.tup [(.agg [(.int .i64 r0),(.int .i64 r1)]),(.int .i64 r2)])) (fun K' k'=>h (fun r0 r1 r2=>K' (.tup [(.agg [(.int .i64 r0),(.int .i64 r1)]),(.int .i64 r2)])) k') (K:=fun x=>match x with | (.tup [(.agg [(.int .i64 r0),(.int .i64 r1)]),(.int .i64 r2)])=>K r0 r1 r2 | _=>False) k,h K⟩
theorem yAM (p0:Int) (p1:Int) (p2:Int) (p3:Int) (r0:Int) (r1:Int) (r2:Int) (h:∀ K:Int→Int→Int→Prop,K r0 r1 r2→yaJ p0 p1 p2 p3 K) (K:Int→Int→Int→Prop):yaJ p0 p1 p2 p3 K=K r0 r1 r2 :=
 propext ⟨fun k=>detC (yfq [] ybm) (as:=[(.agg [(.int .i64 p0),(.int .i64 p1)]),(.agg [(.int .i64 p2),(.int .i64 p3)])]) (x:=(.tup [(.agg [(.int .i64 r0),(.int .i64 r1)]),(.int .i64 r2)])) (fun K' k'=>h (fun r0 r1 r2=>K' (.tup [(.agg [(.int .i64 r0),(.int .i64 r1)]),(.int .i64 r2)])) k') (K:=fun x=>match x with | (.tup [(.agg [(.int .i64 r0),(.int .i64 r1)]),(.int .i64 r2)])=>K r0 r1 r2 | _=>False) k,h K⟩
def ycV (x0:Ls→Int→Int→Bool→Prop):Nat→Ls→Int→Int→Prop
 | 0,_,_,_=>False
 | n+1,l0,i1,i2 =>
 (cbr (decide (i2<(((List.length l0):Nat):Int)))
 (asr (decide ((0:Int)≤i2))
 (asr (decide (i2<(((List.length l0):Nat):Int)))
 (asr (conf zI (List.getD l0 (i2.toNat) .nils))
 (ycV x0 n l0 (if (yac (List.getD l0 (i2.toNat) .nils))<i1 then (yac (List.getD l0 (i2.toNat) .nils)) else i1) (IntKind.i64.wrap (i2+(1:Int)))))))
 (x0 l0 i1 i2 false))
def yh2 (p0:Ls) (K:Int→Prop):Prop :=
 (cbr (decide ((((List.length p0):Nat):Int)<(1:Int)))
 False
 (asr (decide ((0:Int)<(((List.length p0):Nat):Int)))
 (asr (conf zI (List.getD p0 0 .nils))
 (∃ n:Nat,ycV
 (fun _ a _ _=>(K a))
 n p0 (yac (List.getD p0 0 .nils)) (1:Int)))))
def yer:yak:=yh2
def yq1 (Q:Qx):Ls→Int→Int→Bool→Prop:=(fun l0 i1 i2 b3=>Q (.exit 0) [(0,.v (.data l0)),(3,.v (.int .i64 i1)),(4,.v (.int .i64 i2)),(15,.v (.bool b3))] [])
def pt11:Pat Frm:=fV 4 pt0 fN
def pt12:Pat Sta:=pS hN (fV 0 vD (fV 3 pt0 pt11)) fN
def ykd (Q:Qx):List St:=[⟨pt12,ycV (yq1 Q)⟩]
def ymm:LP:=lpS [(10434000,ykd)]
def yh3 (e:Es):SE:=sE (E e) [] (ymm)
theorem ykV (e:Es) (he:EG e):SEOk (Uni (E e)) (yh3 e):=yaw (Sub.uni _) trivial trivial he.ok
theorem ypn (e:Es):ycp (yh3 e) 5 a ymV false (ykd):=fun _=>⟨fun _=>by kernel_rfl,fun _ _=>by kernel_rfl,trivial⟩
theorem ypo (e:Es) (he:EG e):LpT (Uni (E e)) (ymm) [] 10434000 (.loop 10434000 ymV):=fun _ _ _=>yok.st (Sub.uni _) (yaD (ykV e he) 5) (YOk.no _ _) (yai (by kernel_rfl)) (ypn e _)
theorem yvA (e:Es):EqW (yh3 e) 6 ywX ycU yh2:=fun _ _=>by kernel_rfl
theorem yvB (e:Es) (he:EG e):OkF (E e) (ycU.pw yer) yfA:=okU he (yvA e) (ykV e he) yj6.flat (ybe (l:=[(10434000,.loop 10434000 ymV)]) ⟨ypo e he,trivial⟩ (by kernel_rfl))
def ycW (x0:Ls→Int→Int→Bool→Prop):Nat→Ls→Int→Int→Prop
 | 0,_,_,_=>False
 | n+1,l0,i1,i2 =>
 (cbr (decide (i2<(((List.length l0):Nat):Int)))
 (asr (decide ((0:Int)≤i2))
 (asr (decide (i2<(((List.length l0):Nat):Int)))
 (asr (conf zI (List.getD l0 (i2.toNat) .nils))
 (ycW x0 n l0 (if (yac (List.getD l0 (i2.toNat) .nils))>i1 then (yac (List.getD l0 (i2.toNat) .nils)) else i1) (IntKind.i64.wrap (i2+(1:Int)))))))
 (x0 l0 i1 i2 false))
def yh4 (p0:Ls) (K:Int→Prop):Prop :=
 (cbr (decide ((((List.length p0):Nat):Int)<(1:Int)))
 False
 (asr (decide ((0:Int)<(((List.length p0):Nat):Int)))
 (asr (conf zI (List.getD p0 0 .nils))
 (∃ n:Nat,ycW
 (fun _ a _ _=>(K a))
 n p0 (yac (List.getD p0 0 .nils)) (1:Int)))))
def yet:yak:=yh4
def yq2 (Q:Qx):Ls→Int→Int→Bool→Prop:=(fun l0 i1 i2 b3=>Q (.exit 0) [(0,.v (.data l0)),(3,.v (.int .i64 i1)),(4,.v (.int .i64 i2)),(15,.v (.bool b3))] [])
def yke (Q:Qx):List St:=[⟨pt12,ycW (yq2 Q)⟩]
def ymn:LP:=lpS [(64079100,yke)]
def yh5 (e:Es):SE:=sE (E e) [] (ymn)
theorem ykW (e:Es) (he:EG e):SEOk (Uni (E e)) (yh5 e):=yaw (Sub.uni _) trivial trivial he.ok
theorem ypp (e:Es):ycp (yh5 e) 5 a ymW false (yke):=fun _=>⟨fun _=>by kernel_rfl,fun _ _=>by kernel_rfl,trivial⟩
theorem ypq (e:Es) (he:EG e):LpT (Uni (E e)) (ymn) [] 64079100 (.loop 64079100 ymW):=fun _ _ _=>yok.st (Sub.uni _) (yaD (ykW e he) 5) (YOk.no _ _) (yai (by kernel_rfl)) (ypp e _)
theorem yvC (e:Es):EqW (yh5 e) 6 ywY ycU yh4:=fun _ _=>by kernel_rfl
theorem yvD (e:Es) (he:EG e):OkF (E e) (ycU.pw yet) yeo:=okU he (yvC e) (ykW e he) yj6.flat (ybe (l:=[(64079100,.loop 64079100 ymW)]) ⟨ypq e he,trivial⟩ (by kernel_rfl))
abbrev yay:Type:=Int→Ls→Ls→(Int→Prop)→Prop
def yd1 (a0:yak) (a1:yak) (x0:Int→Prop) (x1:Int→Ls→Ls→Int→Int→Bool→Prop):Nat→Int→Ls→Ls→Int→Int→Prop
 | 0,_,_,_,_,_=>False
 | n+1,i0,l1,l2,i3,i4 =>
 (cbr (decide (i4<i3))
 (asr (decide ((0:Int)≤i4))
 (asr (decide (i4<(((List.length l1):Nat):Int)))
 (asr (conf zI (List.getD l1 (i4.toNat) .nils))
 (asr (decide ((0:Int)≤(IntKind.i64.wrap (i4+(1:Int)))))
 (asr (decide ((IntKind.i64.wrap (i4+(1:Int)))<(((List.length l1):Nat):Int)))
 (asr (conf zI (List.getD l1 ((IntKind.i64.wrap (i4+(1:Int))).toNat) .nils))
 (cbr (decide ((yac (List.getD l1 (i4.toNat) .nils))≥(yac (List.getD l1 ((IntKind.i64.wrap (i4+(1:Int))).toNat) .nils))))
 (x0 (8:Int))
 (yd1 a0 a1 x0 x1 n i0 l1 l2 i3 (IntKind.i64.wrap (i4+(1:Int)))))))))))
 (x1 i0 l1 l2 i3 i4 false))
def yll (a0:yak) (a1:yak) (p0:Int) (p1 p2:Ls) (K:Int→Prop):Prop :=
 (cbr (decide (p0>(1000:Int)))
 (K (4:Int))
 (cbr (decide ((((List.length p1):Nat):Int)>(40:Int)))
 (K (4:Int))
 (cbr (decide (p0<(1:Int)))
 (K (8:Int))
 (cbr (decide ((((List.length p1):Nat):Int)<(2:Int)))
 (K (8:Int))
 (cbr ((((List.length p2):Nat):Int) !=(IntKind.i64.wrap ((((List.length p1):Nat):Int)-(1:Int))))
 (K (8:Int))
 (asr (decide ((0:Int)<(((List.length p1):Nat):Int)))
 (asr (conf zI (List.getD p1 0 .nils))
 (cbr ((yac (List.getD p1 0 .nils)) !=(0:Int))
 (K (8:Int))
 (asr (decide ((0:Int)≤(IntKind.i64.wrap ((((List.length p1):Nat):Int)-(1:Int)))))
 (asr (decide ((IntKind.i64.wrap ((((List.length p1):Nat):Int)-(1:Int)))<(((List.length p1):Nat):Int)))
 (asr (conf zI (List.getD p1 ((IntKind.i64.wrap ((((List.length p1):Nat):Int)-(1:Int))).toNat) .nils))
 (cbr ((yac (List.getD p1 ((IntKind.i64.wrap ((((List.length p1):Nat):Int)-(1:Int))).toNat) .nils)) != p0)
 (K (8:Int))
 (∃ n:Nat,yd1 a0 a1
 (fun b=>(K b))
 (fun _ _ a _ _ _=>(a0 a (fun c =>
 (cbr (decide (c<(0:Int)))
 (K (8:Int))
 (a1 a (fun d =>
 (cbr (decide (d>(12:Int)))
 (K (8:Int))
 (a1 a (fun e =>
 (cbr (e ==(0:Int))
 (K (8:Int))
 (K (0:Int))))))))))))
 n p0 p1 p2 (IntKind.i64.wrap ((((List.length p1):Nat):Int)-(1:Int))) (0:Int))))))))))))))
def yaC:yay:=yll yer yet
def pt13:LPt:=lC vD pt7
def pt14:VPt:=vA (lC pt0 pt13)
def pt15:LPt:=lC pt14 lN
def yrJ:Sg:=⟨pt15,Int→Prop,fun K=>(fun r0=>K (.int .i64 r0))⟩
def yvE (Q:Qx):Int→Prop:=(fun i0=>Q .ret [(2,.v (.int .i64 i0))] [])
def yvF (Q:Qx):Int→Ls→Ls→Int→Int→Bool→Prop:=(fun i0 l1 l2 i3 i4 b5=>Q (.exit 0) [(1,.box (.agg [(.int .i64 i0),(.data l1),(.data l2)])),(49,.v (.int .i64 i3)),(50,.v (.int .i64 i4)),(51,.v (.bool b5))] [])
def yoq (a0:yak) (a1:yak) (Q:Qx):List St:=[⟨(pS hN (fX 1 pt14 (fV 49 pt0 (fV 50 pt0 fN))) fN),yd1 a0 a1 (yvE Q) (yvF Q)⟩]
def yrK (a0:yak) (a1:yak):LP:=lpS [(87419700,yoq a0 a1)]
def ylm (e:Es) (a0:yak) (a1:yak):SE:=sE (E e) [(yfA,ycU.pw a0),(yeo,ycU.pw a1)] (yrK a0 a1)
theorem ypr (e:Es) (he:EG e):SEOk (Uni (E e)) (ylm e yer yet):=yaw (Sub.uni _) ⟨(yvB e he),(yvD e he),trivial⟩ trivial he.ok
theorem ytX (e:Es) (a0 a1):ycp (ylm e a0 a1) 5 a ymX false (yoq a0 a1):=fun _=>⟨fun _=>by kernel_rfl,fun _ _=>by kernel_rfl,trivial⟩
theorem ytY (e:Es) (he:EG e):LpT (Uni (E e)) (yrK yer yet) [] 87419700 (.loop 87419700 ymX):=fun _ _ _=>yok.st (Sub.uni _) (yaD (ypr e he) 5) (YOk.no _ _) (yai (by kernel_rfl)) (ytX e _ _ _)
theorem yAN (e:Es) (a0 a1):EqW (ylm e a0 a1) 6 yDe yrJ (yll a0 a1):=fun _ _=>by kernel_rfl
theorem ydX (e:Es) (he:EG e):OkF (E e) (yrJ.pw yaC) yby:=okU he (yAN e _ _) (ypr e he) yj6.flat (ybe (l:=[(87419700,.loop 87419700 ymX)]) ⟨ytY e he,trivial⟩ (by kernel_rfl))
abbrev yav:Type:=Int→Ls→Ls→(Int→Int→Prop)→Prop
def yd2 (a0:yay) (x0:Int→Ls→Ls→Int→Ls→Int→Int→Bool→Prop):Nat→Int→Ls→Ls→Int→Ls→Int→Int→Prop
 | 0,_,_,_,_,_,_,_=>False
 | n+1,i0,l1,l2,i3,l4,i5,i6 =>
 (cbr (decide (i6<i5))
 (asr (decide ((0:Int)≤i6))
 (asr (decide (i6<(((List.length l4):Nat):Int)))
 (asr (conf zI (List.getD l4 (i6.toNat) .nils))
 (asr (decide ((0:Int)≤(IntKind.i64.wrap (i6+(1:Int)))))
 (asr (decide ((IntKind.i64.wrap (i6+(1:Int)))<(((List.length l1):Nat):Int)))
 (asr (conf zI (List.getD l1 ((IntKind.i64.wrap (i6+(1:Int))).toNat) .nils))
 (asr (decide ((0:Int)≤i6))
 (asr (decide (i6<(((List.length l1):Nat):Int)))
 (asr (conf zI (List.getD l1 (i6.toNat) .nils))
 (yd2 a0 x0 n i0 l1 l2 (IntKind.i64.wrap (i3+(IntKind.i64.wrap ((yac (List.getD l4 (i6.toNat) .nils))*(IntKind.i64.wrap ((yac (List.getD l1 ((IntKind.i64.wrap (i6+(1:Int))).toNat) .nils))-(yac (List.getD l1 (i6.toNat) .nils)))))))) l4 i5 (IntKind.i64.wrap (i6+(1:Int)))))))))))))
 (x0 i0 l1 l2 i3 l4 i5 i6 false))
def yir (a0:yay) (p0:Int) (p1 p2:Ls) (K:Int→Int→Prop):Prop :=
 (a0 p0 p1 p2 (fun a =>
 (cbr (a !=(0:Int))
 (K (0:Int) a)
 (∃ n:Nat,yd2 a0
 (fun _ _ _ b _ _ _ _=>(K b (0:Int)))
 n p0 p1 p2 (0:Int) p2 (((List.length p2):Nat):Int) (0:Int)))))
def yaf:yav:=yir yaC
def yAO:Sg:=⟨pt15,Int→Int→Prop,fun K=>(fun r0 r1=>K (.tup [(.int .i64 r0),(.int .i64 r1)]))⟩
def yvG (Q:Qx):Int→Ls→Ls→Int→Ls→Int→Int→Bool→Prop:=(fun i0 l1 l2 i3 l4 i5 i6 b7=>Q (.exit 0) [(1,.box (.agg [(.int .i64 i0),(.data l1),(.data l2)])),(5,.v (.int .i64 i3)),(14,.v (.data l4)),(15,.v (.int .i64 i5)),(16,.v (.int .i64 i6)),(17,.v (.bool b7))] [])
def pt16:Pat Frm:=fV 14 vD (fV 15 pt0 (fV 16 pt0 fN))
def yor (a0:yay) (Q:Qx):List St:=[⟨(pS hN (fX 1 pt14 (fV 5 pt0 pt16)) fN),yd2 a0 (yvG Q)⟩]
def yrL (a0:yay):LP:=lpS [(45203600,yor a0)]
def yln (e:Es) (a0:yay):SE:=sE (E e) [(yby,yrJ.pw a0)] (yrL a0)
theorem yps (e:Es) (he:EG e):SEOk (Uni (E e)) (yln e yaC):=yaw (Sub.uni _) ⟨(ydX e he),trivial⟩ trivial he.ok
theorem ytZ (e:Es) (a0):ycp (yln e a0) 5 a ym1 false (yor a0):=fun _=>⟨fun _=>by kernel_rfl,fun _ _=>by kernel_rfl,trivial⟩
theorem yt0 (e:Es) (he:EG e):LpT (Uni (E e)) (yrL yaC) [] 45203600 (.loop 45203600 ym1):=fun _ _ _=>yok.st (Sub.uni _) (yaD (yps e he) 5) (YOk.no _ _) (yai (by kernel_rfl)) (ytZ e _ _)
theorem yAP (e:Es) (a0):EqW (yln e a0) 6 yDh yAO (yir a0):=fun _ _=>by kernel_rfl
theorem ydY (e:Es) (he:EG e):OkF (E e) (yAO.pw yaf) ycb:=okU he (yAP e _) (yps e he) yj6.flat (ybe (l:=[(45203600,.loop 45203600 ym1)]) ⟨yt0 e he,trivial⟩ (by kernel_rfl))
abbrev yab:Type:=Int→(Int→Int→Prop)→Prop
def yrM (p0:Int) (K:Int→Int→Prop):Prop :=
 (K p0 (1:Int))
def ycv:yab:=yrM
def yis:Sg:=⟨pt1,Int→Int→Prop,fun K=>(fun r0 r1=>K (.agg [(.int .i64 r0),(.int .i64 r1)]))⟩
def yAQ (e:Es):SE:=sE (E e) [] lp0
theorem yAR (e:Es):EqW (yAQ e) 6 yDl yis yrM:=fun _ _=>by kernel_rfl
theorem yit (e:Es) (he:EG e):OkF (E e) (yis.pw ycv) ybz:=okU he (yAR e) (yaw (Sub.uni _) trivial trivial he.ok) yj6.flat (yai (by kernel_rfl))
abbrev yal:Type:=Int→Int→Int→Int→(Bool→Prop)→Prop
def ynC (a0:ycE) (p0 p1 p2 p3:Int) (K:Bool→Prop):Prop :=
 (a0 p0 p1 p2 p3 (fun a _ =>
 (K (decide (a<(0:Int))))))
def ycF:yal:=ynC yc0
def ynD:Sg:=⟨pt10,Bool→Prop,fun K=>(fun r0=>K (.bool r0))⟩
def yDH (e:Es) (a0:ycE):SE:=sE (E e) [(ybU,yDw.pw a0)] lp0
theorem yDI (e:Es) (a0):EqW (yDH e a0) 6 yFA ynD (ynC a0):=fun _ _=>by kernel_rfl
theorem yjw (e:Es) (he:EG e):OkF (E e) (ynD.pw ycF) yck:=okU he (yDI e _) (yaw (Sub.uni _) ⟨(yfo e he),trivial⟩ trivial he.ok) yj6.flat (yai (by kernel_rfl))
abbrev ycw:Type:=Int→Ls→Ls→Int→Int→(Bool→Prop)→Prop
def ylo (a0:yaS) (a1:yab) (a2:yal) (p0:Int) (_ _:Ls) (p3 p4:Int) (K:Bool→Prop):Prop :=
 (a0 p3 p4 (fun a =>
 (cbr (a ==(0:Int))
 (cbr (decide (p3≥(0:Int)))
 (a1 p0 (fun b c =>
 (a2 b c p3 p4 (fun d =>
 (K (!d))))))
 (K false))
 (K false))))
def ycx:ycw:=ylo ybM ycv ycF
def yAS:Sg:=⟨(lC pt14 (lC pt6 lN)),Bool→Prop,fun K=>(fun r0=>K (.bool r0))⟩
def yAT (e:Es) (a0:yaS) (a1:yab) (a2:yal):SE:=sE (E e) [(ycq,yy7.pw a0),(ybz,yis.pw a1),(yck,ynD.pw a2)] lp0
theorem yAU (e:Es) (a0 a1 a2):EqW (yAT e a0 a1 a2) 6 yDn yAS (ylo a0 a1 a2):=fun _ _=>by kernel_rfl
theorem ylp (e:Es) (he:EG e):OkF (E e) (yAS.pw ycx) ydM:=okU he (yAU e _ _ _) (yaw (Sub.uni _) ⟨(yf5 e he),(yit e he),(yjw e he),trivial⟩ trivial he.ok) yj6.flat (yai (by kernel_rfl))
abbrev yc1:Type:=Int→Ls→Ls→Int→Int→Int→Int→(Int→Int→Int→Prop)→Prop
def ybu (a0:yay) (a1:ycw) (a2:yaS) (a3:yab) (a4:yal) (a5:yag) (a6:yag) (a7:yag) (a8:yag) (x0:Int→Int→Int→Int→Int→Int→Prop) (x1:Int→Int→Int→Int→Int→Int→Ls→Ls→Int→Int→Ls→Int→Int→Bool→Prop):Nat→Int→Int→Int→Int→Int→Int→Ls→Ls→Int→Int→Ls→Int→Int→Prop
 | 0,_,_,_,_,_,_,_,_,_,_,_,_,_=>False
 | n+1,i0,i1,i2,i3,i4,i5,l6,l7,i8,i9,l10,i11,i12 =>
 (cbr (decide (i12<i11))
 (asr (decide ((0:Int)≤i12))
 (asr (decide (i12<(((List.length l10):Nat):Int)))
 (asr (conf zI (List.getD l10 (i12.toNat) .nils))
 (asr (decide ((0:Int)≤(IntKind.i64.wrap (i12+(1:Int)))))
 (asr (decide ((IntKind.i64.wrap (i12+(1:Int)))<(((List.length l6):Nat):Int)))
 (asr (conf zI (List.getD l6 ((IntKind.i64.wrap (i12+(1:Int))).toNat) .nils))
 (a3 (yac (List.getD l6 ((IntKind.i64.wrap (i12+(1:Int))).toNat) .nils)) (fun a b =>
 (a4 i8 i9 a b (fun r =>
 (cbr (!r)
 (ybu a0 a1 a2 a3 a4 a5 a6 a7 a8 x0 x1 n i0 i1 i2 i3 i4 i5 l6 l7 i8 i9 l10 i11 (IntKind.i64.wrap (i12+(1:Int))))
 (a3 (0:Int) (fun i j =>
 (cbr (decide ((yac (List.getD l10 (i12.toNat) .nils))>(0:Int)))
 (a5 a b i8 i9 (fun s t k =>
 (cbr (k !=(0:Int))
 (x0 i0 i1 i2 i3 i4 k)
 (a3 (yac (List.getD l10 (i12.toNat) .nils)) (fun u v =>
 (a6 s t u v (fun l m o =>
 (cbr (o !=(0:Int))
 (x0 i0 i1 i2 i3 i4 o)
 (cbr ((yac (List.getD l10 (i12.toNat) .nils)) ==(0:Int))
 (ybu a0 a1 a2 a3 a4 a5 a6 a7 a8 x0 x1 n i0 i1 i2 i3 i4 i5 l6 l7 a b l10 i11 (IntKind.i64.wrap (i12+(1:Int))))
 (a4 l m i0 i1 (fun w =>
 (cbr w
 (a5 i0 i1 l m (fun e f c =>
 (cbr (c !=(0:Int))
 (cbr (c !=(0:Int))
 (x0 e f i2 i3 c (0:Int))
 (ybu a0 a1 a2 a3 a4 a5 a6 a7 a8 x0 x1 n e f i2 i3 c i5 l6 l7 a b l10 i11 (IntKind.i64.wrap (i12+(1:Int)))))
 (cbr (c !=(0:Int))
 (x0 e f i2 i3 (6:Int) (0:Int))
 (ybu a0 a1 a2 a3 a4 a5 a6 a7 a8 x0 x1 n e f i2 i3 (6:Int) i5 l6 l7 a b l10 i11 (IntKind.i64.wrap (i12+(1:Int))))))))
 (a3 (yac (List.getD l10 (i12.toNat) .nils)) (fun x y =>
 (a7 i0 i1 x y (fun z A p =>
 (cbr (p ==(0:Int))
 (a8 i8 i9 z A (fun B C D =>
 (x0 i0 i1 B C D (0:Int))))
 (x0 i0 i1 i2 i3 p (0:Int)))))))))))))))))))
 (cbr ((yac (List.getD l10 (i12.toNat) .nils)) ==(0:Int))
 (ybu a0 a1 a2 a3 a4 a5 a6 a7 a8 x0 x1 n i0 i1 i2 i3 i4 i5 l6 l7 a b l10 i11 (IntKind.i64.wrap (i12+(1:Int))))
 (a4 i j i0 i1 (fun E =>
 (cbr E
 (a5 i0 i1 i j (fun g h d =>
 (cbr (d !=(0:Int))
 (cbr (d !=(0:Int))
 (x0 g h i2 i3 d (0:Int))
 (ybu a0 a1 a2 a3 a4 a5 a6 a7 a8 x0 x1 n g h i2 i3 d i5 l6 l7 a b l10 i11 (IntKind.i64.wrap (i12+(1:Int)))))
 (cbr (d !=(0:Int))
 (x0 g h i2 i3 (6:Int) (0:Int))
 (ybu a0 a1 a2 a3 a4 a5 a6 a7 a8 x0 x1 n g h i2 i3 (6:Int) i5 l6 l7 a b l10 i11 (IntKind.i64.wrap (i12+(1:Int))))))))
 (a3 (yac (List.getD l10 (i12.toNat) .nils)) (fun F G =>
 (a7 i0 i1 F G (fun H I q =>
 (cbr (q ==(0:Int))
 (a8 i8 i9 H I (fun J K L =>
 (x0 i0 i1 J K L (0:Int))))
 (x0 i0 i1 i2 i3 q (0:Int)))))))))))))))))))))))))
 (x1 i0 i1 i2 i3 i4 i5 l6 l7 i8 i9 l10 i11 i12 false))
def ynE (a0:yay) (a1:ycw) (a2:yaS) (a3:yab) (a4:yal) (a5:yag) (a6:yag) (a7:yag) (a8:yag) (p0:Int) (p1 p2:Ls) (p3 p4 p5 p6:Int) (K:Int→Int→Int→Prop):Prop :=
 (a0 p0 p1 p2 (fun b =>
 (cbr (b !=(0:Int))
 (K (0:Int) (0:Int) b)
 (a1 p0 p1 p2 p3 p4 (fun g =>
 (cbr (!g)
 (K (0:Int) (0:Int) (2:Int))
 (a2 p5 p6 (fun h =>
 (cbr (h !=(0:Int))
 (K (0:Int) (0:Int) (2:Int))
 (cbr (decide (p5<(0:Int)))
 (K (0:Int) (0:Int) (2:Int))
 (cbr (p5 ==(0:Int))
 (K p3 p4 (0:Int))
 (∃ n:Nat,ybu a0 a1 a2 a3 a4 a5 a6 a7 a8
 (fun _ _ c d e a=>(cbr (a !=(0:Int))
 (cbr (a !=(0:Int))
 (K (0:Int) (0:Int) a)
 (K c d (0:Int)))
 (cbr (e !=(0:Int))
 (K (0:Int) (0:Int) e)
 (K c d (0:Int)))))
 (fun _ _ i j f _ _ _ _ _ _ _ _ _=>(cbr (f !=(0:Int))
 (K (0:Int) (0:Int) f)
 (K i j (0:Int))))
 n p5 p6 (0:Int) (0:Int) (6:Int) p0 p1 p2 p3 p4 p2 (((List.length p2):Nat):Int) (0:Int)))))))))))))
def yg6:yc1:=ynE yaC ycx ybM ycv ycF ybW ybO yaJ yaU
def yt1:Sg:=⟨(lC pt14 pt10),Int→Int→Int→Prop,fun K=>(fun r0 r1 r2=>K (.tup [(.agg [(.int .i64 r0),(.int .i64 r1)]),(.int .i64 r2)]))⟩
def yw6 (Q:Qx):Int→Int→Int→Int→Int→Int→Prop:=(fun i0 i1 i2 i3 i4 i5=>Q .ret [(6,.v (.int .i64 i5))] [⟨false,true,2,([(.agg [(.int .i64 i0),(.int .i64 i1)])]:Ls)⟩,⟨false,true,2,([(.agg [(.int .i64 i2),(.int .i64 i3)])]:Ls)⟩,⟨false,true,1,([(.int .i64 i4)]:Ls)⟩])
def yw7 (Q:Qx):Int→Int→Int→Int→Int→Int→Ls→Ls→Int→Int→Ls→Int→Int→Bool→Prop:=(fun i0 i1 i2 i3 i4 i5 l6 l7 i8 i9 l10 i11 i12 b13=>Q (.exit 0) [(2,.v (.fn (.func yfG) [] [(.ptr 0 1 0 0),(.ptr 2 1 0 0),(.ptr 1 1 0 0)])),(3,.box (.agg [(.int .i64 i5),(.data l6),(.data l7)])),(4,.box (.agg [(.int .i64 i8),(.int .i64 i9)])),(14,.v (.data l10)),(15,.v (.int .i64 i11)),(16,.v (.int .i64 i12)),(17,.v (.bool b13))] [⟨false,true,2,([(.agg [(.int .i64 i0),(.int .i64 i1)])]:Ls)⟩,⟨false,true,2,([(.agg [(.int .i64 i2),(.int .i64 i3)])]:Ls)⟩,⟨false,true,1,([(.int .i64 i4)]:Ls)⟩])
def pt17:RPt:=rC pt0 rN
def pt18:VPt:=vP 0 0 (nK 1) (nK 0)
def pt19:VPt:=vP 2 0 (nK 1) (nK 0)
def pt20:VPt:=vP 1 0 (nK 1) (nK 0)
def ypt (a0:yay) (a1:ycw) (a2:yaS) (a3:yab) (a4:yal) (a5:yag) (a6:yag) (a7:yag) (a8:yag) (Q:Qx):List St:=[⟨(pS (hB false true 2 (rC pt6 rN) (hB false true 2 (rC pt6 rN) (hB false true 1 pt17 hN))) (fV 2 (vF yfG lN (lC pt18 (lC pt19 (lC pt20 lN)))) (fX 3 pt14 (fX 4 pt6 pt16))) fN),ybu a0 a1 a2 a3 a4 a5 a6 a7 a8 (yw6 Q) (yw7 Q)⟩]
def ynF (a0:yay) (a1:ycw) (a2:yaS) (a3:yab) (a4:yal) (a5:yag) (a6:yag) (a7:yag) (a8:yag):LP:=lpS [(41613500,ypt a0 a1 a2 a3 a4 a5 a6 a7 a8)]
def yt2 (e:Es) (a0:yay) (a1:ycw) (a2:yaS) (a3:yab) (a4:yal) (a5:yag) (a6:yag) (a7:yag) (a8:yag):SE:=⟨(E e),yeB [(yby,yrJ.pw a0),(ydM,yAS.pw a1),(ycq,yy7.pw a2),(ybz,yis.pw a3),(yck,ynD.pw a4),(yeF,yju.pw a5),(ydk,yju.pw a6),(ydl,yju.pw a7),(ycD,yju.pw a8)],yeC [(yfG,yrA)],ynF a0 a1 a2 a3 a4 a5 a6 a7 a8,fun _=>none⟩
def yt3 (e:Es) (a0:yay) (a1:ycw) (a2:yaS) (a3:yab) (a4:yal) (a5:yag) (a6:yag) (a7:yag) (a8:yag):SE:=⟨(E e),yeB [(yby,yrJ.pw a0),(ydM,yAS.pw a1),(ycq,yy7.pw a2),(ybz,yis.pw a3),(yck,ynD.pw a4),(yeF,yju.pw a5),(ydk,yju.pw a6),(ydl,yju.pw a7),(ycD,yju.pw a8)],yeC [(ypa,yFF),(yfG,yrA)],ynF a0 a1 a2 a3 a4 a5 a6 a7 a8,fun _=>none⟩
theorem yAV (e:Es) (he:EG e):SEOk (Uni (E e)) (yt2 e yaC ycx ybM ycv ycF ybW ybO yaJ yaU):=yaw (Sub.uni _) ⟨(ydX e he),(ylp e he),(yf5 e he),(yit e he),(yjw e he),(yjv e he),(yhy e he),(yfq e he),(yfp e he),trivial⟩ ⟨⟨by kernel_rfl,by kernel_rfl,rfl,fun as=>yax (by kernel_rfl) as,he.num _ (by kernel_rfl),by kernel_rfl,(yai (by kernel_rfl))⟩,trivial⟩ he.ok
theorem yvH (e:Es) (a0 a1 a2 a3 a4 a5 a6 a7 a8):ycp (yt2 e a0 a1 a2 a3 a4 a5 a6 a7 a8) 5 a ym7 false (ypt a0 a1 a2 a3 a4 a5 a6 a7 a8):=fun _=>⟨fun _=>by kernel_rfl,fun _ _=>by kernel_rfl,trivial⟩
theorem yvI (e:Es) (he:EG e):LpT (Uni (E e)) (ynF yaC ycx ybM ycv ycF ybW ybO yaJ yaU) [] 41613500 (.loop 41613500 ym7):=fun _ _ _=>yok.st (Sub.uni _) (yaD (yAV e he) 5) (YOk.no _ _) (yai (by kernel_rfl)) (yvH e _ _ _ _ _ _ _ _ _ _)
theorem yAW (e:Es) (he:EG e):SEOk (Uni (E e)) (yt3 e yaC ycx ybM ycv ycF ybW ybO yaJ yaU):=yaw (Sub.uni _) ⟨(ydX e he),(ylp e he),(yf5 e he),(yit e he),(yjw e he),(yjv e he),(yhy e he),(yfq e he),(yfp e he),trivial⟩ ⟨⟨by kernel_rfl,by kernel_rfl,rfl,fun as=>yax (by kernel_rfl) as,he.num _ (by kernel_rfl),by kernel_rfl,(ybe (l:=[(41613500,.loop 41613500 ym7)]) ⟨yvI e he,trivial⟩ (by kernel_rfl))⟩,⟨by kernel_rfl,by kernel_rfl,rfl,fun as=>yax (by kernel_rfl) as,he.num _ (by kernel_rfl),by kernel_rfl,(yai (by kernel_rfl))⟩,trivial⟩ he.ok
theorem yDJ (e:Es) (a0 a1 a2 a3 a4 a5 a6 a7 a8):EqW (yt3 e a0 a1 a2 a3 a4 a5 a6 a7 a8) 6 yFG yt1 (ynE a0 a1 a2 a3 a4 a5 a6 a7 a8):=fun _ _=>by kernel_rfl
theorem yt4 (e:Es) (he:EG e):OkF (E e) (yt1.pw yg6) yiJ:=okU he (yDJ e _ _ _ _ _ _ _ _ _) (yAW e he) yj6.flat (yai (by kernel_rfl))
def yaZ (a0:yay) (a1:ycw) (a2:yal) (a3:yab) (a4:yag) (a5:yag) (a6:yag) (x0:Int→Int→Int→Prop) (x1:Int→Ls→Ls→Int→Int→Int→Int→Int→Int→Int→Int→Ls→Int→Int→Bool→Prop):Nat→Int→Ls→Ls→Int→Int→Int→Int→Int→Int→Int→Int→Ls→Int→Int→Prop
 | 0,_,_,_,_,_,_,_,_,_,_,_,_,_,_=>False
 | n+1,i0,l1,l2,i3,i4,i5,i6,i7,i8,i9,i10,l11,i12,i13 =>
 (cbr (decide (i13<i12))
 (asr (decide ((0:Int)≤i13))
 (asr (decide (i13<(((List.length l11):Nat):Int)))
 (asr (conf zI (List.getD l11 (i13.toNat) .nils))
 (asr (decide ((0:Int)≤(IntKind.i64.wrap (i13+(1:Int)))))
 (asr (decide ((IntKind.i64.wrap (i13+(1:Int)))<(((List.length l1):Nat):Int)))
 (asr (conf zI (List.getD l1 ((IntKind.i64.wrap (i13+(1:Int))).toNat) .nils))
 (a3 (yac (List.getD l1 ((IntKind.i64.wrap (i13+(1:Int))).toNat) .nils)) (fun a b =>
 (a2 i3 i4 a b (fun i =>
 (cbr i
 (cbr ((yac (List.getD l11 (i13.toNat) .nils)) ==(0:Int))
 (a2 i9 i10 i3 i4 (fun j =>
 (cbr j
 (yaZ a0 a1 a2 a3 a4 a5 a6 x0 x1 n i0 l1 l2 i3 i4 i5 i6 i7 i8 i3 i4 l11 i12 (IntKind.i64.wrap (i13+(1:Int))))
 (yaZ a0 a1 a2 a3 a4 a5 a6 x0 x1 n i0 l1 l2 i3 i4 i5 i6 i7 i8 i9 i10 l11 i12 (IntKind.i64.wrap (i13+(1:Int)))))))
 (a2 i9 i10 i3 i4 (fun k =>
 (cbr (!k)
 (a2 i9 i10 i3 i4 (fun l =>
 (cbr l
 (yaZ a0 a1 a2 a3 a4 a5 a6 x0 x1 n i0 l1 l2 i3 i4 i5 i6 i7 i8 i3 i4 l11 i12 (IntKind.i64.wrap (i13+(1:Int))))
 (yaZ a0 a1 a2 a3 a4 a5 a6 x0 x1 n i0 l1 l2 i3 i4 i5 i6 i7 i8 i9 i10 l11 i12 (IntKind.i64.wrap (i13+(1:Int)))))))
 (a4 i3 i4 i9 i10 (fun m o c =>
 (cbr (c !=(0:Int))
 (x0 (0:Int) (0:Int) c)
 (a3 (yac (List.getD l11 (i13.toNat) .nils)) (fun p q =>
 (a5 m o p q (fun r s d =>
 (cbr (d !=(0:Int))
 (x0 (0:Int) (0:Int) d)
 (a6 i7 i8 r s (fun t u e =>
 (cbr (e !=(0:Int))
 (x0 (0:Int) (0:Int) e)
 (yaZ a0 a1 a2 a3 a4 a5 a6 x0 x1 n i0 l1 l2 i3 i4 i5 i6 t u i3 i4 l11 i12 (IntKind.i64.wrap (i13+(1:Int)))))))))))))))))))
 (cbr ((yac (List.getD l11 (i13.toNat) .nils)) ==(0:Int))
 (a2 i9 i10 a b (fun v =>
 (cbr v
 (yaZ a0 a1 a2 a3 a4 a5 a6 x0 x1 n i0 l1 l2 i3 i4 i5 i6 i7 i8 a b l11 i12 (IntKind.i64.wrap (i13+(1:Int))))
 (yaZ a0 a1 a2 a3 a4 a5 a6 x0 x1 n i0 l1 l2 i3 i4 i5 i6 i7 i8 i9 i10 l11 i12 (IntKind.i64.wrap (i13+(1:Int)))))))
 (a2 i9 i10 a b (fun w =>
 (cbr (!w)
 (a2 i9 i10 a b (fun x =>
 (cbr x
 (yaZ a0 a1 a2 a3 a4 a5 a6 x0 x1 n i0 l1 l2 i3 i4 i5 i6 i7 i8 a b l11 i12 (IntKind.i64.wrap (i13+(1:Int))))
 (yaZ a0 a1 a2 a3 a4 a5 a6 x0 x1 n i0 l1 l2 i3 i4 i5 i6 i7 i8 i9 i10 l11 i12 (IntKind.i64.wrap (i13+(1:Int)))))))
 (a4 a b i9 i10 (fun y z f =>
 (cbr (f !=(0:Int))
 (x0 (0:Int) (0:Int) f)
 (a3 (yac (List.getD l11 (i13.toNat) .nils)) (fun A B =>
 (a5 y z A B (fun C D g =>
 (cbr (g !=(0:Int))
 (x0 (0:Int) (0:Int) g)
 (a6 i7 i8 C D (fun E F h =>
 (cbr (h !=(0:Int))
 (x0 (0:Int) (0:Int) h)
 (yaZ a0 a1 a2 a3 a4 a5 a6 x0 x1 n i0 l1 l2 i3 i4 i5 i6 E F a b l11 i12 (IntKind.i64.wrap (i13+(1:Int))))))))))))))))))))))))))))))
 (x1 i0 l1 l2 i3 i4 i5 i6 i7 i8 i9 i10 l11 i12 i13 false))
def ylq (a0:yay) (a1:ycw) (a2:yal) (a3:yab) (a4:yag) (a5:yag) (a6:yag) (p0:Int) (p1 p2:Ls) (p3 p4 p5 p6:Int) (K:Int→Int→Int→Prop):Prop :=
 (a0 p0 p1 p2 (fun a =>
 (cbr (a !=(0:Int))
 (K (0:Int) (0:Int) a)
 (a1 p0 p1 p2 p3 p4 (fun b =>
 (cbr (!b)
 (K (0:Int) (0:Int) (2:Int))
 (a1 p0 p1 p2 p5 p6 (fun c =>
 (cbr (!c)
 (K (0:Int) (0:Int) (2:Int))
 (a2 p5 p6 p3 p4 (fun d =>
 (cbr d
 (K (0:Int) (0:Int) (2:Int))
 (a3 (0:Int) (fun e f =>
 (∃ n:Nat,yaZ a0 a1 a2 a3 a4 a5 a6
 (fun g h i=>(K g h i))
 (fun _ _ _ _ _ _ _ j k _ _ _ _ _ _=>(K j k (0:Int)))
 n p0 p1 p2 p5 p6 (0:Int) (0:Int) e f p3 p4 p2 (((List.length p2):Nat):Int) (0:Int))))))))))))))))
def ybt:yc1:=ylq yaC ycx ycF ycv ybW ybO yaU
def yvJ (Q:Qx):Int→Int→Int→Prop:=(fun i0 i1 i2=>Q .ret [(6,.box (.agg [(.int .i64 i0),(.int .i64 i1)])),(7,.v (.int .i64 i2))] [])
def yvK (Q:Qx):Int→Ls→Ls→Int→Int→Int→Int→Int→Int→Int→Int→Ls→Int→Int→Bool→Prop:=(fun i0 l1 l2 i3 i4 i5 i6 i7 i8 i9 i10 l11 i12 i13 b14=>Q (.exit 0) [(3,.box (.agg [(.int .i64 i0),(.data l1),(.data l2)])),(5,.box (.agg [(.int .i64 i3),(.int .i64 i4)])),(6,.box (.agg [(.int .i64 i5),(.int .i64 i6)])),(9,.box (.agg [(.int .i64 i7),(.int .i64 i8)])),(10,.box (.agg [(.int .i64 i9),(.int .i64 i10)])),(42,.v (.data l11)),(43,.v (.int .i64 i12)),(44,.v (.int .i64 i13)),(45,.v (.bool b14))] [])
def yos (a0:yay) (a1:ycw) (a2:yal) (a3:yab) (a4:yag) (a5:yag) (a6:yag) (Q:Qx):List St:=[⟨(pS hN (fX 3 pt14 (fX 5 pt6 (fX 6 pt6 (fX 9 pt6 (fX 10 pt6 (fV 42 vD (fV 43 pt0 (fV 44 pt0 fN)))))))) fN),yaZ a0 a1 a2 a3 a4 a5 a6 (yvJ Q) (yvK Q)⟩]
def yrN (a0:yay) (a1:ycw) (a2:yal) (a3:yab) (a4:yag) (a5:yag) (a6:yag):LP:=lpS [(85339800,yos a0 a1 a2 a3 a4 a5 a6)]
def ylr (e:Es) (a0:yay) (a1:ycw) (a2:yal) (a3:yab) (a4:yag) (a5:yag) (a6:yag):SE:=sE (E e) [(yby,yrJ.pw a0),(ydM,yAS.pw a1),(yck,ynD.pw a2),(ybz,yis.pw a3),(yeF,yju.pw a4),(ydk,yju.pw a5),(ycD,yju.pw a6)] (yrN a0 a1 a2 a3 a4 a5 a6)
theorem ypu (e:Es) (he:EG e):SEOk (Uni (E e)) (ylr e yaC ycx ycF ycv ybW ybO yaU):=yaw (Sub.uni _) ⟨(ydX e he),(ylp e he),(yjw e he),(yit e he),(yjv e he),(yhy e he),(yfp e he),trivial⟩ trivial he.ok
theorem yt5 (e:Es) (a0 a1 a2 a3 a4 a5 a6):ycp (ylr e a0 a1 a2 a3 a4 a5 a6) 5 a ym8 false (yos a0 a1 a2 a3 a4 a5 a6):=fun _=>⟨fun _=>by kernel_rfl,fun _ _=>by kernel_rfl,trivial⟩
theorem yt6 (e:Es) (he:EG e):LpT (Uni (E e)) (yrN yaC ycx ycF ycv ybW ybO yaU) [] 85339800 (.loop 85339800 ym8):=fun _ _ _=>yok.st (Sub.uni _) (yaD (ypu e he) 5) (YOk.no _ _) (yai (by kernel_rfl)) (yt5 e _ _ _ _ _ _ _ _)
theorem yAX (e:Es) (a0 a1 a2 a3 a4 a5 a6):EqW (ylr e a0 a1 a2 a3 a4 a5 a6) 6 yDo yt1 (ylq a0 a1 a2 a3 a4 a5 a6):=fun _ _=>by kernel_rfl
theorem yiu (e:Es) (he:EG e):OkF (E e) (yt1.pw ybt) yeG:=okU he (yAX e _ _ _ _ _ _ _) (ypu e he) yj6.flat (ybe (l:=[(85339800,.loop 85339800 ym8)]) ⟨yt6 e he,trivial⟩ (by kernel_rfl))
abbrev yaa:Type:=Ls→Ls→(Bool→Prop)→Prop
def yba (x0:Ls→Ls→Int→Int→Bool→Prop) (x1:Bool→Prop):Nat→Ls→Ls→Int→Int→Prop
 | 0,_,_,_,_=>False
 | n+1,l0,l1,i2,i3 =>
 (cbr (decide (i3<i2))
 (asr (decide ((0:Int)≤i3))
 (asr (decide (i3<(((List.length l0):Nat):Int)))
 (lt (List.getD l0 (i3.toNat) .nils) (fun a =>
 (asr (conf z2 a)
 (asr (decide ((0:Int)≤i3))
 (asr (decide (i3<(((List.length l1):Nat):Int)))
 (lt (List.getD l1 (i3.toNat) .nils) (fun b =>
 (asr (conf z2 b)
 (cbr (!(((yac (yaj a 0)) ==(yac (yaj b 0)))&&(((yac (yaj a 1)) ==(yac (yaj b 1)))&&true)))
 (x1 false)
 (lt (IntKind.i64.wrap (i3+(1:Int))) (fun c =>
 (yba x0 x1 n l0 l1 i2 c))))))))))))))
 (x0 l0 l1 i2 i3 false))
def yda (p0 p1:Ls) (K:Bool→Prop):Prop :=
 (cbr ((((List.length p0):Nat):Int) !=(((List.length p1):Nat):Int))
 (K false)
 (∃ n:Nat,yba
 (fun _ _ _ _ _=>(K true))
 (fun a=>(K a))
 n p0 p1 (((List.length p0):Nat):Int) (0:Int)))
def yaz:yaa:=yda
def ydb:Sg:=⟨pt13,Bool→Prop,fun K=>(fun r0=>K (.bool r0))⟩
def yhb (Q:Qx):Ls→Ls→Int→Int→Bool→Prop:=(fun l0 l1 i2 i3 b4=>Q (.exit 0) [(0,.v (.data l0)),(1,.v (.data l1)),(12,.v (.int .i64 i2)),(13,.v (.int .i64 i3)),(14,.v (.bool b4))] [])
def yhc (Q:Qx):Bool→Prop:=(fun b0=>Q .ret [(4,.v (.bool b0))] [])
def yeK (Q:Qx):List St:=[⟨(pS hN (fV 0 vD (fV 1 vD (fV 12 pt0 (fV 13 pt0 fN)))) fN),yba (yhb Q) (yhc Q)⟩]
def ye4:LP:=lpS [(11234800,yeK)]
def ydc (e:Es):SE:=sE (E e) [] (ye4)
theorem yeU (e:Es) (he:EG e):SEOk (Uni (E e)) (ydc e):=yaw (Sub.uni _) trivial trivial he.ok
theorem ygT (e:Es):ycp (ydc e) 5 a ynq false (yeK):=fun _=>⟨fun _=>by kernel_rfl,fun _ _=>by kernel_rfl,trivial⟩
theorem ygU (e:Es) (he:EG e):LpT (Uni (E e)) (ye4) [] 11234800 (.loop 11234800 ynq):=fun _ _ _=>yok.st (Sub.uni _) (yaD (yeU e he) 5) (YOk.no _ _) (yai (by kernel_rfl)) (ygT e _)
theorem yh6 (e:Es):EqW (ydc e) 6 yiN ydb yda:=fun _ _=>by kernel_rfl
theorem ydd (e:Es) (he:EG e):OkF (E e) (ydb.pw yaz) yaR:=okU he (yh6 e) (yeU e he) yj6.flat (ybe (l:=[(11234800,.loop 11234800 ynq)]) ⟨ygU e he,trivial⟩ (by kernel_rfl))
set_option linter.unusedVariables false
theorem yzj (p0:Int) (p1:Ls) (p2:Ls) (r0:Int) (h:∀ K:Int→Prop,K r0→yaC p0 p1 p2 K) (K:Int→Prop):yaC p0 p1 p2 K=K r0 :=
 propext ⟨fun k=>detC (ydX [] ybm) (as:=[(.agg [(.int .i64 p0),(.data p1),(.data p2)])]) (x:=(.int .i64 r0)) (fun K' k'=>h (fun r0=>K' (.int .i64 r0)) k') (K:=fun x=>match x with | (.int .i64 r0)=>K r0 | _=>False) k,h K⟩
theorem yzk (p0:Int) (p1:Ls) (p2:Ls) (r0:Int) (r1:Int) (h:∀ K:Int→Int→Prop,K r0 r1→yaf p0 p1 p2 K) (K:Int→Int→Prop):yaf p0 p1 p2 K=K r0 r1 :=
 propext ⟨fun k=>detC (ydY [] ybm) (as:=[(.agg [(.int .i64 p0),(.data p1),(.data p2)])]) (x:=(.tup [(.int .i64 r0),(.int .i64 r1)])) (fun K' k'=>h (fun r0 r1=>K' (.tup [(.int .i64 r0),(.int .i64 r1)])) k') (K:=fun x=>match x with | (.tup [(.int .i64 r0),(.int .i64 r1)])=>K r0 r1 | _=>False) k,h K⟩
theorem yAY (p0:Int) (p1:Ls) (p2:Ls) (p3:Int) (p4:Int) (p5:Int) (p6:Int) (r0:Int) (r1:Int) (r2:Int) (h:∀ K:Int→Int→Int→Prop,K r0 r1 r2→yg6 p0 p1 p2 p3 p4 p5 p6 K) (K:Int→Int→Int→Prop):yg6 p0 p1 p2 p3 p4 p5 p6 K=K r0 r1 r2 :=
 propext ⟨fun k=>detC (yt4 [] ybm) (as:=[(.agg [(.int .i64 p0),(.data p1),(.data p2)]),(.agg [(.int .i64 p3),(.int .i64 p4)]),(.agg [(.int .i64 p5),(.int .i64 p6)])]) (x:=(.tup [(.agg [(.int .i64 r0),(.int .i64 r1)]),(.int .i64 r2)])) (fun K' k'=>h (fun r0 r1 r2=>K' (.tup [(.agg [(.int .i64 r0),(.int .i64 r1)]),(.int .i64 r2)])) k') (K:=fun x=>match x with | (.tup [(.agg [(.int .i64 r0),(.int .i64 r1)]),(.int .i64 r2)])=>K r0 r1 r2 | _=>False) k,h K⟩
theorem yzl (p0:Int) (p1:Ls) (p2:Ls) (p3:Int) (p4:Int) (p5:Int) (p6:Int) (r0:Int) (r1:Int) (r2:Int) (h:∀ K:Int→Int→Int→Prop,K r0 r1 r2→ybt p0 p1 p2 p3 p4 p5 p6 K) (K:Int→Int→Int→Prop):ybt p0 p1 p2 p3 p4 p5 p6 K=K r0 r1 r2 :=
 propext ⟨fun k=>detC (yiu [] ybm) (as:=[(.agg [(.int .i64 p0),(.data p1),(.data p2)]),(.agg [(.int .i64 p3),(.int .i64 p4)]),(.agg [(.int .i64 p5),(.int .i64 p6)])]) (x:=(.tup [(.agg [(.int .i64 r0),(.int .i64 r1)]),(.int .i64 r2)])) (fun K' k'=>h (fun r0 r1 r2=>K' (.tup [(.agg [(.int .i64 r0),(.int .i64 r1)]),(.int .i64 r2)])) k') (K:=fun x=>match x with | (.tup [(.agg [(.int .i64 r0),(.int .i64 r1)]),(.int .i64 r2)])=>K r0 r1 r2 | _=>False) k,h K⟩
theorem yhM (p0:Ls) (p1:Ls) (r0:Bool) (h:∀ K:Bool→Prop,K r0→yaz p0 p1 K) (K:Bool→Prop):yaz p0 p1 K=K r0 :=
 propext ⟨fun k=>detC (ydd [] ybm) (as:=[(.data p0),(.data p1)]) (x:=(.bool r0)) (fun K' k'=>h (fun r0=>K' (.bool r0)) k') (K:=fun x=>match x with | (.bool r0)=>K r0 | _=>False) k,h K⟩
def ykf (a0:ycE) (p0 p1 p2 p3:Int) (K:Bool→Prop):Prop :=
 (a0 p0 p1 p2 p3 (fun a b =>
 (cbr (b ==(0:Int))
 (K (decide (a<(0:Int))))
 (K false))))
def ycK:yal:=ykf yc0
def pt21:VPt:=vA (lC pt0 (lC pt0 pt5))
def yzm:Sg:=⟨(lC pt21 lN),Bool→Prop,fun K=>(fun r0=>K (.bool r0))⟩
def yzn (e:Es) (a0:ycE):SE:=sE (E e) [(ybU,yDw.pw a0)] lp0
theorem yzo (e:Es) (a0):EqW (yzn e a0) 6 yAt yzm (ykf a0):=fun _ _=>by kernel_rfl
theorem ypv (e:Es) (he:EG e):OkF (E e) (yzm.pw ycK) ygG:=okU he (yzo e _) (yaw (Sub.uni _) ⟨(yfo e he),trivial⟩ trivial he.ok) yj6.flat (yai (by kernel_rfl))
def yeu (a0:yal) (x0:Int→Prop) (x1:Ls→Int→Int→Bool→Prop):Nat→Ls→Int→Int→Prop
 | 0,_,_,_=>False
 | n+1,l0,i1,i2 =>
 (cbr (decide (i2<i1))
 (asr (decide ((0:Int)≤i2))
 (asr (decide (i2<(((List.length l0):Nat):Int)))
 (asr (conf z4 (List.getD l0 (i2.toNat) .nils))
 (a0 (yac (yaj (List.getD l0 (i2.toNat) .nils) 0)) (yac (yaj (List.getD l0 (i2.toNat) .nils) 1)) (yac (yaj (List.getD l0 (i2.toNat) .nils) 2)) (yac (yaj (List.getD l0 (i2.toNat) .nils) 3)) (fun a =>
 (cbr (!a)
 (x0 (8:Int))
 (yeu a0 x0 x1 n l0 i1 (IntKind.i64.wrap (i2+(1:Int))))))))))
 (x1 l0 i1 i2 false))
def ynG (a0:yal) (p0:Ls) (K:Int→Prop):Prop :=
 (cbr (decide ((((List.length p0):Nat):Int)>(60:Int)))
 (K (4:Int))
 (∃ n:Nat,yeu a0
 (fun a=>(K a))
 (fun _ _ _ _=>(K (0:Int)))
 n p0 (((List.length p0):Nat):Int) (0:Int)))
def yeL:yak:=ynG ycK
def yw8 (Q:Qx):Int→Prop:=(fun i0=>Q .ret [(2,.v (.int .i64 i0))] [])
def yw9 (Q:Qx):Ls→Int→Int→Bool→Prop:=(fun l0 i1 i2 b3=>Q (.exit 0) [(8,.v (.data l0)),(9,.v (.int .i64 i1)),(10,.v (.int .i64 i2)),(11,.v (.bool b3))] [])
def ypw (a0:yal) (Q:Qx):List St:=[⟨(pS hN (fV 8 vD (fV 9 pt0 (fV 10 pt0 fN))) fN),yeu a0 (yw8 Q) (yw9 Q)⟩]
def yt7 (a0:yal):LP:=lpS [(56157900,ypw a0)]
def ynH (e:Es) (a0:yal):SE:=sE (E e) [(ygG,yzm.pw a0)] (yt7 a0)
theorem yrO (e:Es) (he:EG e):SEOk (Uni (E e)) (ynH e ycK):=yaw (Sub.uni _) ⟨(ypv e he),trivial⟩ trivial he.ok
theorem yvL (e:Es) (a0):ycp (ynH e a0) 5 a ynh false (ypw a0):=fun _=>⟨fun _=>by kernel_rfl,fun _ _=>by kernel_rfl,trivial⟩
theorem yvM (e:Es) (he:EG e):LpT (Uni (E e)) (yt7 ycK) [] 56157900 (.loop 56157900 ynh):=fun _ _ _=>yok.st (Sub.uni _) (yaD (yrO e he) 5) (YOk.no _ _) (yai (by kernel_rfl)) (yvL e _ _)
theorem yDK (e:Es) (a0):EqW (ynH e a0) 6 yFL ycU (ynG a0):=fun _ _=>by kernel_rfl
theorem yt8 (e:Es) (he:EG e):OkF (E e) (ycU.pw yeL) yiM:=okU he (yDK e _) (yrO e he) yj6.flat (ybe (l:=[(56157900,.loop 56157900 ynh)]) ⟨yvM e he,trivial⟩ (by kernel_rfl))
def ykg (a0:ycE) (p0 p1 p2 p3:Int) (K:Int→Prop):Prop :=
 (a0 p0 p1 p2 p3 (fun a _ =>
 (K a)))
def ybd:yaH:=ykg yc0
def yzp (e:Es) (a0:ycE):SE:=sE (E e) [(ybU,yDw.pw a0)] lp0
theorem yzq (e:Es) (a0):EqW (yzp e a0) 6 yAu ypg (ykg a0):=fun _ _=>by kernel_rfl
theorem ykh (e:Es) (he:EG e):OkF (E e) (ypg.pw ybd) ydP:=okU he (yzq e _) (yaw (Sub.uni _) ⟨(yfo e he),trivial⟩ trivial he.ok) yj6.flat (yai (by kernel_rfl))
def ycR (a0:yak) (a1:yaH) (x0:Int→Prop) (x1:Ls→Int→Bool→Prop):Nat→Ls→Int→Prop
 | 0,_,_=>False
 | n+1,l0,i1 =>
 (cbr (decide (i1<(((List.length l0):Nat):Int)))
 (asr (decide ((0:Int)≤(IntKind.i64.wrap (i1-(1:Int)))))
 (asr (decide ((IntKind.i64.wrap (i1-(1:Int)))<(((List.length l0):Nat):Int)))
 (asr (conf z4 (List.getD l0 ((IntKind.i64.wrap (i1-(1:Int))).toNat) .nils))
 (asr (decide ((0:Int)≤i1))
 (asr (decide (i1<(((List.length l0):Nat):Int)))
 (asr (conf z4 (List.getD l0 (i1.toNat) .nils))
 (a1 (yac (yaj (List.getD l0 ((IntKind.i64.wrap (i1-(1:Int))).toNat) .nils) 2)) (yac (yaj (List.getD l0 ((IntKind.i64.wrap (i1-(1:Int))).toNat) .nils) 3)) (yac (yaj (List.getD l0 (i1.toNat) .nils) 0)) (yac (yaj (List.getD l0 (i1.toNat) .nils) 1)) (fun a =>
 (cbr (decide (a≥(0:Int)))
 (x0 (8:Int))
 (ycR a0 a1 x0 x1 n l0 (IntKind.i64.wrap (i1+(1:Int)))))))))))))
 (x1 l0 i1 false))
def yki (a0:yak) (a1:yaH) (p0:Ls) (K:Int→Prop):Prop :=
 (a0 p0 (fun a =>
 (cbr (a !=(0:Int))
 (K a)
 (∃ n:Nat,ycR a0 a1
 (fun b=>(K b))
 (fun _ _ _=>(K (0:Int)))
 n p0 (1:Int)))))
def yaW:yak:=yki yeL ybd
def yt9 (Q:Qx):Int→Prop:=(fun i0=>Q .ret [(2,.v (.int .i64 i0))] [])
def yua (Q:Qx):Ls→Int→Bool→Prop:=(fun l0 i1 b2=>Q (.exit 0) [(0,.v (.data l0)),(4,.v (.int .i64 i1)),(13,.v (.bool b2))] [])
def ymo (a0:yak) (a1:yaH) (Q:Qx):List St:=[⟨(pS hN (fV 0 vD pt11) fN),ycR a0 a1 (yt9 Q) (yua Q)⟩]
def ypx (a0:yak) (a1:yaH):LP:=lpS [(17365500,ymo a0 a1)]
def ykj (e:Es) (a0:yak) (a1:yaH):SE:=sE (E e) [(yiM,ycU.pw a0),(ydP,ypg.pw a1)] (ypx a0 a1)
theorem yot (e:Es) (he:EG e):SEOk (Uni (E e)) (ykj e yeL ybd):=yaw (Sub.uni _) ⟨(yt8 e he),(ykh e he),trivial⟩ trivial he.ok
theorem ysM (e:Es) (a0 a1):ycp (ykj e a0 a1) 5 a yni false (ymo a0 a1):=fun _=>⟨fun _=>by kernel_rfl,fun _ _=>by kernel_rfl,trivial⟩
theorem ysN (e:Es) (he:EG e):LpT (Uni (E e)) (ypx yeL ybd) [] 17365500 (.loop 17365500 yni):=fun _ _ _=>yok.st (Sub.uni _) (yaD (yot e he) 5) (YOk.no _ _) (yai (by kernel_rfl)) (ysM e _ _ _)
theorem yzr (e:Es) (a0 a1):EqW (ykj e a0 a1) 6 yAv ycU (yki a0 a1):=fun _ _=>by kernel_rfl
theorem yhz (e:Es) (he:EG e):OkF (E e) (ycU.pw yaW) ydQ:=okU he (yzr e _ _) (yot e he) yj6.flat (ybe (l:=[(17365500,.loop 17365500 yni)]) ⟨ysN e he,trivial⟩ (by kernel_rfl))
abbrev yAZ:Type:=Int→Ls→Ls→Ls→(Int→Int→Int→Prop)→Prop
def ybR (a0:yay) (a1:yak) (a2:yaH) (a3:yc1) (a4:yag) (x0:Int→Ls→Ls→Int→Int→Int→Int→Ls→Int→Int→Bool→Prop) (x1:Int→Ls→Ls→Int→Int→Int→Prop):Nat→Int→Ls→Ls→Int→Int→Int→Int→Ls→Int→Int→Prop
 | 0,_,_,_,_,_,_,_,_,_,_=>False
 | n+1,i0,l1,l2,i3,i4,i5,i6,l7,i8,i9 =>
 (cbr (decide (i9<i8))
 (asr (decide ((0:Int)≤i9))
 (asr (decide (i9<(((List.length l7):Nat):Int)))
 (lt (List.getD l7 (i9.toNat) .nils) (fun a =>
 (asr (conf z4 a)
 (a3 i0 l1 l2 (yac (yaj a 0)) (yac (yaj a 1)) (yac (yaj a 2)) (yac (yaj a 3)) (fun d e b =>
 (cbr (b !=(0:Int))
 (x1 i0 l1 l2 (0:Int) (0:Int) b)
 (a4 i5 i6 d e (fun f g c =>
 (cbr (c !=(0:Int))
 (x1 i0 l1 l2 (0:Int) (0:Int) c)
 (lt (IntKind.i64.wrap (i9+(1:Int))) (fun h =>
 (ybR a0 a1 a2 a3 a4 x0 x1 n i0 l1 l2 i3 i4 f g l7 i8 h))))))))))))))
 (x0 i0 l1 l2 i3 i4 i5 i6 l7 i8 i9 false))
def ykk (a0:yay) (a1:yak) (a2:yaH) (a3:yc1) (a4:yag) (p0:Int) (p1 p2 p3:Ls) (K:Int→Int→Int→Prop):Prop :=
 (a0 p0 p1 p2 (fun d =>
 (cbr (d !=(0:Int))
 (K (0:Int) (0:Int) d)
 (a1 p3 (fun e =>
 (cbr (e !=(0:Int))
 (K (0:Int) (0:Int) e)
 (jn (fun (a:Bool→Prop) =>
 (cbr (decide ((((List.length p3):Nat):Int)>(0:Int)))
 (asr (decide ((0:Int)<(((List.length p3):Nat):Int)))
 (lt (List.getD p3 0 .nils) (fun f =>
 (asr (conf z4 f)
 (cbr (decide ((yac (yaj f 0))<(0:Int)))
 (a true)
 (lt (IntKind.i64.wrap ((((List.length p3):Nat):Int)-(1:Int))) (fun b =>
 (asr (decide ((0:Int)≤b))
 (asr (decide (b<(((List.length p3):Nat):Int)))
 (lt (List.getD p3 (b.toNat) .nils) (fun c =>
 (asr (conf z4 c)
 (a2 (yac (yaj c 2)) (yac (yaj c 3)) p0 (1:Int) (fun h =>
 (a (decide (h>(0:Int))))))))))))))))))
 (a false)))
 (fun i=>(cbr i
 (K (0:Int) (0:Int) (2:Int))
 (jn (fun (g:Int→Ls→Ls→Int→Int→Int→Prop) =>
 (∃ n:Nat,ybR a0 a1 a2 a3 a4
 (fun j k l _ _ m o _ _ _ _=>(g j k l m o (0:Int)))
 (fun p q r s t u=>(g p q r s t u))
 n p0 p1 p2 (0:Int) (0:Int) (0:Int) (1:Int) p3 (((List.length p3):Nat):Int) (0:Int)))
 (fun _ _ _ v w x=>(K v w x))))))))))))
def ybN:yAZ:=ykk yaC yaW ybd ybt yaU
def yzs:Sg:=⟨(lC pt14 pt7),Int→Int→Int→Prop,fun K=>(fun r0 r1 r2=>K (.tup [(.agg [(.int .i64 r0),(.int .i64 r1)]),(.int .i64 r2)]))⟩
def ypy (as:Ls) (K:PV→Prop):Prop:=yzs.pw ybN as K
def yub (Q:Qx):Int→Ls→Ls→Int→Int→Int→Int→Ls→Int→Int→Bool→Prop:=(fun i0 l1 l2 i3 i4 i5 i6 l7 i8 i9 b10=>Q (.exit 0) [(1,.v (.fn (.func yeq) [] [(.ptr 0 1 0 0)])),(4,.box (.agg [(.int .i64 i3),(.int .i64 i4)])),(6,.box (.agg [(.int .i64 i5),(.int .i64 i6)])),(12,.v (.data l7)),(13,.v (.int .i64 i8)),(14,.v (.int .i64 i9)),(15,.v (.bool b10))] [⟨false,true,3,([(.agg [(.int .i64 i0),(.data l1),(.data l2)])]:Ls)⟩])
def yuc (Q:Qx):Int→Ls→Ls→Int→Int→Int→Prop:=(fun i0 l1 l2 i3 i4 i5=>Q .ret [(4,.box (.agg [(.int .i64 i3),(.int .i64 i4)])),(5,.v (.int .i64 i5))] [⟨false,true,3,([(.agg [(.int .i64 i0),(.data l1),(.data l2)])]:Ls)⟩])
def pt22:LPt:=lC pt18 lN
def pt23:Pat Frm:=fV 13 pt0 (fV 14 pt0 fN)
def ymp (a0:yay) (a1:yak) (a2:yaH) (a3:yc1) (a4:yag) (Q:Qx):List St:=[⟨(pS (hB false true 3 (rC pt14 rN) hN) (fV 1 (vF yeq lN pt22) (fX 4 pt6 (fX 6 pt6 (fV 12 vD pt23)))) fN),ybR a0 a1 a2 a3 a4 (yub Q) (yuc Q)⟩]
def ykl (a0:yay) (a1:yak) (a2:yaH) (a3:yc1) (a4:yag):LP:=lpS [(87165700,ymp a0 a1 a2 a3 a4)]
def ypz (e:Es) (a0:yay) (a1:yak) (a2:yaH) (a3:yc1) (a4:yag):SE:=⟨(E e),yeB [(yby,yrJ.pw a0),(ydQ,ycU.pw a1),(ydP,ypg.pw a2),(yeG,yt1.pw a3),(ycD,yju.pw a4)],yeC [(yeq,yoo)],ykl a0 a1 a2 a3 a4,fun _=>none⟩
def ypA (e:Es) (a0:yay) (a1:yak) (a2:yaH) (a3:yc1) (a4:yag):SE:=⟨(E e),yeB [(yby,yrJ.pw a0),(ydQ,ycU.pw a1),(ydP,ypg.pw a2),(yeG,yt1.pw a3),(ycD,yju.pw a4)],yeC [(ypb,yFM),(yeq,yoo)],ykl a0 a1 a2 a3 a4,fun _=>none⟩
theorem yxa (e:Es) (he:EG e):SEOk (Uni (E e)) (ypz e yaC yaW ybd ybt yaU):=yaw (Sub.uni _) ⟨(ydX e he),(yhz e he),(ykh e he),(yiu e he),(yfp e he),trivial⟩ ⟨⟨by kernel_rfl,by kernel_rfl,rfl,fun as=>yax (by kernel_rfl) as,he.num _ (by kernel_rfl),by kernel_rfl,(yai (by kernel_rfl))⟩,trivial⟩ he.ok
theorem ysO (e:Es) (a0 a1 a2 a3 a4):ycp (ypz e a0 a1 a2 a3 a4) 5 a ynj false (ymp a0 a1 a2 a3 a4):=fun _=>⟨fun _=>by kernel_rfl,fun _ _=>by kernel_rfl,trivial⟩
theorem ysP (e:Es) (he:EG e):LpT (Uni (E e)) (ykl yaC yaW ybd ybt yaU) [] 87165700 (.loop 87165700 ynj):=fun _ _ _=>yok.st (Sub.uni _) (yaD (yxa e he) 5) (YOk.no _ _) (yai (by kernel_rfl)) (ysO e _ _ _ _ _ _)
theorem yxb (e:Es) (he:EG e):SEOk (Uni (E e)) (ypA e yaC yaW ybd ybt yaU):=yaw (Sub.uni _) ⟨(ydX e he),(yhz e he),(ykh e he),(yiu e he),(yfp e he),trivial⟩ ⟨⟨by kernel_rfl,by kernel_rfl,rfl,fun as=>yax (by kernel_rfl) as,he.num _ (by kernel_rfl),by kernel_rfl,(ybe (l:=[(87165700,.loop 87165700 ynj)]) ⟨ysP e he,trivial⟩ (by kernel_rfl))⟩,⟨by kernel_rfl,by kernel_rfl,rfl,fun as=>yax (by kernel_rfl) as,he.num _ (by kernel_rfl),by kernel_rfl,(yai (by kernel_rfl))⟩,trivial⟩ he.ok
theorem yzt (e:Es) (a0 a1 a2 a3 a4):EqW (ypA e a0 a1 a2 a3 a4) 6 yAy yzs (ykk a0 a1 a2 a3 a4):=fun _ _=>by kernel_rfl
theorem ypB (e:Es) (he:EG e):OkF (E e) (yzs.pw ybN) ybY:=okU he (yzt e _ _ _ _ _) (yxb e he) yj6.flat (yai (by kernel_rfl))
set_option linter.unusedVariables false
theorem yxc (p0:Int) (p1:Int) (p2:Int) (p3:Int) (r0:Bool) (h:∀ K:Bool→Prop,K r0→ycK p0 p1 p2 p3 K) (K:Bool→Prop):ycK p0 p1 p2 p3 K=K r0 :=
 propext ⟨fun k=>detC (ypv [] ybm) (as:=[(.agg [(.int .i64 p0),(.int .i64 p1),(.int .i64 p2),(.int .i64 p3)])]) (x:=(.bool r0)) (fun K' k'=>h (fun r0=>K' (.bool r0)) k') (K:=fun x=>match x with | (.bool r0)=>K r0 | _=>False) k,h K⟩
theorem yA0 (p0:Ls) (r0:Int) (h:∀ K:Int→Prop,K r0→yeL p0 K) (K:Int→Prop):yeL p0 K=K r0 :=
 propext ⟨fun k=>detC (yt8 [] ybm) (as:=[(.data p0)]) (x:=(.int .i64 r0)) (fun K' k'=>h (fun r0=>K' (.int .i64 r0)) k') (K:=fun x=>match x with | (.int .i64 r0)=>K r0 | _=>False) k,h K⟩
theorem yxd (p0:Ls) (r0:Int) (h:∀ K:Int→Prop,K r0→yaW p0 K) (K:Int→Prop):yaW p0 K=K r0 :=
 propext ⟨fun k=>detC (yhz [] ybm) (as:=[(.data p0)]) (x:=(.int .i64 r0)) (fun K' k'=>h (fun r0=>K' (.int .i64 r0)) k') (K:=fun x=>match x with | (.int .i64 r0)=>K r0 | _=>False) k,h K⟩
theorem yxe (p0:Int) (p1:Ls) (p2:Ls) (p3:Ls) (r0:Int) (r1:Int) (r2:Int) (h:∀ K:Int→Int→Int→Prop,K r0 r1 r2→ybN p0 p1 p2 p3 K) (K:Int→Int→Int→Prop):ybN p0 p1 p2 p3 K=K r0 r1 r2 :=
 propext ⟨fun k=>detC (ypB [] ybm) (as:=[(.agg [(.int .i64 p0),(.data p1),(.data p2)]),(.data p3)]) (x:=(.tup [(.agg [(.int .i64 r0),(.int .i64 r1)]),(.int .i64 r2)])) (fun K' k'=>h (fun r0 r1 r2=>K' (.tup [(.agg [(.int .i64 r0),(.int .i64 r1)]),(.int .i64 r2)])) k') (K:=fun x=>match x with | (.tup [(.agg [(.int .i64 r0),(.int .i64 r1)]),(.int .i64 r2)])=>K r0 r1 r2 | _=>False) k,h K⟩
abbrev yaV:Type:=Ls→Ls→(Int→Prop)→Prop
def yev (a0:yay) (a:Int→Prop) (b:Ls→Ls→Ls→Int→Int→Bool→Prop):Nat→Ls→Ls→Ls→Int→Int→Prop
 | 0,_,_,_,_,_=>False
 | d+1,l0,l1,l2,i3,i4 =>
 (cbr (decide (i4<i3))
 (asr (decide ((0:Int)≤i4))
 (asr (decide (i4<(((List.length l2):Nat):Int)))
 (asr (conf zK (List.getD l2 (i4.toNat) .nils))
 (a0 (yac (yaj (List.getD l2 (i4.toNat) .nils) 0)) (yaE (yaj (List.getD l2 (i4.toNat) .nils) 1)) (yaE (yaj (List.getD l2 (i4.toNat) .nils) 2)) (fun c =>
 (cbr (c !=(0:Int))
 (a c)
 (yev a0 a b d l0 l1 l2 i3 (IntKind.i64.wrap (i4+(1:Int))))))))))
 (b l0 l1 l2 i3 i4 false))
def ydz (a0:yay) (a:Int→Prop) (b:Ls→Ls→Ls→Int→Int→Bool→Prop):Nat→Ls→Ls→Ls→Int→Int→Prop
 | 0,_,_,_,_,_=>False
 | c+1,l0,l1,l2,i3,i4 =>
 (cbr (decide (i4<i3))
 (asr (decide ((0:Int)≤i4))
 (asr (decide (i4<(((List.length l2):Nat):Int)))
 (asr (conf zK (List.getD l2 (i4.toNat) .nils))
 (asr (decide ((0:Int)<(((List.length l0):Nat):Int)))
 (asr (conf zK (List.getD l0 0 .nils))
 (cbr ((yac (yaj (List.getD l2 (i4.toNat) .nils) 0)) !=(yac (yaj (List.getD l0 0 .nils) 0)))
 (a (8:Int))
 (ydz a0 a b c l0 l1 l2 i3 (IntKind.i64.wrap (i4+(1:Int))))))))))
 (b l0 l1 l2 i3 i4 false))
def ynI (a0:yay) (p0 p1:Ls) (K:Int→Prop):Prop :=
 (cbr (decide ((((List.length p0):Nat):Int)>(6:Int)))
 (K (4:Int))
 (cbr (decide ((((List.length p1):Nat):Int)>(2000:Int)))
 (K (4:Int))
 (cbr ((((List.length p0):Nat):Int) ==(0:Int))
 (K (8:Int))
 (∃ b:Nat,yev a0
 (fun c=>(K c))
 (fun a d _ _ _ _=>(∃ e:Nat,ydz a0
 (fun f=>(K f))
 (fun _ _ _ _ _ _=>(K (0:Int)))
 e a d a (((List.length a):Nat):Int) (0:Int)))
 b p0 p1 p0 (((List.length p0):Nat):Int) (0:Int)))))
def ybP:yaV:=ynI yaC
def pt24:VPt:=vA pt13
def yud:Sg:=⟨(lC pt24 lN),Int→Prop,fun K=>(fun r0=>K (.int .i64 r0))⟩
def yxf (Q:Qx):Int→Prop:=(fun i0=>Q .ret [(2,.v (.int .i64 i0))] [])
def yxg (Q:Qx):Ls→Ls→Ls→Int→Int→Bool→Prop:=(fun l0 l1 l2 i3 i4 b5=>Q (.exit 0) [(1,.box (.agg [(.data l0),(.data l1)])),(23,.v (.data l2)),(24,.v (.int .i64 i3)),(25,.v (.int .i64 i4)),(26,.v (.bool b5))] [])
def yxh (Q:Qx):Int→Prop:=(fun i0=>Q .ret [(2,.v (.int .i64 i0))] [])
def yxi (Q:Qx):Ls→Ls→Ls→Int→Int→Bool→Prop:=(fun l0 l1 l2 i3 i4 b5=>Q (.exit 2) [(1,.box (.agg [(.data l0),(.data l1)])),(36,.v (.data l2)),(37,.v (.int .i64 i3)),(38,.v (.int .i64 i4)),(39,.v (.bool b5))] [])
def ypC (a0:yay) (Q:Qx):List St:=[⟨(pS hN (fX 1 pt24 (fV 23 vD (fV 24 pt0 (fV 25 pt0 fN)))) fN),yev a0 (yxf Q) (yxg Q)⟩]
def ypD (a0:yay) (Q:Qx):List St:=[⟨(pS hN (fX 1 pt24 (fV 36 vD (fV 37 pt0 (fV 38 pt0 fN)))) fN),ydz a0 (yxh Q) (yxi Q)⟩]
def ynJ (a0:yay):LP:=lpS [(12157600,ypC a0),(12157601,ypD a0)]
def yjx (e:Es) (a0:yay):SE:=sE (E e) [(yby,yrJ.pw a0)] (ynJ a0)
theorem yls (e:Es) (he:EG e):SEOk (Uni (E e)) (yjx e yaC):=yaw (Sub.uni _) ⟨(ydX e he),trivial⟩ trivial he.ok
theorem yvN (e:Es) (a0):ycp (yjx e a0) 5 a ymY false (ypC a0):=fun _=>⟨fun _=>by kernel_rfl,fun _ _=>by kernel_rfl,trivial⟩
theorem yvO (e:Es) (he:EG e):LpT (Uni (E e)) (ynJ yaC) [] 12157600 (.loop 12157600 ymY):=fun _ _ _=>yok.st (Sub.uni _) (yaD (yls e he) 5) (YOk.no _ _) (yai (by kernel_rfl)) (yvN e _ _)
theorem yvP (e:Es) (a0):ycp (yjx e a0) 5 a ymZ false (ypD a0):=fun _=>⟨fun _=>by kernel_rfl,fun _ _=>by kernel_rfl,trivial⟩
theorem yvQ (e:Es) (he:EG e):LpT (Uni (E e)) (ynJ yaC) [] 12157601 (.loop 12157601 ymZ):=fun _ _ _=>yok.st (Sub.uni _) (yaD (yls e he) 5) (YOk.no _ _) (yai (by kernel_rfl)) (yvP e _ _)
theorem yDL (e:Es) (a0):EqW (yjx e a0) 6 yFw yud (ynI a0):=fun _ _=>by kernel_rfl
theorem yfr (e:Es) (he:EG e):OkF (E e) (yud.pw ybP) ycj:=okU he (yDL e _) (yls e he) yj6.flat (ybe (l:=[(12157600,.loop 12157600 ymY),(12157601,.loop 12157601 ymZ)]) ⟨yvO e he,yvQ e he,trivial⟩ (by kernel_rfl))
abbrev yfs:Type:=Ls→(Ls→Prop)→Prop
mutual
def ygm (a0:yds) (x0:Ls→Ls→Int→Int→Bool→Prop) (x1:Ls→Int→Int→Bool→Prop):Nat→Ls→Int→Int→Prop
 | 0,_,_,_=>False
 | n+1,l0,i1,i2 =>
 (cbr (decide (i2<i1))
 (asr (decide ((0:Int)≤i2))
 (asr (decide (i2<(((List.length l0):Nat):Int)))
 (asr (conf zK (List.getD l0 (i2.toNat) .nils))
 (a0 (yaE (yaj (List.getD l0 (i2.toNat) .nils) 1)) (fun a =>
 (a0 (yaE (yaj (List.getD l0 (i2.toNat) .nils) 2)) (fun b =>
 (asr (decide (1=List.length ([(.agg [(.int .i64 (yac (yaj (List.getD l0 (i2.toNat) .nils) 0))),(.data a),(.data b)])]:Ls))&&decide (1=List.length ([(.agg [(.int .i64 (yac (yaj (List.getD l0 (i2.toNat) .nils) 0))),(.data a),(.data b)])]:Ls)))
 (yd3 a0 x0 x1 n ([(.agg [(.int .i64 (yac (yaj (List.getD l0 (i2.toNat) .nils) 0))),(.data a),(.data b)])]:Ls) l0 i1 (IntKind.i64.wrap (i2+(1:Int))))))))))))
 (x1 l0 i1 i2 false))
def yd3 (a0:yds) (x0:Ls→Ls→Int→Int→Bool→Prop) (x1:Ls→Int→Int→Bool→Prop):Nat→Ls→Ls→Int→Int→Prop
 | 0,_,_,_,_=>False
 | n+1,l0,l3,i4,i5 =>
 (cbr (decide (i5<i4))
 (asr (decide ((0:Int)≤i5))
 (asr (decide (i5<(((List.length l3):Nat):Int)))
 (asr (conf zK (List.getD l3 (i5.toNat) .nils))
 (a0 (yaE (yaj (List.getD l3 (i5.toNat) .nils) 1)) (fun a =>
 (a0 (yaE (yaj (List.getD l3 (i5.toNat) .nils) 2)) (fun b =>
 (asr (decide ((List.length l0)=(List.length l0)))
 (asr (decide ((0+(List.length l0))≤(List.length l0)))
 (asr (!(decide (((0+(List.length l0))+1)≤(List.length l0))))
 (asr (decide ((List.length l0)=(List.length l0)))
 (asr (decide ((((List.length l0)+1)+64)*(56+1)≤room))
 (asr (decide ((List.length (l0++([(.agg [(.int .i64 (yac (yaj (List.getD l3 (i5.toNat) .nils) 0))),(.data a),(.data b)])]:Ls)))=List.length (l0++([(.agg [(.int .i64 (yac (yaj (List.getD l3 (i5.toNat) .nils) 0))),(.data a),(.data b)])]:Ls)))&&decide ((List.length (l0++([(.agg [(.int .i64 (yac (yaj (List.getD l3 (i5.toNat) .nils) 0))),(.data a),(.data b)])]:Ls)))=List.length (l0++([(.agg [(.int .i64 (yac (yaj (List.getD l3 (i5.toNat) .nils) 0))),(.data a),(.data b)])]:Ls))))
 (yd3 a0 x0 x1 n (l0++([(.agg [(.int .i64 (yac (yaj (List.getD l3 (i5.toNat) .nils) 0))),(.data a),(.data b)])]:Ls)) l3 i4 (IntKind.i64.wrap (i5+(1:Int)))))))))))))))))
 (x0 l0 l3 i4 i5 false))
end
def ylt (a0:yds) (p0:Ls) (K:Ls→Prop):Prop :=
 (∃ n:Nat,ygm a0
 (fun a _ _ _ _=>(asr (decide ((List.length a)=(List.length a)))
 (asr (decide ((0+(List.length a))≤(List.length a)))
 (K (List.take (List.length a) a)))))
 (fun _ _ _ _=>(K ([]:Ls)))
 n p0 (((List.length p0):Nat):Int) (0:Int))
def yeM:yfs:=ylt yeH
def yA1:Sg:=⟨pt7,Ls→Prop,fun K=>(fun r0=>K (.data r0))⟩
def ymq (Q:Qx):Ls→Ls→Int→Int→Bool→Prop:=(fun l0 l3 i4 i5 b6=>Q (.exit 0) [(3,.v (.own 0 0 (List.length l0) (List.length l0) none)),(6,.v (.data l3)),(7,.v (.int .i64 i4)),(8,.v (.int .i64 i5)),(9,.v (.bool b6))] [⟨false,true,3,l0⟩])
def ymr (Q:Qx):Ls→Int→Int→Bool→Prop:=(fun l0 i1 i2 b3=>Q (.exit 0) [(3,.v .nils),(6,.v (.data l0)),(7,.v (.int .i64 i1)),(8,.v (.int .i64 i2)),(9,.v (.bool b3))] [])
def you (a0:yds) (Q:Qx):List St:=[⟨(pS hN (fV 3 vNs (fV 6 vD pt8)) fN),ygm a0 (ymq Q) (ymr Q)⟩,⟨(pS (hB false true 3 rA hN) (fV 3 (vW 0 (nK 0) (nT 0) (nT 0)) (fV 6 vD pt8)) fN),yd3 a0 (ymq Q) (ymr Q)⟩]
def yrP (a0:yds):LP:=lpS [(94933800,you a0)]
def ylu (e:Es) (a0:yds):SE:=sE (E e) [(ycL,ysz a0)] (yrP a0)
theorem ypE (e:Es) (he:EG e):SEOk (Uni (E e)) (ylu e yeH):=yaw (Sub.uni _) ⟨(ysB e he),trivial⟩ trivial he.ok
theorem yue (e:Es) (a0):ycp (ylu e a0) 5 a ym0 false (you a0):=fun _=>⟨fun _=>by kernel_rfl,fun _ _=>by kernel_rfl,fun _=>by kernel_rfl,fun _ _=>by kernel_rfl,trivial⟩
theorem yuf (e:Es) (he:EG e):LpT (Uni (E e)) (yrP yeH) [] 94933800 (.loop 94933800 ym0):=fun _ _ _=>yok.st (Sub.uni _) (yaD (ypE e he) 5) (YOk.no _ _) (yai (by kernel_rfl)) (yue e _ _)
theorem yA2 (e:Es) (a0):EqW (ylu e a0) 6 yDf yA1 (ylt a0):=fun _ _=>by kernel_rfl
theorem yiv (e:Es) (he:EG e):OkF (E e) (yA1.pw yeM) yeD:=okU he (yA2 e _) (ypE e he) yj6.flat (ybe (l:=[(94933800,.loop 94933800 ym0)]) ⟨yuf e he,trivial⟩ (by kernel_rfl))
abbrev ych:Type:=Ls→(Ls→Ls→Int→Prop)→Prop
def ypF (a0:yaV) (a1:yfs) (p0:Ls) (K:Ls→Ls→Int→Prop):Prop :=
 (a0 p0 ([]:Ls) (fun a =>
 (cbr (a !=(0:Int))
 (K ([]:Ls) ([]:Ls) a)
 (a1 p0 (fun b =>
 (K b ([]:Ls) (0:Int)))))))
def ybG:ych:=ypF ybP yeM
def yFN:Sg:=⟨pt7,Ls→Ls→Int→Prop,fun K=>(fun r0 r1 r2=>K (.tup [(.agg [(.data r0),(.data r1)]),(.int .i64 r2)]))⟩
def yFO (e:Es) (a0:yaV) (a1:yfs):SE:=sE (E e) [(ycj,yud.pw a0),(yeD,yA1.pw a1)] lp0
theorem yFP (e:Es) (a0 a1):EqW (yFO e a0 a1) 6 yHr yFN (ypF a0 a1):=fun _ _=>by kernel_rfl
theorem ywH (e:Es) (he:EG e):OkF (E e) (yFN.pw ybG) yhX:=okU he (yFP e _ _) (yaw (Sub.uni _) ⟨(yfr e he),(yiv e he),trivial⟩ trivial he.ok) yj6.flat (yai (by kernel_rfl))
abbrev ybq:Type:=Ls→Ls→Int→(Bool→Prop)→Prop
def yhA (p0 _:Ls) (p2:Int) (K:Bool→Prop):Prop :=
 (cbr (decide (p2≥(0:Int)))
 (K (decide (p2<(((List.length p0):Nat):Int))))
 (K false))
def ybv:ybq:=yhA
def yug:Sg:=⟨(lC pt24 pt1),Bool→Prop,fun K=>(fun r0=>K (.bool r0))⟩
def yuh (e:Es):SE:=sE (E e) [] lp0
theorem yui (e:Es):EqW (yuh e) 6 yvt yug yhA:=fun _ _=>by kernel_rfl
theorem yfV (e:Es) (he:EG e):OkF (E e) (yug.pw ybv) ybK:=okU he (yui e) (yaw (Sub.uni _) trivial trivial he.ok) yj6.flat (yai (by kernel_rfl))
abbrev yeN:Type:=Ls→Ls→Int→(Int→Int→Prop)→Prop
def ynK (a0:yaV) (a1:ybq) (a2:yav) (p0 p1:Ls) (p2:Int) (K:Int→Int→Prop):Prop :=
 (a0 p0 p1 (fun b =>
 (cbr (b !=(0:Int))
 (K (0:Int) b)
 (a1 p0 p1 p2 (fun c =>
 (cbr (!c)
 (K (0:Int) (2:Int))
 (asr (decide ((0:Int)≤p2))
 (asr (decide (p2<(((List.length p0):Nat):Int)))
 (lt (List.getD p0 (p2.toNat) .nils) (fun a =>
 (asr (conf zK a)
 (a2 (yac (yaj a 0)) (yaE (yaj a 1)) (yaE (yaj a 2)) (fun d e =>
 (K d e))))))))))))))
def ypG:yeN:=ynK ybP ybv yaf
def yDM:Sg:=⟨(lC pt24 pt1),Int→Int→Prop,fun K=>(fun r0 r1=>K (.tup [(.int .i64 r0),(.int .i64 r1)]))⟩
def yDN (e:Es) (a0:yaV) (a1:ybq) (a2:yav):SE:=sE (E e) [(ycj,yud.pw a0),(ybK,yug.pw a1),(ycb,yAO.pw a2)] lp0
theorem yDO (e:Es) (a0 a1 a2):EqW (yDN e a0 a1 a2) 6 yFx yDM (ynK a0 a1 a2):=fun _ _=>by kernel_rfl
theorem yDP (e:Es) (he:EG e):OkF (E e) (yDM.pw ypG) yiI:=okU he (yDO e _ _ _) (yaw (Sub.uni _) ⟨(yfr e he),(yfV e he),(ydY e he),trivial⟩ trivial he.ok) yj6.flat (yai (by kernel_rfl))
abbrev yaL:Type:=Ls→Ls→Int→Int→Int→Int→Int→(Int→Int→Int→Prop)→Prop
def yft (a0:yc1) (p0 _:Ls) (p2 p3 p4 p5 p6:Int) (K:Int→Int→Int→Prop):Prop :=
 (asr (decide ((0:Int)≤p2))
 (asr (decide (p2<(((List.length p0):Nat):Int)))
 (asr (conf zK (List.getD p0 (p2.toNat) .nils))
 (a0 (yac (yaj (List.getD p0 (p2.toNat) .nils) 0)) (yaE (yaj (List.getD p0 (p2.toNat) .nils) 1)) (yaE (yaj (List.getD p0 (p2.toNat) .nils) 2)) p3 p4 p5 p6 (fun a b c =>
 (K a b c))))))
def ybS:yaL:=yft yg6
def pt25:LPt:=lC pt24 (lC pt0 pt10)
def ykm:Sg:=⟨pt25,Int→Int→Int→Prop,fun K=>(fun r0 r1 r2=>K (.tup [(.agg [(.int .i64 r0),(.int .i64 r1)]),(.int .i64 r2)]))⟩
def ysQ (e:Es) (a0:yc1):SE:=sE (E e) [(yiJ,yt1.pw a0)] lp0
theorem ysR (e:Es) (a0):EqW (ysQ e a0) 6 ytP ykm (yft a0):=fun _ _=>by kernel_rfl
theorem ykn (e:Es) (he:EG e):OkF (E e) (ykm.pw ybS) ycN:=okU he (ysR e _) (yaw (Sub.uni _) ⟨(yt4 e he),trivial⟩ trivial he.ok) yj6.flat (yai (by kernel_rfl))
abbrev ydA:Type:=Ls→Ls→Int→Int→Int→Int→Int→(Ls→Ls→Int→Int→Int→Prop)→Prop
def ypH (a0:yaV) (a1:ybq) (a2:yaL) (a3:yfs) (p0 p1:Ls) (p2 p3 p4 p5 p6:Int) (K:Ls→Ls→Int→Int→Int→Prop):Prop :=
 (a0 p0 p1 (fun c =>
 (cbr (c !=(0:Int))
 (K ([]:Ls) ([]:Ls) (0:Int) (0:Int) c)
 (a1 p0 p1 p2 (fun f =>
 (cbr (!f)
 (K ([]:Ls) ([]:Ls) (0:Int) (0:Int) (2:Int))
 (a2 p0 p1 p2 p3 p4 p5 p6 (fun a b d =>
 (cbr (d !=(0:Int))
 (K ([]:Ls) ([]:Ls) (0:Int) (0:Int) d)
 (cbr (decide ((((List.length p1):Nat):Int)≥(2000:Int)))
 (K ([]:Ls) ([]:Ls) (0:Int) (0:Int) (4:Int))
 (asr (decide ((0:Int)≤(IntKind.i64.wrap ((((List.length p1):Nat):Int)+(1:Int)))))
 (asr (decide ((((IntKind.i64.wrap ((((List.length p1):Nat):Int)+(1:Int))).toNat)+64)*(64+1)≤room))
 (a3 p0 (fun e =>
 (asr (yd7 8 p1)
 (asr (decide ((List.length (List.replicate ((IntKind.i64.wrap ((((List.length p1):Nat):Int)+(1:Int))).toNat) ((.agg [(.int .i64 (0)),(.int .u8 (0)),(.int .i64 (0)),(.int .i64 (0)),(.int .i64 (0)),(.int .i64 (0)),(.int .i64 (0)),(.int .i64 (0))]):PV)))=((IntKind.i64.wrap ((((List.length p1):Nat):Int)+(1:Int))).toNat)))
 (asr (decide (0≤((IntKind.i64.wrap ((((List.length p1):Nat):Int)+(1:Int))).toNat)))
 (cbr (List.isEmpty p1)
 (asr (decide ((List.length (List.replicate ((IntKind.i64.wrap ((((List.length p1):Nat):Int)+(1:Int))).toNat) ((.agg [(.int .i64 (0)),(.int .u8 (0)),(.int .i64 (0)),(.int .i64 (0)),(.int .i64 (0)),(.int .i64 (0)),(.int .i64 (0)),(.int .i64 (0))]):PV)))=((IntKind.i64.wrap ((((List.length p1):Nat):Int)+(1:Int))).toNat)))
 (asr (decide (0≤((IntKind.i64.wrap ((((List.length p1):Nat):Int)+(1:Int))).toNat)))
 (asr (decide (1≤((IntKind.i64.wrap ((((List.length p1):Nat):Int)+(1:Int))).toNat)))
 (asr (decide ((List.length (([(.agg [(.int .i64 p2),(.int .u8 (2:Int)),(.int .i64 p3),(.int .i64 p4),(.int .i64 p5),(.int .i64 p6),(.int .i64 a),(.int .i64 b)])]:Ls)++(List.drop 1 (List.replicate ((IntKind.i64.wrap ((((List.length p1):Nat):Int)+(1:Int))).toNat) ((.agg [(.int .i64 (0)),(.int .u8 (0)),(.int .i64 (0)),(.int .i64 (0)),(.int .i64 (0)),(.int .i64 (0)),(.int .i64 (0)),(.int .i64 (0))]):PV)))))=((IntKind.i64.wrap ((((List.length p1):Nat):Int)+(1:Int))).toNat)))
 (asr (decide (1≤((IntKind.i64.wrap ((((List.length p1):Nat):Int)+(1:Int))).toNat)))
 (K e (List.take 1 (([(.agg [(.int .i64 p2),(.int .u8 (2:Int)),(.int .i64 p3),(.int .i64 p4),(.int .i64 p5),(.int .i64 p6),(.int .i64 a),(.int .i64 b)])]:Ls)++(List.drop 1 (List.replicate ((IntKind.i64.wrap ((((List.length p1):Nat):Int)+(1:Int))).toNat) ((.agg [(.int .i64 (0)),(.int .u8 (0)),(.int .i64 (0)),(.int .i64 (0)),(.int .i64 (0)),(.int .i64 (0)),(.int .i64 (0)),(.int .i64 (0))]):PV))))) a b (0:Int)))))))
 (asr (decide ((0+(List.length p1))≤((IntKind.i64.wrap ((((List.length p1):Nat):Int)+(1:Int))).toNat)))
 (asr (decide ((List.length (p1++(List.drop (0+(List.length p1)) (List.replicate ((IntKind.i64.wrap ((((List.length p1):Nat):Int)+(1:Int))).toNat) ((.agg [(.int .i64 (0)),(.int .u8 (0)),(.int .i64 (0)),(.int .i64 (0)),(.int .i64 (0)),(.int .i64 (0)),(.int .i64 (0)),(.int .i64 (0))]):PV)))))=((IntKind.i64.wrap ((((List.length p1):Nat):Int)+(1:Int))).toNat)))
 (asr (decide ((0+(0+(List.length p1)))≤((IntKind.i64.wrap ((((List.length p1):Nat):Int)+(1:Int))).toNat)))
 (asr (decide (((0+(List.length p1))+1)≤((IntKind.i64.wrap ((((List.length p1):Nat):Int)+(1:Int))).toNat)))
 (asr (decide ((List.length ((List.take (0+(0+(List.length p1))) (p1++(List.drop (0+(List.length p1)) (List.replicate ((IntKind.i64.wrap ((((List.length p1):Nat):Int)+(1:Int))).toNat) ((.agg [(.int .i64 (0)),(.int .u8 (0)),(.int .i64 (0)),(.int .i64 (0)),(.int .i64 (0)),(.int .i64 (0)),(.int .i64 (0)),(.int .i64 (0))]):PV)))))++(([(.agg [(.int .i64 p2),(.int .u8 (2:Int)),(.int .i64 p3),(.int .i64 p4),(.int .i64 p5),(.int .i64 p6),(.int .i64 a),(.int .i64 b)])]:Ls)++(List.drop ((0+(0+(List.length p1)))+1) (p1++(List.drop (0+(List.length p1)) (List.replicate ((IntKind.i64.wrap ((((List.length p1):Nat):Int)+(1:Int))).toNat) ((.agg [(.int .i64 (0)),(.int .u8 (0)),(.int .i64 (0)),(.int .i64 (0)),(.int .i64 (0)),(.int .i64 (0)),(.int .i64 (0)),(.int .i64 (0))]):PV))))))))=((IntKind.i64.wrap ((((List.length p1):Nat):Int)+(1:Int))).toNat)))
 (asr (decide ((0+((0+(List.length p1))+1))≤((IntKind.i64.wrap ((((List.length p1):Nat):Int)+(1:Int))).toNat)))
 (K e (List.take ((0+(List.length p1))+1) ((List.take (0+(0+(List.length p1))) (p1++(List.drop (0+(List.length p1)) (List.replicate ((IntKind.i64.wrap ((((List.length p1):Nat):Int)+(1:Int))).toNat) ((.agg [(.int .i64 (0)),(.int .u8 (0)),(.int .i64 (0)),(.int .i64 (0)),(.int .i64 (0)),(.int .i64 (0)),(.int .i64 (0)),(.int .i64 (0))]):PV)))))++(([(.agg [(.int .i64 p2),(.int .u8 (2:Int)),(.int .i64 p3),(.int .i64 p4),(.int .i64 p5),(.int .i64 p6),(.int .i64 a),(.int .i64 b)])]:Ls)++(List.drop ((0+(0+(List.length p1)))+1) (p1++(List.drop (0+(List.length p1)) (List.replicate ((IntKind.i64.wrap ((((List.length p1):Nat):Int)+(1:Int))).toNat) ((.agg [(.int .i64 (0)),(.int .u8 (0)),(.int .i64 (0)),(.int .i64 (0)),(.int .i64 (0)),(.int .i64 (0)),(.int .i64 (0)),(.int .i64 (0))]):PV)))))))) a b (0:Int))))))))))))))))))))))))))
def yed:ydA:=ypH ybP ybv ybS yeM
def ywI:Sg:=⟨pt25,Ls→Ls→Int→Int→Int→Prop,fun K=>(fun r0 r1 r2 r3 r4=>K (.tup [(.agg [(.data r0),(.data r1)]),(.agg [(.int .i64 r2),(.int .i64 r3)]),(.int .i64 r4)]))⟩
def yFQ (e:Es) (a0:yaV) (a1:ybq) (a2:yaL) (a3:yfs):SE:=⟨(E e),yeB [(ycj,yud.pw a0),(ybK,yug.pw a1),(ycN,ykm.pw a2),(yeD,yA1.pw a3)],yeC [(ye2,ymi)],lp0,fun _=>none⟩
theorem yFR (e:Es) (a0 a1 a2 a3):EqW (yFQ e a0 a1 a2 a3) 6 yHs ywI (ypH a0 a1 a2 a3):=fun _ _=>by kernel_rfl
theorem ywJ (e:Es) (he:EG e):OkF (E e) (ywI.pw yed) yj7:=okU he (yFR e _ _ _ _) (yaw (Sub.uni _) ⟨(yfr e he),(yfV e he),(ykn e he),(yiv e he),trivial⟩ ⟨⟨by kernel_rfl,by kernel_rfl,rfl,fun as=>yax (by kernel_rfl) as,he.num _ (by kernel_rfl),by kernel_rfl,(yai (by kernel_rfl))⟩,trivial⟩ he.ok) yj6.flat (yai (by kernel_rfl))
def yeY (a0:yc1) (p0 _:Ls) (p2 p3 p4 p5 p6:Int) (K:Int→Int→Int→Prop):Prop :=
 (asr (decide ((0:Int)≤p2))
 (asr (decide (p2<(((List.length p0):Nat):Int)))
 (asr (conf zK (List.getD p0 (p2.toNat) .nils))
 (a0 (yac (yaj (List.getD p0 (p2.toNat) .nils) 0)) (yaE (yaj (List.getD p0 (p2.toNat) .nils) 1)) (yaE (yaj (List.getD p0 (p2.toNat) .nils) 2)) p3 p4 p5 p6 (fun a b c =>
 (K a b c))))))
def ybH:yaL:=yeY ybt
def yq3 (e:Es) (a0:yc1):SE:=sE (E e) [(yeG,yt1.pw a0)] lp0
theorem yq4 (e:Es) (a0):EqW (yq3 e a0) 6 ysy ykm (yeY a0):=fun _ _=>by kernel_rfl
theorem yjl (e:Es) (he:EG e):OkF (E e) (ykm.pw ybH) ycz:=okU he (yq4 e _) (yaw (Sub.uni _) ⟨(yiu e he),trivial⟩ trivial he.ok) yj6.flat (yai (by kernel_rfl))
def ynL (a0:yaV) (a1:ybq) (a2:yaL) (a3:yfs) (p0 p1:Ls) (p2 p3 p4 p5 p6:Int) (K:Ls→Ls→Int→Int→Int→Prop):Prop :=
 (a0 p0 p1 (fun c =>
 (cbr (c !=(0:Int))
 (K ([]:Ls) ([]:Ls) (0:Int) (0:Int) c)
 (a1 p0 p1 p2 (fun f =>
 (cbr (!f)
 (K ([]:Ls) ([]:Ls) (0:Int) (0:Int) (2:Int))
 (a2 p0 p1 p2 p3 p4 p5 p6 (fun a b d =>
 (cbr (d !=(0:Int))
 (K ([]:Ls) ([]:Ls) (0:Int) (0:Int) d)
 (cbr (decide ((((List.length p1):Nat):Int)≥(2000:Int)))
 (K ([]:Ls) ([]:Ls) (0:Int) (0:Int) (4:Int))
 (asr (decide ((0:Int)≤(IntKind.i64.wrap ((((List.length p1):Nat):Int)+(1:Int)))))
 (asr (decide ((((IntKind.i64.wrap ((((List.length p1):Nat):Int)+(1:Int))).toNat)+64)*(64+1)≤room))
 (a3 p0 (fun e =>
 (asr (yd7 8 p1)
 (asr (decide ((List.length (List.replicate ((IntKind.i64.wrap ((((List.length p1):Nat):Int)+(1:Int))).toNat) ((.agg [(.int .i64 (0)),(.int .u8 (0)),(.int .i64 (0)),(.int .i64 (0)),(.int .i64 (0)),(.int .i64 (0)),(.int .i64 (0)),(.int .i64 (0))]):PV)))=((IntKind.i64.wrap ((((List.length p1):Nat):Int)+(1:Int))).toNat)))
 (asr (decide (0≤((IntKind.i64.wrap ((((List.length p1):Nat):Int)+(1:Int))).toNat)))
 (cbr (List.isEmpty p1)
 (asr (decide ((List.length (List.replicate ((IntKind.i64.wrap ((((List.length p1):Nat):Int)+(1:Int))).toNat) ((.agg [(.int .i64 (0)),(.int .u8 (0)),(.int .i64 (0)),(.int .i64 (0)),(.int .i64 (0)),(.int .i64 (0)),(.int .i64 (0)),(.int .i64 (0))]):PV)))=((IntKind.i64.wrap ((((List.length p1):Nat):Int)+(1:Int))).toNat)))
 (asr (decide (0≤((IntKind.i64.wrap ((((List.length p1):Nat):Int)+(1:Int))).toNat)))
 (asr (decide (1≤((IntKind.i64.wrap ((((List.length p1):Nat):Int)+(1:Int))).toNat)))
 (asr (decide ((List.length (([(.agg [(.int .i64 p2),(.int .u8 (1:Int)),(.int .i64 p3),(.int .i64 p4),(.int .i64 p5),(.int .i64 p6),(.int .i64 a),(.int .i64 b)])]:Ls)++(List.drop 1 (List.replicate ((IntKind.i64.wrap ((((List.length p1):Nat):Int)+(1:Int))).toNat) ((.agg [(.int .i64 (0)),(.int .u8 (0)),(.int .i64 (0)),(.int .i64 (0)),(.int .i64 (0)),(.int .i64 (0)),(.int .i64 (0)),(.int .i64 (0))]):PV)))))=((IntKind.i64.wrap ((((List.length p1):Nat):Int)+(1:Int))).toNat)))
 (asr (decide (1≤((IntKind.i64.wrap ((((List.length p1):Nat):Int)+(1:Int))).toNat)))
 (K e (List.take 1 (([(.agg [(.int .i64 p2),(.int .u8 (1:Int)),(.int .i64 p3),(.int .i64 p4),(.int .i64 p5),(.int .i64 p6),(.int .i64 a),(.int .i64 b)])]:Ls)++(List.drop 1 (List.replicate ((IntKind.i64.wrap ((((List.length p1):Nat):Int)+(1:Int))).toNat) ((.agg [(.int .i64 (0)),(.int .u8 (0)),(.int .i64 (0)),(.int .i64 (0)),(.int .i64 (0)),(.int .i64 (0)),(.int .i64 (0)),(.int .i64 (0))]):PV))))) a b (0:Int)))))))
 (asr (decide ((0+(List.length p1))≤((IntKind.i64.wrap ((((List.length p1):Nat):Int)+(1:Int))).toNat)))
 (asr (decide ((List.length (p1++(List.drop (0+(List.length p1)) (List.replicate ((IntKind.i64.wrap ((((List.length p1):Nat):Int)+(1:Int))).toNat) ((.agg [(.int .i64 (0)),(.int .u8 (0)),(.int .i64 (0)),(.int .i64 (0)),(.int .i64 (0)),(.int .i64 (0)),(.int .i64 (0)),(.int .i64 (0))]):PV)))))=((IntKind.i64.wrap ((((List.length p1):Nat):Int)+(1:Int))).toNat)))
 (asr (decide ((0+(0+(List.length p1)))≤((IntKind.i64.wrap ((((List.length p1):Nat):Int)+(1:Int))).toNat)))
 (asr (decide (((0+(List.length p1))+1)≤((IntKind.i64.wrap ((((List.length p1):Nat):Int)+(1:Int))).toNat)))
 (asr (decide ((List.length ((List.take (0+(0+(List.length p1))) (p1++(List.drop (0+(List.length p1)) (List.replicate ((IntKind.i64.wrap ((((List.length p1):Nat):Int)+(1:Int))).toNat) ((.agg [(.int .i64 (0)),(.int .u8 (0)),(.int .i64 (0)),(.int .i64 (0)),(.int .i64 (0)),(.int .i64 (0)),(.int .i64 (0)),(.int .i64 (0))]):PV)))))++(([(.agg [(.int .i64 p2),(.int .u8 (1:Int)),(.int .i64 p3),(.int .i64 p4),(.int .i64 p5),(.int .i64 p6),(.int .i64 a),(.int .i64 b)])]:Ls)++(List.drop ((0+(0+(List.length p1)))+1) (p1++(List.drop (0+(List.length p1)) (List.replicate ((IntKind.i64.wrap ((((List.length p1):Nat):Int)+(1:Int))).toNat) ((.agg [(.int .i64 (0)),(.int .u8 (0)),(.int .i64 (0)),(.int .i64 (0)),(.int .i64 (0)),(.int .i64 (0)),(.int .i64 (0)),(.int .i64 (0))]):PV))))))))=((IntKind.i64.wrap ((((List.length p1):Nat):Int)+(1:Int))).toNat)))
 (asr (decide ((0+((0+(List.length p1))+1))≤((IntKind.i64.wrap ((((List.length p1):Nat):Int)+(1:Int))).toNat)))
 (K e (List.take ((0+(List.length p1))+1) ((List.take (0+(0+(List.length p1))) (p1++(List.drop (0+(List.length p1)) (List.replicate ((IntKind.i64.wrap ((((List.length p1):Nat):Int)+(1:Int))).toNat) ((.agg [(.int .i64 (0)),(.int .u8 (0)),(.int .i64 (0)),(.int .i64 (0)),(.int .i64 (0)),(.int .i64 (0)),(.int .i64 (0)),(.int .i64 (0))]):PV)))))++(([(.agg [(.int .i64 p2),(.int .u8 (1:Int)),(.int .i64 p3),(.int .i64 p4),(.int .i64 p5),(.int .i64 p6),(.int .i64 a),(.int .i64 b)])]:Ls)++(List.drop ((0+(0+(List.length p1)))+1) (p1++(List.drop (0+(List.length p1)) (List.replicate ((IntKind.i64.wrap ((((List.length p1):Nat):Int)+(1:Int))).toNat) ((.agg [(.int .i64 (0)),(.int .u8 (0)),(.int .i64 (0)),(.int .i64 (0)),(.int .i64 (0)),(.int .i64 (0)),(.int .i64 (0)),(.int .i64 (0))]):PV)))))))) a b (0:Int))))))))))))))))))))))))))
def ydn:ydA:=ynL ybP ybv ybH yeM
def yDQ (e:Es) (a0:yaV) (a1:ybq) (a2:yaL) (a3:yfs):SE:=⟨(E e),yeB [(ycj,yud.pw a0),(ybK,yug.pw a1),(ycz,ykm.pw a2),(yeD,yA1.pw a3)],yeC [(ye2,ymi)],lp0,fun _=>none⟩
theorem yDR (e:Es) (a0 a1 a2 a3):EqW (yDQ e a0 a1 a2 a3) 6 yFH ywI (ynL a0 a1 a2 a3):=fun _ _=>by kernel_rfl
theorem yuj (e:Es) (he:EG e):OkF (E e) (ywI.pw ydn) yiK:=okU he (yDR e _ _ _ _) (yaw (Sub.uni _) ⟨(yfr e he),(yfV e he),(yjl e he),(yiv e he),trivial⟩ ⟨⟨by kernel_rfl,by kernel_rfl,rfl,fun as=>yax (by kernel_rfl) as,he.num _ (by kernel_rfl),by kernel_rfl,(yai (by kernel_rfl))⟩,trivial⟩ he.ok) yj6.flat (yai (by kernel_rfl))
abbrev ynM:Type:=Ls→Ls→(Int→Int→Prop)→Prop
def yd4 (a0:yaV) (a1:ybq) (a2:yaL) (a3:yaL) (x0:Ls→Ls→Ls→Ls→Int→Int→Bool→Prop) (x1:Int→Int→Prop):Nat→Ls→Ls→Ls→Ls→Int→Int→Prop
 | 0,_,_,_,_,_,_=>False
 | n+1,l0,l1,l2,l3,i4,i5 =>
 (cbr (decide (i5<i4))
 (jn (fun d =>
 (asr (decide ((0:Int)≤i5))
 (asr (decide (i5<(((List.length l3):Nat):Int)))
 (lt (List.getD l3 (i5.toNat) .nils) (fun a =>
 (asr (conf (.agg [.i .i64,.i .u8,.i .i64,.i .i64,.i .i64,.i .i64,.i .i64,.i .i64]) a)
 (cbr ((yac (yaj a 1)) ==(2:Int))
 (jn (fun (b:Bool→Prop) =>
 (a1 l1 l2 (yac (yaj a 0)) (fun g =>
 (cbr (!g)
 (b true)
 (cbr (decide ((yac (yaj a 1))<(1:Int)))
 (b true)
 (b (decide ((yac (yaj a 1))>(2:Int)))))))))
 (fun h=>(cbr h
 (x1 i5 (0:Int))
 (a2 l1 l2 (yac (yaj a 0)) (yac (yaj a 2)) (yac (yaj a 3)) (yac (yaj a 4)) (yac (yaj a 5)) (fun j k l =>
 (jn (fun (e:Bool→Prop) =>
 (cbr (l !=(0:Int))
 (e true)
 (e (!((j ==(yac (yaj a 6)))&&((k ==(yac (yaj a 7)))&&true))))))
 (fun m=>(cbr m
 (x1 i5 (0:Int))
 d))))))))
 (jn (fun (c:Bool→Prop) =>
 (a1 l1 l2 (yac (yaj a 0)) (fun o =>
 (cbr (!o)
 (c true)
 (cbr (decide ((yac (yaj a 1))<(1:Int)))
 (c true)
 (c (decide ((yac (yaj a 1))>(2:Int)))))))))
 (fun p=>(cbr p
 (x1 i5 (0:Int))
 (a3 l1 l2 (yac (yaj a 0)) (yac (yaj a 2)) (yac (yaj a 3)) (yac (yaj a 4)) (yac (yaj a 5)) (fun q r s =>
 (jn (fun (f:Bool→Prop) =>
 (cbr (s !=(0:Int))
 (f true)
 (f (!((q ==(yac (yaj a 6)))&&((r ==(yac (yaj a 7)))&&true))))))
 (fun t=>(cbr t
 (x1 i5 (0:Int))
 d)))))))))))))))
 (lt (IntKind.i64.wrap (i5+(1:Int))) (fun u =>
 (yd4 a0 a1 a2 a3 x0 x1 n l0 l1 l2 l3 i4 u))))
 (x0 l0 l1 l2 l3 i4 i5 false))
def ylv (a0:yaV) (a1:ybq) (a2:yaL) (a3:yaL) (p0 p1:Ls) (K:Int→Int→Prop):Prop :=
 (a0 p0 p1 (fun a =>
 (cbr (a !=(0:Int))
 (K (0:Int) a)
 (∃ n:Nat,yd4 a0 a1 a2 a3
 (fun b _ _ _ _ _ _=>(K (((List.length b):Nat):Int) (0:Int)))
 (fun c d=>(K c d))
 n p1 p0 p1 p1 (((List.length p1):Nat):Int) (0:Int)))))
def ygn:ynM:=ylv ybP ybv ybS ybH
def yA3:Sg:=⟨pt13,Int→Int→Prop,fun K=>(fun r0 r1=>K (.tup [(.int .i64 r0),(.int .i64 r1)]))⟩
def yvR (Q:Qx):Ls→Ls→Ls→Ls→Int→Int→Bool→Prop:=(fun l0 l1 l2 l3 i4 i5 b6=>Q (.exit 0) [(1,.v (.data l0)),(6,.box (.agg [(.data l1),(.data l2)])),(25,.v (.data l3)),(26,.v (.int .i64 i4)),(27,.v (.int .i64 i5)),(28,.v (.bool b6))] [])
def yvS (Q:Qx):Int→Int→Prop:=(fun i0 i1=>Q .ret [(4,.v (.int .i64 i0)),(5,.v (.int .i64 i1))] [])
def pt26:Pat Frm:=fV 25 vD (fV 26 pt0 (fV 27 pt0 fN))
def yov (a0:yaV) (a1:ybq) (a2:yaL) (a3:yaL) (Q:Qx):List St:=[⟨(pS hN (fV 1 vD (fX 6 pt24 pt26)) fN),yd4 a0 a1 a2 a3 (yvR Q) (yvS Q)⟩]
def yrQ (a0:yaV) (a1:ybq) (a2:yaL) (a3:yaL):LP:=lpS [(47732200,yov a0 a1 a2 a3)]
def ylw (e:Es) (a0:yaV) (a1:ybq) (a2:yaL) (a3:yaL):SE:=sE (E e) [(ycj,yud.pw a0),(ybK,yug.pw a1),(ycN,ykm.pw a2),(ycz,ykm.pw a3)] (yrQ a0 a1 a2 a3)
theorem ypI (e:Es) (he:EG e):SEOk (Uni (E e)) (ylw e ybP ybv ybS ybH):=yaw (Sub.uni _) ⟨(yfr e he),(yfV e he),(ykn e he),(yjl e he),trivial⟩ trivial he.ok
theorem yuk (e:Es) (a0 a1 a2 a3):ycp (ylw e a0 a1 a2 a3) 5 a yng false (yov a0 a1 a2 a3):=fun _=>⟨fun _=>by kernel_rfl,fun _ _=>by kernel_rfl,trivial⟩
theorem yul (e:Es) (he:EG e):LpT (Uni (E e)) (yrQ ybP ybv ybS ybH) [] 47732200 (.loop 47732200 yng):=fun _ _ _=>yok.st (Sub.uni _) (yaD (ypI e he) 5) (YOk.no _ _) (yai (by kernel_rfl)) (yuk e _ _ _ _ _)
theorem yA4 (e:Es) (a0 a1 a2 a3):EqW (ylw e a0 a1 a2 a3) 6 yDr yA3 (ylv a0 a1 a2 a3):=fun _ _=>by kernel_rfl
theorem yrR (e:Es) (he:EG e):OkF (E e) (yA3.pw ygn) yhq:=okU he (yA4 e _ _ _ _) (ypI e he) yj6.flat (ybe (l:=[(47732200,.loop 47732200 yng)]) ⟨yul e he,trivial⟩ (by kernel_rfl))
set_option linter.unusedVariables false
theorem yA5 (p0:Ls) (p1:Ls) (r0:Int) (h:∀ K:Int→Prop,K r0→ybP p0 p1 K) (K:Int→Prop):ybP p0 p1 K=K r0 :=
 propext ⟨fun k=>detC (yfr [] ybm) (as:=[(.agg [(.data p0),(.data p1)])]) (x:=(.int .i64 r0)) (fun K' k'=>h (fun r0=>K' (.int .i64 r0)) k') (K:=fun x=>match x with | (.int .i64 r0)=>K r0 | _=>False) k,h K⟩
theorem yzu (p0:Ls) (r0:Ls) (h:∀ K:Ls→Prop,K r0→yeM p0 K) (K:Ls→Prop):yeM p0 K=K r0 :=
 propext ⟨fun k=>detC (yiv [] ybm) (as:=[(.data p0)]) (x:=(.data r0)) (fun K' k'=>h (fun r0=>K' (.data r0)) k') (K:=fun x=>match x with | (.data r0)=>K r0 | _=>False) k,h K⟩
theorem yDS (p0:Ls) (p1:Ls) (p2:Int) (p3:Int) (p4:Int) (p5:Int) (p6:Int) (r0:Ls) (r1:Ls) (r2:Int) (r3:Int) (r4:Int) (h:∀ K:Ls→Ls→Int→Int→Int→Prop,K r0 r1 r2 r3 r4→yed p0 p1 p2 p3 p4 p5 p6 K) (K:Ls→Ls→Int→Int→Int→Prop):yed p0 p1 p2 p3 p4 p5 p6 K=K r0 r1 r2 r3 r4 :=
 propext ⟨fun k=>detC (ywJ [] ybm) (as:=[(.agg [(.data p0),(.data p1)]),(.int .i64 p2),(.agg [(.int .i64 p3),(.int .i64 p4)]),(.agg [(.int .i64 p5),(.int .i64 p6)])]) (x:=(.tup [(.agg [(.data r0),(.data r1)]),(.agg [(.int .i64 r2),(.int .i64 r3)]),(.int .i64 r4)])) (fun K' k'=>h (fun r0 r1 r2 r3 r4=>K' (.tup [(.agg [(.data r0),(.data r1)]),(.agg [(.int .i64 r2),(.int .i64 r3)]),(.int .i64 r4)])) k') (K:=fun x=>match x with | (.tup [(.agg [(.data r0),(.data r1)]),(.agg [(.int .i64 r2),(.int .i64 r3)]),(.int .i64 r4)])=>K r0 r1 r2 r3 r4 | _=>False) k,h K⟩
theorem yA6 (p0:Ls) (p1:Ls) (p2:Int) (p3:Int) (p4:Int) (p5:Int) (p6:Int) (r0:Ls) (r1:Ls) (r2:Int) (r3:Int) (r4:Int) (h:∀ K:Ls→Ls→Int→Int→Int→Prop,K r0 r1 r2 r3 r4→ydn p0 p1 p2 p3 p4 p5 p6 K) (K:Ls→Ls→Int→Int→Int→Prop):ydn p0 p1 p2 p3 p4 p5 p6 K=K r0 r1 r2 r3 r4 :=
 propext ⟨fun k=>detC (yuj [] ybm) (as:=[(.agg [(.data p0),(.data p1)]),(.int .i64 p2),(.agg [(.int .i64 p3),(.int .i64 p4)]),(.agg [(.int .i64 p5),(.int .i64 p6)])]) (x:=(.tup [(.agg [(.data r0),(.data r1)]),(.agg [(.int .i64 r2),(.int .i64 r3)]),(.int .i64 r4)])) (fun K' k'=>h (fun r0 r1 r2 r3 r4=>K' (.tup [(.agg [(.data r0),(.data r1)]),(.agg [(.int .i64 r2),(.int .i64 r3)]),(.int .i64 r4)])) k') (K:=fun x=>match x with | (.tup [(.agg [(.data r0),(.data r1)]),(.agg [(.int .i64 r2),(.int .i64 r3)]),(.int .i64 r4)])=>K r0 r1 r2 r3 r4 | _=>False) k,h K⟩
theorem yzv (p0:Ls) (p1:Ls) (r0:Int) (r1:Int) (h:∀ K:Int→Int→Prop,K r0 r1→ygn p0 p1 K) (K:Int→Int→Prop):ygn p0 p1 K=K r0 r1 :=
 propext ⟨fun k=>detC (yrR [] ybm) (as:=[(.data p0),(.data p1)]) (x:=(.tup [(.int .i64 r0),(.int .i64 r1)])) (fun K' k'=>h (fun r0 r1=>K' (.tup [(.int .i64 r0),(.int .i64 r1)])) k') (K:=fun x=>match x with | (.tup [(.int .i64 r0),(.int .i64 r1)])=>K r0 r1 | _=>False) k,h K⟩
def yB8 (p0:Int) (K:Int→Int→Prop):Prop :=
 (K p0 (1:Int))
def yzw:yab:=yB8
def yJX (e:Es):SE:=sE (E e) [] lp0
theorem yJY (e:Es):EqW (yJX e) 6 yLi yis yB8:=fun _ _=>by kernel_rfl
theorem yJZ (e:Es) (he:EG e):OkF (E e) (yis.pw yzw) ymh:=okU he (yJY e) (yaw (Sub.uni _) trivial trivial he.ok) yj6.flat (yai (by kernel_rfl))
abbrev yg7:Type:=Int→Ls→Ls→(Bool→Prop)→Prop
def ynN (_:Int) (p1 p2:Ls) (K:Bool→Prop):Prop :=
 (cbr (decide ((((List.length p1):Nat):Int)>(60:Int)))
 (K true)
 (K (decide ((((List.length p2):Nat):Int)>(60:Int)))))
def yf8:yg7:=ynN
def yDT:Sg:=⟨pt15,Bool→Prop,fun K=>(fun r0=>K (.bool r0))⟩
def yDU (e:Es):SE:=sE (E e) [] lp0
theorem yDV (e:Es):EqW (yDU e) 6 yFs yDT ynN:=fun _ _=>by kernel_rfl
theorem yDW (e:Es) (he:EG e):OkF (E e) (yDT.pw yf8) yiF:=okU he (yDV e) (yaw (Sub.uni _) trivial trivial he.ok) yj6.flat (yai (by kernel_rfl))
def ydB (x0:Int→Prop) (x1:Int→Ls→Ls→Bool→Int→Bool→Prop):Nat→Int→Ls→Ls→Bool→Int→Prop
 | 0,_,_,_,_,_=>False
 | n+1,i0,l1,l2,b3,i4 =>
 (cbr (decide (i4<(((List.length l2):Nat):Int)))
 (asr (decide ((0:Int)≤(IntKind.i64.wrap (i4+(1:Int)))))
 (asr (decide ((IntKind.i64.wrap (i4+(1:Int)))<(((List.length l1):Nat):Int)))
 (asr (conf zI (List.getD l1 ((IntKind.i64.wrap (i4+(1:Int))).toNat) .nils))
 (asr (decide ((0:Int)≤i4))
 (asr (decide (i4<(((List.length l1):Nat):Int)))
 (asr (conf zI (List.getD l1 (i4.toNat) .nils))
 (cbr (decide ((yac (List.getD l1 ((IntKind.i64.wrap (i4+(1:Int))).toNat) .nils))≤(yac (List.getD l1 (i4.toNat) .nils))))
 (x0 (8:Int))
 (asr (decide ((0:Int)≤i4))
 (asr (decide (i4<(((List.length l2):Nat):Int)))
 (asr (conf zI (List.getD l2 (i4.toNat) .nils))
 (cbr (decide ((yac (List.getD l2 (i4.toNat) .nils))<(0:Int)))
 (x0 (8:Int))
 (asr (decide ((0:Int)≤i4))
 (asr (decide (i4<(((List.length l2):Nat):Int)))
 (asr (conf zI (List.getD l2 (i4.toNat) .nils))
 (cbr (decide ((yac (List.getD l2 (i4.toNat) .nils))>(12:Int)))
 (x0 (8:Int))
 (cbr b3
 (ydB x0 x1 n i0 l1 l2 true (IntKind.i64.wrap (i4+(1:Int))))
 (asr (decide ((0:Int)≤i4))
 (asr (decide (i4<(((List.length l2):Nat):Int)))
 (asr (conf zI (List.getD l2 (i4.toNat) .nils))
 (ydB x0 x1 n i0 l1 l2 (decide ((yac (List.getD l2 (i4.toNat) .nils))>(0:Int))) (IntKind.i64.wrap (i4+(1:Int)))))))))))))))))))))))
 (x1 i0 l1 l2 b3 i4 false))
def ynO (p0:Int) (p1 p2:Ls) (K:Int→Prop):Prop :=
 (cbr (decide (p0>(1000:Int)))
 (K (4:Int))
 (cbr (decide ((((List.length p1):Nat):Int)>(40:Int)))
 (K (4:Int))
 (cbr (decide (p0<(1:Int)))
 (K (8:Int))
 (cbr (decide ((((List.length p1):Nat):Int)<(2:Int)))
 (K (8:Int))
 (cbr ((((List.length p2):Nat):Int) !=(IntKind.i64.wrap ((((List.length p1):Nat):Int)-(1:Int))))
 (K (8:Int))
 (asr (decide ((0:Int)<(((List.length p1):Nat):Int)))
 (asr (conf zI (List.getD p1 0 .nils))
 (cbr ((yac (List.getD p1 0 .nils)) !=(0:Int))
 (K (8:Int))
 (asr (decide ((0:Int)≤(IntKind.i64.wrap ((((List.length p1):Nat):Int)-(1:Int)))))
 (asr (decide ((IntKind.i64.wrap ((((List.length p1):Nat):Int)-(1:Int)))<(((List.length p1):Nat):Int)))
 (asr (conf zI (List.getD p1 ((IntKind.i64.wrap ((((List.length p1):Nat):Int)-(1:Int))).toNat) .nils))
 (cbr ((yac (List.getD p1 ((IntKind.i64.wrap ((((List.length p1):Nat):Int)-(1:Int))).toNat) .nils)) != p0)
 (K (8:Int))
 (∃ n:Nat,ydB
 (fun a=>(K a))
 (fun _ _ _ b _ _=>(cbr (!b)
 (K (8:Int))
 (K (0:Int))))
 n p0 p1 p2 false (0:Int))))))))))))))
def yc2:yay:=ynO
def yxj (Q:Qx):Int→Prop:=(fun i0=>Q .ret [(2,.v (.int .i64 i0))] [])
def yxk (Q:Qx):Int→Ls→Ls→Bool→Int→Bool→Prop:=(fun i0 l1 l2 b3 i4 b5=>Q (.exit 0) [(1,.box (.agg [(.int .i64 i0),(.data l1),(.data l2)])),(3,.v (.bool b3)),(4,.v (.int .i64 i4)),(57,.v (.bool b5))] [])
def ypJ (Q:Qx):List St:=[⟨(pS hN (fX 1 pt14 (fV 3 vB pt11)) fN),ydB (yxj Q) (yxk Q)⟩]
def yum:LP:=lpS [(94526800,ypJ)]
def ynP (e:Es):SE:=sE (E e) [] (yum)
theorem yrS (e:Es) (he:EG e):SEOk (Uni (E e)) (ynP e):=yaw (Sub.uni _) trivial trivial he.ok
theorem yvT (e:Es):ycp (ynP e) 5 a ymU false (ypJ):=fun _=>⟨fun _=>by kernel_rfl,fun _ _=>by kernel_rfl,trivial⟩
theorem yvU (e:Es) (he:EG e):LpT (Uni (E e)) (yum) [] 94526800 (.loop 94526800 ymU):=fun _ _ _=>yok.st (Sub.uni _) (yaD (yrS e he) 5) (YOk.no _ _) (yai (by kernel_rfl)) (yvT e _)
theorem yDX (e:Es):EqW (ynP e) 6 yFt yrJ ynO:=fun _ _=>by kernel_rfl
theorem yun (e:Es) (he:EG e):OkF (E e) (yrJ.pw yc2) yg3:=okU he (yDX e) (yrS e he) yj6.flat (ybe (l:=[(94526800,.loop 94526800 ymU)]) ⟨yvU e he,trivial⟩ (by kernel_rfl))
set_option linter.unusedVariables false
theorem yA7 (p0:Int) (p1:Ls) (p2:Ls) (r0:Int) (h:∀ K:Int→Prop,K r0→yc2 p0 p1 p2 K) (K:Int→Prop):yc2 p0 p1 p2 K=K r0 :=
 propext ⟨fun k=>detC (yun [] ybm) (as:=[(.agg [(.int .i64 p0),(.data p1),(.data p2)])]) (x:=(.int .i64 r0)) (fun K' k'=>h (fun r0=>K' (.int .i64 r0)) k') (K:=fun x=>match x with | (.int .i64 r0)=>K r0 | _=>False) k,h K⟩
abbrev yde:Type:=Ls→(Bool→Prop)→Prop
def ycG (a0:yg7) (x0:Bool→Prop) (x1:Ls→Int→Bool→Prop):Nat→Ls→Int→Prop
 | 0,_,_=>False
 | n+1,l0,i1 =>
 (cbr (decide (i1<(((List.length l0):Nat):Int)))
 (asr (decide ((0:Int)≤i1))
 (asr (decide (i1<(((List.length l0):Nat):Int)))
 (asr (conf zK (List.getD l0 (i1.toNat) .nils))
 (a0 (yac (yaj (List.getD l0 (i1.toNat) .nils) 0)) (yaE (yaj (List.getD l0 (i1.toNat) .nils) 1)) (yaE (yaj (List.getD l0 (i1.toNat) .nils) 2)) (fun a =>
 (cbr a
 (x0 true)
 (ycG a0 x0 x1 n l0 (IntKind.i64.wrap (i1+(1:Int))))))))))
 (x1 l0 i1 false))
def yhB (a0:yg7) (p0:Ls) (K:Bool→Prop):Prop :=
 (∃ n:Nat,ycG a0
 (fun a=>(K a))
 (fun b _ _=>(K (decide ((((List.length b):Nat):Int)>(10:Int)))))
 n p0 (0:Int))
def yd5:yde:=yhB yf8
def yhC:Sg:=⟨pt7,Bool→Prop,fun K=>(fun r0=>K (.bool r0))⟩
def ypK (Q:Qx):Bool→Prop:=(fun b0=>Q .ret [(2,.v (.bool b0))] [])
def ypL (Q:Qx):Ls→Int→Bool→Prop:=(fun l0 i1 b2=>Q (.exit 0) [(0,.v (.data l0)),(3,.v (.int .i64 i1)),(7,.v (.bool b2))] [])
def yjm (a0:yg7) (Q:Qx):List St:=[⟨(pS hN (fV 0 vD (fV 3 pt0 fN)) fN),ycG a0 (ypK Q) (ypL Q)⟩]
def ykX (a0:yg7):LP:=lpS [(4277600,yjm a0)]
def yhD (e:Es) (a0:yg7):SE:=sE (E e) [(yiF,yDT.pw a0)] (ykX a0)
theorem yko (e:Es) (he:EG e):SEOk (Uni (E e)) (yhD e yf8):=yaw (Sub.uni _) ⟨(yDW e he),trivial⟩ trivial he.ok
theorem yoL (e:Es) (a0):ycp (yhD e a0) 5 a yqz false (yjm a0):=fun _=>⟨fun _=>by kernel_rfl,fun _ _=>by kernel_rfl,trivial⟩
theorem yoM (e:Es) (he:EG e):LpT (Uni (E e)) (ykX yf8) [] 4277600 (.loop 4277600 yqz):=fun _ _ _=>yok.st (Sub.uni _) (yaD (yko e he) 5) (YOk.no _ _) (yai (by kernel_rfl)) (yoL e _ _)
theorem yuo (e:Es) (a0):EqW (yhD e a0) 6 yvs yhC (yhB a0):=fun _ _=>by kernel_rfl
theorem ykY (e:Es) (he:EG e):OkF (E e) (yhC.pw yd5) ye1:=okU he (yuo e _) (yko e he) yj6.flat (ybe (l:=[(4277600,.loop 4277600 yqz)]) ⟨yoM e he,trivial⟩ (by kernel_rfl))
def yew (a0:yay) (a:Int→Prop) (b:Ls→Ls→Int→Bool→Prop):Nat→Ls→Ls→Int→Prop
 | 0,_,_,_=>False
 | c+1,l0,l1,i2 =>
 (cbr (decide (i2<(((List.length l0):Nat):Int)))
 (asr (decide ((0:Int)≤i2))
 (asr (decide (i2<(((List.length l0):Nat):Int)))
 (asr (conf zK (List.getD l0 (i2.toNat) .nils))
 (a0 (yac (yaj (List.getD l0 (i2.toNat) .nils) 0)) (yaE (yaj (List.getD l0 (i2.toNat) .nils) 1)) (yaE (yaj (List.getD l0 (i2.toNat) .nils) 2)) (fun d =>
 (cbr (d !=(0:Int))
 (asr (decide ((0:Int)≤i2))
 (asr (decide (i2<(((List.length l0):Nat):Int)))
 (asr (conf zK (List.getD l0 (i2.toNat) .nils))
 (a0 (yac (yaj (List.getD l0 (i2.toNat) .nils) 0)) (yaE (yaj (List.getD l0 (i2.toNat) .nils) 1)) (yaE (yaj (List.getD l0 (i2.toNat) .nils) 2)) (fun e =>
 (a e))))))
 (yew a0 a b c l0 l1 (IntKind.i64.wrap (i2+(1:Int))))))))))
 (b l0 l1 i2 false))
def ydC (a0:yay) (a:Int→Prop) (b:Ls→Ls→Int→Bool→Prop):Nat→Ls→Ls→Int→Prop
 | 0,_,_,_=>False
 | c+1,l0,l1,i2 =>
 (cbr (decide (i2<(((List.length l0):Nat):Int)))
 (asr (decide ((0:Int)≤i2))
 (asr (decide (i2<(((List.length l0):Nat):Int)))
 (asr (conf zK (List.getD l0 (i2.toNat) .nils))
 (asr (decide ((0:Int)<(((List.length l0):Nat):Int)))
 (asr (conf zK (List.getD l0 0 .nils))
 (cbr ((yac (yaj (List.getD l0 (i2.toNat) .nils) 0)) !=(yac (yaj (List.getD l0 0 .nils) 0)))
 (a (8:Int))
 (ydC a0 a b c l0 l1 (IntKind.i64.wrap (i2+(1:Int))))))))))
 (b l0 l1 i2 false))
def ynQ (a0:yay) (p0 p1:Ls) (K:Int→Prop):Prop :=
 (cbr (decide ((((List.length p0):Nat):Int)>(6:Int)))
 (K (4:Int))
 (cbr (decide ((((List.length p1):Nat):Int)>(2000:Int)))
 (K (4:Int))
 (cbr ((((List.length p0):Nat):Int) ==(0:Int))
 (K (8:Int))
 (∃ a:Nat,yew a0
 (fun b=>(K b))
 (fun c d _ _=>(∃ e:Nat,ydC a0
 (fun f=>(K f))
 (fun _ _ _ _=>(K (0:Int)))
 e c d (0:Int)))
 a p0 p1 (0:Int)))))
def yg8:yaV:=ynQ yc2
def yxl (Q:Qx):Int→Prop:=(fun i0=>Q .ret [(2,.v (.int .i64 i0))] [])
def yxm (Q:Qx):Ls→Ls→Int→Bool→Prop:=(fun l0 l1 i2 b3=>Q (.exit 0) [(1,.box (.agg [(.data l0),(.data l1)])),(3,.v (.int .i64 i2)),(23,.v (.bool b3))] [])
def yxn (Q:Qx):Int→Prop:=(fun i0=>Q .ret [(2,.v (.int .i64 i0))] [])
def yxo (Q:Qx):Ls→Ls→Int→Bool→Prop:=(fun l0 l1 i2 b3=>Q (.exit 2) [(1,.box (.agg [(.data l0),(.data l1)])),(4,.v (.int .i64 i2)),(43,.v (.bool b3))] [])
def ypM (a0:yay) (Q:Qx):List St:=[⟨(pS hN (fX 1 pt24 (fV 3 pt0 fN)) fN),yew a0 (yxl Q) (yxm Q)⟩]
def ypN (a0:yay) (Q:Qx):List St:=[⟨(pS hN (fX 1 pt24 pt11) fN),ydC a0 (yxn Q) (yxo Q)⟩]
def ynR (a0:yay):LP:=lpS [(6981300,ypM a0),(6981301,ypN a0)]
def yjy (e:Es) (a0:yay):SE:=sE (E e) [(yg3,yrJ.pw a0)] (ynR a0)
theorem ylx (e:Es) (he:EG e):SEOk (Uni (E e)) (yjy e yc2):=yaw (Sub.uni _) ⟨(yun e he),trivial⟩ trivial he.ok
theorem yvV (e:Es) (a0):ycp (yjy e a0) 5 a yqA false (ypM a0):=fun _=>⟨fun _=>by kernel_rfl,fun _ _=>by kernel_rfl,trivial⟩
theorem yvW (e:Es) (he:EG e):LpT (Uni (E e)) (ynR yc2) [] 6981300 (.loop 6981300 yqA):=fun _ _ _=>yok.st (Sub.uni _) (yaD (ylx e he) 5) (YOk.no _ _) (yai (by kernel_rfl)) (yvV e _ _)
theorem yvX (e:Es) (a0):ycp (yjy e a0) 5 a yqB false (ypN a0):=fun _=>⟨fun _=>by kernel_rfl,fun _ _=>by kernel_rfl,trivial⟩
theorem yvY (e:Es) (he:EG e):LpT (Uni (E e)) (ynR yc2) [] 6981301 (.loop 6981301 yqB):=fun _ _ _=>yok.st (Sub.uni _) (yaD (ylx e he) 5) (YOk.no _ _) (yai (by kernel_rfl)) (yvX e _ _)
theorem yDY (e:Es) (a0):EqW (yjy e a0) 6 yFu yud (ynQ a0):=fun _ _=>by kernel_rfl
theorem yup (e:Es) (he:EG e):OkF (E e) (yud.pw yg8) yiG:=okU he (yDY e _) (ylx e he) yj6.flat (ybe (l:=[(6981300,.loop 6981300 yqA),(6981301,.loop 6981301 yqB)]) ⟨yvW e he,yvY e he,trivial⟩ (by kernel_rfl))
set_option linter.unusedVariables false
theorem ysS (p0:Ls) (r0:Bool) (h:∀ K:Bool→Prop,K r0→yd5 p0 K) (K:Bool→Prop):yd5 p0 K=K r0 :=
 propext ⟨fun k=>detC (ykY [] ybm) (as:=[(.data p0)]) (x:=(.bool r0)) (fun K' k'=>h (fun r0=>K' (.bool r0)) k') (K:=fun x=>match x with | (.bool r0)=>K r0 | _=>False) k,h K⟩
theorem yA8 (p0:Ls) (p1:Ls) (r0:Int) (h:∀ K:Int→Prop,K r0→yg8 p0 p1 K) (K:Int→Prop):yg8 p0 p1 K=K r0 :=
 propext ⟨fun k=>detC (yup [] ybm) (as:=[(.agg [(.data p0),(.data p1)])]) (x:=(.int .i64 r0)) (fun K' k'=>h (fun r0=>K' (.int .i64 r0)) k') (K:=fun x=>match x with | (.int .i64 r0)=>K r0 | _=>False) k,h K⟩
def ycX (x0:Ls→Ls→Int→Bool→Prop) (x1:Bool→Prop):Nat→Ls→Ls→Int→Prop
 | 0,_,_,_=>False
 | n+1,l0,l1,i2 =>
 (cbr (decide (i2<(((List.length l0):Nat):Int)))
 (asr (decide ((0:Int)≤i2))
 (asr (decide (i2<(((List.length l0):Nat):Int)))
 (lt (List.getD l0 (i2.toNat) .nils) (fun a =>
 (asr (conf (.agg [.i .i64,.i .i64,.i .i64,.i .i64,.i .i64,.i .i64]) a)
 (asr (decide ((0:Int)≤i2))
 (asr (decide (i2<(((List.length l1):Nat):Int)))
 (lt (List.getD l1 (i2.toNat) .nils) (fun b =>
 (asr (conf (.agg [.i .i64,.i .i64,.i .i64,.i .i64,.i .i64,.i .i64]) b)
 (cbr (!(((yac (yaj a 0)) ==(yac (yaj b 0)))&&(((yac (yaj a 1)) ==(yac (yaj b 1)))&&(((yac (yaj a 2)) ==(yac (yaj b 2)))&&(((yac (yaj a 3)) ==(yac (yaj b 3)))&&(((yac (yaj a 4)) ==(yac (yaj b 4)))&&(((yac (yaj a 5)) ==(yac (yaj b 5)))&&true)))))))
 (x1 false)
 (lt (IntKind.i64.wrap (i2+(1:Int))) (fun c =>
 (ycX x0 x1 n l0 l1 c))))))))))))))
 (x0 l0 l1 i2 false))
def yh7 (p0 p1:Ls) (K:Bool→Prop):Prop :=
 (cbr ((((List.length p0):Nat):Int) !=(((List.length p1):Nat):Int))
 (K false)
 (∃ n:Nat,ycX
 (fun _ _ _ _=>(K true))
 (fun a=>(K a))
 n p0 p1 (0:Int)))
def yex:yaa:=yh7
def yq5 (Q:Qx):Ls→Ls→Int→Bool→Prop:=(fun l0 l1 i2 b3=>Q (.exit 0) [(0,.v (.data l0)),(1,.v (.data l1)),(5,.v (.int .i64 i2)),(14,.v (.bool b3))] [])
def yq6 (Q:Qx):Bool→Prop:=(fun b0=>Q .ret [(4,.v (.bool b0))] [])
def ykp (Q:Qx):List St:=[⟨(pS hN (fV 0 vD (fV 1 vD (fV 5 pt0 fN))) fN),ycX (yq5 Q) (yq6 Q)⟩]
def yms:LP:=lpS [(32519300,ykp)]
def yh8 (e:Es):SE:=sE (E e) [] (yms)
theorem ykZ (e:Es) (he:EG e):SEOk (Uni (E e)) (yh8 e):=yaw (Sub.uni _) trivial trivial he.ok
theorem ypO (e:Es):ycp (yh8 e) 5 a ynf false (ykp):=fun _=>⟨fun _=>by kernel_rfl,fun _ _=>by kernel_rfl,trivial⟩
theorem ypP (e:Es) (he:EG e):LpT (Uni (E e)) (yms) [] 32519300 (.loop 32519300 ynf):=fun _ _ _=>yok.st (Sub.uni _) (yaD (ykZ e he) 5) (YOk.no _ _) (yai (by kernel_rfl)) (ypO e _)
theorem yvZ (e:Es):EqW (yh8 e) 6 ywZ ydb yh7:=fun _ _=>by kernel_rfl
theorem ymt (e:Es) (he:EG e):OkF (E e) (ydb.pw yex) yfB:=okU he (yvZ e) (ykZ e he) yj6.flat (ybe (l:=[(32519300,.loop 32519300 ynf)]) ⟨ypP e he,trivial⟩ (by kernel_rfl))
set_option linter.unusedVariables false
theorem yuq (p0:Ls) (p1:Ls) (r0:Bool) (h:∀ K:Bool→Prop,K r0→yex p0 p1 K) (K:Bool→Prop):yex p0 p1 K=K r0 :=
 propext ⟨fun k=>detC (ymt [] ybm) (as:=[(.data p0),(.data p1)]) (x:=(.bool r0)) (fun K' k'=>h (fun r0=>K' (.bool r0)) k') (K:=fun x=>match x with | (.bool r0)=>K r0 | _=>False) k,h K⟩
def ypQ (p0:Int) (K:Int→Int→Prop):Prop :=
 (K p0 (1:Int))
def yaA:yab:=ypQ
def yzx (e:Es):SE:=sE (E e) [] lp0
theorem yzy (e:Es):EqW (yzx e) 11 yAw yis ypQ:=fun _ _=>by kernel_rfl
theorem yee (e:Es) (he:EG e):OkF (E e) (yis.pw yaA) ybw:=okU he (yzy e) (yaw (Sub.uni _) trivial trivial he.ok) yj6.flat (yai (by kernel_rfl))
def yly (a0:ycE) (p0 p1 p2 p3:Int) (K:Bool→Prop):Prop :=
 (a0 p0 p1 p2 p3 (fun a _ =>
 (K (decide (a<(0:Int))))))
def yah:yal:=yly yc0
def yA9 (e:Es) (a0:ycE):SE:=sE (E e) [(ybU,yDw.pw a0)] lp0
theorem yBa (e:Es) (a0):EqW (yA9 e a0) 11 yDs ynD (yly a0):=fun _ _=>by kernel_rfl
theorem yeS (e:Es) (he:EG e):OkF (E e) (ynD.pw yah) ybo:=okU he (yBa e _) (yaw (Sub.uni _) ⟨(yfo e he),trivial⟩ trivial he.ok) yj6.flat (yai (by kernel_rfl))
def ydu (a0:yaV) (a1:yak) (a2:yab) (a3:yal) (a:Ls→Ls→Ls→Int→Int→Bool→Prop) (b:Int→Prop):Nat→Ls→Ls→Ls→Int→Int→Prop
 | 0,_,_,_,_,_=>False
 | e+1,l0,l1,l2,i3,i4 =>
 (cbr (decide (i4<i3))
 (asr (decide ((0:Int)≤i4))
 (asr (decide (i4<(((List.length l2):Nat):Int)))
 (lt (List.getD l2 (i4.toNat) .nils) (fun c =>
 (asr (conf zD c)
 (a1 (yaE c) (fun d =>
 (cbr (d !=(0:Int))
 (b d)
 (lt (IntKind.i64.wrap (i4+(1:Int))) (fun f =>
 (ydu a0 a1 a2 a3 a b e l0 l1 l2 i3 f)))))))))))
 (a l0 l1 l2 i3 i4 false))
end Go.Pf.Vc
