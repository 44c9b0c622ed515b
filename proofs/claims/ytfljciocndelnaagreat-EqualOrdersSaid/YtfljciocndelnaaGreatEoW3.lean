/- Part 3. -/
import Derived.Test.YtfljciocndelnaaGreatEoW2
open Go.IntKind (i64 u8 u64)
open List (length getD take drop replicate set map isEmpty)
namespace Go.Pf.Vc
open Go Go.Pf
def Pi:TFn:=⟨1,[.tmp 2],(zQ (oQ [O 2 (.mv (I 0))] [2]) (zQ (zQ (oQ [M 5 0,O 6 (.len t5),O 7 (.bin .lss t6 (I 1))] [5,6]) (zC t7 (oQ [⟨some 8,.bad,none⟩,⟨none,.bad,none⟩] [7,8]) .skip)) (zQ (.ops [M 9 0,O 10 (.iad 1 t9 (I 0)),oF 11 1 10,M 3 11] [⟨1,zI,0⟩,⟨2,zI,0⟩] [] [7,9,10,11]) (zQ (zQ (oQ [O 4 (.mv (I 1))] []) (zB 0 (.loop 64079100 Lt))) (zQ (oQ [M 24 3,M 2 24] [0,3,4,15,24]) .ret)))))⟩
def yM:Opd:=.t 59
def yN:Opd:=.t 60
def Bl:Opd:=.t 64
def Lu:TC:=(zQ (oQ [oX 51 .lss 50 49] []) (zQ (zC wF .skip (.exit 0)) (zQ (zB 1 (zQ (oQ [M 52 50,M 4 52] [51,52]) (zQ (.ops [O 53 (.fad 1 t1),oF 54 1 53,M 55 4,O 56 (.iad 1 yL oN),oF 57 1 56,O 58 (.fad 1 t1),oF 59 1 58,M 60 4,O 61 (.bin .add yN (I 1)),O 62 (.iad 1 yM Be),oF 63 1 62,oX 64 .geq 57 63] [⟨1,zK,0⟩,⟨3,zI,0⟩,⟨4,zI,0⟩,⟨6,zK,0⟩,⟨9,zI,0⟩,⟨10,zI,0⟩] [(0,2),(1,2),(0,5),(1,5),(2,5),(3,5),(4,5),(0,6),(1,6),(2,6),(3,6),(4,6),(0,7),(1,7),(2,7),(3,7),(4,7),(5,7),(6,7),(0,8),(1,8),(2,8),(3,8),(4,8),(5,8),(6,8),(0,9),(1,9),(2,9),(3,9),(4,9),(0,10),(1,10),(2,10),(3,10),(4,10)] [4,53,54,55,56,57,58,59,60,61,62,63]) (zC Bl (zQ (oQ [O 2 (.mv (I 8))] [1,49,50,64]) .ret) .skip)))) (oQ [O 65 (.bin .add CJ (I 1)),M 50 65] [64,65]))))
def yO:Opd:=.t 70
def Bm:Opd:=.t 71
def CL:Opd:=.t 79
def Pj:TFn:=⟨1,[.tmp 2],(zQ (oQ [O 1 (.boxL t0),O 2 (.mv (I 0))] [0,2]) (zQ (.ops [O 5 (.fad 1 t1),oF 6 1 5,O 7 (.len t6),M 3 7] [⟨1,zK,0⟩] [] [5,6,7]) (zQ (zQ (.ops [O 8 (.fad 0 t1),oF 9 1 8,O 10 (.bin .gtr t9 (I 1000)),M 11 10,zF 12 11 (.mv t3),zF 13 11 (.bin .gtr dQ (I 40)),O 14 (.pick dI (.c (.bool true)) eL)] [⟨1,zK,0⟩] [] (zR 8 6)) (zC eE (zQ (oQ [O 2 (.mv (I 4))] [1,3,14]) .ret) .skip)) (zQ (zQ (.ops [O 15 (.fad 0 t1),oF 16 1 15,O 17 (.bin .lss eO (I 1)),M 18 17,zF 19 18 (.mv t3),zF 20 18 (.bin .lss gN (I 2)),O 21 (.pick gU (.c (.bool true)) iM),M 22 21,zF 23 22 (.fad 2 t1),zF 24 22 (.load false 1 jG),zF 25 22 (.len iN),zF 26 22 (.mv t3),zF 27 22 (.bin .sub kJ (I 1)),zF 28 22 (.bin .neq jP oO),O 29 (.pick gV (.c (.bool true)) iC),M 30 29,zF 31 30 (.fad 1 t1),zF 32 30 (.load false 1 kS),zF 33 30 (.iad 1 lH (I 0)),zF 34 30 (.load false 1 oP),zF 35 30 (.bin .neq kT (I 0)),O 36 (.pick lX (.c (.bool true)) kK),M 37 36,zF 38 37 (.fad 1 t1),zF 39 37 (.load false 1 nA),zF 40 37 (.mv t3),zF 41 37 (.bin .sub nB (I 1)),zF 42 37 (.iad 1 pZ mP),zF 43 37 (.load false 1 lF),zF 44 37 (.fad 0 t1),zF 45 37 (.load false 1 pW),zF 46 37 (.bin .neq sI qU),O 47 (.pick oR (.c (.bool true)) nC)] [⟨1,zK,0⟩,⟨9,zK,0⟩,⟨17,zK,0⟩,⟨18,zI,0⟩,⟨19,zI,0⟩,⟨24,zK,0⟩,⟨27,zI,0⟩,⟨28,zI,0⟩,⟨30,zK,0⟩] [(8,11),(9,11),(10,11),(8,12),(9,12),(10,12),(23,25),(24,25),(23,26),(24,26),(23,29),(24,29),(25,29),(26,29),(27,29),(28,29),(23,30),(24,30),(25,30),(26,30),(27,30),(28,30)] (zR 14 33)) (zC pX (zQ (oQ [O 2 (.mv (I 8))] [1,3,47]) .ret) .skip)) (zQ (zQ (oQ [M 48 3,O 49 (.bin .sub pY (I 1)),O 50 (.mv (I 0))] [3,47,48]) (zB 0 (.loop 87419700 Lu))) (zQ (zQ (.ops [O 66 (.fad 2 t1),oF 67 1 66,O 68 (.call (.f Id) [CD]),O 69 (.bin .lss Bf (I 0)),M 70 69,zF 71 70 (.fad 2 t1),zF 72 70 (.load false 1 Bm),zF 73 70 (.call (.f Fd) [Bg]),zF 74 70 (.bin .gtr CE (I 12)),O 75 (.pick yO (.c (.bool true)) Bh),M 76 75,zF 77 76 (.fad 2 t1),zF 78 76 (.load false 1 yK),zF 79 76 (.call (.f Fd) [wE]),zF 80 76 (.bin .eql CL (I 0)),O 81 (.pick CF (.c (.bool true)) Fx)] [⟨1,zK,0⟩,⟨6,zK,0⟩,⟨12,zK,0⟩] [] [1,49,50,51,66,67,68,69,70,71,72,73,74,75,76,77,78,79,80]) (zC CG (zQ (oQ [O 2 (.mv (I 8))] [81]) .ret) .skip)) (zQ (oQ [O 2 (.mv (I 0))] [81]) .ret)))))))⟩
def Lv:TC:=(zQ (oQ [oX 26 .lss 25 24] []) (zQ (zC kJ .skip (.exit 0)) (zQ (zB 1 (zQ (.ops [O 27 (.iad 3 jG jP),oT 28 3 27,O 4 (.allocL (.agg [(ic (0)),.nils,.nils])),zS 3 t4 iC] [⟨0,zK,0⟩,⟨1,zK,0⟩] [] [26,27,28]) (zQ (oQ [oT 29 3 4,O 30 (.call (.f vZ) [lE]),M 5 30] [4,29,30]) (zQ (oQ [M 31 5,O 32 (.bin .neq kS (I 0))] [31]) (zC lH (zQ (oQ [M 33 5,M 2 33] [1,5,23,24,25,32,33]) .ret) .skip))))) (oQ [O 34 (.bin .add jP (I 1)),M 25 34] [5,32,34]))))
def Lw:TC:=(zQ (oQ [oX 39 .lss 38 37] []) (zQ (zC pZ .skip (.exit 2)) (zQ (zB 3 (zQ (.ops [O 40 (.iad 3 nU nA),oT 41 3 40,O 7 (.allocL (.agg [(ic (0)),.nils,.nils])),zS 3 t7 mP] [⟨0,zK,0⟩,⟨1,zK,0⟩] [] [39,40,41]) (zQ (.ops [O 42 (.fad 0 t7),oF 43 1 42,O 44 (.fad 0 t1),oF 45 1 44,O 46 (.iad 3 qU (I 0)),O 47 (.fad 0 nC),oF 48 1 47,oX 49 .neq 43 48] [⟨1,zK,0⟩,⟨3,zE,0⟩,⟨4,zK,0⟩,⟨6,zK,0⟩] [(0,2),(1,2),(0,3),(1,3),(0,4),(1,4),(0,5),(1,5),(0,6),(1,6)] [7,42,43,44,45,46,47,48]) (zC sJ (zQ (oQ [O 2 (.mv (I 8))] [1,36,37,38,49]) .ret) .skip)))) (oQ [O 50 (.bin .add nA (I 1)),M 38 50] [49,50]))))
def Pk:TFn:=⟨1,[.tmp 2],(zQ (oQ [O 1 (.boxL t0),O 2 (.mv (I 0))] [0,2]) (zQ (zQ (.ops [O 8 (.fad 0 t1),oF 9 1 8,O 10 (.len t9),O 11 (.bin .gtr dN (I 6)),M 12 11,zF 13 12 (.fad 1 t1),zF 14 12 (.load false 1 eL),zF 15 12 (.len eE),zF 16 12 (.bin .gtr fG (I 2000)),O 17 (.pick dQ (.c (.bool true)) eO)] [⟨1,zE,0⟩,⟨6,zE,0⟩] [] (zR 8 9)) (zC gM (zQ (oQ [O 2 (.mv (I 4))] [1,17]) .ret) .skip)) (zQ (zQ (.ops [O 18 (.fad 0 t1),oF 19 1 18,O 20 (.len gN),O 21 (.bin .eql iM (I 0))] [⟨1,zE,0⟩] [] (zR 17 4)) (zC iW (zQ (oQ [O 2 (.mv (I 8))] [1,21]) .ret) .skip)) (zQ (zQ (.ops [O 22 (.fad 0 t1),oF 23 1 22,O 24 (.len jG),O 25 (.mv (I 0))] [⟨1,zE,0⟩] [] [21,22]) (zB 0 (.loop 12157600 Lv))) (zQ (zQ (.ops [O 35 (.fad 0 t1),oF 36 1 35,O 37 (.len nU),O 38 (.mv (I 0))] [⟨1,zE,0⟩] [] [23,24,25,26,35]) (zB 2 (.loop 12157601 Lw))) (zQ (oQ [O 2 (.mv (I 0))] [1,36,37,38,39]) .ret))))))⟩
def Lx:TC:=(zQ (oQ [oX 9 .lss 8 7] []) (zQ (zC t9 .skip (.exit 0)) (zQ (zB 1 (zQ (oQ [M 10 8,M 5 10] [9,10]) (zQ (.ops [M 11 1,M 12 0,M 13 5,O 14 (.iad 3 dQ eL),oT 15 3 14,O 16 (.call dI [fG])] [⟨3,zK,0⟩,⟨4,zK,0⟩] [] (zR 11 5)) (zC eO (zQ (oQ [M 17 5,M 4 17] [0,1,5,7,8,16,17]) .ret) .skip)))) (oQ [O 18 (.bin .add t8 (I 1)),M 8 18] [5,16,18]))))
def Pl:TFn:=⟨2,[.tmp 4],(zQ (oQ [O 4 (.mv (I 0))] [4]) (zQ (zQ (oQ [M 6 0,O 7 (.len t6),O 8 (.mv (I 0))] [6]) (zB 0 (.loop 72162200 Lx))) (zQ (oQ [O 4 (.mv (I (-1)))] [0,1,7,8,9]) .ret)))⟩
def Ly:TFn:=⟨2,[.tmp 4],(zQ (oQ [O 4 (.mv (.c (.bool false)))] [4]) (zQ (oQ [M 5 0,M 6 1,O 7 (.call (.f OO) [t5,t6]),O 8 (.bin .geq t7 (I 0)),M 4 8] [0,1,5,6,7,8]) .ret))⟩
def Lz:TC:=(zQ (oQ [oX 9 .lss 8 7] []) (zQ (zC t9 .skip (.exit 0)) (zQ (zB 1 (zQ (oQ [M 10 8,M 5 10] [9,10]) (zQ (.ops [M 11 1,M 12 0,M 13 5,O 14 (.iad 1 dQ eL),oF 15 1 14,oX 16 .eql 11 15] [⟨3,zI,0⟩,⟨4,zI,0⟩] [] (zR 11 5)) (zC eO (zQ (oQ [M 17 5,M 4 17] [0,1,5,7,8,16,17]) .ret) .skip)))) (oQ [O 18 (.bin .add t8 (I 1)),M 8 18] [5,16,18]))))
def Pm:TFn:=⟨2,[.tmp 4],(zQ (oQ [O 4 (.mv (I 0))] [4]) (zQ (zQ (oQ [M 6 0,O 7 (.len t6),O 8 (.mv (I 0))] [6]) (zB 0 (.loop 23412100 Lz))) (zQ (oQ [O 4 (.mv (I (-1)))] [0,1,7,8,9]) .ret)))⟩
def Pn:TFn:=⟨2,[.tmp 4],(zQ (oQ [O 4 (.mv (.c (.bool false)))] [4]) (zQ (oQ [M 5 0,M 6 1,O 7 (.call (.f Ie) [t5,t6]),O 8 (.bin .geq t7 (I 0)),M 4 8] [0,1,5,6,7,8]) .ret))⟩
def Po:TFn:=⟨1,[.tmp 2],(zQ (oQ [O 1 (.boxL t0),O 2 (.mv (.c (.bool false)))] [0,2]) (zQ (.ops [O 3 (.fad 2 t1),oF 4 1 3,O 5 (.call (.f AZ) [t4,(I 0)]),M 2 5] [⟨1,zK,0⟩] [] [1,3,4,5]) .ret))⟩
def Pp:TFn:=⟨1,[.tmp 2],(zQ (oQ [O 2 (.mv (I 0))] [2]) (zQ (zQ (oQ [M 4 0,O 5 (.build [.nils,.nils] [(0,1,t4)]),O 6 (.call (.f Fe) [t5]),M 3 6] [4,5,6]) (zQ (oQ [M 7 3,O 8 (.bin .neq t7 (I 0))] [7]) (zC t8 (zQ (oQ [M 9 3,M 2 9] [0,3,8,9]) .ret) .skip))) (zQ (zQ (oQ [M 10 0,O 11 (.len dN),O 12 (.bin .gtr dI (I 4))] [3,8,10,11]) (zC dQ (zQ (oQ [O 2 (.mv (I 4))] [0,12]) .ret) .skip)) (zQ (zQ (oQ [M 13 0,O 14 (.call (.f KZ) [eL,(.f Ba)])] [0,12,13]) (zC eE (zQ (oQ [O 2 (.mv (I 2))] [14]) .ret) .skip)) (zQ (oQ [O 2 (.mv (I 0))] [14]) .ret)))))⟩
def mg:TC:=(zQ (oQ [oX 8 .lss 7 6] []) (zQ (zC t8 .skip (.exit 0)) (zQ (zB 1 (zQ (.ops [O 9 (.iad 1 t5 t7),oF 10 1 9,M 4 10] [⟨0,zI,0⟩,⟨1,zI,0⟩] [] [8,9,10]) (.yret (.seq (.ops [M 11 0,M 12 4,O 13 (.call dI [dQ]),O 14 (.un .not eL)] [] [4,11,12,13]) (.cond eE .ret .skip)) [M 11 0,M 12 4] 13 dI [dQ] 14 [4,11,12,13]))) (oQ [O 15 (.bin .add t7 (I 1)),M 7 15] [14,15]))))
def Zd:TFn:=⟨2,[],(zQ (oQ [oF 5 1 1,O 6 (.len t5),O 7 (.mv (I 0))] [1]) (zB 0 (.loop 27750900 mg)))⟩
def Pq:TFn:=⟨1,[.tmp 2],(zQ (oQ [O 1 (.boxH true 1 t0),O 2 (.mv (.c .nilf))] [0,2]) (zQ (oQ [O 3 (.mkFn (.func La) [] [t1]),M 2 3] [1,3]) .ret))⟩
def mh:TC:=(zQ (oQ [oX 8 .lss 7 6] []) (zQ (zC t8 .skip (.exit 0)) (zQ (zB 1 (zQ (.ops [O 9 (.iad 1 t5 t7),oF 10 1 9,M 4 10] [⟨0,zI,0⟩,⟨1,zI,0⟩] [] [8,9,10]) (.yret (.seq (.ops [M 11 0,M 12 4,O 13 (.call dI [dQ]),O 14 (.un .not eL)] [] [4,11,12,13]) (.cond eE .ret .skip)) [M 11 0,M 12 4] 13 dI [dQ] 14 [4,11,12,13]))) (oQ [O 15 (.bin .add t7 (I 1)),M 7 15] [14,15]))))
def mi:TC:=(zQ (oQ [oF 5 1 1,O 6 (.len t5),O 7 (.mv (I 0))] [1]) (zB 0 (.loop 32280200 mh)))
def mj:TC:=(oQ [M 5 7] [4,6,7])
def ml:TC:=(zB 1 (.ops [oF 8 1 2,M 9 5,O 10 (.bD 1 (.int .i64 (0)) 1 [(0,t9)]),O 11 (.app true 1 8 t8 dN),zS 1 t2 dI] [⟨0,zD,0⟩,⟨4,zD,0⟩] [] [2,5,8,9,10,11]))
def Ze:TFn:=⟨2,[.tmp 4],(zQ (oQ [O 2 (.boxH false 1 t0),O 4 (.mv (.c .nils))] [0]) (zQ (zQ (oQ [M 6 1] [1]) (zB 0 (.rangeF t6 La 2 mi [7] mj ml))) (zQ (.ops [oF 12 1 2,M 4 12] [⟨0,zD,0⟩] [] [2,6,12]) .ret)))⟩
def Zf:TFn:=⟨1,[.tmp 2],(zQ (oQ [O 2 (.mv (.c .nils))] [2]) (zQ (oQ [M 3 0,O 4 (.call (.f YZ) [(.c .nils),t3]),M 2 4] [0,3,4]) .ret))⟩
def Zg:TFn:=⟨1,[.tmp 2],(zQ (oQ [O 2 (.mv (I 0))] []) (zQ (zQ (oQ [M 3 0,O 4 (.bin .geq t3 (.c (.int .u32 (65536))))] [3]) (zC t4 (zQ (oQ [M 5 0,O 6 (.bin .shr t5 (.c (.int .u64 (16)))),M 0 6] [2,4,5,6]) (oQ [O 2 (.mv (I 16))] [])) .skip)) (zQ (zQ (oQ [M 7 0,O 8 (.bin .geq t7 (.c (.int .u32 (256))))] [4,7]) (zC t8 (zQ (oQ [M 9 0,O 10 (.bin .shr t9 (.c (.int .u64 (8)))),M 0 10] [8,9,10]) (oQ [M 11 2,O 12 (.bin .add dI (I 8)),M 2 12] [11,12])) .skip)) (zQ (oQ [M 13 2,M 14 0,O 15 (.conv .u8 eE),O 16 (.idx false 256 1 (.c (.agg [(.int .u8 (0)),(.int .u8 (1)),(.int .u8 (2)),(.int .u8 (2)),(.int .u8 (3)),(.int .u8 (3)),(.int .u8 (3)),(.int .u8 (3)),(.int .u8 (4)),(.int .u8 (4)),(.int .u8 (4)),(.int .u8 (4)),(.int .u8 (4)),(.int .u8 (4)),(.int .u8 (4)),(.int .u8 (4)),(.int .u8 (5)),(.int .u8 (5)),(.int .u8 (5)),(.int .u8 (5)),(.int .u8 (5)),(.int .u8 (5)),(.int .u8 (5)),(.int .u8 (5)),(.int .u8 (5)),(.int .u8 (5)),(.int .u8 (5)),(.int .u8 (5)),(.int .u8 (5)),(.int .u8 (5)),(.int .u8 (5)),(.int .u8 (5)),(.int .u8 (6)),(.int .u8 (6)),(.int .u8 (6)),(.int .u8 (6)),(.int .u8 (6)),(.int .u8 (6)),(.int .u8 (6)),(.int .u8 (6)),(.int .u8 (6)),(.int .u8 (6)),(.int .u8 (6)),(.int .u8 (6)),(.int .u8 (6)),(.int .u8 (6)),(.int .u8 (6)),(.int .u8 (6)),(.int .u8 (6)),(.int .u8 (6)),(.int .u8 (6)),(.int .u8 (6)),(.int .u8 (6)),(.int .u8 (6)),(.int .u8 (6)),(.int .u8 (6)),(.int .u8 (6)),(.int .u8 (6)),(.int .u8 (6)),(.int .u8 (6)),(.int .u8 (6)),(.int .u8 (6)),(.int .u8 (6)),(.int .u8 (6)),(.int .u8 (7)),(.int .u8 (7)),(.int .u8 (7)),(.int .u8 (7)),(.int .u8 (7)),(.int .u8 (7)),(.int .u8 (7)),(.int .u8 (7)),(.int .u8 (7)),(.int .u8 (7)),(.int .u8 (7)),(.int .u8 (7)),(.int .u8 (7)),(.int .u8 (7)),(.int .u8 (7)),(.int .u8 (7)),(.int .u8 (7)),(.int .u8 (7)),(.int .u8 (7)),(.int .u8 (7)),(.int .u8 (7)),(.int .u8 (7)),(.int .u8 (7)),(.int .u8 (7)),(.int .u8 (7)),(.int .u8 (7)),(.int .u8 (7)),(.int .u8 (7)),(.int .u8 (7)),(.int .u8 (7)),(.int .u8 (7)),(.int .u8 (7)),(.int .u8 (7)),(.int .u8 (7)),(.int .u8 (7)),(.int .u8 (7)),(.int .u8 (7)),(.int .u8 (7)),(.int .u8 (7)),(.int .u8 (7)),(.int .u8 (7)),(.int .u8 (7)),(.int .u8 (7)),(.int .u8 (7)),(.int .u8 (7)),(.int .u8 (7)),(.int .u8 (7)),(.int .u8 (7)),(.int .u8 (7)),(.int .u8 (7)),(.int .u8 (7)),(.int .u8 (7)),(.int .u8 (7)),(.int .u8 (7)),(.int .u8 (7)),(.int .u8 (7)),(.int .u8 (7)),(.int .u8 (7)),(.int .u8 (7)),(.int .u8 (7)),(.int .u8 (7)),(.int .u8 (7)),(.int .u8 (7)),(.int .u8 (7)),(.int .u8 (8)),(.int .u8 (8)),(.int .u8 (8)),(.int .u8 (8)),(.int .u8 (8)),(.int .u8 (8)),(.int .u8 (8)),(.int .u8 (8)),(.int .u8 (8)),(.int .u8 (8)),(.int .u8 (8)),(.int .u8 (8)),(.int .u8 (8)),(.int .u8 (8)),(.int .u8 (8)),(.int .u8 (8)),(.int .u8 (8)),(.int .u8 (8)),(.int .u8 (8)),(.int .u8 (8)),(.int .u8 (8)),(.int .u8 (8)),(.int .u8 (8)),(.int .u8 (8)),(.int .u8 (8)),(.int .u8 (8)),(.int .u8 (8)),(.int .u8 (8)),(.int .u8 (8)),(.int .u8 (8)),(.int .u8 (8)),(.int .u8 (8)),(.int .u8 (8)),(.int .u8 (8)),(.int .u8 (8)),(.int .u8 (8)),(.int .u8 (8)),(.int .u8 (8)),(.int .u8 (8)),(.int .u8 (8)),(.int .u8 (8)),(.int .u8 (8)),(.int .u8 (8)),(.int .u8 (8)),(.int .u8 (8)),(.int .u8 (8)),(.int .u8 (8)),(.int .u8 (8)),(.int .u8 (8)),(.int .u8 (8)),(.int .u8 (8)),(.int .u8 (8)),(.int .u8 (8)),(.int .u8 (8)),(.int .u8 (8)),(.int .u8 (8)),(.int .u8 (8)),(.int .u8 (8)),(.int .u8 (8)),(.int .u8 (8)),(.int .u8 (8)),(.int .u8 (8)),(.int .u8 (8)),(.int .u8 (8)),(.int .u8 (8)),(.int .u8 (8)),(.int .u8 (8)),(.int .u8 (8)),(.int .u8 (8)),(.int .u8 (8)),(.int .u8 (8)),(.int .u8 (8)),(.int .u8 (8)),(.int .u8 (8)),(.int .u8 (8)),(.int .u8 (8)),(.int .u8 (8)),(.int .u8 (8)),(.int .u8 (8)),(.int .u8 (8)),(.int .u8 (8)),(.int .u8 (8)),(.int .u8 (8)),(.int .u8 (8)),(.int .u8 (8)),(.int .u8 (8)),(.int .u8 (8)),(.int .u8 (8)),(.int .u8 (8)),(.int .u8 (8)),(.int .u8 (8)),(.int .u8 (8)),(.int .u8 (8)),(.int .u8 (8)),(.int .u8 (8)),(.int .u8 (8)),(.int .u8 (8)),(.int .u8 (8)),(.int .u8 (8)),(.int .u8 (8)),(.int .u8 (8)),(.int .u8 (8)),(.int .u8 (8)),(.int .u8 (8)),(.int .u8 (8)),(.int .u8 (8)),(.int .u8 (8)),(.int .u8 (8)),(.int .u8 (8)),(.int .u8 (8)),(.int .u8 (8)),(.int .u8 (8)),(.int .u8 (8)),(.int .u8 (8)),(.int .u8 (8)),(.int .u8 (8)),(.int .u8 (8)),(.int .u8 (8)),(.int .u8 (8)),(.int .u8 (8)),(.int .u8 (8)),(.int .u8 (8)),(.int .u8 (8)),(.int .u8 (8)),(.int .u8 (8)),(.int .u8 (8)),(.int .u8 (8)),(.int .u8 (8))])) fG),O 17 (.conv .i64 eO),oX 18 .add 13 17,M 2 18] [0,8,13,14,15,16,17,18]) .ret))))⟩
def Pr:TFn:=⟨1,[.tmp 2],(zQ (oQ [O 2 (.mv (I 0))] []) (zQ (zQ (oQ [M 3 0,O 4 (.bin .geq t3 (.c (.int .u64 (4294967296))))] [3]) (zC t4 (zQ (oQ [M 5 0,O 6 (.bin .shr t5 (.c (.int .u64 (32)))),M 0 6] [2,4,5,6]) (oQ [O 2 (.mv (I 32))] [])) .skip)) (zQ (zQ (oQ [M 7 0,O 8 (.bin .geq t7 (.c (.int .u64 (65536))))] [4,7]) (zC t8 (zQ (oQ [M 9 0,O 10 (.bin .shr t9 (.c (.int .u64 (16)))),M 0 10] [8,9,10]) (oQ [M 11 2,O 12 (.bin .add dI (I 16)),M 2 12] [11,12])) .skip)) (zQ (zQ (oQ [M 13 0,O 14 (.bin .geq eL (.c (.int .u64 (256))))] [8,13]) (zC eE (zQ (oQ [M 15 0,O 16 (.bin .shr fG (.c (.int .u64 (8)))),M 0 16] [14,15,16]) (oQ [M 17 2,O 18 (.bin .add gM (I 8)),M 2 18] [17,18])) .skip)) (zQ (oQ [M 19 2,M 20 0,O 21 (.conv .u8 iM),O 22 (.idx false 256 1 (.c (.agg [(.int .u8 (0)),(.int .u8 (1)),(.int .u8 (2)),(.int .u8 (2)),(.int .u8 (3)),(.int .u8 (3)),(.int .u8 (3)),(.int .u8 (3)),(.int .u8 (4)),(.int .u8 (4)),(.int .u8 (4)),(.int .u8 (4)),(.int .u8 (4)),(.int .u8 (4)),(.int .u8 (4)),(.int .u8 (4)),(.int .u8 (5)),(.int .u8 (5)),(.int .u8 (5)),(.int .u8 (5)),(.int .u8 (5)),(.int .u8 (5)),(.int .u8 (5)),(.int .u8 (5)),(.int .u8 (5)),(.int .u8 (5)),(.int .u8 (5)),(.int .u8 (5)),(.int .u8 (5)),(.int .u8 (5)),(.int .u8 (5)),(.int .u8 (5)),(.int .u8 (6)),(.int .u8 (6)),(.int .u8 (6)),(.int .u8 (6)),(.int .u8 (6)),(.int .u8 (6)),(.int .u8 (6)),(.int .u8 (6)),(.int .u8 (6)),(.int .u8 (6)),(.int .u8 (6)),(.int .u8 (6)),(.int .u8 (6)),(.int .u8 (6)),(.int .u8 (6)),(.int .u8 (6)),(.int .u8 (6)),(.int .u8 (6)),(.int .u8 (6)),(.int .u8 (6)),(.int .u8 (6)),(.int .u8 (6)),(.int .u8 (6)),(.int .u8 (6)),(.int .u8 (6)),(.int .u8 (6)),(.int .u8 (6)),(.int .u8 (6)),(.int .u8 (6)),(.int .u8 (6)),(.int .u8 (6)),(.int .u8 (6)),(.int .u8 (7)),(.int .u8 (7)),(.int .u8 (7)),(.int .u8 (7)),(.int .u8 (7)),(.int .u8 (7)),(.int .u8 (7)),(.int .u8 (7)),(.int .u8 (7)),(.int .u8 (7)),(.int .u8 (7)),(.int .u8 (7)),(.int .u8 (7)),(.int .u8 (7)),(.int .u8 (7)),(.int .u8 (7)),(.int .u8 (7)),(.int .u8 (7)),(.int .u8 (7)),(.int .u8 (7)),(.int .u8 (7)),(.int .u8 (7)),(.int .u8 (7)),(.int .u8 (7)),(.int .u8 (7)),(.int .u8 (7)),(.int .u8 (7)),(.int .u8 (7)),(.int .u8 (7)),(.int .u8 (7)),(.int .u8 (7)),(.int .u8 (7)),(.int .u8 (7)),(.int .u8 (7)),(.int .u8 (7)),(.int .u8 (7)),(.int .u8 (7)),(.int .u8 (7)),(.int .u8 (7)),(.int .u8 (7)),(.int .u8 (7)),(.int .u8 (7)),(.int .u8 (7)),(.int .u8 (7)),(.int .u8 (7)),(.int .u8 (7)),(.int .u8 (7)),(.int .u8 (7)),(.int .u8 (7)),(.int .u8 (7)),(.int .u8 (7)),(.int .u8 (7)),(.int .u8 (7)),(.int .u8 (7)),(.int .u8 (7)),(.int .u8 (7)),(.int .u8 (7)),(.int .u8 (7)),(.int .u8 (7)),(.int .u8 (7)),(.int .u8 (7)),(.int .u8 (7)),(.int .u8 (7)),(.int .u8 (7)),(.int .u8 (8)),(.int .u8 (8)),(.int .u8 (8)),(.int .u8 (8)),(.int .u8 (8)),(.int .u8 (8)),(.int .u8 (8)),(.int .u8 (8)),(.int .u8 (8)),(.int .u8 (8)),(.int .u8 (8)),(.int .u8 (8)),(.int .u8 (8)),(.int .u8 (8)),(.int .u8 (8)),(.int .u8 (8)),(.int .u8 (8)),(.int .u8 (8)),(.int .u8 (8)),(.int .u8 (8)),(.int .u8 (8)),(.int .u8 (8)),(.int .u8 (8)),(.int .u8 (8)),(.int .u8 (8)),(.int .u8 (8)),(.int .u8 (8)),(.int .u8 (8)),(.int .u8 (8)),(.int .u8 (8)),(.int .u8 (8)),(.int .u8 (8)),(.int .u8 (8)),(.int .u8 (8)),(.int .u8 (8)),(.int .u8 (8)),(.int .u8 (8)),(.int .u8 (8)),(.int .u8 (8)),(.int .u8 (8)),(.int .u8 (8)),(.int .u8 (8)),(.int .u8 (8)),(.int .u8 (8)),(.int .u8 (8)),(.int .u8 (8)),(.int .u8 (8)),(.int .u8 (8)),(.int .u8 (8)),(.int .u8 (8)),(.int .u8 (8)),(.int .u8 (8)),(.int .u8 (8)),(.int .u8 (8)),(.int .u8 (8)),(.int .u8 (8)),(.int .u8 (8)),(.int .u8 (8)),(.int .u8 (8)),(.int .u8 (8)),(.int .u8 (8)),(.int .u8 (8)),(.int .u8 (8)),(.int .u8 (8)),(.int .u8 (8)),(.int .u8 (8)),(.int .u8 (8)),(.int .u8 (8)),(.int .u8 (8)),(.int .u8 (8)),(.int .u8 (8)),(.int .u8 (8)),(.int .u8 (8)),(.int .u8 (8)),(.int .u8 (8)),(.int .u8 (8)),(.int .u8 (8)),(.int .u8 (8)),(.int .u8 (8)),(.int .u8 (8)),(.int .u8 (8)),(.int .u8 (8)),(.int .u8 (8)),(.int .u8 (8)),(.int .u8 (8)),(.int .u8 (8)),(.int .u8 (8)),(.int .u8 (8)),(.int .u8 (8)),(.int .u8 (8)),(.int .u8 (8)),(.int .u8 (8)),(.int .u8 (8)),(.int .u8 (8)),(.int .u8 (8)),(.int .u8 (8)),(.int .u8 (8)),(.int .u8 (8)),(.int .u8 (8)),(.int .u8 (8)),(.int .u8 (8)),(.int .u8 (8)),(.int .u8 (8)),(.int .u8 (8)),(.int .u8 (8)),(.int .u8 (8)),(.int .u8 (8)),(.int .u8 (8)),(.int .u8 (8)),(.int .u8 (8)),(.int .u8 (8)),(.int .u8 (8)),(.int .u8 (8)),(.int .u8 (8)),(.int .u8 (8)),(.int .u8 (8)),(.int .u8 (8)),(.int .u8 (8)),(.int .u8 (8)),(.int .u8 (8)),(.int .u8 (8)),(.int .u8 (8)),(.int .u8 (8)),(.int .u8 (8)),(.int .u8 (8)),(.int .u8 (8)),(.int .u8 (8)),(.int .u8 (8))])) iW),O 23 (.conv .i64 gV),oX 24 .add 19 23,M 2 24] [0,14,19,20,21,22,23,24]) .ret)))))⟩
def Zh:TFn:=⟨1,[.tmp 2],(zQ (oQ [O 2 (.mv (I 0))] [2]) (zQ (zC (.c (.bool false)) (zQ (oQ [M 3 0,O 4 (.conv .u32 t3),O 5 (.call (.f OQ) [t4]),M 2 5] [0,3,4,5]) .ret) .skip) (zQ (oQ [M 6 0,O 7 (.call (.f Ff) [t6]),M 2 7] [0,6,7]) .ret)))⟩
def Zi:TFn:=⟨1,[.tmp 2],(zQ (oQ [O 2 (.mv (.c (.bool false)))] [2]) (zQ (oQ [M 3 0,M 4 0,oX 5 .neq 3 4,M 2 5] [0,3,4,5]) .ret))⟩
def Zj:TFn:=⟨2,[.tmp 4],(zQ (oQ [O 4 (.mv (.c (.bool false)))] [4]) (zQ (oQ [M 5 0,O 6 (.call (.f Lb) [t5]),M 7 6,zT 8 7 (.mv t1),zT 9 7 (.call (.f Lb) [t8]),zT 10 7 (.un .not t9),O 11 (.pick t7 dN (.c (.bool false))),M 12 11,zF 13 12 (.mv t0),zF 14 12 (.mv t1),zF 15 12 (.bin .lss eL eE),O 16 (.pick dQ (.c (.bool true)) fG),M 4 16] [0,1,5,6,7,8,9,10,11,12,13,14,15,16]) .ret))⟩
def mn:TC:=(zQ (zQ (.ops [M 16 7,M 17 1,oX 18 .gtr 16 17,M 19 18,zT 20 19 (.mv t0),zT 21 19 (.mv t7),zT 22 19 (.iad 1 iM iW),zT 23 19 (.load false 1 gV),zT 24 19 (.mv t0),zT 25 19 (.mv t7),zT 26 19 (.bin .sub jP (I 1)),zT 27 19 (.iad 1 iN kJ),zT 28 19 (.load false 1 oO),zT 29 19 (.call (.f Ld) [jG,iC]),O 30 (.pick gN lE (.c (.bool false)))] [⟨6,zI,0⟩,⟨7,zI,0⟩,⟨11,zI,0⟩,⟨12,zI,0⟩] [(0,1),(4,5),(4,8),(5,8),(6,8),(7,8),(4,9),(5,9),(6,9),(7,9),(8,9),(4,10),(5,10),(6,10),(7,10),(8,10),(4,11),(5,11),(6,11),(7,11),(4,12),(5,12),(6,12),(7,12)] (zR 16 14)) (zC lX .skip (.exit 2))) (zQ (zB 3 (.ops [M 33 0,M 34 7,M 35 0,M 36 7,O 37 (.bin .sub nU (I 1)),M 38 0,M 39 7,O 40 (.bin .sub pZ (I 1)),O 41 (.iad 1 nA nB),oF 42 1 41,M 43 0,M 44 7,O 45 (.iad 1 sI pW),oF 46 1 45,O 47 (.iad 1 oP kT),zS 1 pX lF,O 48 (.iad 1 kK oR),zS 1 pY nC] [⟨8,zI,0⟩,⟨9,zI,0⟩,⟨12,zI,0⟩,⟨13,zI,0⟩,⟨14,zI,0⟩,⟨15,zI,0⟩,⟨16,zI,0⟩,⟨17,zI,0⟩] [(0,1),(0,2),(1,2),(0,3),(1,3),(2,3),(0,4),(1,4),(2,4),(0,5),(1,5),(2,5),(3,5),(4,5),(0,6),(1,6),(2,6),(3,6),(4,6),(5,6),(0,7),(1,7),(2,7),(3,7),(4,7),(5,7),(0,8),(1,8),(2,8),(3,8),(4,8),(0,9),(1,9),(2,9),(3,9),(4,9),(0,10),(1,10),(2,10),(3,10),(4,10),(5,10),(6,10),(7,10),(8,10),(9,10),(0,11),(1,11),(2,11),(3,11),(4,11),(5,11),(6,11),(7,11),(8,11),(9,11),(10,11),(0,12),(1,12),(2,12),(3,12),(4,12),(5,12),(6,12),(7,12),(8,12),(9,12),(0,13),(1,13),(2,13),(3,13),(4,13),(5,13),(6,13),(7,13),(8,13),(9,13),(2,14),(3,14),(4,14),(2,15),(3,15),(4,15)] [30,33,34,35,36,37,38,39,40,41,42,43,44,45,46,47,48])) (oQ [M 31 7,O 32 (.bin .sub kS (I 1)),M 7 32] [31,32])))
def mo:TC:=(zQ (zQ (oQ [M 10 6,M 11 2,oX 12 .lss 10 11] [10,11]) (zC dQ .skip (.exit 0))) (zQ (zB 1 (zQ (oQ [M 15 6,M 7 15] [12,15]) (zB 2 (.loop 58428500 mn)))) (oQ [M 13 6,O 14 (.bin .add eL (I 1)),M 6 14] [7,13,14,30])))
def Zk:TFn:=⟨3,[],(zQ (oQ [M 8 1,O 9 (.bin .add t8 (I 1)),M 6 9] [8,9]) (zB 0 (.loop 58428501 mo)))⟩
def CM:Opd:=.t 65
def CN:Opd:=.t 66
def Bn:Opd:=.t 69
def FG:Opd:=.t 88
def FH:Opd:=.t 96
def oS:Opd:=.t 109
def yP:Opd:=.t 113
def CO:Opd:=.t 117
def CP:Opd:=.t 118
def tZ:Opd:=.t 119
def yQ:Opd:=.t 120
def yR:Opd:=.t 122
def CQ:Opd:=.t 127
def Iz:Opd:=.t 128
def CR:Opd:=.t 129
def yS:Opd:=.t 130
def yT:Opd:=.t 131
def mp:TC:=(zB 1 (zQ (oQ [M 19 2,M 20 1,oX 21 .sub 19 20,M 10 21] [19,20,21]) (zQ (zQ (oQ [M 22 10,O 23 (.bin .leq gV (I 12))] [22]) (zC jG (zQ (oQ [M 24 0,M 25 1,M 26 2,O 27 (.call (.f Zb) [iN,jP,kJ])] [0,1,2,3,8,9,10,23,24,25,26,27]) .ret) .skip)) (.cut (.seq (.seq (.ops [M 28 3,O 29 (.bin .eql iC (I 0))] [] [23,28]) (.cond lE (.seq (.ops [M 30 0,M 31 1,M 32 2,O 33 (.call (.f 132) [lX,kS,lH])] [] [0,1,2,3,8,9,10,29,30,31,32,33]) .ret) .skip)) (.seq (.seq (.ops [M 34 8,O 35 (.un .not kT)] [] [29,34]) (.cond kK (.seq (.ops [M 36 0,M 37 1,M 38 2,O 39 (.call (.f 133) [nU,oR,nA])] [] (zR 35 5)) (.ops [M 40 3,O 41 (.bin .sub nB (I 1)),M 3 41] [] [40,41])) .skip)) (.seq (.ops [M 43 0,M 44 1,M 45 2,O 46 (.call (.f 134) [sI,pW,qU]),M 42 46,O 47 (.ext lF 0),O 48 (.ext lF 1),M 11 47,M 12 48] [] [35,42,43,44,45,46,47,48]) (.seq (.seq (.ops [M 49 12,O 50 (.bin .eql sJ (I 2))] [] [49]) (.cond CJ (.seq (.ops [M 51 0,M 52 1,M 53 2,O 54 (.call (.f 135) [wF,wG,Bj])] [] [12,50,51,52,53,54]) (.seq (.ops [M 55 2,O 56 (.bin .sub oN (I 1)),M 57 11,M 58 1,oX 59 .sub 57 58,oX 60 .sub 56 59,M 11 60] [] (zR 55 6)) (.ops [O 12 (.mv (I 1))] [] []))) .skip)) (.seq (.seq (.ops [M 61 8,M 62 61,zT 63 62 (.mv t9),O 64 (.pick CC Iv (.c (.bool false))),M 65 64,zT 66 65 (.mv dQ),zT 67 65 (.bin .eql CN (I 1)),O 68 (.pick CM CD (.c (.bool false)))] [] [12,50,61,62,63,64,65,66,67]) (.cond Bf (.seq (.ops [M 69 0,M 70 1,M 71 2,O 72 (.call (.f 136) [Bn,yO,Bm])] [] (zR 68 4)) (.cond Bg .ret .skip)) .skip)) (.seq (.seq (.ops [M 73 1,O 74 (.bin .gtr CE (I 0)),M 75 74,zT 76 75 (.mv t0),zT 77 75 (.mv t1),zT 78 75 (.bin .sub yK (I 1)),zT 79 75 (.iad 1 CF wE),zT 80 75 (.load false 1 CL),zT 81 75 (.mv t0),zT 82 75 (.mv dI),zT 83 75 (.iad 1 CG Fy),zT 84 75 (.load false 1 Iw),zT 85 75 (.call (.f Ld) [Fx,Fz]),zT 86 75 (.un .not FA),O 87 (.pick wC Bi (.c (.bool false)))] [(3,4),(3,5),(3,8),(4,8),(5,8),(6,8),(7,8),(3,9),(4,9),(5,9),(6,9),(7,9),(8,9),(3,10),(4,10),(5,10),(6,10),(7,10),(3,11),(4,11),(5,11),(6,11),(7,11)] [68,72,73,74,75,76,77,78,79,80,81,82,83,84,85,86]) (.cond FC (.seq (.ops [M 88 0,M 89 1,M 90 2,M 91 11,O 92 (.call (.f 138) [FG,FD,Lh,FE]),M 13 92] [] [1,10,11,87,88,89,90,91,92]) (.seq (.ops [M 93 13,M 1 93] [] [13,93]) (.exit 1))) .skip)) (.seq (.ops [M 95 0,M 96 1,M 97 2,M 98 11,O 99 (.call (.f 139) [Ix,FH,Iy,FF]),M 94 99,O 100 (.ext CI 0),O 101 (.ext CI 1),M 14 100,M 15 101] [] [8,9,11,87,94,95,96,97,98,99,100,101]) (.seq (.ops [M 102 15,M 9 102] [] [15,102]) (.seq (.ops [M 103 14,M 104 1,oX 105 .sub 103 104,M 106 2,M 107 14,oX 108 .sub 106 107,M 16 105,M 17 108] [] (zR 103 6)) (.seq (.ops [M 109 10,O 110 (.bin .quo oS (I 8)),M 18 110] [] [10,109,110]) (.seq (.ops [M 111 16,M 112 17,oX 113 .lss 111 112] [] [111,112]) (.cond yP (.seq (.ops [M 114 16,M 115 18,oX 116 .geq 114 115,M 8 116] [] [16,17,18,113,114,115,116]) (.seq (.ops [M 117 0,M 118 1,M 119 14,M 120 3,O 121 (.call (.f Le) [CO,CP,tZ,yQ])] [] [1,117,118,119,120,121]) (.ops [M 122 14,O 123 (.bin .add yR (I 1)),M 1 123] [] [14,122,123]))) (.seq (.ops [M 124 17,M 125 18,oX 126 .geq 124 125,M 8 126] [] [16,17,18,113,124,125,126]) (.seq (.ops [M 127 0,M 128 14,O 129 (.bin .add Iz (I 1)),M 130 2,M 131 3,O 132 (.call (.f Le) [CQ,CR,yS,yT])] [] [2,127,128,129,130,131,132]) (.ops [M 133 14,M 2 133] [] [14,133])))))))))))))))))))
def Zl:TFn:=⟨4,[],(zQ (oQ [O 8 (.mv (.c (.bool true)))] []) (zQ (oQ [O 9 (.mv (.c (.bool true)))] []) (zB 0 (.loop 82372100 mp))))⟩
def Zm:TFn:=⟨1,[],(zQ (oQ [M 3 0,O 4 (.len t3),M 2 4] [3,4]) (oQ [M 5 0,M 6 2,M 7 2,O 8 (.conv .u64 t7),O 9 (.call (.f OR) [t8]),O 10 (.call (.f Le) [t5,(I 0),t6,t9])] [0,2,5,6,7,8,9,10]))⟩
def Zn:TFn:=⟨1,[.tmp 2],(zQ (oQ [O 2 (.mv (.c .nils))] [2]) (zQ (oQ [M 4 0,O 5 (.call (.f Za) [t4]),M 3 5] [0,4,5]) (zQ (oQ [M 6 3,O 7 (.call (.f Zc) [t6])] [6,7]) (zQ (oQ [M 8 3,M 2 8] [3,8]) .ret))))⟩
def Ps:TC:=(zQ (oQ [oX 20 .lss 19 18] []) (zQ (zC iM .skip (.exit 0)) (zQ (zB 1 (zQ (oQ [M 21 19,O 22 (.iad 1 gM gN),oF 23 1 22,M 7 21,M 8 23] (zR 20 4)) (zQ (oQ [M 24 8,M 25 7,oX 26 .neq 24 25] [7,8,24,25]) (zC kJ (zQ (oQ [O 4 (.mv (I 8))] [0,1,17,18,19,26]) .ret) .skip)))) (oQ [O 27 (.bin .add gN (I 1)),M 19 27] [26,27]))))
def IA:TFn:=⟨2,[.tmp 4],(zQ (oQ [O 4 (.mv (I 0))] [4]) (zQ (zQ (oQ [M 9 0,O 10 (.call (.f Bb) [t9]),M 5 10] [9,10]) (zQ (oQ [M 11 5,O 12 (.bin .neq dI (I 0))] [11]) (zC dQ (zQ (oQ [M 13 5,M 4 13] [0,1,5,12,13]) .ret) .skip))) (zQ (oQ [M 14 1,O 15 (.call (.f OP) [eE]),O 16 (.call (.f cT) [fG]),M 6 16] [5,12,14,15,16]) (zQ (zQ (oQ [M 17 6,O 18 (.len gM),O 19 (.mv (I 0))] [6]) (zB 0 (.loop 54010400 Ps))) (zQ (zQ (oQ [M 28 1,O 29 (.len iC),M 30 0,O 31 (.len lX),oX 32 .neq 29 31] [0,1,17,18,19,20,28,29,30,31]) (zC lH (zQ (oQ [O 4 (.mv (I 8))] [32]) .ret) .skip)) (zQ (oQ [O 4 (.mv (I 0))] [32]) .ret))))))⟩
def Pt:TFn:=⟨1,[.cell 2 true 2],(zQ (oQ [O 2 (.allocL (gz 2))] []) (zQ (oQ [M 3 0,O 4 (.build [(ic (0)),(ic (0))] [(0,1,t3),(1,1,(I 1))]),zS 2 t2 t4] [0,3,4]) .ret))⟩
def Pu:TFn:=⟨1,[.tmp 2],(zQ (oQ [O 2 (.mv (.c (.int .u64 (0))))] [2]) (zQ (zQ (oQ [M 3 0,O 4 (.bin .lss t3 (I 0))] [3]) (zC t4 (zQ (oQ [M 5 0,O 6 (.conv .u64 t5),O 7 (.un .neg t6),M 2 7] [0,4,5,6,7]) .ret) .skip)) (zQ (oQ [M 8 0,O 9 (.conv .u64 t8),M 2 9] [0,4,8,9]) .ret)))⟩
def LA:TC:=(zQ (zQ (oQ [M 5 1,O 6 (.bin .gtr t5 (.c (.int .u64 (0))))] [5]) (zC t6 .skip (.exit 0))) (zB 1 (.ops [M 7 1,M 8 0,M 9 1,oX 10 .rem 8 9,M 0 7,M 1 10] [] [(0,1),(0,2),(1,2),(0,3),(2,4),(3,4)] (zR 6 5))))
def Pv:TFn:=⟨2,[.tmp 4],(zQ (oQ [O 4 (.mv (.c (.int .u64 (0))))] [4]) (zQ (zB 0 (.loop 32725300 LA)) (zQ (oQ [M 11 0,M 4 11] [0,1,6,11]) .ret)))⟩
def Pw:TFn:=⟨1,[.tmp 2],(zQ (oQ [O 1 (.boxL t0),O 2 (.mv (I 0))] [0,2]) (zQ (zQ (.ops [O 3 (.fad 1 t1),oF 4 1 3,O 5 (.bin .lss t4 (I 1)),M 6 5,zF 7 6 (.fad 0 t1),zF 8 6 (.load false 1 t7),zF 9 6 (.call (.f oM) [t8]),zF 10 6 (.fad 1 t1),zF 11 6 (.load false 1 dN),zF 12 6 (.conv .u64 dI),zF 13 6 (.minmax true [t9,dQ]),zF 14 6 (.bin .gtr eL (.c (.int .u64 (1000000000000000000)))),O 15 (.pick t6 (.c (.bool true)) eE),M 16 15,zF 17 16 (.fad 0 t1),zF 18 16 (.load false 1 gM),zF 19 16 (.call (.f oM) [gU]),zF 20 16 (.fad 1 t1),zF 21 16 (.load false 1 iM),zF 22 16 (.conv .u64 iW),zF 23 16 (.call (.f tV) [gN,gV]),zF 24 16 (.bin .gtr jG (.c (.int .u64 (1)))),O 25 (.pick eO (.c (.bool true)) iN)] [⟨1,z2,0⟩,⟨5,z2,0⟩,⟨8,z2,0⟩,⟨15,z2,0⟩,⟨18,z2,0⟩] [(4,7),(5,7),(6,7),(4,8),(5,8),(6,8),(4,9),(5,9),(6,9),(14,17),(15,17),(16,17),(14,18),(15,18),(16,18),(14,19),(15,19),(16,19)] [1,3,4,5,6,7,8,9,10,11,12,13,14,15,16,17,18,19,20,21,22,23,24]) (zC jP (zQ (oQ [O 2 (.mv (I 8))] [25]) .ret) .skip)) (zQ (oQ [O 2 (.mv (I 0))] [25]) .ret)))⟩
def LC:TC:=(zQ (oQ [oX 9 .lss 8 7] []) (zQ (zC t9 .skip (.exit 0)) (zQ (zB 1 (zQ (.ops [O 10 (.iad 1 t6 t8),oF 11 1 10,M 5 11] [⟨0,zI,0⟩,⟨1,zI,0⟩] [] [9,10,11]) (zQ (oQ [M 12 5,M 13 3,oX 14 .neq 12 13] [12,13]) (zC eE (zQ (oQ [M 15 5,M 2 15] [3,5,6,7,8,14,15]) .ret) .skip)))) (oQ [O 16 (.bin .add t8 (I 1)),M 8 16] [5,14,16]))))
def Px:TFn:=⟨1,[.tmp 2],(zQ (oQ [O 2 (.mv (I 0))] [2]) (zQ (oQ [O 3 (.mv (I 0))] []) (zQ (zQ (oQ [M 6 0,O 7 (.len t6),O 8 (.mv (I 0))] [0]) (zB 0 (.loop 38508400 LC))) (zQ (oQ [M 17 3,M 2 17] [3,6,7,8,9,17]) .ret))))⟩
def Py:TFn:=⟨2,[.tmp 4],(zQ (oQ [O 2 (.boxL t0),O 3 (.boxL t1),O 4 (.mv (I 0))] [0,1,4]) (zQ (.ops [oT 5 2 2,O 6 (.call (.f qR) [t5]),oT 7 2 3,O 8 (.call (.f qR) [t7]),O 9 (.bD 1 (ic (0)) 2 [(0,t6),(1,t8)]),O 10 (.call (.f Ig) [t9]),M 4 10] [] [(0,2),(1,2)] [2,3,5,6,7,8,9,10]) .ret))⟩
def Pz:TFn:=⟨2,[.tmp 4,.tmp 5],(zQ (oQ [O 4 (.mv (.c (.int .u64 (0)))),O 5 (.mv (.c (.int .u64 (0))))] [4,5]) (zQ (oQ [M 14 0,O 15 (.bin .and eE (.c (.int .u64 (4294967295)))),M 6 15] [14,15]) (zQ (oQ [M 16 0,O 17 (.bin .shr eO (.c (.int .u64 (32)))),M 7 17] [16,17]) (zQ (oQ [M 18 1,O 19 (.bin .and gU (.c (.int .u64 (4294967295)))),M 8 19] [18,19]) (zQ (oQ [M 20 1,O 21 (.bin .shr iM (.c (.int .u64 (32)))),M 9 21] [20,21]) (zQ (oQ [M 22 6,M 23 8,oX 24 .mul 22 23,M 10 24] [22,23,24]) (zQ (oQ [M 25 7,M 26 8,oX 27 .mul 25 26,M 28 10,O 29 (.bin .shr iC (.c (.int .u64 (32)))),oX 30 .add 27 29,M 11 30] [8,10,25,26,27,28,29,30]) (zQ (oQ [M 31 11,O 32 (.bin .and kS (.c (.int .u64 (4294967295)))),M 12 32] [31,32]) (zQ (oQ [M 33 11,O 34 (.bin .shr oP (.c (.int .u64 (32)))),M 13 34] [11,33,34]) (zQ (oQ [M 35 12,M 36 6,M 37 9,oX 38 .mul 36 37,oX 39 .add 35 38,M 12 39] [6,35,36,37,38,39]) (zQ (oQ [M 40 7,M 41 9,oX 42 .mul 40 41,M 43 13,oX 44 .add 42 43,M 45 12,O 46 (.bin .shr qU (.c (.int .u64 (32)))),oX 47 .add 44 46,M 4 47] [7,9,12,13,40,41,42,43,44,45,46,47]) (zQ (oQ [M 48 0,M 49 1,oX 50 .mul 48 49,M 5 50] [0,1,48,49,50]) .ret))))))))))))⟩
def PA:TFn:=⟨1,[.tmp 2],(zQ (oQ [O 2 (.mv (I 0))] [2]) (zQ (oQ [M 3 0,O 4 (.call (.f Ff) [t3]),O 5 (.bin .sub (I 64) t4),M 2 5] [0,3,4,5]) .ret))⟩
def LD:TC:=(zQ (zQ (oQ [M 67 15,O 68 (.bin .geq CD (.c (.int .u64 (4294967296)))),M 69 68,zF 70 69 (.mv fG),zF 71 69 (.mv dN),zF 72 69 (.bin .mul yO Bm),zF 73 69 (.mv eO),zF 74 69 (.bin .mul (.c (.int .u64 (4294967296))) CE),zF 75 69 (.mv eL),zF 76 69 (.bin .add Bh wC),zF 77 69 (.bin .gtr Bg CF),O 78 (.pick Bn (.c (.bool true)) yK)] [67,68,69,70,71,72,73,74,75,76,77,85]) (zC wE .skip (.exit 0))) (zB 1 (zQ (oQ [M 79 15,O 80 (.bin .sub CL (.c (.int .u64 (1)))),M 15 80] [78,79,80]) (zQ (oQ [M 81 16,M 82 9,oX 83 .add 81 82,M 16 83] [81,82,83]) (zQ (oQ [M 84 16,O 85 (.bin .geq Fz (.c (.int .u64 (4294967296))))] [84]) (zC FA (.exit 0) .skip))))))
def yU:Opd:=.t 102
def yV:Opd:=.t 104
def yW:Opd:=.t 105
def CS:Opd:=.t 106
def oU:Opd:=.t 107
def CT:Opd:=.t 108
def uA:Opd:=.t 110
def CU:Opd:=.t 111
def CV:Opd:=.t 112
def IB:Opd:=.t 114
def LE:TC:=(zQ (zQ (oQ [M 102 18,O 103 (.bin .geq yU (.c (.int .u64 (4294967296)))),M 104 103,zF 105 104 (.mv gU),zF 106 104 (.mv dN),zF 107 104 (.bin .mul yW CS),zF 108 104 (.mv eO),zF 109 104 (.bin .mul (.c (.int .u64 (4294967296))) CT),zF 110 104 (.mv eE),zF 111 104 (.bin .add oS uA),zF 112 104 (.bin .gtr oU CU),O 113 (.pick yV (.c (.bool true)) CV)] [102,103,104,105,106,107,108,109,110,111,112,120]) (zC yP .skip (.exit 2))) (zB 3 (zQ (oQ [M 114 18,O 115 (.bin .sub IB (.c (.int .u64 (1)))),M 18 115] [113,114,115]) (zQ (oQ [M 116 16,M 117 9,oX 118 .add 116 117,M 16 118] [116,117,118]) (zQ (oQ [M 119 16,O 120 (.bin .geq tZ (.c (.int .u64 (4294967296))))] [119]) (zC yQ (.exit 2) .skip))))))
def CW:Opd:=.t 121
def IC:Opd:=.t 125
def PB:TFn:=⟨3,[.tmp 6,.tmp 7],(zQ (oQ [O 6 (.mv (.c (.int .u64 (0)))),O 7 (.mv (.c (.int .u64 (0))))] [6,7]) (zQ (zQ (oQ [M 19 2,O 20 (.bin .eql gN (.c (.int .u64 (0))))] [19]) (zC iM (oQ [O 21 (.load false 1 (.g 0)),⟨none,.bad,none⟩] [20,21]) .skip)) (zQ (zQ (oQ [M 22 2,M 23 0,oX 24 .leq 22 23] [20,22,23]) (zC iN (oQ [O 25 (.load false 1 (.g 1)),⟨none,.bad,none⟩] [24,25]) .skip)) (zQ (zQ (oQ [M 26 0,O 27 (.bin .eql kJ (.c (.int .u64 (0))))] [24,26]) (zC oO (zQ (.ops [M 28 1,M 29 2,oX 30 .quo 28 29,M 31 1,M 32 2,oX 33 .rem 31 32,M 6 30,M 7 33] [] [(0,1),(0,3),(1,3),(2,3),(0,4),(1,4),(2,4),(3,4),(0,5),(1,5),(2,5),(3,6),(4,6),(5,6)] [0,1,2,27,28,29,30,31,32,33]) .ret) .skip)) (zQ (oQ [M 34 2,O 35 (.call (.f Ih) [kT]),O 36 (.conv .u64 kK),M 8 36] [27,34,35,36]) (zQ (oQ [M 37 2,M 38 8,oX 39 .shl 37 38,M 2 39] [37,38,39]) (zQ (oQ [M 40 2,O 41 (.bin .shr nB (.c (.int .u64 (32)))),M 9 41] [40,41]) (zQ (oQ [M 42 2,O 43 (.bin .and lF (.c (.int .u64 (4294967295)))),M 10 43] [42,43]) (zQ (oQ [M 44 0,M 45 8,oX 46 .shl 44 45,M 47 1,M 48 8,O 49 (.bin .sub (.c (.int .u64 (64))) pY),oX 50 .shr 47 49,oX 51 .or 46 50,M 11 51] [0,44,45,46,47,48,49,50,51]) (zQ (oQ [M 52 1,M 53 8,oX 54 .shl 52 53,M 12 54] [1,52,53,54]) (zQ (oQ [M 55 12,O 56 (.bin .shr oN (.c (.int .u64 (32)))),M 13 56] [55,56]) (zQ (oQ [M 57 12,O 58 (.bin .and yJ (.c (.int .u64 (4294967295)))),M 14 58] [12,57,58]) (zQ (oQ [M 59 11,M 60 9,oX 61 .quo 59 60,M 15 61] [59,60,61]) (zQ (oQ [M 62 11,M 63 15,M 64 9,oX 65 .mul 63 64,oX 66 .sub 62 65,M 16 66] (zR 62 5)) (zQ (zB 0 (.loop 60530100 LD)) (zQ (oQ [M 86 11,O 87 (.bin .mul Bi (.c (.int .u64 (4294967296)))),M 88 13,oX 89 .add 87 88,M 90 15,M 91 2,oX 92 .mul 90 91,oX 93 .sub 89 92,M 17 93] [11,13,16,78,85,86,87,88,89,90,91,92,93]) (zQ (oQ [M 94 17,M 95 9,oX 96 .quo 94 95,M 18 96] [94,95,96]) (zQ (oQ [M 97 17,M 98 18,M 99 9,oX 100 .mul 98 99,oX 101 .sub 97 100,M 16 101] (zR 97 5)) (zQ (zB 2 (.loop 60530101 LE)) (zQ (oQ [M 121 15,O 122 (.bin .mul CW (.c (.int .u64 (4294967296)))),M 123 18,oX 124 .add 122 123,M 125 17,O 126 (.bin .mul IC (.c (.int .u64 (4294967296)))),M 127 14,oX 128 .add 126 127,M 129 18,M 130 2,oX 131 .mul 129 130,oX 132 .sub 128 131,M 133 8,oX 134 .shr 132 133,M 6 124,M 7 134] [2,8,9,10,14,15,16,17,18,113,120,121,122,123,124,125,126,127,128,129,130,131,132,133,134]) .ret))))))))))))))))))))⟩
def PC:TFn:=⟨3,[.tmp 6],(zQ (oQ [O 6 (.mv (.c (.int .u64 (0))))] [6]) (zQ (oQ [M 10 0,M 11 2,oX 12 .rem 10 11,M 13 1,M 14 2,O 15 (.call (.f Ct) [dQ,eL,eE]),M 9 15,O 16 (.ext t9 0),O 17 (.ext t9 1),M 7 16,M 8 17] [0,1,2,7,9,10,11,12,13,14,15,16,17]) (zQ (oQ [M 18 8,M 6 18] [8,18]) .ret)))⟩
def PD:TFn:=⟨3,[.cell 6 true 2,.tmp 7],(zQ (oQ [O 6 (.allocL (gz 2)),O 7 (.mv (I 0))] [7]) (zQ (zQ (oQ [M 8 1,M 9 2,O 10 (.minmax true [t8,t9]),O 11 (.bin .gtr dN (.c (.int .u64 (1000000000000000000))))] [8,9,10]) (zC dI (zQ (oQ [O 12 (.build [(ic (0)),(ic (0))] []),zS 2 t6 dQ,O 7 (.mv (I 16))] [0,1,2,11,12]) .ret) .skip)) (zQ (zQ (oQ [M 13 0] [0,11]) (zC eL (zQ (oQ [M 14 1,O 15 (.conv .i64 eE),O 16 (.un .neg fG),M 17 2,O 18 (.conv .i64 gM),O 19 (.build [(ic (0)),(ic (0))] [(0,1,eO),(1,1,gU)]),zS 2 t6 gN,O 7 (.mv (I 0))] [1,2,13,14,15,16,17,18,19]) .ret) .skip)) (zQ (oQ [M 20 1,O 21 (.conv .i64 iM),M 22 2,O 23 (.conv .i64 gV),O 24 (.build [(ic (0)),(ic (0))] [(0,1,iW),(1,1,jG)]),zS 2 t6 iN,O 7 (.mv (I 0))] [1,2,13,20,21,22,23,24]) .ret))))⟩
def PE:Opd:=.t 99
def qV:Opd:=.t 101
def qW:Opd:=.t 103
def CX:Opd:=.t 116
def ID:Opd:=.t 123
def CY:Opd:=.t 124
def CZ:Opd:=.t 132
def Da:Opd:=.t 133
def Db:Opd:=.t 134
def yX:Opd:=.t 138
def PF:Opd:=.t 140
def PG:Opd:=.t 143
def IE:Opd:=.t 145
def PH:Opd:=.t 148
def PI:Opd:=.t 152
def PJ:Opd:=.t 153
def PK:Opd:=.t 154
def PL:Opd:=.t 155
def PM:Opd:=.t 156
def PN:Opd:=.t 157
def IF:Opd:=.t 158
def PO:Opd:=.t 159
def PR:TFn:=⟨2,[.cell 4 true 2,.tmp 5],(zQ (oQ [O 2 (.boxL t0),O 3 (.boxL t1),O 4 (.allocL (gz 2)),O 5 (.mv (I 0))] [0,1,5]) (zQ (zQ (oQ [oT 21 2 2,oT 22 2 3,O 23 (.call (.f qS) [iW,gV]),M 6 23] [21,22,23]) (zQ (oQ [M 24 6,O 25 (.bin .neq iN (I 0))] [24]) (zC jP (zQ (oQ [O 26 (.build [(ic (0)),(ic (0))] []),M 27 6,zS 2 t4 kJ,M 5 27] [2,3,6,25,26,27]) .ret) .skip))) (zQ (.ops [O 28 (.fad 1 t2),oF 29 1 28,O 30 (.conv .u64 lE),O 31 (.fad 1 t3),oF 32 1 31,O 33 (.conv .u64 lH),O 34 (.call (.f tV) [lX,oP]),M 7 34] [⟨1,z2,0⟩,⟨4,z2,0⟩] [] [6,25,28,29,30,31,32,33,34]) (zQ (.ops [O 36 (.fad 0 t2),oF 37 1 36,O 38 (.call (.f oM) [oR]),O 39 (.fad 1 t3),oF 40 1 39,O 41 (.conv .u64 nB),M 42 7,oX 43 .quo 41 42,O 44 (.call (.f qT) [nA,sI]),M 35 44,O 45 (.ext kK 0),O 46 (.ext kK 1),M 8 45,M 9 46] [⟨1,z2,0⟩,⟨4,z2,0⟩] [(0,3),(1,3),(2,3),(0,4),(1,4),(2,4),(0,5),(1,5),(2,5),(0,6),(1,6),(2,6),(3,6),(4,6),(5,6),(0,7),(1,7),(2,7),(10,11),(11,12)] (zR 35 12)) (zQ (.ops [O 48 (.fad 0 t3),oF 49 1 48,O 50 (.call (.f oM) [sJ]),O 51 (.fad 1 t2),oF 52 1 51,O 53 (.conv .u64 wG),M 54 7,oX 55 .quo 53 54,O 56 (.call (.f qT) [CJ,oN]),M 47 56,O 57 (.ext pX 0),O 58 (.ext pX 1),M 10 57,M 11 58] [⟨1,z2,0⟩,⟨4,z2,0⟩] [(0,3),(1,3),(2,3),(0,4),(1,4),(2,4),(0,5),(1,5),(2,5),(0,6),(1,6),(2,6),(3,6),(4,6),(5,6),(0,7),(1,7),(2,7),(10,11),(11,12)] (zR 47 12)) (zQ (.ops [O 59 (.fad 0 t2),oF 60 1 59,O 61 (.bin .lss yN (I 0)),M 12 61] [⟨1,z2,0⟩] [] [59,60,61]) (zQ (oQ [O 13 (.mv (.c (.int .u64 (0)))),O 14 (.mv (.c (.int .u64 (0)))),O 15 (.mv (.c (.int .u64 (0))))] [13,14,15]) (zQ (zQ (.ops [O 62 (.fad 0 t2),oF 63 1 62,O 64 (.bin .lss Iv (I 0)),O 65 (.fad 0 t3),oF 66 1 65,O 67 (.bin .lss CN (I 0)),O 68 (.eqB false Bl CD)] [⟨1,z2,0⟩,⟨4,z2,0⟩] [] (zR 62 6)) (zC Bf (zQ (oQ [M 70 9,M 71 11,O 72 (.call (.f yG) [yO,Bm,(.c (.int .u64 (0)))]),M 69 72,O 73 (.ext Bn 0),O 74 (.ext Bn 1),M 14 73,M 15 74] [9,11,68,69,70,71,72,73,74]) (oQ [M 76 8,M 77 10,M 78 15,O 79 (.call (.f yG) [CF,yK,wE]),M 75 79,O 80 (.ext wC 0),O 81 (.ext wC 1),M 13 80] [8,10,15,75,76,77,78,79,80,81])) (zQ (zQ (oQ [M 82 8,M 83 10,oX 84 .lss 82 83,M 85 84,zF 86 85 (.mv t8),zF 87 85 (.mv dN),zF 88 85 (.bin .eql Bi FC),zF 89 85 (.mv FG),zT 90 89 (.mv t9),zT 91 89 (.mv dI),zT 92 89 (.bin .lss Lh FE),zF 93 85 (.pick FD Li (.c (.bool false))),O 94 (.pick FA (.c (.bool true)) CH)] [68,82,83,84,85,86,87,88,89,90,91,92,93]) (zC CI (zQ (oQ [M 95 10,M 96 11,M 97 8,M 98 9,M 8 95,M 9 96,M 10 97,M 11 98] (zR 94 5)) (oQ [M 99 12,O 100 (.un .not PE),M 12 100] [99,100])) .skip)) (zQ (oQ [M 102 9,M 103 11,O 104 (.call (.f yH) [yU,qW,(.c (.int .u64 (0)))]),M 101 104,O 105 (.ext qV 0),O 106 (.ext qV 1),M 14 105,M 15 106] [9,11,94,101,102,103,104,105,106]) (oQ [M 108 8,M 109 10,M 110 15,O 111 (.call (.f yH) [CT,oS,uA]),M 107 111,O 112 (.ext oU 0),O 113 (.ext oU 1),M 13 112] [8,10,15,107,108,109,110,111,112,113]))))) (zQ (zQ (oQ [M 114 13,O 115 (.bin .eql IB (.c (.int .u64 (0)))),M 116 115,zT 117 116 (.mv eE),zT 118 116 (.bin .eql CO (.c (.int .u64 (0)))),O 119 (.pick CX CP (.c (.bool false)))] (zR 114 5)) (zC tZ (zQ (oQ [O 120 (.build [(ic (0)),(ic (0))] [(1,1,(I 1))]),zS 2 t4 yQ,O 5 (.mv (I 0))] [2,3,7,12,13,14,119,120]) .ret) .skip)) (zQ (oQ [M 121 13,M 122 14,M 123 7,O 124 (.call (.f Ii) [CW,yR,ID]),M 125 7,O 126 (.call (.f tV) [CY,IC]),M 16 126] [119,121,122,123,124,125,126]) (zQ (zQ (oQ [M 127 13,M 128 16,oX 129 .geq 127 128] [127,128]) (zC CR (zQ (oQ [O 130 (.build [(ic (0)),(ic (0))] []),zS 2 t4 yS,O 5 (.mv (I 16))] [2,3,7,12,13,14,16,129,130]) .ret) .skip)) (zQ (oQ [M 132 13,M 133 14,M 134 16,O 135 (.call (.f Ct) [CZ,Da,Db]),M 131 135,O 136 (.ext yT 0),O 137 (.ext yT 1),M 17 136,M 18 137] [13,14,18,129,131,132,133,134,135,136,137]) (zQ (.ops [O 139 (.fad 1 t2),oF 140 1 139,O 141 (.conv .u64 PF),M 142 7,oX 143 .quo 141 142,O 144 (.fad 1 t3),oF 145 1 144,O 146 (.conv .u64 IE),M 147 16,oX 148 .quo 146 147,O 149 (.call (.f qT) [PG,PH]),M 138 149,O 150 (.ext yX 0),O 151 (.ext yX 1),M 19 150,M 20 151] [⟨1,z2,0⟩,⟨6,z2,0⟩] [(0,3),(1,3),(2,3),(0,5),(1,5),(2,5),(3,5),(4,5),(0,6),(1,6),(2,6),(3,6),(4,6),(0,7),(1,7),(2,7),(3,7),(4,7),(0,8),(1,8),(2,8),(3,8),(4,8),(5,8),(6,8),(7,8),(0,9),(1,9),(2,9),(3,9),(4,9),(12,13),(13,14)] [2,3,7,16,138,139,140,141,142,143,144,145,146,147,148,149,150,151]) (zQ (zQ (oQ [M 152 19,O 153 (.bin .gtr PI (.c (.int .u64 (0))))] [19,152]) (zC PJ (zQ (oQ [O 154 (.build [(ic (0)),(ic (0))] []),zS 2 t4 PK,O 5 (.mv (I 16))] [12,17,20,153,154]) .ret) .skip)) (zQ (oQ [M 155 12,M 156 17,M 157 20,O 158 (.call (.f Cu) [PL,PM,PN]),O 159 (.ext IF 0),O 160 (.ext IF 1),zS 2 t4 PO,M 5 160] [12,17,20,153,155,156,157,158,159,160]) .ret)))))))))))))))⟩
def PS:TFn:=⟨2,[.cell 4 true 2,.tmp 5],(zQ (oQ [O 2 (.boxL t0),O 3 (.boxL t1),O 4 (.allocL (gz 2)),O 5 (.mv (I 0))] [0,1,5]) (zQ (zQ (oQ [oT 7 2 2,oT 8 2 3,O 9 (.call (.f qS) [t7,t8]),M 6 9] [7,8,9]) (zQ (oQ [M 10 6,O 11 (.bin .neq dN (I 0))] [10]) (zC dI (zQ (oQ [O 12 (.build [(ic (0)),(ic (0))] []),M 13 6,zS 2 t4 dQ,M 5 13] [2,3,6,11,12,13]) .ret) .skip))) (zQ (.ops [O 14 (.fad 0 t3),oF 15 1 14,O 16 (.un .neg fG),O 17 (.fad 0 t3),zS 1 gM eO] [⟨1,z2,0⟩,⟨4,z2,0⟩] [] [6,11,14,15,16,17]) (zQ (oQ [oT 18 2 2,oT 19 2 3,O 20 (.call (.f sG) [gU,gN]),O 21 (.ext iM 0),O 22 (.ext iM 1),zS 2 t4 iW,M 5 22] [2,3,18,19,20,21,22]) .ret))))⟩
def PU:TFn:=⟨2,[.cell 4 true 2,.tmp 5],(zQ (oQ [O 2 (.boxL t0),O 3 (.boxL t1),O 4 (.allocL (gz 2)),O 5 (.mv (I 0))] [0,1,5]) (zQ (zQ (oQ [oT 17 2 2,oT 18 2 3,O 19 (.call (.f qS) [gM,gU]),M 6 19] [17,18,19]) (zQ (oQ [M 20 6,O 21 (.bin .neq iM (I 0))] [20]) (zC iW (zQ (oQ [O 22 (.build [(ic (0)),(ic (0))] []),M 23 6,zS 2 t4 gV,M 5 23] [2,3,6,21,22,23]) .ret) .skip))) (zQ (.ops [O 24 (.fad 0 t2),oF 25 1 24,O 26 (.call (.f oM) [jP]),O 27 (.fad 1 t2),oF 28 1 27,O 29 (.conv .u64 iC),O 30 (.fad 0 t3),oF 31 1 30,O 32 (.call (.f oM) [kS]),O 33 (.fad 1 t3),oF 34 1 33,O 35 (.conv .u64 kT),M 7 26,M 8 29,M 9 32,M 10 35] [⟨1,z2,0⟩,⟨4,z2,0⟩,⟨7,z2,0⟩,⟨10,z2,0⟩] [(0,3),(1,3),(2,3),(0,4),(1,4),(2,4),(0,5),(1,5),(2,5),(0,6),(1,6),(2,6),(3,6),(4,6),(5,6),(0,7),(1,7),(2,7),(3,7),(4,7),(5,7),(3,8),(4,8),(5,8),(0,9),(1,9),(2,9),(3,9),(4,9),(5,9),(6,9),(7,9),(8,9),(0,10),(1,10),(2,10),(3,10),(4,10),(5,10),(6,10),(7,10),(8,10),(0,11),(1,11),(2,11),(3,11),(4,11),(5,11),(6,11),(7,11),(8,11),(3,12),(4,12),(5,12),(9,12),(10,12),(11,12),(9,13),(10,13),(11,13),(9,14),(10,14),(11,14)] [6,21,24,25,26,27,28,29,30,31,32,33,34,35]) (zQ (oQ [M 36 7,M 37 10,O 38 (.call (.f tV) [nU,oR]),M 39 9,M 40 8,O 41 (.call (.f tV) [pZ,nB]),M 11 38,M 12 41] (zR 36 6)) (zQ (.ops [M 43 7,M 44 11,oX 45 .quo 43 44,M 46 9,M 47 12,oX 48 .quo 46 47,O 49 (.call (.f qT) [qU,pY]),M 42 49,O 50 (.ext lF 0),O 51 (.ext lF 1),M 13 50,M 14 51] [] [(0,1),(0,3),(1,3),(2,3),(0,4),(1,4),(2,4),(3,4),(0,5),(1,5),(2,5),(8,9),(9,10)] [7,9,42,43,44,45,46,47,48,49,50,51]) (zQ (.ops [M 53 8,M 54 12,oX 55 .quo 53 54,M 56 10,M 57 11,oX 58 .quo 56 57,O 59 (.call (.f qT) [oN,Fw]),M 52 59,O 60 (.ext wG 0),O 61 (.ext wG 1),M 15 60,M 16 61] [] [(0,1),(0,3),(1,3),(2,3),(0,4),(1,4),(2,4),(3,4),(0,5),(1,5),(2,5),(8,9),(9,10)] [8,10,11,12,52,53,54,55,56,57,58,59,60,61]) (zQ (zQ (oQ [M 62 13,M 63 15,oX 64 .add 62 63,O 65 (.bin .gtr Bl (.c (.int .u64 (0))))] [13,15,62,63,64]) (zC CM (zQ (oQ [O 66 (.build [(ic (0)),(ic (0))] []),zS 2 t4 CN,O 5 (.mv (I 16))] [2,3,14,16,65,66]) .ret) .skip)) (zQ (.ops [M 67 14,O 68 (.bin .gtr CD (.c (.int .u64 (0)))),M 69 68,zT 70 69 (.fad 0 t2),zT 71 69 (.load false 1 yO),zT 72 69 (.bin .lss Bm (I 0)),zT 73 69 (.fad 0 t3),zT 74 69 (.load false 1 CE),zT 75 69 (.bin .lss Bh (I 0)),zT 76 69 (.eqB true Bg wC),O 77 (.pick Bn CF (.c (.bool false))),M 78 14,M 79 16,O 80 (.call (.f Cu) [yK,wE,CL]),O 81 (.ext Fx 0),O 82 (.ext Fx 1),zS 2 t4 CG,M 5 82] [⟨4,z2,0⟩,⟨7,z2,0⟩] [] [2,3,14,16,65,67,68,69,70,71,72,73,74,75,76,77,78,79,80,81,82]) .ret))))))))⟩
def PW:TFn:=⟨2,[.cell 4 true 2,.tmp 5],(zQ (oQ [O 2 (.boxL t0),O 3 (.boxL t1),O 4 (.allocL (gz 2)),O 5 (.mv (I 0))] [0,1,5]) (zQ (zQ (oQ [oT 7 2 2,oT 8 2 3,O 9 (.call (.f qS) [t7,t8]),M 6 9] [7,8,9]) (zQ (oQ [M 10 6,O 11 (.bin .neq dN (I 0))] [10]) (zC dI (zQ (oQ [O 12 (.build [(ic (0)),(ic (0))] []),M 13 6,zS 2 t4 dQ,M 5 13] [2,3,6,11,12,13]) .ret) .skip))) (zQ (zB 0 (zQ (.ops [O 15 (.fad 0 t3),oF 16 1 15,O 17 (.bin .eql eO (I 0)),M 14 17] [⟨1,z2,0⟩] [] [6,11,15,16,17]) (zC eE (zQ (oQ [O 18 (.build [(ic (0)),(ic (0))] []),zS 2 t4 gU,O 5 (.mv (I 18))] [2,3,14,18]) .ret) (zQ (.ops [O 20 (.fad 0 t3),oF 21 1 20,O 22 (.bin .lss iW (I 0)),M 19 22] [⟨1,z2,0⟩] [] [14,20,21,22]) (zC gN (zQ (.ops [oT 23 2 2,O 24 (.fad 1 t3),oF 25 1 24,O 26 (.un .neg jP),O 27 (.fad 0 t3),oF 28 1 27,O 29 (.un .neg iC),O 30 (.build [(ic (0)),(ic (0))] [(0,1,kJ),(1,1,lE)]),O 31 (.call (.f pU) [jG,lX]),O 32 (.ext kS 0),O 33 (.ext kS 1),zS 2 t4 lH,M 5 33] [⟨2,z2,0⟩,⟨5,z2,0⟩] [] [2,3,19,23,24,25,26,27,28,29,30,31,32,33]) .ret) .skip))))) (zQ (.ops [oT 34 2 2,O 35 (.fad 1 t3),oF 36 1 35,O 37 (.fad 0 t3),oF 38 1 37,O 39 (.build [(ic (0)),(ic (0))] [(0,1,nU),(1,1,nA)]),O 40 (.call (.f pU) [kT,pZ]),O 41 (.ext nB 0),O 42 (.ext nB 1),zS 2 t4 mP,M 5 42] [⟨2,z2,0⟩,⟨4,z2,0⟩] [] [2,3,19,34,35,36,37,38,39,40,41,42]) .ret))))⟩
def IG:Opd:=.t 115
def Dc:Opd:=.t 126
def PX:TFn:=⟨2,[.cell 4 true 4],(zQ (oQ [O 3 (.boxL t1),O 4 (.allocL (gz 4))] [1]) (zQ (.ops [M 11 0,O 12 (.nilchk dI),O 13 (.fad 0 dQ),O 14 (.fad 2 eL),oF 15 1 14,M 16 0,O 17 (.nilchk eO),O 18 (.fad 5 gM),oF 19 1 18,O 20 (.iad 1 fG gN),oF 21 1 20,O 22 (.call (.f mO) [iW]),M 23 0,O 24 (.nilchk jG),O 25 (.fad 0 iN),O 26 (.fad 2 jP),oF 27 1 26,M 28 0,O 29 (.nilchk iC),O 30 (.fad 6 lE),oF 31 1 30,O 32 (.iad 1 oO kS),oF 33 1 32,O 34 (.call (.f mO) [oP]),O 5 (.allocL (gz 2)),O 6 (.allocL (gz 2)),zS 2 t5 gV,zS 2 t6 kT] [⟨9,zI,0⟩,⟨10,zI,0⟩,⟨21,zI,0⟩,⟨22,zI,0⟩] [(0,5),(1,5),(2,5),(3,5),(4,5),(0,6),(1,6),(2,6),(3,6),(4,6),(0,7),(1,7),(2,7),(3,7),(4,7),(0,8),(1,8),(2,8),(3,8),(4,8),(0,12),(1,12),(2,12),(3,12),(4,12),(5,12),(6,12),(7,12),(8,12),(9,12),(10,12),(11,12),(0,13),(1,13),(2,13),(3,13),(4,13),(5,13),(6,13),(7,13),(8,13),(9,13),(10,13),(11,13),(0,14),(1,14),(2,14),(3,14),(4,14),(5,14),(6,14),(7,14),(8,14),(9,14),(10,14),(11,14),(0,15),(1,15),(2,15),(3,15),(4,15),(5,15),(6,15),(7,15),(8,15),(9,15),(10,15),(11,15),(0,16),(1,16),(2,16),(3,16),(4,16),(5,16),(6,16),(7,16),(8,16),(9,16),(10,16),(11,16),(0,17),(1,17),(2,17),(3,17),(4,17),(5,17),(6,17),(7,17),(8,17),(9,17),(10,17),(11,17),(12,17),(13,17),(14,17),(15,17),(16,17),(0,18),(1,18),(2,18),(3,18),(4,18),(5,18),(6,18),(7,18),(8,18),(9,18),(10,18),(11,18),(12,18),(13,18),(14,18),(15,18),(16,18),(0,19),(1,19),(2,19),(3,19),(4,19),(5,19),(6,19),(7,19),(8,19),(9,19),(10,19),(11,19),(12,19),(13,19),(14,19),(15,19),(16,19),(0,20),(1,20),(2,20),(3,20),(4,20),(5,20),(6,20),(7,20),(8,20),(9,20),(10,20),(11,20),(12,20),(13,20),(14,20),(15,20),(16,20),(0,21),(1,21),(2,21),(3,21),(4,21),(5,21),(6,21),(7,21),(8,21),(9,21),(10,21),(11,21),(0,22),(1,22),(2,22),(3,22),(4,22),(5,22),(6,22),(7,22),(8,22),(9,22),(10,22),(11,22),(0,24),(1,24),(2,24),(3,24),(4,24),(5,24),(6,24),(7,24),(8,24),(9,24),(10,24),(11,24),(12,24),(13,24),(14,24),(15,24),(16,24),(17,24),(18,24),(19,24),(20,24),(21,24),(22,24),(23,24),(0,25),(1,25),(2,25),(3,25),(4,25),(5,25),(6,25),(7,25),(8,25),(9,25),(10,25),(11,25),(12,25),(13,25),(14,25),(15,25),(16,25),(17,25),(18,25),(19,25),(20,25),(21,25),(22,25),(23,25),(24,25)] (zR 11 24)) (zQ (.ops [O 36 (.fad 0 t3),oT 37 2 36,M 38 0,O 39 (.nilchk nA),O 40 (.fad 0 pZ),O 41 (.fad 1 nB),oF 42 1 41,M 43 0,O 44 (.nilchk sI),O 45 (.fad 5 pW),oF 46 1 45,O 47 (.iad 1 lF nC),oF 48 1 47,O 49 (.call (.f mO) [pY]),O 50 (.call (.f tW) [oR,sJ]),M 35 50,O 51 (.ext kK 0),O 52 (.ext kK 1),O 7 (.allocL (gz 2)),zS 2 t7 wF,M 8 52] [⟨1,z4,0⟩,⟨11,zI,0⟩,⟨12,zI,0⟩] [(0,2),(1,2),(0,3),(1,3),(0,4),(1,4),(0,5),(1,5),(0,6),(1,6),(0,7),(1,7),(2,7),(3,7),(4,7),(5,7),(6,7),(0,8),(1,8),(2,8),(3,8),(4,8),(5,8),(6,8),(0,9),(1,9),(2,9),(3,9),(4,9),(5,9),(6,9),(0,10),(1,10),(2,10),(3,10),(4,10),(5,10),(6,10),(0,11),(1,11),(0,12),(1,12),(0,13),(1,13),(16,17),(0,18),(1,18),(2,18),(3,18),(4,18),(5,18),(6,18),(7,18),(8,18),(9,18),(10,18),(11,18),(12,18),(13,18),(14,18),(15,18),(16,18),(17,18),(17,19)] [8,35,36,37,38,39,40,41,42,43,44,45,46,47,48,49,50,51,52]) (zQ (oQ [oT 54 2 7,oT 55 2 5,O 56 (.call (.f pU) [yL,oN]),M 53 56,O 57 (.ext Bj 0),O 58 (.ext Bj 1),zS 2 t7 yJ] (zR 53 6)) (zQ (.ops [oT 60 2 7,M 61 0,O 62 (.nilchk Be),O 63 (.fad 3 CC),oF 64 1 63,M 65 0,O 66 (.nilchk CM),O 67 (.fad 5 CN),oF 68 1 67,O 69 (.iad 1 Bl Bf),oF 70 1 69,M 71 0,O 72 (.nilchk Bm),O 73 (.fad 3 Bg),oF 74 1 73,M 75 0,O 76 (.nilchk wC),O 77 (.fad 6 CF),oF 78 1 77,O 79 (.iad 1 Bh wE),oF 80 1 79,oX 81 .sub 70 80,O 82 (.call (.f mO) [CG]),O 83 (.call (.f sG) [yN,Fy]),M 59 83,O 84 (.ext yM 0),O 85 (.ext yM 1),zS 2 t7 Fz] [⟨9,zI,0⟩,⟨10,zI,0⟩,⟨19,zI,0⟩,⟨20,zI,0⟩] [(0,1),(0,2),(0,3),(0,4),(0,5),(1,5),(2,5),(3,5),(4,5),(0,6),(1,6),(2,6),(3,6),(4,6),(0,7),(1,7),(2,7),(3,7),(4,7),(0,8),(1,8),(2,8),(3,8),(4,8),(0,9),(0,10),(0,11),(1,11),(2,11),(3,11),(4,11),(5,11),(6,11),(7,11),(8,11),(9,11),(10,11),(0,12),(1,12),(2,12),(3,12),(4,12),(5,12),(6,12),(7,12),(8,12),(9,12),(10,12),(0,13),(1,13),(2,13),(3,13),(4,13),(5,13),(6,13),(7,13),(8,13),(9,13),(10,13),(0,14),(1,14),(2,14),(3,14),(4,14),(5,14),(6,14),(7,14),(8,14),(9,14),(10,14),(0,15),(1,15),(2,15),(3,15),(4,15),(5,15),(6,15),(7,15),(8,15),(9,15),(10,15),(11,15),(12,15),(13,15),(14,15),(0,16),(1,16),(2,16),(3,16),(4,16),(5,16),(6,16),(7,16),(8,16),(9,16),(10,16),(11,16),(12,16),(13,16),(14,16),(0,17),(1,17),(2,17),(3,17),(4,17),(5,17),(6,17),(7,17),(8,17),(9,17),(10,17),(11,17),(12,17),(13,17),(14,17),(0,18),(1,18),(2,18),(3,18),(4,18),(5,18),(6,18),(7,18),(8,18),(9,18),(10,18),(11,18),(12,18),(13,18),(14,18),(0,19),(1,19),(2,19),(3,19),(4,19),(5,19),(6,19),(7,19),(8,19),(9,19),(10,19),(0,20),(1,20),(2,20),(3,20),(4,20),(5,20),(6,20),(7,20),(8,20),(9,20),(10,20),(0,21),(0,22),(25,26),(26,27)] (zR 59 27)) (zQ (.ops [O 87 (.fad 2 t3),oT 88 2 87,oT 89 2 5,O 90 (.call (.f pU) [FG,FD]),M 86 90,O 91 (.ext Bi 0),O 92 (.ext Bi 1),O 9 (.allocL (gz 2)),zS 2 t9 FE,M 10 92] [⟨1,z4,0⟩] [] [3,5,10,86,87,88,89,90,91,92]) (zQ (.ops [oT 94 2 9,M 95 0,O 96 (.nilchk Ix),O 97 (.fad 4 FH),oF 98 1 97,O 99 (.call (.f mO) [FF]),O 100 (.call (.f sG) [CI,PE]),M 93 100,O 101 (.ext CH 0),O 102 (.ext CH 1),zS 2 t9 qV] [] [(0,1),(0,2),(0,3),(0,4),(0,5),(8,9),(9,10)] (zR 93 10)) (zQ (oQ [oT 104 2 7,oT 105 2 6,O 106 (.call (.f tX) [yV,yW]),M 103 106,O 107 (.ext qW 0),O 108 (.ext qW 1),zS 2 t7 oU] (zR 103 6)) (zQ (.ops [oT 110 2 7,M 111 0,O 112 (.nilchk CU),O 113 (.fad 0 CV),O 114 (.fad 1 yP),oF 115 1 114,M 116 0,O 117 (.nilchk CX),O 118 (.fad 6 CO),oF 119 1 118,O 120 (.iad 1 IG tZ),oF 121 1 120,O 122 (.call (.f mO) [CW]),O 123 (.call (.f sG) [uA,yR]),M 109 123,O 124 (.ext oS 0),O 125 (.ext oS 1),zS 2 t7 CY] [⟨10,zI,0⟩,⟨11,zI,0⟩] [(0,1),(0,2),(0,3),(0,4),(0,5),(0,6),(1,6),(2,6),(3,6),(4,6),(5,6),(0,7),(1,7),(2,7),(3,7),(4,7),(5,7),(0,8),(1,8),(2,8),(3,8),(4,8),(5,8),(0,9),(1,9),(2,9),(3,9),(4,9),(5,9),(0,10),(0,11),(0,12),(15,16),(16,17)] [0,109,110,111,112,113,114,115,116,117,118,119,120,121,122,123,124,125]) (zQ (oQ [oT 127 2 9,oT 128 2 6,O 129 (.call (.f tX) [CQ,Iz]),M 126 129,O 130 (.ext Dc 0),O 131 (.ext Dc 1),zS 2 t9 yS] [6,126,127,128,129,130,131]) (zQ (oQ [oT 132 2 7,oT 133 2 9,O 134 (.build [(ic (0)),(ic (0)),(ic (0)),(ic (0))] [(0,2,CZ),(2,2,Da)]),zS 4 t4 Db] [7,9,132,133,134]) .ret)))))))))))⟩
def PY:TFn:=⟨2,[.cell 4 true 2],(zQ (oQ [O 2 (.boxL t0),O 4 (.allocL (gz 2))] [0]) (zQ (.ops [M 10 1,O 11 (.call (.f mO) [dN]),O 12 (.fad 0 t2),oT 13 2 12,O 14 (.call (.f tW) [dI,eL]),M 9 14,O 15 (.ext t9 0),O 16 (.ext t9 1),O 5 (.allocL (gz 2)),zS 2 t5 fG,M 6 16] [⟨3,z4,0⟩] [(0,2),(1,2),(0,3),(1,3),(6,7),(0,8),(1,8),(2,8),(3,8),(4,8),(5,8),(6,8),(7,8),(7,9)] [1,6,9,10,11,12,13,14,15,16]) (zQ (.ops [oT 18 2 5,O 19 (.fad 2 t2),oT 20 2 19,O 21 (.call (.f tX) [gU,iM]),M 17 21,O 22 (.ext gM 0),O 23 (.ext gM 1),O 7 (.allocL (gz 2)),zS 2 t7 gV,M 8 23] [⟨2,z4,0⟩] [] [2,5,8,17,18,19,20,21,22,23]) (zQ (oQ [oT 24 2 7,zS 2 t4 iN] [7,24]) .ret))))⟩
def FI:Opd:=.t 56
def LF:TC:=(zQ (oQ [oX 11 .lss 10 9] []) (zQ (zC dI .skip (.exit 0)) (zQ (zB 1 (zQ (oQ [M 12 10,O 13 (.iad 1 t8 dN),oF 14 1 13,M 5 12,M 6 14] (zR 11 4)) (zQ (.ops [M 15 0,oF 16 1 2,M 17 5,O 18 (.iad 4 eO gM),oT 19 4 18,M 20 6,O 21 (.nilchk iM),O 22 (.fad 0 iW),O 23 (.fad 1 gV),oF 24 1 23,M 25 6,O 26 (.nilchk jP),O 27 (.fad 6 kJ),oF 28 1 27,O 29 (.bin .add iC (I 1)),O 30 (.iad 1 iN lE),oF 31 1 30,O 32 (.call (.f Cv) [gN,kS]),M 33 6,O 34 (.nilchk oP),O 35 (.fad 6 kT),O 36 (.call fG [lH,kK])] [⟨3,z4,0⟩,⟨4,z4,0⟩,⟨9,(.agg [.i .i64,.d,.d,.d,.i .i64,.i .i64,.i .i64]),0⟩,⟨13,(.agg [.i .i64,.d,.d,.d,.i .i64,.i .i64,.i .i64]),0⟩,⟨15,zI,0⟩,⟨16,zI,0⟩] [(0,1),(0,2),(1,2),(0,3),(0,4),(0,5),(1,5),(2,5),(3,5),(4,5),(0,6),(1,6),(2,6),(3,6),(4,6),(0,7),(1,7),(2,7),(3,7),(4,7),(0,8),(1,8),(2,8),(3,8),(4,8),(0,9),(1,9),(2,9),(3,9),(4,9),(0,10),(1,10),(2,10),(3,10),(4,10),(5,10),(6,10),(7,10),(8,10),(9,10),(0,11),(1,11),(2,11),(3,11),(4,11),(5,11),(6,11),(7,11),(8,11),(9,11),(0,12),(1,12),(2,12),(3,12),(4,12),(5,12),(6,12),(7,12),(8,12),(9,12),(0,13),(1,13),(2,13),(3,13),(4,13),(5,13),(6,13),(7,13),(8,13),(9,13),(0,14),(1,14),(2,14),(3,14),(4,14),(5,14),(6,14),(7,14),(8,14),(9,14),(0,15),(1,15),(2,15),(3,15),(4,15),(0,16),(1,16),(2,16),(3,16),(4,16),(0,17),(0,18),(1,18),(2,18),(3,18),(4,18),(5,18),(6,18),(7,18),(8,18),(9,18),(10,18),(11,18),(12,18),(13,18),(14,18),(15,18),(16,18),(17,18),(0,19),(1,19),(2,19),(3,19),(4,19),(5,19),(6,19),(7,19),(8,19),(9,19),(10,19),(11,19),(12,19),(13,19),(14,19),(15,19),(16,19),(17,19),(0,20),(1,20),(2,20),(3,20),(4,20),(5,20),(6,20),(7,20),(8,20),(9,20),(10,20),(11,20),(12,20),(13,20),(14,20),(15,20),(16,20),(17,20)] [6,15,16,17,18,19,20,21,22,23,24,25,26,27,28,29,30,31,32,33,34,35,36]) (zQ (oQ [M 37 5,oF 38 1 3,oX 39 .lss 37 38] [37,38]) (zC pZ (zQ (oQ [oF 40 1 1,M 41 5,O 42 (.bin .add mP (I 1)),O 43 (.iad 1 nB lF),oF 44 1 43,M 7 44] (zR 39 6)) (.ops [M 45 0,oF 46 1 2,M 47 5,O 48 (.iad 4 nC pX),oT 49 4 48,M 50 7,O 51 (.nilchk CJ),O 52 (.fad 0 wF),O 53 (.fad 1 wG),oF 54 1 53,M 55 7,O 56 (.nilchk oN),O 57 (.fad 5 FI),oF 58 1 57,O 59 (.bin .add Fw (I 1)),O 60 (.iad 1 yL yM),oF 61 1 60,O 62 (.call (.f Cv) [sJ,Be]),M 63 7,O 64 (.nilchk Iv),O 65 (.fad 5 Bl),O 66 (.call qU [CC,CM])] [⟨3,z4,0⟩,⟨4,z4,0⟩,⟨9,(.agg [.i .i64,.d,.d,.d,.i .i64,.i .i64,.i .i64]),0⟩,⟨13,(.agg [.i .i64,.d,.d,.d,.i .i64,.i .i64,.i .i64]),0⟩,⟨15,zI,0⟩,⟨16,zI,0⟩] [(0,1),(0,2),(1,2),(0,3),(0,4),(0,5),(1,5),(2,5),(3,5),(4,5),(0,6),(1,6),(2,6),(3,6),(4,6),(0,7),(1,7),(2,7),(3,7),(4,7),(0,8),(1,8),(2,8),(3,8),(4,8),(0,9),(1,9),(2,9),(3,9),(4,9),(0,10),(1,10),(2,10),(3,10),(4,10),(5,10),(6,10),(7,10),(8,10),(9,10),(0,11),(1,11),(2,11),(3,11),(4,11),(5,11),(6,11),(7,11),(8,11),(9,11),(0,12),(1,12),(2,12),(3,12),(4,12),(5,12),(6,12),(7,12),(8,12),(9,12),(0,13),(1,13),(2,13),(3,13),(4,13),(5,13),(6,13),(7,13),(8,13),(9,13),(0,14),(1,14),(2,14),(3,14),(4,14),(5,14),(6,14),(7,14),(8,14),(9,14),(0,15),(1,15),(2,15),(3,15),(4,15),(0,16),(1,16),(2,16),(3,16),(4,16),(0,17),(0,18),(1,18),(2,18),(3,18),(4,18),(5,18),(6,18),(7,18),(8,18),(9,18),(10,18),(11,18),(12,18),(13,18),(14,18),(15,18),(16,18),(17,18),(0,19),(1,19),(2,19),(3,19),(4,19),(5,19),(6,19),(7,19),(8,19),(9,19),(10,19),(11,19),(12,19),(13,19),(14,19),(15,19),(16,19),(17,19),(0,20),(1,20),(2,20),(3,20),(4,20),(5,20),(6,20),(7,20),(8,20),(9,20),(10,20),(11,20),(12,20),(13,20),(14,20),(15,20),(16,20),(17,20)] [5,7,45,46,47,48,49,50,51,52,53,54,55,56,57,58,59,60,61,62,63,64,65,66])) .skip))))) (oQ [O 67 (.bin .add dN (I 1)),M 10 67] [5,39,67]))))
def FJ:TFn:=⟨4,[],(zQ (oQ [oF 8 1 1,O 9 (.len t8),O 10 (.mv (I 0))] []) (zB 0 (.loop 31735400 LF)))⟩
def PZ:TFn:=⟨1,[.tmp 2],(zQ (oQ [O 2 (.mv (.c (.bool false)))] [2]) (zQ (oQ [M 3 0,M 4 0,oX 5 .neq 3 4,M 2 5] [0,3,4,5]) .ret))⟩
def Qa:TFn:=⟨2,[.tmp 4],(zQ (oQ [O 4 (.mv (I 0))] [4]) (zQ (oQ [M 7 0,O 8 (.call (.f Fi) [t7]),M 5 8] [7,8]) (zQ (oQ [M 9 1,O 10 (.call (.f Fi) [t9]),M 6 10] [9,10]) (zQ (zQ (oQ [M 11 5] [5]) (zC dI (zQ (zQ (oQ [M 12 6] [0,1,6,11]) (zC dQ (zQ (oQ [O 4 (.mv (I 0))] [12]) .ret) .skip)) (zQ (oQ [O 4 (.mv (I (-1)))] [12]) .ret)) .skip)) (zQ (zQ (oQ [M 13 6] [6,11]) (zC eL (zQ (oQ [O 4 (.mv (I 1))] [0,1,13]) .ret) .skip)) (zQ (zQ (oQ [M 14 0,M 15 1,oX 16 .lss 14 15] [13,14,15]) (zC eO (zQ (oQ [O 4 (.mv (I (-1)))] [0,1,16]) .ret) .skip)) (zQ (zQ (oQ [M 17 0,M 18 1,oX 19 .gtr 17 18] [0,1,16,17,18]) (zC gN (zQ (oQ [O 4 (.mv (I 1))] [19]) .ret) .skip)) (zQ (oQ [O 4 (.mv (I 0))] [19]) .ret))))))))⟩
def Qb:TFn:=⟨1,[.tmp 2],(zQ (oQ [O 2 (.mv (.c (.bool false)))] [2]) (zQ (oQ [M 3 0,M 4 0,oX 5 .neq 3 4,M 2 5] [0,3,4,5]) .ret))⟩
def Qc:TFn:=⟨2,[.tmp 4],(zQ (oQ [O 4 (.mv (I 0))] [4]) (zQ (oQ [M 7 0,O 8 (.call (.f Fj) [t7]),M 5 8] [7,8]) (zQ (oQ [M 9 1,O 10 (.call (.f Fj) [t9]),M 6 10] [9,10]) (zQ (zQ (oQ [M 11 5] [5]) (zC dI (zQ (zQ (oQ [M 12 6] [0,1,6,11]) (zC dQ (zQ (oQ [O 4 (.mv (I 0))] [12]) .ret) .skip)) (zQ (oQ [O 4 (.mv (I (-1)))] [12]) .ret)) .skip)) (zQ (zQ (oQ [M 13 6] [6,11]) (zC eL (zQ (oQ [O 4 (.mv (I 1))] [0,1,13]) .ret) .skip)) (zQ (zQ (oQ [M 14 0,M 15 1,oX 16 .lss 14 15] [13,14,15]) (zC eO (zQ (oQ [O 4 (.mv (I (-1)))] [0,1,16]) .ret) .skip)) (zQ (zQ (oQ [M 17 0,M 18 1,oX 19 .gtr 17 18] [0,1,16,17,18]) (zC gN (zQ (oQ [O 4 (.mv (I 1))] [19]) .ret) .skip)) (zQ (oQ [O 4 (.mv (I 0))] [19]) .ret))))))))⟩
def LG:TC:=(zQ (oQ [oX 9 .lss 8 7] []) (zQ (zC t9 .skip (.exit 0)) (zQ (zB 1 (zQ (.ops [O 10 (.iad 1 t6 t8),oF 11 1 10,M 5 11] [⟨0,zI,0⟩,⟨1,zI,0⟩] [] [9,10,11]) (zQ (oQ [M 12 5,M 13 3,oX 14 .neq 12 13] [12,13]) (zC eE (zQ (oQ [M 15 5,M 2 15] [3,5,6,7,8,14,15]) .ret) .skip)))) (oQ [O 16 (.bin .add t8 (I 1)),M 8 16] [5,14,16]))))
def Qd:TFn:=⟨1,[.tmp 2],(zQ (oQ [O 2 (.mv (I 0))] [2]) (zQ (oQ [O 3 (.mv (I 0))] []) (zQ (zQ (oQ [M 6 0,O 7 (.len t6),O 8 (.mv (I 0))] [0]) (zB 0 (.loop 53260600 LG))) (zQ (oQ [M 17 3,M 2 17] [3,6,7,8,9,17]) .ret))))⟩
def Qe:TFn:=⟨2,[.tmp 4,.tmp 5],(zQ (oQ [O 2 (.boxL t0),O 3 (.boxL t1),O 4 (.mv (I 0)),O 5 (.mv (I 0))] [0,1,4,5]) (zQ (zQ (oQ [oT 12 2 2,oT 13 2 3,O 14 (.call (.f qS) [dQ,eL]),M 6 14] [12,13,14]) (zQ (oQ [M 15 6,O 16 (.bin .neq fG (I 0))] [15]) (zC eO (zQ (oQ [M 17 6,O 4 (.mv (I 0)),M 5 17] [2,3,6,16,17]) .ret) .skip))) (zQ (zQ (.ops [O 18 (.fad 0 t2),oF 19 1 18,O 20 (.bin .lss gN (I 0)),O 21 (.fad 0 t3),oF 22 1 21,O 23 (.bin .lss gV (I 0)),O 24 (.eqB true iM jG)] [⟨1,z2,0⟩,⟨4,z2,0⟩] [] [6,16,18,19,20,21,22,23]) (zC iN (zQ (.ops [O 25 (.fad 0 t2),oF 26 1 25,O 27 (.fad 0 t3),oF 28 1 27,O 29 (.call (.f Ij) [kJ,iC]),M 4 29,O 5 (.mv (I 0))] [⟨1,z2,0⟩,⟨3,z2,0⟩] [] [2,3,24,25,26,27,28,29]) .ret) .skip)) (zQ (.ops [O 31 (.fad 0 t2),oF 32 1 31,O 33 (.call (.f oM) [lH]),O 34 (.fad 1 t3),oF 35 1 34,O 36 (.conv .u64 kK),O 37 (.call (.f qT) [oP,nU]),M 30 37,O 38 (.ext lX 0),O 39 (.ext lX 1),M 7 38,M 8 39] [⟨1,z2,0⟩,⟨4,z2,0⟩] [(0,3),(1,3),(2,3),(0,4),(1,4),(2,4),(0,5),(1,5),(2,5),(8,9),(9,10)] [24,30,31,32,33,34,35,36,37,38,39]) (zQ (.ops [O 41 (.fad 0 t3),oF 42 1 41,O 43 (.call (.f oM) [lF]),O 44 (.fad 1 t2),oF 45 1 44,O 46 (.conv .u64 qU),O 47 (.call (.f qT) [sI,nC]),M 40 47,O 48 (.ext nB 0),O 49 (.ext nB 1),M 9 48,M 10 49] [⟨1,z2,0⟩,⟨4,z2,0⟩] [(0,3),(1,3),(2,3),(0,4),(1,4),(2,4),(0,5),(1,5),(2,5),(8,9),(9,10)] [3,40,41,42,43,44,45,46,47,48,49]) (zQ (oQ [M 50 7,M 51 9,O 52 (.call (.f Fk) [CJ,wF]),M 53 8,M 54 10,O 55 (.call (.f Fk) [Bj,yL]),O 56 (.bD 1 (ic (0)) 2 [(0,wG),(1,oN)]),O 57 (.call (.f Ik) [FI]),M 11 57] [7,8,9,10,50,51,52,53,54,55,56,57]) (zQ (zQ (.ops [O 58 (.fad 0 t2),oF 59 1 58,O 60 (.bin .lss yM (I 0))] [⟨1,z2,0⟩] [] [2,58,59]) (zC yN (oQ [M 61 11,O 62 (.un .neg Be),M 11 62] [60,61,62]) .skip)) (zQ (oQ [M 63 11,M 4 63,O 5 (.mv (I 0))] [11,60,63]) .ret))))))))⟩
def Qf:TFn:=⟨2,[.tmp 4],(zQ (oQ [O 2 (.boxL t0),O 3 (.boxL t1),O 4 (.mv (.c (.bool false)))] [0,1,4]) (zQ (oQ [oT 8 2 2,oT 9 2 3,O 10 (.call (.f Cw) [t8,t9]),M 7 10,O 11 (.ext t7 0),O 12 (.ext t7 1),M 5 11,M 6 12] [2,3,6,7,8,9,10,11,12]) (zQ (oQ [M 13 5,O 14 (.bin .lss eL (I 0)),M 4 14] [5,13,14]) .ret)))⟩
def FK:TFn:=⟨3,[],(zQ (oQ [O 3 (.boxL t0)] [0,1]) (zQ (oQ [oT 5 2 3,oT 6 2 2,O 7 (.call (.f Cx) [t5,t6])] [5,6]) (zC t7 (oQ [oT 8 2 3,zS 2 t2 t8] [2,3,7,8]) .skip)))⟩
def FM:TFn:=⟨4,[],(zQ (oQ [O 4 (.boxL t0)] [0]) (zQ (oQ [oT 6 2 4,oT 7 2 2,O 8 (.eqA false 2 [(0,(some .i64)),(1,(some .i64))] t6 t7)] [2,4,6,7]) (zC t8 (oQ [oF 9 1 3,M 10 1,O 11 (.bSl false 1 .nilp 1 [(0,dN)]),O 12 (.app false 1 8 t9 dI),zS 1 t3 dQ] [1,3,8,9,10,11,12]) .skip)))⟩
def qX:TC:=(zQ (oQ [oX 42 .lss 41 40] []) (zQ (zC lF .skip (.exit 2)) (zQ (zB 3 (zQ (.ops [M 43 41,O 44 (.iad 1 pZ mP),oF 45 1 44,M 9 43,M 10 45] [⟨1,zI,0⟩,⟨2,zI,0⟩] [] (zR 42 4)) (zQ (.ops [M 46 8,O 47 (.nilchk nC),O 48 (.fad 4 pX),oF 49 1 48,M 50 10,M 51 8,O 52 (.nilchk wF),O 53 (.fad 0 wG),O 54 (.fad 1 Bj),oF 55 1 54,M 56 9,O 57 (.bin .add FI (I 1)),O 58 (.iad 1 oN yJ),oF 59 1 58,M 60 8,O 61 (.nilchk yN),O 62 (.fad 0 Be),O 63 (.fad 1 CC),oF 64 1 63,M 65 9,O 66 (.iad 1 Bl CM),oF 67 1 66,oX 68 .sub 59 67,oX 69 .mul 50 68,oX 70 .add 49 69,O 71 (.nilchk nC),O 72 (.fad 4 Bm),zS 1 Bg yO] [⟨3,(.agg [.i .i64,.d,.d,.d,.i .i64,.i .i64,.i .i64]),0⟩,⟨9,(.agg [.i .i64,.d,.d,.d,.i .i64,.i .i64,.i .i64]),0⟩,⟨12,zI,0⟩,⟨13,zI,0⟩,⟨18,(.agg [.i .i64,.d,.d,.d,.i .i64,.i .i64,.i .i64]),0⟩,⟨20,zI,0⟩,⟨21,zI,0⟩,⟨27,(.agg [.i .i64,.d,.d,.d,.i .i64,.i .i64,.i .i64]),0⟩] [(0,4),(1,4),(2,4),(3,4),(0,5),(1,5),(2,5),(3,5),(4,5),(0,6),(1,6),(2,6),(3,6),(4,6),(0,7),(1,7),(2,7),(3,7),(4,7),(0,8),(1,8),(2,8),(3,8),(4,8),(0,9),(1,9),(2,9),(3,9),(4,9),(0,10),(1,10),(2,10),(3,10),(4,10),(5,10),(6,10),(7,10),(8,10),(9,10),(0,11),(1,11),(2,11),(3,11),(4,11),(5,11),(6,11),(7,11),(8,11),(9,11),(0,12),(1,12),(2,12),(3,12),(4,12),(0,13),(1,13),(2,13),(3,13),(4,13),(0,14),(1,14),(2,14),(3,14),(4,14),(5,14),(6,14),(7,14),(8,14),(9,14),(10,14),(11,14),(12,14),(13,14),(0,15),(1,15),(2,15),(3,15),(4,15),(5,15),(6,15),(7,15),(8,15),(9,15),(10,15),(11,15),(12,15),(13,15),(0,16),(1,16),(2,16),(3,16),(4,16),(5,16),(6,16),(7,16),(8,16),(9,16),(10,16),(11,16),(12,16),(13,16),(0,17),(1,17),(2,17),(3,17),(4,17),(5,17),(6,17),(7,17),(8,17),(9,17),(10,17),(11,17),(12,17),(13,17),(0,18),(1,18),(2,18),(3,18),(4,18),(5,18),(6,18),(7,18),(8,18),(9,18),(10,18),(11,18),(12,18),(13,18),(0,19),(1,19),(2,19),(3,19),(4,19),(5,19),(6,19),(7,19),(8,19),(9,19),(10,19),(11,19),(12,19),(13,19),(14,19),(15,19),(16,19),(17,19),(18,19),(0,20),(1,20),(2,20),(3,20),(4,20),(5,20),(6,20),(7,20),(8,20),(9,20),(10,20),(11,20),(12,20),(13,20),(0,21),(1,21),(2,21),(3,21),(4,21),(5,21),(6,21),(7,21),(8,21),(9,21),(10,21),(11,21),(12,21),(13,21),(0,22),(1,22),(2,22),(3,22),(4,22),(0,23),(1,23),(2,23),(3,23)] [9,10,46,47,48,49,50,51,52,53,54,55,56,57,58,59,60,61,62,63,64,65,66,67,68,69,70,71,72]) (.ops [M 73 8,M 74 8,O 75 (.nilchk Bh),O 76 (.fad 3 wC),oF 77 1 76,M 78 8,O 79 (.nilchk wE),O 80 (.fad 4 CL),oF 81 1 80,O 82 (.bD 1 (ic (0)) 1 [(0,CG)]),O 83 (.app true 1 8 yK Fy),O 84 (.nilchk CE),O 85 (.fad 3 Fz),zS 1 FA Iw] [⟨4,(.agg [.i .i64,.d,.d,.d,.i .i64,.i .i64,.i .i64]),0⟩,⟨8,(.agg [.i .i64,.d,.d,.d,.i .i64,.i .i64,.i .i64]),0⟩,⟨13,(.agg [.i .i64,.d,.d,.d,.i .i64,.i .i64,.i .i64]),0⟩] [(0,1),(0,2),(0,3),(0,4),(0,5),(1,5),(2,5),(3,5),(4,5),(0,6),(1,6),(2,6),(3,6),(4,6),(0,7),(1,7),(2,7),(3,7),(4,7),(0,8),(1,8),(2,8),(3,8),(4,8),(0,9),(1,9),(2,9),(3,9),(4,9),(0,10)] (zR 73 13))))) (oQ [O 86 (.bin .add mP (I 1)),M 41 86] [86]))))
def qA:TC:=(zQ (oQ [oX 25 .lss 24 23] []) (zQ (zC jP .skip (.exit 0)) (zQ (zB 1 (zQ (.ops [O 26 (.iad 1 gV iN),oF 27 1 26,M 7 27] [⟨0,zI,0⟩,⟨1,zI,0⟩] [] [25,26,27]) (zQ (.ops [M 28 0,M 29 7,O 30 (.iad 3 iC lE),oT 31 3 30,O 32 (.buildN true 1 (ic (0)) 1 [(0,(I 0))]),O 33 (.build [(ic (0)),.nils,.nils,.nils,(ic (0)),(ic (0)),(ic (0))] [(0,3,kS),(3,1,lH)]),O 34 (.boxH false 7 oP),M 8 34] [⟨2,zK,0⟩,⟨3,zK,0⟩] [] [7,28,29,30,31,32,33,34]) (zQ (zQ (.ops [M 35 8,O 36 (.nilchk kK),O 37 (.fad 0 nU),O 38 (.fad 2 oR),oF 39 1 38,O 40 (.len pZ),O 41 (.mv (I 0))] [⟨4,(.agg [.i .i64,.d,.d,.d,.i .i64,.i .i64,.i .i64]),0⟩] [] (zR 35 4)) (zB 2 (.lG 5508400 qX))) (.ops [oF 87 1 5,M 88 8,O 89 (.bSl false 1 .nilp 1 [(0,FG)]),O 90 (.app false 1 8 FC FD),zS 1 t5 Lh] [⟨0,zD,0⟩,⟨4,zD,0⟩] [] [8,39,40,41,42,87,88,89,90]))))) (oQ [O 91 (.bin .add iN (I 1)),M 24 91] [91]))))
def LH:TC:=(zQ (oQ [oX 104 .lss 103 102] []) (zQ (zC yV .skip (.exit 6)) (zQ (zB 7 (zQ (oQ [O 105 (.iad 1 qV qW),oF 106 1 105,M 15 106] [104,105,106]) (zQ (oQ [M 107 15,oT 108 4 12,O 109 (.call (.f Fg) [oU,CT]),zS 4 dQ oS] [15,107,108,109]) (.ops [oF 110 1 13,oT 111 4 12,O 112 (.bD 4 (gz 4) 1 [(0,CU)]),O 113 (.app true 4 32 uA CV),zS 1 eL yP] [⟨0,zD,0⟩,⟨4,zD,0⟩] [] (zR 110 4))))) (oQ [O 114 (.bin .add qW (I 1)),M 103 114] [114]))))
def IH:Opd:=.t 136
def Qg:Opd:=.t 139
def II:Opd:=.t 142
def Qh:Opd:=.t 144
def Qi:Opd:=.t 146
def LI:TC:=(zQ (oQ [oX 139 .lss 138 137] []) (zQ (zC Qg .skip (.exit 8)) (zQ (zB 9 (zQ (oQ [O 140 (.iad 1 IH yX),oF 141 1 140,M 21 141] [139,140,141]) (.ops [M 142 21,O 143 (.nilchk II),oF 144 1 143,O 145 (.bin .add Qh (I 1)),O 146 (.nilchk II),zS 1 Qi IE] [⟨2,zI,0⟩,⟨5,zI,0⟩] [] [21,142,143,144,145,146]))) (oQ [O 147 (.bin .add yX (I 1)),M 138 147] [147]))))
def Dd:Opd:=.t 100
def iD:TC:=(zB 5 (zQ (oQ [O 95 (.call (.f mO) [(I 0)]),O 96 (.call (.f mO) [(I 0)]),O 97 (.build [(ic (0)),(ic (0)),(ic (0)),(ic (0))] [(0,2,Ix),(2,2,FH)]),O 12 (.allocL (gz 4)),zS 4 dQ Iy] [95,96,97,136,137,138,139]) (zQ (.ops [oF 98 1 5,O 99 (.len FF),O 100 (.mkSl true 4 32 (gz 4) (I 0) PE),O 13 (.aH false 1 .nils),zS 1 eL Dd] [⟨0,zD,0⟩,⟨4,zD,0⟩] [] [98,99,100]) (zQ (zQ (.ops [oF 101 1 5,O 102 (.len qV),O 103 (.mv (I 0))] [⟨0,zD,0⟩] [] []) (zB 6 (.lG 5508402 LH))) (zQ (.ops [oF 115 1 13,oF 116 1 11,O 117 (.iad 4 IG CX),oT 118 4 117,M 119 0,O 120 (.iad 3 tZ (I 0)),O 121 (.fad 0 yQ),oF 122 1 121,O 123 (.call (.f Cv) [CP,yR]),O 16 (.allocL (gz 2)),zS 2 eO ID] [⟨0,zD,0⟩,⟨1,zI,0⟩,⟨2,z4,0⟩,⟨3,z4,0⟩,⟨5,zK,0⟩,⟨7,zK,0⟩] [(0,1),(0,4),(1,4),(2,4),(3,4),(0,5),(1,5),(2,5),(3,5),(0,6),(1,6),(2,6),(3,6),(0,7),(1,7),(2,7),(3,7),(0,9),(1,9),(2,9),(3,9),(4,9),(5,9),(6,9),(7,9),(8,9)] [12,101,102,103,104,115,116,117,118,119,120,121,122,123]) (zQ (.ops [oT 124 2 16,O 17 (.aH false 2 (gz 2)),zS 2 gM CY] [⟨2,z2,0⟩] [] [124]) (zQ (oQ [O 125 (.mkFn (.func Fh) [] [t5,eL,dI]),M 18 125] [13,125]) (zQ (oQ [M 126 18,O 127 (.mkFn (.func Fl) [] [gM]),O 128 (.call Dc [CQ])] [126,127,128]) (zQ (zQ (.ops [oT 129 2 17,oT 130 2 16,O 131 (.eqA false 2 [(0,(some .i64)),(1,(some .i64))] CR yS)] [⟨0,z2,0⟩] [] [16,129,130]) (zC yT (zQ (.ops [oT 132 2 17,zS 2 t4 CZ] [⟨0,z2,0⟩] [] [0,5,11,17,18,131,132]) .ret) .skip)) (zQ (oQ [O 19 (.aH false 1 .nils)] [131]) (zQ (oQ [M 133 18,O 134 (.mkFn (.func Fm) [] [gM,gN]),O 135 (.call Da [Db])] [17,18,133,134,135]) (zQ (zQ (.ops [oF 136 1 19,O 137 (.len IH),O 138 (.mv (I 0))] [⟨0,zD,0⟩] [] [19]) (zB 8 (.lG 5508403 LI))) (.exit 5)))))))))))))
def IJ:TFn:=⟨2,[.cell 4 true 2],(zQ (oQ [O 4 (.allocL (gz 2))] []) (zQ (oQ [O 5 (.aH false 1 .nils)] []) (zQ (zQ (oQ [M 22 1,O 23 (.len gV),O 24 (.mv (I 0))] [1]) (zB 0 (.lG 5508401 qA))) (zQ (.ops [oF 92 1 5,O 93 (.len Li),O 94 (.bin .sub CH (I 1)),O 11 (.aH false 1 (ic (0))),zS 1 dI CI] [⟨0,zD,0⟩,⟨4,zI,0⟩] [] [22,23,24,25,92,93,94]) (zQ .skip (zB 4 (.lG 5508404 iD)))))))⟩
def Qj:TFn:=⟨2,[.cell 4 true 2,.tmp 5],(zQ (oQ [O 4 (.allocL (gz 2)),O 5 (.mv (I 0))] [5]) (zQ (zQ (oQ [M 7 0,M 8 1,O 9 (.call (.f qQ) [t7,t8]),M 6 9] [7,8,9]) (zQ (oQ [M 10 6,O 11 (.bin .neq dN (I 0))] [10]) (zC dI (zQ (oQ [O 12 (.build [(ic (0)),(ic (0))] []),M 13 6,zS 2 t4 dQ,M 5 13] [0,1,6,11,12,13]) .ret) .skip))) (zQ (oQ [M 14 0,M 15 1,O 16 (.call (.f sH) [eE,fG]),zS 2 t4 eO,O 5 (.mv (I 0))] [0,1,6,11,14,15,16]) .ret)))⟩
def LJ:TC:=(zQ (oQ [oX 17 .lss 16 15] []) (zQ (zC gM .skip (.exit 0)) (zQ (zB 1 (zQ (.ops [M 18 16,O 19 (.iad 1 eE eO),oF 20 1 19,M 6 18,M 7 20] [⟨1,zI,0⟩,⟨2,zI,0⟩] [] (zR 17 4)) (.ops [M 21 5,M 22 7,O 23 (.fad 1 t1),oF 24 1 23,M 25 6,O 26 (.bin .add jP (I 1)),O 27 (.iad 1 iN kJ),oF 28 1 27,O 29 (.fad 1 t1),oF 30 1 29,M 31 6,O 32 (.iad 1 lX kS),oF 33 1 32,oX 34 .sub 28 33,oX 35 .mul 22 34,oX 36 .add 21 35,M 5 36] [⟨3,zK,0⟩,⟨6,zI,0⟩,⟨7,zI,0⟩,⟨9,zK,0⟩,⟨11,zI,0⟩,⟨12,zI,0⟩] [(0,1),(0,2),(1,2),(0,3),(1,3),(0,4),(1,4),(2,4),(3,4),(0,5),(1,5),(2,5),(3,5),(0,6),(1,6),(0,7),(1,7),(0,8),(1,8),(2,8),(3,8),(4,8),(5,8),(6,8),(7,8),(0,9),(1,9),(2,9),(3,9),(4,9),(5,9),(6,9),(7,9),(0,10),(1,10),(2,10),(3,10),(4,10),(5,10),(6,10),(7,10),(8,10),(9,10),(0,11),(1,11),(2,11),(3,11),(4,11),(5,11),(6,11),(7,11),(0,12),(1,12),(2,12),(3,12),(4,12),(5,12),(6,12),(7,12),(0,13),(1,13),(0,14)] [6,7,21,22,23,24,25,26,27,28,29,30,31,32,33,34,35,36]))) (oQ [O 37 (.bin .add eO (I 1)),M 16 37] [37]))))
def Qk:TFn:=⟨1,[.tmp 2,.tmp 3],(zQ (oQ [O 1 (.boxL t0),O 2 (.mv (I 0)),O 3 (.mv (I 0))] [0,2,3]) (zQ (zQ (oQ [oT 8 3 1,O 9 (.call (.f vZ) [t8]),M 4 9] [8,9]) (zQ (oQ [M 10 4,O 11 (.bin .neq dN (I 0))] [10]) (zC dI (zQ (oQ [M 12 4,O 2 (.mv (I 0)),M 3 12] [1,4,11,12]) .ret) .skip))) (zQ (oQ [O 5 (.mv (I 0))] [4,11]) (zQ (zQ (.ops [O 13 (.fad 2 t1),oF 14 1 13,O 15 (.len eE),O 16 (.mv (I 0))] [⟨1,zK,0⟩] [] [13]) (zB 0 (.loop 45203600 LJ))) (zQ (oQ [M 38 5,M 2 38,O 3 (.mv (I 0))] [1,5,14,15,16,17,38]) .ret)))))⟩
def Ql:TFn:=⟨1,[.cell 2 true 2],(zQ (oQ [O 2 (.allocL (gz 2))] []) (zQ (oQ [M 3 0,O 4 (.build [(ic (0)),(ic (0))] [(0,1,t3),(1,1,(I 1))]),zS 2 t2 t4] [0,3,4]) .ret))⟩
def Qm:TFn:=⟨2,[.tmp 4],(zQ (oQ [O 2 (.boxL t0),O 3 (.boxL t1),O 4 (.mv (.c (.bool false)))] [0,1,4]) (zQ (oQ [oT 8 2 2,oT 9 2 3,O 10 (.call (.f Cw) [t8,t9]),M 7 10,O 11 (.ext t7 0),O 12 (.ext t7 1),M 5 11,M 6 12] [2,3,6,7,8,9,10,11,12]) (zQ (oQ [M 13 5,O 14 (.bin .lss eL (I 0)),M 4 14] [5,13,14]) .ret)))⟩
def Qn:TFn:=⟨2,[.tmp 4],(zQ (oQ [O 2 (.boxL t0),O 3 (.boxL t1),O 4 (.mv (.c (.bool false)))] [0,1,4]) (zQ (.ops [oT 5 2 3,O 6 (.call (.f qR) [t5]),O 7 (.bin .eql t6 (I 0)),M 8 7,zT 9 8 (.fad 0 t3),zT 10 8 (.load false 1 t9),zT 11 8 (.bin .geq dN (I 0)),O 12 (.pick t8 dI (.c (.bool false))),M 13 12,zT 14 13 (.fad 0 t2),zT 15 13 (.load false 1 eE),zT 16 13 (.call (.f tY) [fG]),zT 17 13 (.load true 2 t3),zT 18 13 (.call (.f yI) [eO,gM]),zT 19 13 (.un .not gU),O 20 (.pick eL gN (.c (.bool false))),M 4 20] [⟨5,z2,0⟩,⟨10,zK,0⟩] [(9,12),(10,12),(11,12)] [2,3,5,6,7,8,9,10,11,12,13,14,15,16,17,18,19,20]) .ret))⟩
def LK:TFn:=⟨7,[.tmp 11],(zQ (oQ [O 7 (.boxL t0),O 8 (.boxL t1),O 9 (.boxL t2),O 11 (.mv (.c (.bool false)))] [0,1,2,8,11]) (zQ (zQ (oQ [M 16 3,O 17 (.bin .eql eO (I 0))] [16]) (zC gM (zQ (oQ [O 11 (.mv (.c (.bool false)))] [3,4,5,6,7,9,17]) .ret) .skip)) (zQ (zQ (oQ [oT 18 2 9,oT 19 2 4,O 20 (.call (.f yI) [gU,gN])] [17,18,19]) (zC iM (zQ (oQ [oT 22 2 4,oT 23 2 9,O 24 (.call (.f tW) [gV,jG]),M 21 24,O 25 (.ext iW 0),O 26 (.ext iW 1),O 12 (.allocL (gz 2)),zS 2 dQ jP,M 13 26] [3,6,7,9,20,21,22,23,24,25,26]) (zQ (oQ [oT 27 2 12,zS 2 t4 oO,zS 1 t5 (I 6)] [4,12,27]) (zQ (zQ (oQ [M 28 13,O 29 (.bin .neq iC (I 0))] [28]) (zC lE (oQ [M 30 13,zS 1 t5 lX] [5,29,30]) .skip)) (zQ (oQ [M 31 13,O 32 (.bin .neq kS (I 0)),M 11 32] [5,13,29,31,32]) .ret)))) .skip)) (zQ (.ops [oT 34 2 4,M 35 3,O 36 (.call (.f tY) [kK]),O 37 (.call (.f tX) [kT,nU]),M 33 37,O 38 (.ext oP 0),O 39 (.ext oP 1),O 14 (.allocL (gz 2)),zS 2 eE nA,M 15 39] [] [(0,1),(0,2),(5,6),(0,7),(1,7),(2,7),(3,7),(4,7),(5,7),(6,7),(6,8)] [3,4,9,20,33,34,35,36,37,38,39]) (zQ (zQ (oQ [M 40 15,O 41 (.bin .eql nB (I 0))] [40]) (zC mP (oQ [oT 43 2 7,oT 44 2 14,O 45 (.call (.f sG) [sI,pW]),M 42 45,O 46 (.ext lF 0),O 47 (.ext lF 1),zS 2 t6 nC,M 15 47] [6,7,14,41,42,43,44,45,46,47]) .skip)) (zQ (oQ [M 48 15,zS 1 t5 pY] [5,6,7,14,15,41,48]) (zQ (oQ [O 11 (.mv (.c (.bool true)))] []) .ret)))))))⟩
def LM:TC:=(zQ (oQ [oX 17 .lss 16 15] []) (zQ (zC gM .skip (.exit 0)) (zQ (zB 1 (zQ (.ops [M 18 16,O 19 (.iad 1 eE eO),oF 20 1 19,M 7 18,M 8 20] [⟨1,zI,0⟩,⟨2,zI,0⟩] [] (zR 17 4)) (zQ (.ops [O 21 (.fad 1 t3),oF 22 1 21,M 23 7,O 24 (.bin .add jG (I 1)),O 25 (.iad 1 gV iN),oF 26 1 25,O 27 (.call (.f tY) [kJ]),O 9 (.allocL (gz 2)),zS 2 t9 oO] [⟨1,zK,0⟩,⟨4,zI,0⟩,⟨5,zI,0⟩] [] [7,21,22,23,24,25,26,27]) (zQ (zQ (oQ [oT 28 2 4,oT 29 2 9,O 30 (.call (.f yI) [iC,lE]),O 31 (.un .not lX)] [28,29,30]) (zC kS (.exit 1) .skip)) (zQ (oQ [O 32 (.call (.f tY) [(I 0)]),O 10 (.allocL (gz 2)),zS 2 dN lH] [31,32]) (zQ (zQ (oQ [M 33 8,O 34 (.bin .gtr oP (I 0))] [33]) (zC kT (zQ (oQ [oT 36 2 9,oT 37 2 4,O 38 (.call (.f tW) [nU,oR]),M 35 38,O 39 (.ext kK 0),O 40 (.ext kK 1),O 11 (.allocL (gz 2)),zS 2 dI pZ,M 12 40] (zR 34 7)) (zQ (zQ (oQ [M 41 12,O 42 (.bin .neq mP (I 0))] [41]) (zC lF (zQ (oQ [M 43 12,M 6 43] [2,3,4,8,9,10,11,12,14,15,16,42,43]) .ret) .skip)) (zQ (.ops [oT 45 2 11,M 46 8,O 47 (.call (.f tY) [nC]),O 48 (.call (.f pU) [qU,pX]),M 44 48,O 49 (.ext pW 0),O 50 (.ext pW 1),zS 2 dN sJ,M 12 50] [] [(0,1),(0,2),(5,6),(6,7)] [11,42,44,45,46,47,48,49,50]) (zQ (oQ [M 51 12,O 52 (.bin .neq wF (I 0))] [51]) (zC wG (zQ (oQ [M 53 12,M 6 53] [2,3,4,8,9,10,12,14,15,16,52,53]) .ret) .skip))))) .skip)) (zQ (zQ (oQ [M 54 2,oT 55 2 4,oT 56 2 9,oT 57 2 10,M 58 8,O 59 (.call yL [oN,FI,yJ,Fw])] [8,10,12,34,52,54,55,56,57,58]) (zC yM (zQ (oQ [O 6 (.mv (I 0))] [2,3,4,9,14,15,16,59]) .ret) .skip)) (oQ [oT 60 2 9,zS 2 t4 yN] [9,59,60])))))))) (oQ [O 61 (.bin .add eO (I 1)),M 16 61] [8,9,31,61]))))
def Qo:TFn:=⟨3,[.tmp 6],(zQ (oQ [O 3 (.boxL t0),O 4 (.boxL t1),O 6 (.mv (I 0))] [0,1,6]) (zQ (zQ (.ops [O 13 (.fad 2 t3),oF 14 1 13,O 15 (.len eE),O 16 (.mv (I 0))] [⟨1,zK,0⟩] [] [13]) (zB 0 (.loop 41613500 LM))) (zQ (oQ [O 6 (.mv (I 0))] [2,3,4,14,15,16,17]) .ret)))⟩
def Qp:TFn:=⟨3,[.cell 6 true 2,.tmp 7],(zQ (oQ [O 3 (.boxL t0),O 4 (.boxL t1),O 5 (.boxH true 2 t2),O 6 (.allocL (gz 2)),O 7 (.mv (I 0))] [0,1,2,7]) (zQ (zQ (oQ [oT 12 3 3,O 13 (.call (.f vZ) [dQ]),M 8 13] [12,13]) (zQ (oQ [M 14 8,O 15 (.bin .neq eE (I 0))] [14]) (zC fG (zQ (oQ [O 16 (.build [(ic (0)),(ic (0))] []),M 17 8,zS 2 t6 eO,M 7 17] [3,4,5,8,15,16,17]) .ret) .skip))) (zQ (zQ (.ops [oT 18 3 3,oT 19 2 4,O 20 (.call (.f Fo) [gU,gN]),O 21 (.un .not iM),M 22 21,zF 23 22 (.load true 2 t5),zF 24 22 (.call (.f qR) [jG]),zF 25 22 (.bin .neq iN (I 0)),O 26 (.pick gV (.c (.bool true)) jP),M 27 26,zF 28 27 (.fad 0 t5),zF 29 27 (.load false 1 iC),zF 30 27 (.bin .lss lE (I 0)),O 31 (.pick oO (.c (.bool true)) lX)] [⟨5,z2,0⟩,⟨11,z2,0⟩] [] [8,15,18,19,20,21,22,23,24,25,26,27,28,29,30]) (zC kS (zQ (oQ [O 32 (.build [(ic (0)),(ic (0))] []),zS 2 t6 lH,O 7 (.mv (I 2))] [3,4,5,31,32]) .ret) .skip)) (zQ (zQ (.ops [O 33 (.fad 0 t5),oF 34 1 33,O 35 (.bin .eql kT (I 0))] [⟨1,z2,0⟩] [] [31,33,34]) (zC kK (zQ (oQ [oT 36 2 4,zS 2 t6 nU,O 7 (.mv (I 0))] [3,4,5,35,36]) .ret) .skip)) (zQ (oQ [O 9 (.aH true 2 (gz 2))] [35]) (zQ (.ops [O 10 (.aH true 1 (ic (0))),zS 1 dN (I 6)] [⟨1,zI,0⟩] [] []) (zQ (oQ [oT 37 3 3,oT 38 2 4,O 39 (.mkFn (.func Fp) [] [t5,dN,t9]),O 40 (.call (.f OS) [oR,nA,pZ]),M 11 40] [3,4,5,37,38,39,40]) (zQ (zQ (oQ [M 41 11,O 42 (.bin .neq mP (I 0))] [41]) (zC lF (.ops [M 43 11,zS 1 dN sI] [⟨1,zI,0⟩] [] [11,42,43]) .skip)) (zQ (zQ (.ops [oF 44 1 10,O 45 (.bin .neq pW (I 0))] [⟨0,zI,0⟩] [] [11,42,44]) (zC qU (zQ (.ops [O 46 (.build [(ic (0)),(ic (0))] []),oF 47 1 10,zS 2 t6 nC,M 7 47] [⟨1,zI,0⟩] [(0,1),(1,2)] [9,10,45,46,47]) .ret) .skip)) (zQ (.ops [oT 48 2 9,zS 2 t6 pY,O 7 (.mv (I 0))] [⟨0,z2,0⟩] [] [9,10,45,48]) .ret))))))))))⟩
def LN:TC:=(zQ (oQ [oX 35 .lss 34 33] []) (zQ (zC kK .skip (.exit 0)) (zQ (zB 1 (zQ (.ops [O 36 (.iad 1 lH kT),oF 37 1 36,M 12 37] [⟨0,zI,0⟩,⟨1,zI,0⟩] [] [35,36,37]) (zQ (.ops [M 39 0,M 40 12,O 41 (.iad 3 pZ nB),oT 42 3 41,O 43 (.call (.f Il) [lF]),M 38 43,O 44 (.ext nA 0),O 45 (.ext nA 1),M 13 44,M 14 45] [⟨2,zK,0⟩,⟨3,zK,0⟩] [] [14,38,39,40,41,42,43,44,45]) (zQ (.ops [oT 47 2 5,M 48 13,O 49 (.call (.f mO) [pY]),O 50 (.call (.f pU) [pX,sJ]),M 46 50,O 51 (.ext nC 0),O 52 (.ext nC 1),O 15 (.allocL (gz 2)),zS 2 fG wF,M 16 52] [] [(0,1),(0,2),(5,6),(0,7),(1,7),(2,7),(3,7),(4,7),(5,7),(6,7),(6,8)] [13,46,47,48,49,50,51,52]) (zQ (zQ (oQ [M 53 16,O 54 (.bin .eql Bj (I 0))] [53]) (zC yL (.ops [M 56 0,M 57 12,O 58 (.iad 3 FI yJ),oT 59 3 58,oT 60 2 9,oT 61 2 15,O 62 (.call (.f Im) [yM,yN,Be]),M 55 62,O 63 (.ext oN 0),O 64 (.ext oN 1),zS 2 t9 Iv,M 16 64] [⟨2,zK,0⟩,⟨3,zK,0⟩] [(0,1),(0,4),(1,4),(2,4),(3,4),(0,5),(1,5),(2,5),(3,5),(4,5),(8,9),(9,10)] [12,15,54,55,56,57,58,59,60,61,62,63,64]) .skip)) (zQ (zQ (oQ [M 65 16,O 66 (.bin .neq CM (I 0))] [12,15,54,65]) (zC CN (zQ (oQ [M 67 16,O 6 (.mv (.c .nils)),M 7 67] [0,5,9,10,16,32,33,34,66,67]) .ret) .skip)) (oQ [M 68 10,oT 69 2 9,O 70 (.bD 2 (gz 2) 1 [(0,Bn)]),O 71 (.app true 2 16 Bf yO),M 10 71] [16,66,68,69,70,71]))))))) (oQ [O 72 (.bin .add kT (I 1)),M 34 72] [72]))))
def Qq:TFn:=⟨3,[.tmp 6,.tmp 7],(zQ (oQ [O 5 (.boxL t2),O 6 (.mv (.c .nils)),O 7 (.mv (I 0))] [2,6,7]) (zQ (zQ (oQ [M 17 0,M 18 1,O 19 (.call (.f qQ) [gM,gU]),M 8 19] [17,18,19]) (zQ (oQ [M 20 8,O 21 (.bin .neq iM (I 0))] [20]) (zC iW (zQ (oQ [M 22 8,O 6 (.mv (.c .nils)),M 7 22] [0,1,5,8,21,22]) .ret) .skip))) (zQ (zQ (.ops [oT 23 2 5,O 24 (.call (.f qR) [jG]),O 25 (.bin .neq iN (I 0)),M 26 25,zF 27 26 (.fad 0 t5),zF 28 26 (.load false 1 oO),zF 29 26 (.bin .lss iC (I 0)),O 30 (.pick kJ (.c (.bool true)) lE)] [⟨5,z2,0⟩] [] [8,21,23,24,25,26,27,28,29]) (zC lX (zQ (oQ [O 6 (.mv (.c .nils)),O 7 (.mv (I 2))] [0,1,5,30]) .ret) .skip)) (zQ (oQ [O 31 (.call (.f mO) [(I 0)]),O 9 (.allocL (gz 2)),zS 2 t9 kS] [30,31]) (zQ (oQ [O 10 (.mv (.c .nils))] []) (zQ (zQ (oQ [M 32 1,O 33 (.len lH),O 34 (.mv (I 0))] [1]) (zB 0 (.loop 60678000 LN))) (zQ (oQ [M 73 10,M 6 73,O 7 (.mv (I 0))] [0,5,9,10,32,33,34,35,73]) .ret)))))))⟩
def Qr:TC:=(zQ (oQ [oX 16 .lss 15 14] []) (zQ (zC eO .skip (.exit 0)) (zQ (zB 1 (zQ (oQ [M 17 15,M 6 17] [16,17]) (zQ (.ops [M 18 0,M 19 6,O 20 (.call (.f AZ) [gU,gN]),O 21 (.un .not iM),M 22 21,zT 23 22 (.load false 1 t3),zT 24 22 (.mv t0),zT 25 22 (.mv t0),zT 26 22 (.len jP),zT 27 22 (.mv t0),zT 28 22 (.len oO),zT 29 22 (.slc 1 iN none (some kJ) (some iC)),zT 30 22 (.mv t6),zT 31 22 (.bD 1 (ic (0)) 1 [(0,lX)]),zT 32 22 (.app true 1 8 lE kS),zT 33 22 (.call jG [lH]),zT 34 22 (.un .not oP),O 35 (.pick gV kT (.c (.bool false)))] [] [(0,1),(5,6),(5,7),(6,7),(5,8),(6,8),(5,9),(6,9),(7,9),(8,9),(5,10),(6,10),(7,10),(8,10),(5,11),(5,12),(6,12),(7,12),(8,12),(9,12),(10,12),(11,12),(5,13),(6,13),(7,13),(8,13),(9,13),(10,13),(11,13),(5,14)] [6,18,19,20,21,22,23,24,25,26,27,28,29,30,31,32,33,34]) (zC kK (zQ (oQ [O 5 (.mv (.c (.bool false)))] [0,3,14,15,35]) .ret) .skip)))) (oQ [O 36 (.bin .add fG (I 1)),M 15 36] [35,36]))))
def Qs:TFn:=⟨4,[.tmp 5],(zQ (oQ [O 5 (.mv (.c (.bool false)))] [5]) (zQ (zQ (oQ [M 7 0,O 8 (.len t7),oF 9 1 1,oX 10 .eql 8 9] [7,8,9]) (zC dN (zQ (oQ [oF 11 1 2,M 12 0,O 13 (.call dI [dQ]),M 5 13] [0,1,2,3,10,11,12,13]) .ret) .skip)) (zQ (zQ (oQ [oF 14 1 1,O 15 (.mv (I 0))] [1,2,10]) (zB 0 (.loop 61763900 Qr))) (zQ (oQ [O 5 (.mv (.c (.bool true)))] [0,3,14,15,16]) .ret))))⟩
def FN:TFn:=⟨2,[],(zQ (oQ [O 2 (.boxH false 1 t0)] [0]) (zQ (oQ [O 3 (.aH false 1 .nilf)] []) (zQ (oQ [O 4 (.mkFn (.func CA) [] [t1,t2,t3]),zS 1 t3 t4] [1,2,4]) (oQ [oF 5 1 3,O 6 (.call t5 [(.c .nils)])] [3,5,6]))))⟩
def Qt:TFn:=⟨1,[.tmp 2],(zQ (oQ [O 1 (.boxH false 1 t0),O 2 (.mv (.c .nilf))] [0,2]) (zQ (oQ [O 3 (.mkFn (.func Io) [] [t1]),M 2 3] [1,3]) .ret))⟩
def mq:TC:=(zQ (oQ [O 2 (.boxH false 1 t0)] [0]) (zQ (oQ [O 3 (.aH false 1 .nilf)] []) (zQ (oQ [O 4 (.mkFn (.func CA) [] [t1,t2,t3]),zS 1 t3 t4] [1,2,4]) (oQ [oF 5 1 3,O 6 (.call t5 [(.c .nils)])] [3,5,6]))))
def FO:TC:=(oQ [M 6 17] [4,16,17])
def FQ:TC:=(zB 1 (zQ (.ops [oF 18 1 1,M 19 6,O 20 (.call (.f sH) [gU,gN]),O 7 (.aH false 2 (.agg [(.int .i64 (0)),(.int .i64 (0))])),zS 2 t7 iM] [⟨0,zD,0⟩,⟨4,z2,0⟩] [] [1,18,19,20]) (zQ (.ops [oF 21 1 2,O 22 (.eqN false iW),M 23 22,zF 24 23 (.load true 2 t3),zF 25 23 (.load true 2 t7),zF 26 23 (.call (.f Cx) [iN,jP]),O 27 (.pick jG (.c (.bool true)) kJ)] [⟨0,zD,0⟩,⟨3,z2,0⟩,⟨4,z2,0⟩] [] (zR 21 6)) (zC oO (.ops [M 28 6,oT 29 2 7,zS 1 t2 iC,zS 2 t3 lE] [⟨1,z2,0⟩,⟨2,zD,0⟩,⟨3,z2,0⟩] [(0,1),(1,2)] [2,3,6,7,27,28,29]) .skip))))
def yHP:TFn:=⟨1,[.cell 2 false 1,.cell 3 true 2,.tmp 4],(zQ (oQ [O 1 (.boxH false 1 t0),O 2 (.aH false 1 .nils),O 3 (.aH false 2 (gz 2)),O 4 (.mv (I 0))] [0]) (zQ (zQ (oQ [oF 8 1 1,O 9 (.call (.f Bb) [t8]),M 5 9] [8,9]) (zQ (oQ [M 10 5,O 11 (.bin .neq dN (I 0))] [10]) (zC dI (zQ (oQ [O 12 (.build [(ic (0)),(ic (0))] []),M 13 5,zS 1 t2 (.c .nils),zS 2 t3 dQ,M 4 13] [1,5,11,12,13]) .ret) .skip))) (zQ (zQ (oQ [oF 14 1 1,O 15 (.len eE),O 16 (.call (.f OT) [fG])] [5,11,14,15]) (zB 0 (.rangeF eO Io 2 mq [17] FO FQ))) (zQ (.ops [oF 30 1 2,oT 31 2 3,zS 1 t2 lX,zS 2 t3 kS,O 4 (.mv (I 0))] [] [(0,1),(1,2)] [1,16,30,31]) .ret))))⟩
def Qu:TFn:=⟨1,[.cell 2 true 2],(zQ (oQ [O 2 (.allocL (gz 2))] []) (zQ (oQ [M 3 0,O 4 (.build [(ic (0)),(ic (0))] [(0,1,t3),(1,1,(I 1))]),zS 2 t2 t4] [0,3,4]) .ret))⟩
def Qv:TFn:=⟨1,[.cell 2 true 2],(zQ (oQ [O 2 (.allocL (gz 2))] []) (zQ (oQ [M 3 0,O 4 (.call (.f Ip) [t3]),zS 2 t2 t4] [0,3,4]) .ret))⟩
def LO:TC:=(zQ (zQ (oQ [M 11 5,M 12 0,O 13 (.len dQ),oX 14 .lss 11 13] [11,12,13]) (zC eE .skip (.exit 0))) (zQ (zB 1 (zQ (.ops [M 17 0,M 18 5,O 19 (.iad 2 gM gU),oT 20 2 19,M 21 1,M 22 5,O 23 (.iad 2 iW gV),oT 24 2 23,O 25 (.eqA true 2 [(0,(some .i64)),(1,(some .i64))] iM iN)] [⟨2,z2,0⟩,⟨3,z2,0⟩,⟨6,z2,0⟩,⟨7,z2,0⟩] [(0,1),(0,4),(1,4),(2,4),(3,4),(0,5),(1,5),(2,5),(3,5),(4,5),(0,6),(1,6),(2,6),(3,6),(0,7),(1,7),(2,7),(3,7)] [14,17,18,19,20,21,22,23,24]) (zC jP (zQ (oQ [O 4 (.mv (.c (.bool false)))] [0,1,5,25]) .ret) .skip))) (oQ [M 15 5,O 16 (.bin .add fG (I 1)),M 5 16] [15,16,25])))
def Qw:TFn:=⟨2,[.tmp 4],(zQ (oQ [O 4 (.mv (.c (.bool false)))] [4]) (zQ (zQ (oQ [M 6 0,O 7 (.len t6),M 8 1,O 9 (.len t8),oX 10 .neq 7 9] (zR 6 4)) (zC dN (zQ (oQ [O 4 (.mv (.c (.bool false)))] [0,1,10]) .ret) .skip)) (zQ (zQ (oQ [O 5 (.mv (I 0))] [10]) (zB 0 (.loop 13861700 LO))) (zQ (oQ [O 4 (.mv (.c (.bool true)))] [0,1,5,14]) .ret))))⟩
def LQ:TC:=(zQ (zQ (oQ [M 11 5,M 12 0,O 13 (.len dQ),oX 14 .lss 11 13] [11,12,13]) (zC eE .skip (.exit 0))) (zQ (zB 1 (zQ (.ops [M 17 0,M 18 5,O 19 (.iad 1 gM gU),oF 20 1 19,M 21 1,M 22 5,O 23 (.iad 1 iW gV),oF 24 1 23,oX 25 .neq 20 24] [⟨2,zI,0⟩,⟨3,zI,0⟩,⟨6,zI,0⟩,⟨7,zI,0⟩] [(0,1),(0,4),(1,4),(2,4),(3,4),(0,5),(1,5),(2,5),(3,5),(4,5),(0,6),(1,6),(2,6),(3,6),(0,7),(1,7),(2,7),(3,7)] [14,17,18,19,20,21,22,23,24]) (zC jP (zQ (oQ [O 4 (.mv (.c (.bool false)))] [0,1,5,25]) .ret) .skip))) (oQ [M 15 5,O 16 (.bin .add fG (I 1)),M 5 16] [15,16,25])))
def Qy:TFn:=⟨2,[.tmp 4],(zQ (oQ [O 4 (.mv (.c (.bool false)))] [4]) (zQ (zQ (oQ [M 6 0,O 7 (.len t6),M 8 1,O 9 (.len t8),oX 10 .neq 7 9] (zR 6 4)) (zC dN (zQ (oQ [O 4 (.mv (.c (.bool false)))] [0,1,10]) .ret) .skip)) (zQ (zQ (oQ [O 5 (.mv (I 0))] [10]) (zB 0 (.loop 14397100 LQ))) (zQ (oQ [O 4 (.mv (.c (.bool true)))] [0,1,5,14]) .ret))))⟩
def Qz:TFn:=⟨0,[.tmp 0],(zQ (oQ [O 0 (.mv (.c (.bool false)))] [0]) (zQ (oQ [O 16 (.call (.f vY) []),O 17 (.bD 1 (ic (0)) 2 [(0,(I 0)),(1,(I 1))]),O 18 (.call (.f wA) [eO,gM]),M 15 18,O 19 (.ext fG 0),O 20 (.ext fG 1),O 1 (.allocL (gz 2)),zS 2 t1 gN,M 2 20] (zR 15 6)) (zQ (.ops [O 22 (.call (.f vY) []),O 23 (.bD 1 (ic (0)) 2 [(0,(I 0)),(1,(I 1))]),oT 24 2 1,O 25 (.call (.f Cy) [gV,jG,iN]),M 21 25,O 26 (.ext iW 0),O 27 (.ext iW 1),M 3 26,M 4 27] [] [(0,1),(0,2),(1,2),(5,6),(6,7)] (zR 21 7)) (zQ (oQ [O 29 (.call (.f vY) []),O 30 (.bD 1 (ic (0)) 2 [(0,(I 1)),(1,(I 0))]),O 31 (.call (.f wA) [lE,lX]),M 28 31,O 32 (.ext iC 0),O 33 (.ext iC 1),O 5 (.allocL (gz 2)),zS 2 t5 lH,M 6 33] (zR 28 6)) (zQ (.ops [O 35 (.call (.f vY) []),O 36 (.bD 1 (ic (0)) 2 [(0,(I 1)),(1,(I 0))]),oT 37 2 5,O 38 (.call (.f Cy) [kK,nU,oR]),M 34 38,O 39 (.ext kT 0),O 40 (.ext kT 1),M 7 39,M 8 40] [] [(0,1),(0,2),(1,2),(5,6),(6,7)] (zR 34 7)) (zQ (oQ [O 42 (.call (.f vY) []),O 43 (.call (.f pV) [lF]),M 41 43,O 44 (.ext mP 0),O 45 (.ext mP 1),O 46 (.ext mP 2),O 10 (.allocL (gz 2)),M 9 44,zS 2 dN qU,M 11 46] (zR 41 6)) (zQ (oQ [O 48 (.call (.f vY) []),O 49 (.bD 1 (ic (0)) 2 [(0,(I 0)),(1,(I 1))]),O 50 (.build [(ic (0)),(ic (0))] [(0,1,(I 1)),(1,1,(I 2))]),O 51 (.call (.f Cy) [pY,sJ,CJ]),M 47 51,O 52 (.ext pX 0),O 53 (.ext pX 1),M 12 52,M 13 53] [12,47,48,49,50,51,52,53]) (zQ (oQ [O 54 (.build [(ic (0)),(ic (0))] [(0,1,(I 8)),(1,1,(I 5))]),O 55 (.call (.f Iq) [(I 4)]),O 56 (.bSl true 2 (gz 2) 2 [(0,yL),(1,oN)]),M 14 56] [54,55,56]) (zQ (oQ [M 57 2,O 58 (.bin .eql yJ (I 0)),M 59 58,zT 60 59 (.load true 2 t1),zT 61 59 (.build [(ic (0)),(ic (0))] [(0,1,(I 2)),(1,1,(I 5))]),zT 62 59 (.eqA false 2 [(0,(some .i64)),(1,(some .i64))] yN Be),O 63 (.pick yM CC (.c (.bool false))),M 64 63,zT 65 64 (.mv t4),zT 66 64 (.bin .eql CM (I 0)),O 67 (.pick Bl CN (.c (.bool false))),M 68 67,zT 69 68 (.mv t3),zT 70 68 (.mv eE),zT 71 68 (.call (.f Fq) [Bn,yO]),O 72 (.pick Bf Bm (.c (.bool false))),M 73 72,zT 74 73 (.mv t6),zT 75 73 (.bin .eql Bh (I 0)),O 76 (.pick CE wC (.c (.bool false))),M 77 76,zT 78 77 (.load true 2 t5),zT 79 77 (.build [(ic (0)),(ic (0))] [(0,1,(I 3)),(1,1,(I 5))]),zT 80 77 (.eqA false 2 [(0,(some .i64)),(1,(some .i64))] wE CL),O 81 (.pick yK Fx (.c (.bool false))),M 82 81,zT 83 82 (.mv t8),zT 84 82 (.bin .eql Iw (I 0)),O 85 (.pick Fy Fz (.c (.bool false))),M 86 85,zT 87 86 (.mv t7),zT 88 86 (.mv eE),zT 89 86 (.call (.f Fq) [FC,FG]),O 90 (.pick Bi FD (.c (.bool false))),M 91 90,zT 92 91 (.mv dI),zT 93 91 (.bin .eql Li (I 0)),O 94 (.pick FE CH (.c (.bool false))),M 95 94,zT 96 95 (.load true 2 dN),zT 97 95 (.load true 2 t5),zT 98 95 (.eqA false 2 [(0,(some .i64)),(1,(some .i64))] FH Iy),O 99 (.pick Ix FF (.c (.bool false))),M 100 99,zT 101 100 (.mv t9),zT 102 100 (.bD 1 (ic (0)) 2 [(0,(I 1)),(1,(I 0))]),zT 103 100 (.call (.f Ir) [qV,yU]),O 104 (.pick Dd qW (.c (.bool false))),M 105 104,zT 106 105 (.mv eL),zT 107 105 (.bin .eql CS (I 6)),O 108 (.pick yW oU (.c (.bool false))),M 0 108] [1,2,3,4,5,6,7,8,9,10,11,13,14,57,58,59,60,61,62,63,64,65,66,67,68,69,70,71,72,73,74,75,76,77,78,79,80,81,82,83,84,85,86,87,88,89,90,91,92,93,94,95,96,97,98,99,100,101,102,103,104,105,106,107,108]) .ret)))))))))⟩
def QC:TFn:=⟨1,[.tmp 2],(zQ (oQ [O 2 (.mv (.c (.int .u64 (0))))] [2]) (zQ (zQ (oQ [M 3 0,O 4 (.bin .lss t3 (I 0))] [3]) (zC t4 (zQ (oQ [M 5 0,O 6 (.bin .add t5 (I 1)),O 7 (.un .neg t6),O 8 (.conv .u64 t7),O 9 (.bin .add t8 (.c (.int .u64 (1)))),M 2 9] [0,4,5,6,7,8,9]) .ret) .skip)) (zQ (oQ [M 10 0,O 11 (.conv .u64 dN),M 2 11] [0,4,10,11]) .ret)))⟩
def LR:TC:=(zQ (zQ (oQ [M 5 1,O 6 (.bin .neq t5 (.c (.int .u64 (0))))] [5]) (zC t6 .skip (.exit 0))) (zB 1 (.ops [M 7 1,M 8 0,M 9 1,oX 10 .rem 8 9,M 0 7,M 1 10] [] [(0,1),(0,2),(1,2),(0,3),(2,4),(3,4)] (zR 6 5))))
def QD:TFn:=⟨2,[.tmp 4],(zQ (oQ [O 4 (.mv (.c (.int .u64 (0))))] [4]) (zQ (zB 0 (.loop 16774900 LR)) (zQ (oQ [M 11 0,M 4 11] [0,1,6,11]) .ret)))⟩
def QE:TFn:=⟨1,[.tmp 2],(zQ (oQ [O 1 (.boxL t0),O 2 (.mv (I 0))] [0,2]) (zQ (zQ (.ops [O 3 (.fad 1 t1),oF 4 1 3,O 5 (.bin .lss t4 (I 1)),M 6 5,zF 7 6 (.fad 1 t1),zF 8 6 (.load false 1 t7),zF 9 6 (.bin .gtr t8 (I 1000000000000000000)),O 10 (.pick t6 (.c (.bool true)) t9),M 11 10,zF 12 11 (.fad 0 t1),zF 13 11 (.load false 1 dQ),zF 14 11 (.bin .lss eL (I (-1000000000000000000))),O 15 (.pick dI (.c (.bool true)) eE),M 16 15,zF 17 16 (.fad 0 t1),zF 18 16 (.load false 1 gM),zF 19 16 (.bin .gtr gU (I 1000000000000000000)),O 20 (.pick eO (.c (.bool true)) gN),M 21 20,zF 22 21 (.fad 0 t1),zF 23 21 (.load false 1 gV),zF 24 21 (.call (.f Bc) [jG]),zF 25 21 (.fad 1 t1),zF 26 21 (.load false 1 jP),zF 27 21 (.conv .u64 kJ),zF 28 21 (.call (.f Is) [iN,oO]),zF 29 21 (.bin .neq iC (.c (.int .u64 (1)))),O 30 (.pick iW (.c (.bool true)) lE)] [⟨1,z2,0⟩,⟨5,z2,0⟩,⟨10,z2,0⟩,⟨15,z2,0⟩,⟨20,z2,0⟩,⟨23,z2,0⟩] [(19,22),(20,22),(21,22),(19,23),(20,23),(21,23),(19,24),(20,24),(21,24)] [1,3,4,5,6,7,8,9,10,11,12,13,14,15,16,17,18,19,20,21,22,23,24,25,26,27,28,29]) (zC lX (zQ (oQ [O 2 (.mv (I 8))] [30]) .ret) .skip)) (zQ (oQ [O 2 (.mv (I 0))] [30]) .ret)))⟩
def QF:TFn:=⟨2,[.tmp 4],(zQ (oQ [O 2 (.boxL t0),O 3 (.boxL t1),O 4 (.mv (I 0))] [0,1,4]) (zQ (zQ (oQ [oT 5 2 2,O 6 (.call (.f CB) [t5]),O 7 (.bin .neq t6 (I 0))] [5,6]) (zC t7 (zQ (oQ [oT 8 2 2,O 9 (.call (.f CB) [t8]),M 4 9] [2,3,7,8,9]) .ret) .skip)) (zQ (oQ [oT 10 2 3,O 11 (.call (.f CB) [dN]),M 4 11] [2,3,7,10,11]) .ret)))⟩
def QH:TFn:=⟨2,[.cell 4 true 2],(zQ (oQ [O 4 (.allocL (.agg [(.int .u64 (0)),(.int .u64 (0))]))] []) (zQ (oQ [M 12 0,O 13 (.bin .shr dQ (.c (.int .u64 (32)))),M 14 0,O 15 (.bin .and eE (.c (.int .u64 (4294967295)))),M 5 13,M 6 15] [0,12,13,14,15]) (zQ (oQ [M 16 1,O 17 (.bin .shr eO (.c (.int .u64 (32)))),M 18 1,O 19 (.bin .and gU (.c (.int .u64 (4294967295)))),M 7 17,M 8 19] [1,16,17,18,19]) (zQ (oQ [M 20 6,M 21 8,oX 22 .mul 20 21,M 23 5,M 24 8,oX 25 .mul 23 24,M 9 22,M 10 25] [8,20,21,22,23,24,25]) (zQ (oQ [M 26 10,O 27 (.bin .and kJ (.c (.int .u64 (4294967295)))),M 28 6,M 29 7,oX 30 .mul 28 29,oX 31 .add 27 30,M 32 9,O 33 (.bin .shr lH (.c (.int .u64 (32)))),oX 34 .add 31 33,M 11 34] [6,26,27,28,29,30,31,32,33,34]) (zQ (oQ [M 35 5,M 36 7,oX 37 .mul 35 36,M 38 10,O 39 (.bin .shr nA (.c (.int .u64 (32)))),oX 40 .add 37 39,M 41 11,O 42 (.bin .shr mP (.c (.int .u64 (32)))),oX 43 .add 40 42,M 44 11,O 45 (.bin .shl pW (.c (.int .u64 (32)))),M 46 9,O 47 (.bin .and nC (.c (.int .u64 (4294967295)))),oX 48 .or 45 47,O 49 (.build [(.int .u64 (0)),(.int .u64 (0))] [(0,1,sI),(1,1,pY)]),zS 2 t4 sJ] [5,7,9,10,11,35,36,37,38,39,40,41,42,43,44,45,46,47,48,49]) .ret))))))⟩
def QI:TFn:=⟨2,[.tmp 4],(zQ (oQ [O 2 (.boxL t0),O 3 (.boxL t1),O 4 (.mv (.c (.bool false)))] [0,1,4]) (zQ (.ops [O 5 (.fad 0 t2),oF 6 1 5,O 7 (.fad 0 t3),oF 8 1 7,oX 9 .lss 6 8,M 10 9,zF 11 10 (.fad 0 t2),zF 12 10 (.load false 1 dI),zF 13 10 (.fad 0 t3),zF 14 10 (.load false 1 eL),zF 15 10 (.bin .eql dQ eE),zF 16 10 (.mv fG),zT 17 16 (.fad 1 t2),zT 18 16 (.load false 1 gM),zT 19 16 (.fad 1 t3),zT 20 16 (.load false 1 gN),zT 21 16 (.bin .lss gU iM),zF 22 10 (.pick eO iW (.c (.bool false))),O 23 (.pick dN (.c (.bool true)) gV),M 4 23] [⟨1,(.agg [.i .u64,.i .u64]),0⟩,⟨3,(.agg [.i .u64,.i .u64]),0⟩,⟨7,(.agg [.i .u64,.i .u64]),0⟩,⟨9,(.agg [.i .u64,.i .u64]),0⟩,⟨13,(.agg [.i .u64,.i .u64]),0⟩,⟨15,(.agg [.i .u64,.i .u64]),0⟩] [] [2,3,5,6,7,8,9,10,11,12,13,14,15,16,17,18,19,20,21,22,23]) .ret))⟩
def QJ:TFn:=⟨2,[.tmp 4],(zQ (oQ [O 2 (.boxL t0),O 3 (.boxL t1),O 4 (.mv (.c (.bool false)))] [0,1,4]) (zQ (zQ (.ops [O 7 (.fad 0 t2),oF 8 1 7,O 9 (.bin .lss t8 (I 0)),O 10 (.fad 0 t3),oF 11 1 10,O 12 (.bin .lss dI (I 0)),O 13 (.eqB true t9 dQ)] [⟨1,z2,0⟩,⟨4,z2,0⟩] [] (zR 7 6)) (zC eL (zQ (.ops [O 14 (.fad 0 t2),oF 15 1 14,O 16 (.bin .lss fG (I 0)),M 4 16] [⟨1,z2,0⟩] [] [2,3,13,14,15,16]) .ret) .skip)) (zQ (.ops [O 17 (.fad 0 t2),oF 18 1 17,O 19 (.call (.f Bc) [gU]),O 20 (.fad 1 t3),oF 21 1 20,O 22 (.conv .u64 iW),O 23 (.call (.f Fs) [gN,gV]),O 24 (.fad 0 t3),oF 25 1 24,O 26 (.call (.f Bc) [jP]),O 27 (.fad 1 t2),oF 28 1 27,O 29 (.conv .u64 iC),O 30 (.call (.f Fs) [kJ,lE]),O 5 (.allocL (.agg [(.int .u64 (0)),(.int .u64 (0))])),O 6 (.allocL (.agg [(.int .u64 (0)),(.int .u64 (0))])),zS 2 t5 jG,zS 2 t6 lX] [⟨1,z2,0⟩,⟨4,z2,0⟩,⟨8,z2,0⟩,⟨11,z2,0⟩] [(0,3),(1,3),(2,3),(0,4),(1,4),(2,4),(0,5),(1,5),(2,5),(0,7),(1,7),(2,7),(3,7),(4,7),(5,7),(6,7),(0,8),(1,8),(2,8),(3,8),(4,8),(5,8),(6,8),(0,10),(1,10),(2,10),(3,10),(4,10),(5,10),(6,10),(7,10),(8,10),(9,10),(0,11),(1,11),(2,11),(3,11),(4,11),(5,11),(6,11),(7,11),(8,11),(9,11),(0,12),(1,12),(2,12),(3,12),(4,12),(5,12),(6,12),(7,12),(8,12),(9,12),(0,14),(1,14),(2,14),(3,14),(4,14),(5,14),(6,14),(7,14),(8,14),(9,14),(10,14),(11,14),(12,14),(13,14),(0,15),(1,15),(2,15),(3,15),(4,15),(5,15),(6,15),(7,15),(8,15),(9,15),(10,15),(11,15),(12,15),(13,15),(14,15)] [3,13,17,18,19,20,21,22,23,24,25,26,27,28,29,30]) (zQ (zQ (.ops [O 31 (.fad 0 t2),oF 32 1 31,O 33 (.bin .lss lH (I 0))] [⟨1,z2,0⟩] [] [2,31,32]) (zC oP (zQ (oQ [oT 34 2 6,oT 35 2 5,O 36 (.call (.f Fu) [kT,kK]),M 4 36] [5,6,33,34,35,36]) .ret) .skip)) (zQ (oQ [oT 37 2 5,oT 38 2 6,O 39 (.call (.f Fu) [oR,nA]),M 4 39] [5,6,33,37,38,39]) .ret)))))⟩
def LS:TC:=(zQ (zQ (oQ [M 13 4,O 14 (.bin .geq eL (I 0))] [13]) (zC eE .skip (.exit 0))) (zQ (zB 1 (.ops [O 17 (.fad 1 t3),oF 18 1 17,O 19 (.fad 0 t1),oF 20 1 19,O 21 (.fad 1 t1),oF 22 1 21,M 23 4,O 24 (.iad 1 gV jG),oF 25 1 24,oX 26 .sub 20 25,O 27 (.bD 1 (ic (0)) 1 [(0,kJ)]),O 28 (.app true 1 8 gU oO),O 29 (.fad 1 t3),zS 1 lE iC] [⟨1,zK,0⟩,⟨3,zK,0⟩,⟨5,zK,0⟩,⟨7,zI,0⟩,⟨8,zI,0⟩,⟨13,zK,0⟩] [(0,2),(1,2),(0,3),(1,3),(0,4),(1,4),(2,4),(3,4),(0,5),(1,5),(2,5),(3,5),(0,6),(1,6),(2,6),(3,6),(4,6),(5,6),(0,7),(1,7),(2,7),(3,7),(0,8),(1,8),(2,8),(3,8),(0,9),(1,9),(0,10),(1,10)] [14,17,18,19,20,21,22,23,24,25,26,27,28,29])) (oQ [M 15 4,O 16 (.bin .sub fG (I 1)),M 4 16] [15,16])))
def LT:TC:=(zQ (zQ (oQ [M 34 5,O 35 (.bin .geq kT (I 0))] [34]) (zC kK .skip (.exit 2))) (zQ (zB 3 (.ops [O 38 (.fad 2 t3),oF 39 1 38,O 40 (.fad 2 t1),oF 41 1 40,M 42 5,O 43 (.iad 1 mP lF),oF 44 1 43,O 45 (.bD 1 (ic (0)) 1 [(0,pW)]),O 46 (.app true 1 8 pZ qU),O 47 (.fad 2 t3),zS 1 pX nC] [⟨1,zK,0⟩,⟨3,zK,0⟩,⟨5,zI,0⟩,⟨6,zI,0⟩,⟨10,zK,0⟩] [(0,2),(1,2),(0,3),(1,3),(0,4),(1,4),(2,4),(3,4),(0,5),(1,5),(0,6),(1,6),(0,7),(1,7)] [35,38,39,40,41,42,43,44,45,46,47])) (oQ [M 36 5,O 37 (.bin .sub nU (I 1)),M 5 37] [36,37])))
def QK:TFn:=⟨1,[.cell 2 true 3],(zQ (oQ [O 1 (.boxL t0),O 2 (.allocL (.agg [(ic (0)),.nils,.nils]))] [0]) (zQ (.ops [O 6 (.fad 0 t1),oF 7 1 6,O 8 (.build [(ic (0)),.nils,.nils] [(0,1,t7)]),O 3 (.allocL (.agg [(ic (0)),.nils,.nils])),zS 3 t3 t8] [⟨1,zK,0⟩] [] [6,7,8]) (zQ (zQ (.ops [O 9 (.fad 1 t1),oF 10 1 9,O 11 (.len dN),O 12 (.bin .sub dI (I 1)),M 4 12] [⟨1,zK,0⟩] [] (zR 9 4)) (zB 0 (.loop 51314200 LS))) (zQ (zQ (.ops [O 30 (.fad 2 t1),oF 31 1 30,O 32 (.len kS),O 33 (.bin .sub lH (I 1)),M 5 33] [⟨1,zK,0⟩] [] [4,14,30,31,32,33]) (zB 2 (.loop 51314201 LT))) (zQ (oQ [oT 48 3 3,zS 3 t2 pY] [1,3,5,35,48]) .ret)))))⟩
def LU:TC:=(zQ (zQ (oQ [M 71 14,M 72 0,O 73 (.len Bg),oX 74 .lss 71 73] [71,72,73]) (zC Bh .skip (.exit 0))) (zQ (zB 1 (zQ (.ops [M 77 12,M 78 0,M 79 14,O 80 (.iad 3 wE CL),oT 81 3 80,O 82 (.call (.f Iu) [CG]),O 83 (.bD 3 (.agg [(ic (0)),(.data []),(.data [])]) 1 [(0,Fy)]),O 84 (.app true 3 56 yK Iw),M 12 84] [⟨3,zK,0⟩,⟨4,zK,0⟩] [] [74,77,78,79,80,81,82,83,84]) (.ops [M 85 13,M 86 1,M 87 1,O 88 (.len FC),O 89 (.bin .sub FG (I 1)),M 90 14,oX 91 .sub 89 90,O 92 (.iad 1 Bi FE),oF 93 1 92,O 94 (.bD 1 (ic (0)) 1 [(0,CH)]),O 95 (.app true 1 8 FA CI),M 13 95] [⟨7,zI,0⟩,⟨8,zI,0⟩] [] (zR 85 11)))) (oQ [M 75 14,O 76 (.bin .add wC (I 1)),M 14 76] [75,76])))
def QL:TFn:=⟨2,[.tmp 4],(zQ (oQ [O 4 (.mv (.c (.bool false)))] [4]) (zQ (zQ (oQ [M 17 0,M 18 1,O 19 (.call (.f Ic) [gM,gU]),O 20 (.un .not gN)] [17,18,19]) (zC iM (zQ (oQ [O 21 (.call (.f Fr) []),M 4 21] [0,1,20,21]) .ret) .skip)) (zQ (oQ [M 23 0,M 24 1,O 25 (.call (.f wA) [jG,iN]),M 22 25,O 26 (.ext gV 0),O 27 (.ext gV 1),O 5 (.allocL (gz 2)),zS 2 t5 kJ,M 6 27] [20,22,23,24,25,26,27]) (zQ (oQ [M 29 0,O 30 (.call (.f pV) [lE]),M 28 30,O 31 (.ext iC 0),O 32 (.ext iC 1),O 33 (.ext iC 2),O 8 (.allocL (gz 2)),M 7 31,zS 2 t8 lH,M 9 33] (zR 28 6)) (zQ (zQ (oQ [M 34 6,O 35 (.bin .neq kT (I 0)),M 36 35,zF 37 36 (.mv t9),zF 38 36 (.bin .neq oR (I 0)),O 39 (.pick nU (.c (.bool true)) nA),M 40 39,zF 41 40 (.load true 2 t5),zF 42 40 (.load true 2 t8),zF 43 40 (.call (.f It) [mP,lF]),zF 44 40 (.bin .neq sI (I 0)),O 45 (.pick nB (.c (.bool true)) pW),M 46 45,zF 47 46 (.load true 2 t8),zF 48 46 (.load true 2 t5),zF 49 46 (.call (.f Fv) [pX,pY]),O 50 (.pick nC (.c (.bool true)) sJ),M 51 50,zF 52 51 (.load true 2 t8),zF 53 51 (.mv t0),zF 54 51 (.len Bj),zF 55 51 (.build [(ic (0)),(ic (0))] [(0,1,(I 1)),(1,1,yL)]),zF 56 51 (.call (.f Fv) [wG,oN]),O 57 (.pick wF (.c (.bool true)) FI)] [6,9,34,35,36,37,38,39,40,41,42,43,44,45,46,47,48,49,50,51,52,53,54,55,56]) (zC yJ (zQ (oQ [O 4 (.mv (.c (.bool false)))] [0,1,5,7,8,57]) .ret) .skip)) (zQ (oQ [M 59 0,M 60 7,O 61 (.call (.f wA) [yM,yN]),M 58 61,O 62 (.ext Fw 0),O 63 (.ext Fw 1),O 10 (.allocL (gz 2)),zS 2 dN CC,M 11 63] [7,57,58,59,60,61,62,63]) (zQ (zQ (oQ [M 64 11,O 65 (.bin .neq Bl (I 0)),M 66 65,zF 67 66 (.load true 2 dN),zF 68 66 (.load true 2 t8),zF 69 66 (.eqA true 2 [(0,(some .i64)),(1,(some .i64))] CD Bf),O 70 (.pick CN (.c (.bool true)) Bn)] [8,10,11,64,65,66,67,68,69]) (zC yO (zQ (oQ [O 4 (.mv (.c (.bool false)))] [0,1,5,70]) .ret) .skip)) (zQ (oQ [O 12 (.mv (.c .nils))] [70]) (zQ (oQ [O 13 (.mv (.c .nils))] []) (zQ (zQ (oQ [O 14 (.mv (I 0))] []) (zB 0 (.loop 54399100 LU))) (zQ (oQ [M 97 12,M 98 13,O 99 (.call (.f wA) [Iy,FF]),M 96 99,O 100 (.ext FH 0),O 101 (.ext FH 1),O 15 (.allocL (gz 2)),zS 2 fG Dd,M 16 101] [0,1,12,13,14,74,96,97,98,99,100,101]) (zQ (oQ [M 102 16,O 103 (.bin .eql yU (I 0)),M 104 103,zT 105 104 (.load true 2 fG),zT 106 104 (.load true 2 t5),zT 107 104 (.eqA false 2 [(0,(some .i64)),(1,(some .i64))] yW CS),O 108 (.pick yV oU (.c (.bool false))),M 109 108,zT 110 109 (.call (.f Fr) []),O 111 (.pick oS uA (.c (.bool false))),M 4 111] [5,15,16,102,103,104,105,106,107,108,109,110,111]) .ret))))))))))))⟩
def tab:List (Nat×AFn):=[(HV,OV.fn),(HW,OW.fn),(HX,OX.fn),(Fa,OY.fn),(HY,OZ.fn),(HZ,Pa.fn),(Fb,Pb.fn),(Ia,Pc.fn),(Ib,Pd.fn),(Ic,Pe.fn),(vY,Pg.fn),(Id,Ph.fn),(Fd,Pi.fn),(vZ,Pj.fn),(Fe,Pk.fn),(OO,Pl.fn),(KZ,Ly.fn),(Ie,Pm.fn),(AZ,Pn.fn),(Ba,Po.fn),(Bb,Pp.fn),(La,Zd.fn),(OP,Pq.fn),(YZ,Ze.fn),(Za,Zf.fn),(OQ,Zg.fn),(Ff,Pr.fn),(OR,Zh.fn),(Lb,Zi.fn),(Ld,Zj.fn),(Zb,Zk.fn),(Le,Zl.fn),(Zc,Zm.fn),(cT,Zn.fn),(qQ,IA.fn),(mO,Pt.fn),(oM,Pu.fn),(tV,Pv.fn),(qR,Pw.fn),(Ig,Px.fn),(qS,Py.fn),(qT,Pz.fn),(Ih,PA.fn),(Ct,PB.fn),(Ii,PC.fn),(Cu,PD.fn),(sG,PR.fn),(tW,PS.fn),(pU,PU.fn),(tX,PW.fn),(Fg,PX.fn),(Cv,PY.fn),(Fh,FJ.fn),(Fi,PZ.fn),(Ij,Qa.fn),(Fj,Qb.fn),(Fk,Qc.fn),(Ik,Qd.fn),(Cw,Qe.fn),(Cx,Qf.fn),(Fl,FK.fn),(Fm,FM.fn),(sH,IJ.fn),(wA,Qj.fn),(Il,Qk.fn),(tY,Ql.fn),(yI,Qm.fn),(Fo,Qn.fn),(Fp,LK.fn),(OS,Qo.fn),(Im,Qp.fn),(Cy,Qq.fn),(CA,Qs.fn),(Io,FN.fn),(OT,Qt.fn),(pV,yHP.fn),(Ip,Qu.fn),(Iq,Qv.fn),(Fq,Qw.fn),(Ir,Qy.fn),(Fr,Qz.fn),(Bc,QC.fn),(Is,QD.fn),(CB,QE.fn),(It,QF.fn),(Fs,QH.fn),(Fu,QI.fn),(Fv,QJ.fn),(Iu,QK.fn),(OU,QL.fn)]
def De:List Nat:=[HV,HW,HX,Fa,HY,HZ,Fb,Ia,Ib,Ic,vY,Id,Fd,vZ,Fe,Ie,AZ,Ba,Bb,OQ,Ff,OR,Lb,Ld,qQ,mO,oM,tV,qR,Ig,qS,qT,yG,yH,Ih,Ct,Ii,Cu,sG,tW,pU,tX,Fg,Cv,Fi,Ij,Fj,Fk,Ik,Cw,Cx,sH,wA,Il,tY,yI,Fo,Im,Cy,pV,Ip,Iq,Fq,Ir,Fr,Bc,Is,CB,It,Fs,Fu,Fv,Iu,OU,(Fg+3000000)]
def Df:pT:=[]
def IK:List (Nat×PV):=[]
def E (ef:Es):Env:=(yF yG yH tab De Df IK ef)
def mr:Env:=tP yG yH tab De Df IK
def FR:List Nat:=[]
abbrev EG (e:Es):Prop:=EffG E FR e
theorem iE:EG []:=⟨fun _ _ _ _ h=>(by cases h),fun _ _ _ _=>rfl⟩
theorem cH {e:Es} (he:EG e) {P:EP} {S:SE} {d n:Nat} {t:TFn} {s:Sg} {w:s.W} (hq:cE S d t s w) (hS:SEOk P S) (hR:bN P S.E (jO S d) t.body) (hl:LpOk P S.E S.lp [] t.body) (hE:S.E=E e:=by rfl) (hs:KT yG yH Df n=false:=by kernel_rfl) (hm:memN FR n=false:=by kernel_rfl) (hf:S.E.fns n=some t.fn:=by kernel_rfl) (hu:S.E.qui n=true:=by kernel_rfl) (hn:S.E.nl n=false:=by kernel_rfl):∀ as K,s.pw w as K→∃ r,K r∧iS P n as r:=lj hq hS hR hl (fun _=>by rw [hE];exact kR hs _) (by rw [hE];exact he.num _ hm) hf hu hn
abbrev Zo:Type:=Int→Int→Int→(Int→Int→Prop)→Prop
abbrev Zp:Type:=Int→Int→Int→(Int→Int→Prop)→Prop
theorem ms (e:Es) (_:EG e):bO (E e) yoh yG:=kz
theorem mu (e:Es) (_:EG e):bO (E e) yoj yH:=lc (by kernel_rfl)
set_option maxRecDepth 100000
abbrev iX:Type:=Int→(Int→Prop)→Prop
def QM (b:Int) (K:Int→Prop):Prop:=
 (aG (decide (b≥4294967296)) (aG (decide ((Int.fdiv b 4294967296)≥65536)) (aG (decide ((Int.fdiv (Int.fdiv b 4294967296) 65536)≥256)) (asr (decide (0≤(u8.wrap (Int.fdiv (Int.fdiv (Int.fdiv b 4294967296) 65536) 256)))) (asr (decide ((u8.wrap (Int.fdiv (Int.fdiv (Int.fdiv b 4294967296) 65536) 256))<256)) (K (i64.wrap (56+(i64.wrap (aS (getD tO ((u8.wrap (Int.fdiv (Int.fdiv (Int.fdiv b 4294967296) 65536) 256)).toNat) .nils)))))))) (asr (decide (0≤(u8.wrap (Int.fdiv (Int.fdiv b 4294967296) 65536)))) (asr (decide ((u8.wrap (Int.fdiv (Int.fdiv b 4294967296) 65536))<256)) (K (i64.wrap (48+(i64.wrap (aS (getD tO ((u8.wrap (Int.fdiv (Int.fdiv b 4294967296) 65536)).toNat) .nils))))))))) (aG (decide ((Int.fdiv b 4294967296)≥256)) (asr (decide (0≤(u8.wrap (Int.fdiv (Int.fdiv b 4294967296) 256)))) (asr (decide ((u8.wrap (Int.fdiv (Int.fdiv b 4294967296) 256))<256)) (K (i64.wrap (40+(i64.wrap (aS (getD tO ((u8.wrap (Int.fdiv (Int.fdiv b 4294967296) 256)).toNat) .nils)))))))) (asr (decide (0≤(u8.wrap (Int.fdiv b 4294967296)))) (asr (decide ((u8.wrap (Int.fdiv b 4294967296))<256)) (K (i64.wrap (32+(i64.wrap (aS (getD tO ((u8.wrap (Int.fdiv b 4294967296)).toNat) .nils)))))))))) (aG (decide (b≥65536)) (aG (decide ((Int.fdiv b 65536)≥256)) (asr (decide (0≤(u8.wrap (Int.fdiv (Int.fdiv b 65536) 256)))) (asr (decide ((u8.wrap (Int.fdiv (Int.fdiv b 65536) 256))<256)) (K (i64.wrap (24+(i64.wrap (aS (getD tO ((u8.wrap (Int.fdiv (Int.fdiv b 65536) 256)).toNat) .nils)))))))) (asr (decide (0≤(u8.wrap (Int.fdiv b 65536)))) (asr (decide ((u8.wrap (Int.fdiv b 65536))<256)) (K (i64.wrap (16+(i64.wrap (aS (getD tO ((u8.wrap (Int.fdiv b 65536)).toNat) .nils))))))))) (aG (decide (b≥256)) (asr (decide (0≤(u8.wrap (Int.fdiv b 256)))) (asr (decide ((u8.wrap (Int.fdiv b 256))<256)) (K (i64.wrap (8+(i64.wrap (aS (getD tO ((u8.wrap (Int.fdiv b 256)).toNat) .nils)))))))) (asr (decide (0≤(u8.wrap b))) (asr (decide ((u8.wrap b)<256)) (K (i64.wrap (0+(i64.wrap (aS (getD tO ((u8.wrap b).toNat) .nils)))))))))))
def LW:iX:=QM
def dR:jY:=vI u64
def QN:mN:=lC dR lN
def FS:Sg:=⟨QN,Int→Prop,fun K=>(fun r0=>K (ic r0))⟩
def mw (e:Es):SE:=sE (E e) [] eC
theorem my (e:Es):cE (mw e) 6 Pr FS QM:=fun _ _=>by kernel_rfl
theorem mz (e:Es) (he:EG e):bO (E e) (FS.pw LW) Ff:=cH he (my e) (bZ (aM.uni _) trivial trivial he.ok) bN.flat (bC (by kernel_rfl))
abbrev FT:Type:=Int→(Bool→Prop)→Prop
def eF:jY:=vI i64
def Dg:mN:=lC eF lN
def QO:Sg:=⟨Dg,Bool→Prop,fun K=>(fun r0=>K (.bool r0))⟩
def IL:mN:=lC eF Dg
def QP (b:Int) (K:Int→Prop):Prop:=
 (aG (decide (b<0)) (K (u64.wrap (0-(u64.wrap b)))) (K (u64.wrap b)))
def Dh:iX:=QP
def wH:Sg:=⟨Dg,Int→Prop,fun K=>(fun r0=>K (.int .u64 r0))⟩
def na (e:Es):SE:=sE (E e) [] eC
theorem nd (e:Es):cE (na e) 6 Pu wH QP:=fun _ _=>by kernel_rfl
theorem LX (e:Es) (he:EG e):bO (E e) (wH.pw Dh) oM:=cH he (nd e) (bZ (aM.uni _) trivial trivial he.ok) bN.flat (bC (by kernel_rfl))
abbrev fL:Type:=Int→Int→(Int→Prop)→Prop
def IM (x0:Int→Int→Bool→Prop):Nat→Int→Int→Prop
 | 0,_,_=>False
 | n+1,b,c=>
 (aG (decide (c>0)) (asr (!(decide (c=0))) (IM x0 n c (Int.tmod b c))) (x0 b c false))
def QQ (b c:Int) (K:Int→Prop):Prop:=
 (∃ n:Nat,IM (fun d _ _=>(K d)) n b c)
def uB:fL:=QQ
def yY:mN:=lC dR QN
def Bo:Sg:=⟨yY,Int→Prop,fun K=>(fun r0=>K (.int .u64 r0))⟩
def nf (Q:Qx):Int→Int→Bool→Prop:=(fun b c d=>Q (.exit 0) [(0,.v (.int .u64 b)),(1,.v (.int .u64 c)),(6,.v (.bool d))] [])
def Zq:Pat tT:=pS hN (fV 0 dR (fV 1 dR fN)) fN
def Zr (Q:Qx):List St:=[⟨Zq,IM (nf Q)⟩]
def Zs:LP:=jF [(32725300,Zr)]
def QR (e:Es):SE:=sE (E e) [] (Zs)
theorem Zt (e:Es) (he:EG e):SEOk (bW (E e)) (QR e):=bZ (aM.uni _) trivial trivial he.ok
theorem ng (e:Es):hO (QR e) 5 a LA false (Zr):=fun _=>⟨fun _=>by kernel_rfl,fun _ _=>by kernel_rfl,trivial⟩
theorem nh (e:Es) (he:EG e):hZ (bW (E e)) (Zs) [] 32725300 (.loop 32725300 LA):=fun _ _ _=>cJ.st (aM.uni _) (dV (Zt e he) 5) (cS.no _ _) (bC (by kernel_rfl)) (ng e _)
theorem ni (e:Es):cE (QR e) 6 Pv Bo QQ:=fun _ _=>by kernel_rfl
theorem QS (e:Es) (he:EG e):bO (E e) (Bo.pw uB) tV:=cH he (ni e) (Zt e he) bN.flat (gA (l:=[(32725300,.loop 32725300 LA)]) ⟨nh e he,trivial⟩ (by kernel_rfl))
def QT (a0:iX) (a1:fL) (b c:Int) (K:Int→Prop):Prop:=
 (aG (decide (c<1)) (K 8) (a0 b (fun d=>(aG (decide ((if (u64.wrap c)>d then (u64.wrap c) else d)>1000000000000000000)) (K 8) (a0 b (fun e=>(a1 e (u64.wrap c) (fun f=>(aG (decide (f>1)) (K 8) (K 0))))))))))
def nD:fL:=QT Dh uB
def uD:jY:=vA IL
def LY:mN:=lC uD lN
def wI:Sg:=⟨LY,Int→Prop,fun K=>(fun r0=>K (ic r0))⟩
def nj (e:Es) (a0:iX) (a1:fL):SE:=sE (E e) [(oM,wH.pw a0),(tV,Bo.pw a1)] eC
theorem nk (e:Es) (a0 a1):cE (nj e a0 a1) 6 Pw wI (QT a0 a1):=fun _ _=>by kernel_rfl
theorem FU (e:Es) (he:EG e):bO (E e) (wI.pw nD) qR:=cH he (nk e _ _) (bZ (aM.uni _) ⟨(LX e he),(QS e he),trivial⟩ trivial he.ok) bN.flat (bC (by kernel_rfl))
abbrev iY:Type:=Ls→(Int→Prop)→Prop
def FW (x0:Int→Prop) (x1:Int→Ls→Int→Int→Bool→Prop):Nat→Int→Ls→Int→Int→Prop
 | 0,_,_,_,_=>False
 | n+1,b,c,d,e=>
 (aG (decide (e<d)) (asr (decide (0≤e)) (asr (decide (e<(((length c):Nat):Int))) (asr (aJ zI (getD c (e.toNat) .nils)) (aG ((aS (getD c (e.toNat) .nils)) !=b) (x0 (aS (getD c (e.toNat) .nils))) (FW x0 x1 n b c d (i64.wrap (e+1))))))) (x1 b c d e false))
def QU (b:Ls) (K:Int→Prop):Prop:=
 (∃ n:Nat,FW K (fun c _ _ _ _=>(K c)) n 0 b (((length b):Nat):Int) 0)
def LZ:iY:=QU
def IN:mN:=lC vD lN
def lY:Sg:=⟨IN,Int→Prop,fun K=>(fun r0=>K (ic r0))⟩
def nm (Q:Qx):Int→Prop:=(fun b=>Q .ret [(2,.v (ic b))] [])
def nn (Q:Qx):Int→Ls→Int→Int→Bool→Prop:=(fun b c d e f=>Q (.exit 0) [(3,.v (ic b)),(6,.v (.data c)),(7,.v (ic d)),(8,.v (ic e)),(9,.v (.bool f))] [])
def Di:Pat aF:=fV 7 eF (fV 8 eF fN)
def IP:Pat tT:=pS hN (fV 3 eF (fV 6 vD Di)) fN
def Zu (Q:Qx):List St:=[⟨IP,FW (nm Q) (nn Q)⟩]
def Zv:LP:=jF [(38508400,Zu)]
def QV (e:Es):SE:=sE (E e) [] (Zv)
theorem Zw (e:Es) (he:EG e):SEOk (bW (E e)) (QV e):=bZ (aM.uni _) trivial trivial he.ok
theorem nq (e:Es):hO (QV e) 5 a LC false (Zu):=fun _=>⟨fun _=>by kernel_rfl,fun _ _=>by kernel_rfl,trivial⟩
theorem nr (e:Es) (he:EG e):hZ (bW (E e)) (Zv) [] 38508400 (.loop 38508400 LC):=fun _ _ _=>cJ.st (aM.uni _) (dV (Zw e he) 5) (cS.no _ _) (bC (by kernel_rfl)) (nq e _)
theorem ns (e:Es):cE (QV e) 6 Px lY QU:=fun _ _=>by kernel_rfl
theorem nu (e:Es) (he:EG e):bO (E e) (lY.pw LZ) Ig:=cH he (ns e) (Zw e he) bN.flat (gA (l:=[(38508400,.loop 38508400 LC)]) ⟨nr e he,trivial⟩ (by kernel_rfl))
abbrev mQ:Type:=J4 ((Int→Prop)→Prop)
def QW (a0:fL) (a1:iY) (b c d e:Int) (K:Int→Prop):Prop:=
 (a0 b c (fun f=>(a0 d e (fun g=>(a1 ([(ic f),(ic g)]:Ls) K)))))
def Bp:mQ:=QW nD LZ
def uE:mN:=lC uD LY
def wJ:Sg:=⟨uE,Int→Prop,fun K=>(fun r0=>K (ic r0))⟩
def nv (e:Es) (a0:fL) (a1:iY):SE:=sE (E e) [(qR,wI.pw a0),(Ig,lY.pw a1)] eC
theorem nw (e:Es) (a0 a1):cE (nv e a0 a1) 6 Py wJ (QW a0 a1):=fun _ _=>by kernel_rfl
theorem IQ (e:Es) (he:EG e):bO (E e) (wJ.pw Bp) qS:=cH he (nw e _ _) (bZ (aM.uni _) ⟨(FU e he),(nu e he),trivial⟩ trivial he.ok) bN.flat (bC (by kernel_rfl))
abbrev wK:Type:=Int→Int→(Int→Int→Prop)→Prop
def QX (b c:Int) (K:Int→Int→Prop):Prop:=
 (K (u64.wrap ((u64.wrap ((u64.wrap ((Int.fdiv b 4294967296)*(Int.fdiv c 4294967296)))+(Int.fdiv (u64.wrap ((u64.wrap ((Int.fdiv b 4294967296)*(u64.wrap (BitVec.ofInt u64.bits c&&&BitVec.ofInt u64.bits 4294967295).toNat)))+(Int.fdiv (u64.wrap ((u64.wrap (BitVec.ofInt u64.bits b&&&BitVec.ofInt u64.bits 4294967295).toNat)*(u64.wrap (BitVec.ofInt u64.bits c&&&BitVec.ofInt u64.bits 4294967295).toNat))) 4294967296))) 4294967296)))+(Int.fdiv (u64.wrap ((u64.wrap (BitVec.ofInt u64.bits (u64.wrap ((u64.wrap ((Int.fdiv b 4294967296)*(u64.wrap (BitVec.ofInt u64.bits c&&&BitVec.ofInt u64.bits 4294967295).toNat)))+(Int.fdiv (u64.wrap ((u64.wrap (BitVec.ofInt u64.bits b&&&BitVec.ofInt u64.bits 4294967295).toNat)*(u64.wrap (BitVec.ofInt u64.bits c&&&BitVec.ofInt u64.bits 4294967295).toNat))) 4294967296)))&&&BitVec.ofInt u64.bits 4294967295).toNat)+(u64.wrap ((u64.wrap (BitVec.ofInt u64.bits b&&&BitVec.ofInt u64.bits 4294967295).toNat)*(Int.fdiv c 4294967296))))) 4294967296))) (u64.wrap (b*c)))
def yZ:wK:=QX
def IR:Sg:=⟨yY,Int→Int→Prop,fun K=>(fun r0 r1=>K (.tup [(.int .u64 r0),(.int .u64 r1)]))⟩
def ny (e:Es):SE:=sE (E e) [] eC
theorem nz (e:Es):cE (ny e) 6 Pz IR QX:=fun _ _=>by kernel_rfl
theorem QY (e:Es) (he:EG e):bO (E e) (IR.pw yZ) qT:=cH he (nz e) (bZ (aM.uni _) trivial trivial he.ok) bN.flat (bC (by kernel_rfl))
def QZ (a0:iX) (b:Int) (K:Int→Prop):Prop:=
 (a0 b (fun c=>(K (i64.wrap (64-c)))))
def Bq:iX:=QZ LW
def oa (e:Es) (a0:iX):SE:=sE (E e) [(Ff,FS.pw a0)] eC
theorem od (e:Es) (a0):cE (oa e a0) 6 PA FS (QZ a0):=fun _ _=>by kernel_rfl
theorem oe (e:Es) (he:EG e):bO (E e) (FS.pw Bq) Ih:=cH he (od e _) (bZ (aM.uni _) ⟨(mz e he),trivial⟩ trivial he.ok) bN.flat (bC (by kernel_rfl))
abbrev IS:Type:=Int→Int→Int→(Int→Int→Prop)→Prop
mutual
def Ma (a0:iX) (x0:J4 (J4 (Int→Bool→Prop))) (x1:J4 (J4 (Int→Bool→Prop))):Nat→J4 (J4 (Int→Prop))
 | 0,_,_,_,_,_,_,_,_,_=>False
 | n+1,b,c,d,e,f,g,h,i,j=>
 (aG (decide (i≥4294967296)) (aG (decide ((u64.wrap (j+d))≥4294967296)) (x0 b c d e f g h (u64.wrap (i-1)) (u64.wrap (j+d)) true) (Br a0 x0 x1 n b c d e f g h (u64.wrap (i-1)) (u64.wrap (j+d)) false)) (aG (decide ((u64.wrap (i*e))>(u64.wrap ((u64.wrap (4294967296*j))+g)))) (aG (decide ((u64.wrap (j+d))≥4294967296)) (x0 b c d e f g h (u64.wrap (i-1)) (u64.wrap (j+d)) true) (Br a0 x0 x1 n b c d e f g h (u64.wrap (i-1)) (u64.wrap (j+d)) false)) (x1 b c d e f g h i j false)))
def Br (a0:iX) (x0:J4 (J4 (Int→Bool→Prop))) (x1:J4 (J4 (Int→Bool→Prop))):Nat→J4 (J4 (Int→Bool→Prop))
 | 0,_,_,_,_,_,_,_,_,_,_=>False
 | n+1,b,c,d,e,f,g,h,i,j,_=>
 (aG (decide (i≥4294967296)) (aG (decide ((u64.wrap (j+d))≥4294967296)) (x0 b c d e f g h (u64.wrap (i-1)) (u64.wrap (j+d)) true) (Br a0 x0 x1 n b c d e f g h (u64.wrap (i-1)) (u64.wrap (j+d)) false)) (aG (decide ((u64.wrap (i*e))>(u64.wrap ((u64.wrap (4294967296*j))+g)))) (aG (decide ((u64.wrap (j+d))≥4294967296)) (x0 b c d e f g h (u64.wrap (i-1)) (u64.wrap (j+d)) true) (Br a0 x0 x1 n b c d e f g h (u64.wrap (i-1)) (u64.wrap (j+d)) false)) (x1 b c d e f g h i j false)))
end
mutual
def FX (a0:iX) (x0:J4 (J4 (Int→Bool→Prop))) (x1:J4 (J4 (Int→Bool→Prop))):Nat→J4 (J4 (Int→Prop))
 | 0,_,_,_,_,_,_,_,_,_=>False
 | n+1,b,c,d,e,f,g,h,i,j=>
 (aG (decide (j≥4294967296)) (aG (decide ((u64.wrap (h+d))≥4294967296)) (x0 b c d e f g (u64.wrap (h+d)) i (u64.wrap (j-1)) true) (Bs a0 x0 x1 n b c d e f g (u64.wrap (h+d)) i (u64.wrap (j-1)) false)) (aG (decide ((u64.wrap (j*e))>(u64.wrap ((u64.wrap (4294967296*h))+f)))) (aG (decide ((u64.wrap (h+d))≥4294967296)) (x0 b c d e f g (u64.wrap (h+d)) i (u64.wrap (j-1)) true) (Bs a0 x0 x1 n b c d e f g (u64.wrap (h+d)) i (u64.wrap (j-1)) false)) (x1 b c d e f g h i j false)))
def Bs (a0:iX) (x0:J4 (J4 (Int→Bool→Prop))) (x1:J4 (J4 (Int→Bool→Prop))):Nat→J4 (J4 (Int→Bool→Prop))
 | 0,_,_,_,_,_,_,_,_,_,_=>False
 | n+1,b,c,d,e,f,g,h,i,j,_=>
 (aG (decide (j≥4294967296)) (aG (decide ((u64.wrap (h+d))≥4294967296)) (x0 b c d e f g (u64.wrap (h+d)) i (u64.wrap (j-1)) true) (Bs a0 x0 x1 n b c d e f g (u64.wrap (h+d)) i (u64.wrap (j-1)) false)) (aG (decide ((u64.wrap (j*e))>(u64.wrap ((u64.wrap (4294967296*h))+f)))) (aG (decide ((u64.wrap (h+d))≥4294967296)) (x0 b c d e f g (u64.wrap (h+d)) i (u64.wrap (j-1)) true) (Bs a0 x0 x1 n b c d e f g (u64.wrap (h+d)) i (u64.wrap (j-1)) false)) (x1 b c d e f g h i j false)))
end
def Ra (a0:iX) (b c d:Int) (K:Int→Int→Prop):Prop:=
 (aG (d==0) False (aG (decide (d≤b)) False (aG (b==0) (asr (!(decide (d=0))) (asr (!(decide (d=0))) (K (u64.wrap (Int.tdiv c d)) (Int.tmod c d)))) (a0 d (fun e=>(asr (!(decide ((u64.wrap e)<0))) (asr (!(decide ((u64.wrap e)<0))) (asr (!(decide ((u64.wrap (64-(u64.wrap e)))<0))) (asr (!(decide ((u64.wrap e)<0))) (asr (!(decide ((Int.fdiv (u64.wrap (d*2 ^ (min (u64.wrap e).toNat u64.bits))) 4294967296)=0))) (∃ m0:Nat,Ma a0 (fun f g h i j k l m _ _=>(asr (!(decide (h=0))) (∃ m1:Nat,FX a0 (fun q r _ _ u v _ z A _=>(asr (!(decide (r<0))) (K (u64.wrap ((u64.wrap (v*4294967296))+A)) (Int.fdiv (u64.wrap ((u64.wrap ((u64.wrap (z*4294967296))+u))-(u64.wrap (A*q)))) (2 ^ (min r.toNat u64.bits)))))) (fun q r _ _ u v _ z A _=>(asr (!(decide (r<0))) (K (u64.wrap ((u64.wrap (v*4294967296))+A)) (Int.fdiv (u64.wrap ((u64.wrap ((u64.wrap (z*4294967296))+u))-(u64.wrap (A*q)))) (2 ^ (min r.toNat u64.bits)))))) m1 f g h i l m (u64.wrap ((u64.wrap ((u64.wrap ((u64.wrap (j*4294967296))+k))-(u64.wrap (m*f))))-(u64.wrap ((u64.wrap (Int.tdiv (u64.wrap ((u64.wrap ((u64.wrap (j*4294967296))+k))-(u64.wrap (m*f)))) h))*h)))) (u64.wrap ((u64.wrap ((u64.wrap (j*4294967296))+k))-(u64.wrap (m*f)))) (u64.wrap (Int.tdiv (u64.wrap ((u64.wrap ((u64.wrap (j*4294967296))+k))-(u64.wrap (m*f)))) h))))) (fun f g h i j k l m _ _=>(asr (!(decide (h=0))) (∃ m1:Nat,FX a0 (fun q r _ _ u v _ z A _=>(asr (!(decide (r<0))) (K (u64.wrap ((u64.wrap (v*4294967296))+A)) (Int.fdiv (u64.wrap ((u64.wrap ((u64.wrap (z*4294967296))+u))-(u64.wrap (A*q)))) (2 ^ (min r.toNat u64.bits)))))) (fun q r _ _ u v _ z A _=>(asr (!(decide (r<0))) (K (u64.wrap ((u64.wrap (v*4294967296))+A)) (Int.fdiv (u64.wrap ((u64.wrap ((u64.wrap (z*4294967296))+u))-(u64.wrap (A*q)))) (2 ^ (min r.toNat u64.bits)))))) m1 f g h i l m (u64.wrap ((u64.wrap ((u64.wrap ((u64.wrap (j*4294967296))+k))-(u64.wrap (m*f))))-(u64.wrap ((u64.wrap (Int.tdiv (u64.wrap ((u64.wrap ((u64.wrap (j*4294967296))+k))-(u64.wrap (m*f)))) h))*h)))) (u64.wrap ((u64.wrap ((u64.wrap (j*4294967296))+k))-(u64.wrap (m*f)))) (u64.wrap (Int.tdiv (u64.wrap ((u64.wrap ((u64.wrap (j*4294967296))+k))-(u64.wrap (m*f)))) h))))) m0 (u64.wrap (d*2 ^ (min (u64.wrap e).toNat u64.bits))) (u64.wrap e) (Int.fdiv (u64.wrap (d*2 ^ (min (u64.wrap e).toNat u64.bits))) 4294967296) (u64.wrap (BitVec.ofInt u64.bits (u64.wrap (d*2 ^ (min (u64.wrap e).toNat u64.bits)))&&&BitVec.ofInt u64.bits 4294967295).toNat) (u64.wrap (BitVec.ofInt u64.bits (u64.wrap (b*2 ^ (min (u64.wrap e).toNat u64.bits)))|||BitVec.ofInt u64.bits (Int.fdiv c (2 ^ (min (u64.wrap (64-(u64.wrap e))).toNat u64.bits)))).toNat) (Int.fdiv (u64.wrap (c*2 ^ (min (u64.wrap e).toNat u64.bits))) 4294967296) (u64.wrap (BitVec.ofInt u64.bits (u64.wrap (c*2 ^ (min (u64.wrap e).toNat u64.bits)))&&&BitVec.ofInt u64.bits 4294967295).toNat) (u64.wrap (Int.tdiv (u64.wrap (BitVec.ofInt u64.bits (u64.wrap (b*2 ^ (min (u64.wrap e).toNat u64.bits)))|||BitVec.ofInt u64.bits (Int.fdiv c (2 ^ (min (u64.wrap (64-(u64.wrap e))).toNat u64.bits)))).toNat) (Int.fdiv (u64.wrap (d*2 ^ (min (u64.wrap e).toNat u64.bits))) 4294967296))) (u64.wrap ((u64.wrap (BitVec.ofInt u64.bits (u64.wrap (b*2 ^ (min (u64.wrap e).toNat u64.bits)))|||BitVec.ofInt u64.bits (Int.fdiv c (2 ^ (min (u64.wrap (64-(u64.wrap e))).toNat u64.bits)))).toNat)-(u64.wrap ((u64.wrap (Int.tdiv (u64.wrap (BitVec.ofInt u64.bits (u64.wrap (b*2 ^ (min (u64.wrap e).toNat u64.bits)))|||BitVec.ofInt u64.bits (Int.fdiv c (2 ^ (min (u64.wrap (64-(u64.wrap e))).toNat u64.bits)))).toNat) (Int.fdiv (u64.wrap (d*2 ^ (min (u64.wrap e).toNat u64.bits))) 4294967296)))*(Int.fdiv (u64.wrap (d*2 ^ (min (u64.wrap e).toNat u64.bits))) 4294967296))))))))))))))))
def Bt:IS:=Ra Bq
def Mb:Sg:=⟨(lC dR yY),Int→Int→Prop,fun K=>(fun r0 r1=>K (.tup [(.int .u64 r0),(.int .u64 r1)]))⟩
def Zx (Q:Qx):J4 (J4 (Int→Bool→Prop )):=(fun b c d e f g h i j k=>Q (.exit 0) [(2,.v (.int .u64 b)),(8,.v (.int .u64 c)),(9,.v (.int .u64 d)),(10,.v (.int .u64 e)),(11,.v (.int .u64 f)),(13,.v (.int .u64 g)),(14,.v (.int .u64 h)),(15,.v (.int .u64 i)),(16,.v (.int .u64 j)),(85,.v (.bool k))] [])
def Zy (Q:Qx):J4 (J4 (Int→Bool→Prop )):=(fun b c d e f g h i j k=>Q (.exit 0) [(2,.v (.int .u64 b)),(8,.v (.int .u64 c)),(9,.v (.int .u64 d)),(10,.v (.int .u64 e)),(11,.v (.int .u64 f)),(13,.v (.int .u64 g)),(14,.v (.int .u64 h)),(15,.v (.int .u64 i)),(16,.v (.int .u64 j)),(78,.v (.bool k))] [])
def Zz (Q:Qx):J4 (J4 (Int→Bool→Prop )):=(fun b c d e f g h i j k=>Q (.exit 2) [(2,.v (.int .u64 b)),(8,.v (.int .u64 c)),(9,.v (.int .u64 d)),(10,.v (.int .u64 e)),(14,.v (.int .u64 f)),(15,.v (.int .u64 g)),(16,.v (.int .u64 h)),(17,.v (.int .u64 i)),(18,.v (.int .u64 j)),(120,.v (.bool k))] [])
def ZA (Q:Qx):J4 (J4 (Int→Bool→Prop )):=(fun b c d e f g h i j k=>Q (.exit 2) [(2,.v (.int .u64 b)),(8,.v (.int .u64 c)),(9,.v (.int .u64 d)),(10,.v (.int .u64 e)),(14,.v (.int .u64 f)),(15,.v (.int .u64 g)),(16,.v (.int .u64 h)),(17,.v (.int .u64 i)),(18,.v (.int .u64 j)),(113,.v (.bool k))] [])
def ZB (a0:iX) (Q:Qx):List St:=[⟨(pS hN (fV 2 dR (fV 8 dR (fV 9 dR (fV 10 dR (fV 11 dR (fV 13 dR (fV 14 dR (fV 15 dR (fV 16 dR fN))))))))) fN),Ma a0 (Zx Q) (Zy Q)⟩,⟨(pS hN (fV 2 dR (fV 8 dR (fV 9 dR (fV 10 dR (fV 11 dR (fV 13 dR (fV 14 dR (fV 15 dR (fV 16 dR (fV 85 vB fN)))))))))) fN),Br a0 (Zx Q) (Zy Q)⟩]
def ZC (a0:iX) (Q:Qx):List St:=[⟨(pS hN (fV 2 dR (fV 8 dR (fV 9 dR (fV 10 dR (fV 14 dR (fV 15 dR (fV 16 dR (fV 17 dR (fV 18 dR fN))))))))) fN),FX a0 (Zz Q) (ZA Q)⟩,⟨(pS hN (fV 2 dR (fV 8 dR (fV 9 dR (fV 10 dR (fV 14 dR (fV 15 dR (fV 16 dR (fV 17 dR (fV 18 dR (fV 120 vB fN)))))))))) fN),Bs a0 (Zz Q) (ZA Q)⟩]
def Rb (a0:iX):LP:=jF [(60530100,ZB a0),(60530101,ZC a0)]
def Mc (e:Es) (a0:iX):SE:=sE (E e) [(Ih,FS.pw a0)] (Rb a0)
theorem Rc (e:Es) (he:EG e):SEOk (bW (E e)) (Mc e Bq):=bZ (aM.uni _) ⟨(oe e he),trivial⟩ trivial he.ok
theorem og (e:Es) (a0):hO (Mc e a0) 5 a LD false (ZB a0):=fun _=>⟨fun _=>by kernel_rfl,fun _ _=>by kernel_rfl,fun _=>by kernel_rfl,fun _ _=>by kernel_rfl,trivial⟩
theorem oi (e:Es) (he:EG e):hZ (bW (E e)) (Rb Bq) [] 60530100 (.loop 60530100 LD):=fun _ _ _=>cJ.st (aM.uni _) (dV (Rc e he) 5) (cS.no _ _) (bC (by kernel_rfl)) (og e _ _)
theorem oj (e:Es) (a0):hO (Mc e a0) 5 a LE false (ZC a0):=fun _=>⟨fun _=>by kernel_rfl,fun _ _=>by kernel_rfl,fun _=>by kernel_rfl,fun _ _=>by kernel_rfl,trivial⟩
theorem oq (e:Es) (he:EG e):hZ (bW (E e)) (Rb Bq) [] 60530101 (.loop 60530101 LE):=fun _ _ _=>cJ.st (aM.uni _) (dV (Rc e he) 5) (cS.no _ _) (bC (by kernel_rfl)) (oj e _ _)
theorem ot (e:Es) (a0):cE (Mc e a0) 6 PB Mb (Ra a0):=fun _ _=>by kernel_rfl
theorem ZD (e:Es) (he:EG e):bO (E e) (Mb.pw Bt) Ct:=cH he (ot e _) (Rc e he) bN.flat (gA (l:=[(60530100,.loop 60530100 LD),(60530101,.loop 60530101 LE)]) ⟨oi e he,oq e he,trivial⟩ (by kernel_rfl))
abbrev Rd:Type:=Int→Int→Int→(Int→Prop)→Prop
def Re (a0:IS) (b c d:Int) (K:Int→Prop):Prop:=
 (asr (!(decide (d=0))) (a0 (Int.tmod b d) c d (fun _ f=>(K f))))
def Dj:Rd:=Re Bt
def Rf:Sg:=⟨(lC dR yY),Int→Prop,fun K=>(fun r0=>K (.int .u64 r0))⟩
def ou (e:Es) (a0:IS):SE:=sE (E e) [(Ct,Mb.pw a0)] eC
theorem ov (e:Es) (a0):cE (ou e a0) 6 PC Rf (Re a0):=fun _ _=>by kernel_rfl
theorem ow (e:Es) (he:EG e):bO (E e) (Rf.pw Dj) Ii:=cH he (ov e _) (bZ (aM.uni _) ⟨(ZD e he),trivial⟩ trivial he.ok) bN.flat (bC (by kernel_rfl))
abbrev IT:Type:=Bool→Int→Int→(Int→Int→Int→Prop)→Prop
def Rg (b:Bool) (c d:Int) (K:Int→Int→Int→Prop):Prop:=
 (aG (decide ((if d>c then d else c)>1000000000000000000)) (K 0 0 16) (aG b (K (i64.wrap (0-(i64.wrap c))) (i64.wrap d) 0) (K (i64.wrap c) (i64.wrap d) 0)))
def Bu:IT:=Rg
def Md:Sg:=⟨(lC vB yY),Int→Int→Int→Prop,fun K=>(fun r0 r1 r2=>K (.tup [(.agg [(ic r0),(ic r1)]),(ic r2)]))⟩
def oz (e:Es):SE:=sE (E e) [] eC
theorem pd (e:Es):cE (oz e) 6 PD Md Rg:=fun _ _=>by kernel_rfl
theorem ZE (e:Es) (he:EG e):bO (E e) (Md.pw Bu) Cu:=cH he (pd e) (bZ (aM.uni _) trivial trivial he.ok) bN.flat (bC (by kernel_rfl))
abbrev jZ:Type:=J4 ((Int→Int→Int→Prop)→Prop)
def Rh (a0:mQ) (a1:fL) (a2:iX) (a3:wK) (a4:Zo) (a5:Rd) (a6:IS) (a7:IT) (a8:Zp) (b c d e:Int) (K:Int→Int→Int→Prop):Prop:=
 (a0 b c d e (fun f=>(aG (f !=0) (K 0 0 f) (a1 (u64.wrap c) (u64.wrap e) (fun g=>(a2 b (fun h=>(asr (!(decide (g=0))) (a3 h (u64.wrap (Int.tdiv (u64.wrap e) g)) (fun i j=>(a2 d (fun k=>(asr (!(decide (g=0))) (a3 k (u64.wrap (Int.tdiv (u64.wrap c) g)) (fun l m=>(aG ((decide (b<0)) ==(decide (d<0))) (a4 j m 0 (fun o p=>(a4 i l p (fun q _=>(aG (q==0) (aG (o==0) (K 0 1 0) (a5 q o g (fun s=>(a1 s g (fun t=>(aG (decide (q≥t)) (K 0 0 16) (a6 q o t (fun u _=>(asr (!(decide (g=0))) (asr (!(decide (t=0))) (a3 (u64.wrap (Int.tdiv (u64.wrap c) g)) (u64.wrap (Int.tdiv (u64.wrap e) t)) (fun w z=>(aG (decide (w>0)) (K 0 0 16) (a7 (decide (b<0)) u z K)))))))))))))) (a5 q o g (fun s=>(a1 s g (fun t=>(aG (decide (q≥t)) (K 0 0 16) (a6 q o t (fun u _=>(asr (!(decide (g=0))) (asr (!(decide (t=0))) (a3 (u64.wrap (Int.tdiv (u64.wrap c) g)) (u64.wrap (Int.tdiv (u64.wrap e) t)) (fun w z=>(aG (decide (w>0)) (K 0 0 16) (a7 (decide (b<0)) u z K)))))))))))))))))) (aG (decide (i<l)) (a8 m j 0 (fun o p=>(a8 l i p (fun q _=>(aG (q==0) (aG (o==0) (K 0 1 0) (a5 q o g (fun s=>(a1 s g (fun t=>(aG (decide (q≥t)) (K 0 0 16) (a6 q o t (fun u _=>(asr (!(decide (g=0))) (asr (!(decide (t=0))) (a3 (u64.wrap (Int.tdiv (u64.wrap c) g)) (u64.wrap (Int.tdiv (u64.wrap e) t)) (fun w z=>(aG (decide (w>0)) (K 0 0 16) (a7 (!(decide (b<0))) u z K)))))))))))))) (a5 q o g (fun s=>(a1 s g (fun t=>(aG (decide (q≥t)) (K 0 0 16) (a6 q o t (fun u _=>(asr (!(decide (g=0))) (asr (!(decide (t=0))) (a3 (u64.wrap (Int.tdiv (u64.wrap c) g)) (u64.wrap (Int.tdiv (u64.wrap e) t)) (fun w z=>(aG (decide (w>0)) (K 0 0 16) (a7 (!(decide (b<0))) u z K)))))))))))))))))) (aG (i==l) (aG (decide (j<m)) (a8 m j 0 (fun o p=>(a8 l i p (fun q _=>(aG (q==0) (aG (o==0) (K 0 1 0) (a5 q o g (fun s=>(a1 s g (fun t=>(aG (decide (q≥t)) (K 0 0 16) (a6 q o t (fun u _=>(asr (!(decide (g=0))) (asr (!(decide (t=0))) (a3 (u64.wrap (Int.tdiv (u64.wrap c) g)) (u64.wrap (Int.tdiv (u64.wrap e) t)) (fun w z=>(aG (decide (w>0)) (K 0 0 16) (a7 (!(decide (b<0))) u z K)))))))))))))) (a5 q o g (fun s=>(a1 s g (fun t=>(aG (decide (q≥t)) (K 0 0 16) (a6 q o t (fun u _=>(asr (!(decide (g=0))) (asr (!(decide (t=0))) (a3 (u64.wrap (Int.tdiv (u64.wrap c) g)) (u64.wrap (Int.tdiv (u64.wrap e) t)) (fun w z=>(aG (decide (w>0)) (K 0 0 16) (a7 (!(decide (b<0))) u z K)))))))))))))))))) (a8 j m 0 (fun o p=>(a8 i l p (fun q _=>(aG (q==0) (aG (o==0) (K 0 1 0) (a5 q o g (fun s=>(a1 s g (fun t=>(aG (decide (q≥t)) (K 0 0 16) (a6 q o t (fun u _=>(asr (!(decide (g=0))) (asr (!(decide (t=0))) (a3 (u64.wrap (Int.tdiv (u64.wrap c) g)) (u64.wrap (Int.tdiv (u64.wrap e) t)) (fun w z=>(aG (decide (w>0)) (K 0 0 16) (a7 (decide (b<0)) u z K)))))))))))))) (a5 q o g (fun s=>(a1 s g (fun t=>(aG (decide (q≥t)) (K 0 0 16) (a6 q o t (fun u _=>(asr (!(decide (g=0))) (asr (!(decide (t=0))) (a3 (u64.wrap (Int.tdiv (u64.wrap c) g)) (u64.wrap (Int.tdiv (u64.wrap e) t)) (fun w z=>(aG (decide (w>0)) (K 0 0 16) (a7 (decide (b<0)) u z K))))))))))))))))))) (a8 j m 0 (fun o p=>(a8 i l p (fun q _=>(aG (q==0) (aG (o==0) (K 0 1 0) (a5 q o g (fun s=>(a1 s g (fun t=>(aG (decide (q≥t)) (K 0 0 16) (a6 q o t (fun u _=>(asr (!(decide (g=0))) (asr (!(decide (t=0))) (a3 (u64.wrap (Int.tdiv (u64.wrap c) g)) (u64.wrap (Int.tdiv (u64.wrap e) t)) (fun w z=>(aG (decide (w>0)) (K 0 0 16) (a7 (decide (b<0)) u z K)))))))))))))) (a5 q o g (fun s=>(a1 s g (fun t=>(aG (decide (q≥t)) (K 0 0 16) (a6 q o t (fun u _=>(asr (!(decide (g=0))) (asr (!(decide (t=0))) (a3 (u64.wrap (Int.tdiv (u64.wrap c) g)) (u64.wrap (Int.tdiv (u64.wrap e) t)) (fun w z=>(aG (decide (w>0)) (K 0 0 16) (a7 (decide (b<0)) u z K))))))))))))))))))))))))))))))))))))
def qY:jZ:=Rh Bp uB Dh yZ ET Dj Bt Bu EU
def jQ:Sg:=⟨uE,Int→Int→Int→Prop,fun K=>(fun r0 r1 r2=>K (.tup [(.agg [(ic r0),(ic r1)]),(ic r2)]))⟩
def pe (e:Es) (a0:mQ) (a1:fL) (a2:iX) (a3:wK) (a4:Zo) (a5:Rd) (a6:IS) (a7:IT) (a8:Zp):SE:=sE (E e) [(qS,wJ.pw a0),(tV,Bo.pw a1),(oM,wH.pw a2),(qT,IR.pw a3),(yG,OH a4),(Ii,Rf.pw a5),(Ct,Mb.pw a6),(Cu,Md.pw a7),(yH,OI a8)] eC
theorem pf (e:Es) (a0 a1 a2 a3 a4 a5 a6 a7 a8):cE (pe e a0 a1 a2 a3 a4 a5 a6 a7 a8) 6 PR jQ (Rh a0 a1 a2 a3 a4 a5 a6 a7 a8):=fun _ _=>by kernel_rfl
theorem IU (e:Es) (he:EG e):bO (E e) (jQ.pw qY) sG:=cH he (pf e _ _ _ _ _ _ _ _ _) (bZ (aM.uni _) ⟨(IQ e he),(QS e he),(LX e he),(QY e he),(ms e he),(ow e he),(ZD e he),(ZE e he),(mu e he),trivial⟩ trivial he.ok) bN.flat (bC (by kernel_rfl))
def Ri (a0:mQ) (a1:jZ) (b c d e:Int) (K:Int→Int→Int→Prop):Prop:=
 (a0 b c d e (fun f=>(aG (f !=0) (K 0 0 f) (a1 b c (i64.wrap (0-d)) e K))))
def qZ:jZ:=Ri Bp qY
def pg (e:Es) (a0:mQ) (a1:jZ):SE:=sE (E e) [(qS,wJ.pw a0),(sG,jQ.pw a1)] eC
theorem ph (e:Es) (a0 a1):cE (pg e a0 a1) 6 PS jQ (Ri a0 a1):=fun _ _=>by kernel_rfl
theorem IV (e:Es) (he:EG e):bO (E e) (jQ.pw qZ) tW:=cH he (ph e _ _) (bZ (aM.uni _) ⟨(IQ e he),(IU e he),trivial⟩ trivial he.ok) bN.flat (bC (by kernel_rfl))
def Rj (a0:mQ) (a1:iX) (a2:fL) (a3:wK) (a4:IT) (b c d e:Int) (K:Int→Int→Int→Prop):Prop:=
 (a0 b c d e (fun f=>(aG (f !=0) (K 0 0 f) (a1 b (fun g=>(a1 d (fun h=>(a2 g (u64.wrap e) (fun i=>(a2 h (u64.wrap c) (fun j=>(asr (!(decide (i=0))) (asr (!(decide (j=0))) (a3 (u64.wrap (Int.tdiv g i)) (u64.wrap (Int.tdiv h j)) (fun k l=>(asr (!(decide (j=0))) (asr (!(decide (i=0))) (a3 (u64.wrap (Int.tdiv (u64.wrap c) j)) (u64.wrap (Int.tdiv (u64.wrap e) i)) (fun m o=>(aG (decide ((u64.wrap (k+m))>0)) (K 0 0 16) (aG (decide (l>0)) (a4 ((decide (b<0)) !=(decide (d<0))) l o K) (a4 false l o K))))))))))))))))))))))
def nE:jZ:=Rj Bp Dh uB yZ Bu
def pi (e:Es) (a0:mQ) (a1:iX) (a2:fL) (a3:wK) (a4:IT):SE:=sE (E e) [(qS,wJ.pw a0),(oM,wH.pw a1),(tV,Bo.pw a2),(qT,IR.pw a3),(Cu,Md.pw a4)] eC
theorem pj (e:Es) (a0 a1 a2 a3 a4):cE (pi e a0 a1 a2 a3 a4) 6 PU jQ (Rj a0 a1 a2 a3 a4):=fun _ _=>by kernel_rfl
theorem FY (e:Es) (he:EG e):bO (E e) (jQ.pw nE) pU:=cH he (pj e _ _ _ _ _) (bZ (aM.uni _) ⟨(IQ e he),(LX e he),(QS e he),(QY e he),(ZE e he),trivial⟩ trivial he.ok) bN.flat (bC (by kernel_rfl))
def Rk (a0:mQ) (a1:jZ) (b c d e:Int) (K:Int→Int→Int→Prop):Prop:=
 (a0 b c d e (fun f=>(aG (f !=0) (K 0 0 f) (aG (d==0) (K 0 0 18) (aG (decide (d<0)) (a1 b c (i64.wrap (0-e)) (i64.wrap (0-d)) K) (a1 b c e d K))))))
def rB:jZ:=Rk Bp nE
def pk (e:Es) (a0:mQ) (a1:jZ):SE:=sE (E e) [(qS,wJ.pw a0),(pU,jQ.pw a1)] eC
theorem pl (e:Es) (a0 a1):cE (pk e a0 a1) 6 PW jQ (Rk a0 a1):=fun _ _=>by kernel_rfl
theorem IW (e:Es) (he:EG e):bO (E e) (jQ.pw rB) tX:=cH he (pl e _ _) (bZ (aM.uni _) ⟨(IQ e he),(FY e he),trivial⟩ trivial he.ok) bN.flat (bC (by kernel_rfl))
def Rl (b:Int) (K:Bool→Prop):Prop:=
 (K (b !=b))
def Rm:FT:=Rl
def pm (e:Es):SE:=sE (E e) [] eC
theorem pn (e:Es):cE (pm e) 6 PZ QO Rl:=fun _ _=>by kernel_rfl
theorem po (e:Es) (he:EG e):bO (E e) (QO.pw Rm) Fi:=cH he (pn e) (bZ (aM.uni _) trivial trivial he.ok) bN.flat (bC (by kernel_rfl))
def Ro (a0:FT) (b c:Int) (K:Int→Prop):Prop:=
 (a0 b (fun d=>(a0 c (fun e=>(aG d (aG e (K 0) (K (-1))) (aG e (K 1) (aG (decide (b<c)) (K (-1)) (aG (decide (b>c)) (K 1) (K 0)))))))))
def Me:fL:=Ro Rm
def Rp:Sg:=⟨IL,Int→Prop,fun K=>(fun r0=>K (ic r0))⟩
def pq (e:Es) (a0:FT):SE:=sE (E e) [(Fi,QO.pw a0)] eC
theorem py (e:Es) (a0):cE (pq e a0) 6 Qa Rp (Ro a0):=fun _ _=>by kernel_rfl
theorem pz (e:Es) (he:EG e):bO (E e) (Rp.pw Me) Ij:=cH he (py e _) (bZ (aM.uni _) ⟨(po e he),trivial⟩ trivial he.ok) bN.flat (bC (by kernel_rfl))
def Rq (b:Int) (K:Bool→Prop):Prop:=
 (K (b !=b))
def Rr:FT:=Rq
def Rs:Sg:=⟨QN,Bool→Prop,fun K=>(fun r0=>K (.bool r0))⟩
def qa (e:Es):SE:=sE (E e) [] eC
theorem qb (e:Es):cE (qa e) 6 Qb Rs Rq:=fun _ _=>by kernel_rfl
theorem qc (e:Es) (he:EG e):bO (E e) (Rs.pw Rr) Fj:=cH he (qb e) (bZ (aM.uni _) trivial trivial he.ok) bN.flat (bC (by kernel_rfl))
def Rt (a0:FT) (b c:Int) (K:Int→Prop):Prop:=
 (a0 b (fun d=>(a0 c (fun e=>(aG d (aG e (K 0) (K (-1))) (aG e (K 1) (aG (decide (b<c)) (K (-1)) (aG (decide (b>c)) (K 1) (K 0)))))))))
def Mf:fL:=Rt Rr
def Ru:Sg:=⟨yY,Int→Prop,fun K=>(fun r0=>K (ic r0))⟩
def qd (e:Es) (a0:FT):SE:=sE (E e) [(Fj,Rs.pw a0)] eC
theorem qe (e:Es) (a0):cE (qd e a0) 6 Qc Ru (Rt a0):=fun _ _=>by kernel_rfl
theorem qf (e:Es) (he:EG e):bO (E e) (Ru.pw Mf) Fk:=cH he (qe e _) (bZ (aM.uni _) ⟨(qc e he),trivial⟩ trivial he.ok) bN.flat (bC (by kernel_rfl))
def FZ (x0:Int→Prop) (x1:Int→Ls→Int→Int→Bool→Prop):Nat→Int→Ls→Int→Int→Prop
 | 0,_,_,_,_=>False
 | n+1,b,c,d,e=>
 (aG (decide (e<d)) (asr (decide (0≤e)) (asr (decide (e<(((length c):Nat):Int))) (asr (aJ zI (getD c (e.toNat) .nils)) (aG ((aS (getD c (e.toNat) .nils)) !=b) (x0 (aS (getD c (e.toNat) .nils))) (FZ x0 x1 n b c d (i64.wrap (e+1))))))) (x1 b c d e false))
def Rv (b:Ls) (K:Int→Prop):Prop:=
 (∃ n:Nat,FZ K (fun c _ _ _ _=>(K c)) n 0 b (((length b):Nat):Int) 0)
def Mg:iY:=Rv
def qg (Q:Qx):Int→Prop:=(fun b=>Q .ret [(2,.v (ic b))] [])
def qh (Q:Qx):Int→Ls→Int→Int→Bool→Prop:=(fun b c d e f=>Q (.exit 0) [(3,.v (ic b)),(6,.v (.data c)),(7,.v (ic d)),(8,.v (ic e)),(9,.v (.bool f))] [])
def ZF (Q:Qx):List St:=[⟨IP,FZ (qg Q) (qh Q)⟩]
def ZG:LP:=jF [(53260600,ZF)]
def Rw (e:Es):SE:=sE (E e) [] (ZG)
theorem ZH (e:Es) (he:EG e):SEOk (bW (E e)) (Rw e):=bZ (aM.uni _) trivial trivial he.ok
theorem qi (e:Es):hO (Rw e) 5 a LG false (ZF):=fun _=>⟨fun _=>by kernel_rfl,fun _ _=>by kernel_rfl,trivial⟩
theorem qj (e:Es) (he:EG e):hZ (bW (E e)) (ZG) [] 53260600 (.loop 53260600 LG):=fun _ _ _=>cJ.st (aM.uni _) (dV (ZH e he) 5) (cS.no _ _) (bC (by kernel_rfl)) (qi e _)
theorem qk (e:Es):cE (Rw e) 6 Qd lY Rv:=fun _ _=>by kernel_rfl
theorem ql (e:Es) (he:EG e):bO (E e) (lY.pw Mg) Ik:=cH he (qk e) (ZH e he) bN.flat (gA (l:=[(53260600,.loop 53260600 LG)]) ⟨qj e he,trivial⟩ (by kernel_rfl))
abbrev IX:Type:=J4 ((Int→Int→Prop)→Prop)
def Rx (a0:mQ) (a1:fL) (a2:iX) (a3:wK) (a4:fL) (a5:iY) (b c d e:Int) (K:Int→Int→Prop):Prop:=
 (a0 b c d e (fun f=>(aG (f !=0) (K 0 f) (aG ((decide (b<0)) !=(decide (d<0))) (a1 b d (fun g=>(K g 0))) (a2 b (fun g=>(a3 g (u64.wrap e) (fun h i=>(a2 d (fun j=>(a3 j (u64.wrap c) (fun k l=>(a4 h k (fun m=>(a4 i l (fun o=>(a5 ([(ic m),(ic o)]:Ls) (fun p=>(aG (decide (b<0)) (K (i64.wrap (0-p)) 0) (K p 0))))))))))))))))))))
def Bv:IX:=Rx Bp Me Dh yZ Mf Mg
def Mh:Sg:=⟨uE,Int→Int→Prop,fun K=>(fun r0 r1=>K (.tup [(ic r0),(ic r1)]))⟩
def qm (e:Es) (a0:mQ) (a1:fL) (a2:iX) (a3:wK) (a4:fL) (a5:iY):SE:=sE (E e) [(qS,wJ.pw a0),(Ij,Rp.pw a1),(oM,wH.pw a2),(qT,IR.pw a3),(Fk,Ru.pw a4),(Ik,lY.pw a5)] eC
theorem qn (e:Es) (a0 a1 a2 a3 a4 a5):cE (qm e a0 a1 a2 a3 a4 a5) 6 Qe Mh (Rx a0 a1 a2 a3 a4 a5):=fun _ _=>by kernel_rfl
theorem Ry (e:Es) (he:EG e):bO (E e) (Mh.pw Bv) Cw:=cH he (qn e _ _ _ _ _ _) (bZ (aM.uni _) ⟨(IQ e he),(pz e he),(LX e he),(QY e he),(qf e he),(ql e he),trivial⟩ trivial he.ok) bN.flat (bC (by kernel_rfl))
set_option linter.unusedVariables false
theorem qo (p0 p1 r0:Int) (h:∀ K:Int→Prop,K r0→nD p0 p1 K) (K:Int→Prop):nD p0 p1 K=K r0:=
 Aac ⟨fun k=>cW (FU [] iE) (as:=[(.agg [(ic p0),(ic p1)])]) (x:=(ic r0)) (fun K' k'=>h (fun r0=>K' (ic r0)) k') (K:=fun x=>match x with | (ic r0)=>K r0 | _=>False) k,h K⟩
theorem qp (p0 p1 p2 p3 r0 r1 r2:Int) (h:∀ K:Int→Int→Int→Prop,K r0 r1 r2→qY p0 p1 p2 p3 K) (K:Int→Int→Int→Prop):qY p0 p1 p2 p3 K=K r0 r1 r2:=
 Aac ⟨fun k=>cW (IU [] iE) (as:=[(.agg [(ic p0),(ic p1)]),(.agg [(ic p2),(ic p3)])]) (x:=(.tup [(.agg [(ic r0),(ic r1)]),(ic r2)])) (fun K' k'=>h (fun r0 r1 r2=>K' (.tup [(.agg [(ic r0),(ic r1)]),(ic r2)])) k') (K:=fun x=>match x with | (.tup [(.agg [(ic r0),(ic r1)]),(ic r2)])=>K r0 r1 r2 | _=>False) k,h K⟩
theorem qq (p0 p1 p2 p3 r0 r1 r2:Int) (h:∀ K:Int→Int→Int→Prop,K r0 r1 r2→qZ p0 p1 p2 p3 K) (K:Int→Int→Int→Prop):qZ p0 p1 p2 p3 K=K r0 r1 r2:=
 Aac ⟨fun k=>cW (IV [] iE) (as:=[(.agg [(ic p0),(ic p1)]),(.agg [(ic p2),(ic p3)])]) (x:=(.tup [(.agg [(ic r0),(ic r1)]),(ic r2)])) (fun K' k'=>h (fun r0 r1 r2=>K' (.tup [(.agg [(ic r0),(ic r1)]),(ic r2)])) k') (K:=fun x=>match x with | (.tup [(.agg [(ic r0),(ic r1)]),(ic r2)])=>K r0 r1 r2 | _=>False) k,h K⟩
theorem qr (p0 p1 p2 p3 r0 r1 r2:Int) (h:∀ K:Int→Int→Int→Prop,K r0 r1 r2→nE p0 p1 p2 p3 K) (K:Int→Int→Int→Prop):nE p0 p1 p2 p3 K=K r0 r1 r2:=
 Aac ⟨fun k=>cW (FY [] iE) (as:=[(.agg [(ic p0),(ic p1)]),(.agg [(ic p2),(ic p3)])]) (x:=(.tup [(.agg [(ic r0),(ic r1)]),(ic r2)])) (fun K' k'=>h (fun r0 r1 r2=>K' (.tup [(.agg [(ic r0),(ic r1)]),(ic r2)])) k') (K:=fun x=>match x with | (.tup [(.agg [(ic r0),(ic r1)]),(ic r2)])=>K r0 r1 r2 | _=>False) k,h K⟩
theorem qu (p0 p1 p2 p3 r0 r1 r2:Int) (h:∀ K:Int→Int→Int→Prop,K r0 r1 r2→rB p0 p1 p2 p3 K) (K:Int→Int→Int→Prop):rB p0 p1 p2 p3 K=K r0 r1 r2:=
 Aac ⟨fun k=>cW (IW [] iE) (as:=[(.agg [(ic p0),(ic p1)]),(.agg [(ic p2),(ic p3)])]) (x:=(.tup [(.agg [(ic r0),(ic r1)]),(ic r2)])) (fun K' k'=>h (fun r0 r1 r2=>K' (.tup [(.agg [(ic r0),(ic r1)]),(ic r2)])) k') (K:=fun x=>match x with | (.tup [(.agg [(ic r0),(ic r1)]),(ic r2)])=>K r0 r1 r2 | _=>False) k,h K⟩
theorem qv (p0 p1 p2 p3 r0 r1:Int) (h:∀ K:Int→Int→Prop,K r0 r1→Bv p0 p1 p2 p3 K) (K:Int→Int→Prop):Bv p0 p1 p2 p3 K=K r0 r1:=
 Aac ⟨fun k=>cW (Ry [] iE) (as:=[(.agg [(ic p0),(ic p1)]),(.agg [(ic p2),(ic p3)])]) (x:=(.tup [(ic r0),(ic r1)])) (fun K' k'=>h (fun r0 r1=>K' (.tup [(ic r0),(ic r1)])) k') (K:=fun x=>match x with | (.tup [(ic r0),(ic r1)])=>K r0 r1 | _=>False) k,h K⟩
def Ga (x0:Ls→Int→Int→Bool→Prop):Nat→Ls→Int→Int→Prop
 | 0,_,_,_=>False
 | n+1,b,c,d=>
 (aG (decide (d<(((length b):Nat):Int))) (asr (decide (0≤d)) (asr (decide (d<(((length b):Nat):Int))) (asr (aJ zI (getD b (d.toNat) .nils)) (Ga x0 n b (if (aS (getD b (d.toNat) .nils))<c then (aS (getD b (d.toNat) .nils)) else c) (i64.wrap (d+1)))))) (x0 b c d false))
def Rz (b:Ls) (K:Int→Prop):Prop:=
 (aG (decide ((((length b):Nat):Int)<1)) False (asr (decide (0<(((length b):Nat):Int))) (asr (aJ zI (getD b 0 .nils)) (∃ n:Nat,Ga (fun c d e f=>(K d)) n b (aS (getD b 0 .nils)) 1))))
def Gb:iY:=Rz
def qw (Q:Qx):Ls→Int→Int→Bool→Prop:=(fun b c d e=>Q (.exit 0) [(0,.v (.data b)),(3,.v (ic c)),(4,.v (ic d)),(15,.v (.bool e))] [])
def rD:Pat aF:=fV 4 eF fN
def IY:Pat tT:=pS hN (fV 0 vD (fV 3 eF rD)) fN
def ZI (Q:Qx):List St:=[⟨IY,Ga (qw Q)⟩]
def ZJ:LP:=jF [(10434000,ZI)]
def RA (e:Es):SE:=sE (E e) [] (ZJ)
theorem ZK (e:Es) (he:EG e):SEOk (bW (E e)) (RA e):=bZ (aM.uni _) trivial trivial he.ok
theorem qx (e:Es):hO (RA e) 5 a Lq false (ZI):=fun _=>⟨fun _=>by kernel_rfl,fun _ _=>by kernel_rfl,trivial⟩
theorem qy (e:Es) (he:EG e):hZ (bW (E e)) (ZJ) [] 10434000 (.loop 10434000 Lq):=fun _ _ _=>cJ.st (aM.uni _) (dV (ZK e he) 5) (cS.no _ _) (bC (by kernel_rfl)) (qx e _)
theorem qz (e:Es):cE (RA e) 6 Ph lY Rz:=fun _ _=>by kernel_rfl
theorem ra (e:Es) (he:EG e):bO (E e) (lY.pw Gb) Id:=cH he (qz e) (ZK e he) bN.flat (gA (l:=[(10434000,.loop 10434000 Lq)]) ⟨qy e he,trivial⟩ (by kernel_rfl))
def Gc (x0:Ls→Int→Int→Bool→Prop):Nat→Ls→Int→Int→Prop
 | 0,_,_,_=>False
 | n+1,b,c,d=>
 (aG (decide (d<(((length b):Nat):Int))) (asr (decide (0≤d)) (asr (decide (d<(((length b):Nat):Int))) (asr (aJ zI (getD b (d.toNat) .nils)) (Gc x0 n b (if (aS (getD b (d.toNat) .nils))>c then (aS (getD b (d.toNat) .nils)) else c) (i64.wrap (d+1)))))) (x0 b c d false))
def RB (b:Ls) (K:Int→Prop):Prop:=
 (aG (decide ((((length b):Nat):Int)<1)) False (asr (decide (0<(((length b):Nat):Int))) (asr (aJ zI (getD b 0 .nils)) (∃ n:Nat,Gc (fun c d e f=>(K d)) n b (aS (getD b 0 .nils)) 1))))
def Gd:iY:=RB
def re (Q:Qx):Ls→Int→Int→Bool→Prop:=(fun b c d e=>Q (.exit 0) [(0,.v (.data b)),(3,.v (ic c)),(4,.v (ic d)),(15,.v (.bool e))] [])
def ZL (Q:Qx):List St:=[⟨IY,Gc (re Q)⟩]
def ZM:LP:=jF [(64079100,ZL)]
def RD (e:Es):SE:=sE (E e) [] (ZM)
theorem ZN (e:Es) (he:EG e):SEOk (bW (E e)) (RD e):=bZ (aM.uni _) trivial trivial he.ok
theorem rf (e:Es):hO (RD e) 5 a Lt false (ZL):=fun _=>⟨fun _=>by kernel_rfl,fun _ _=>by kernel_rfl,trivial⟩
theorem rg (e:Es) (he:EG e):hZ (bW (E e)) (ZM) [] 64079100 (.loop 64079100 Lt):=fun _ _ _=>cJ.st (aM.uni _) (dV (ZN e he) 5) (cS.no _ _) (bC (by kernel_rfl)) (rf e _)
theorem rh (e:Es):cE (RD e) 6 Pi lY RB:=fun _ _=>by kernel_rfl
theorem ri (e:Es) (he:EG e):bO (E e) (lY.pw Gd) Fd:=cH he (rh e) (ZN e he) bN.flat (gA (l:=[(64079100,.loop 64079100 Lt)]) ⟨rg e he,trivial⟩ (by kernel_rfl))
abbrev iZ:Type:=Int→Ls→Ls→(Int→Prop)→Prop
def Ge (a0 a1:iY) (x0:Int→Prop) (x1:Int→Ls→Ls→Int→Int→Bool→Prop):Nat→Int→Ls→Ls→Int→Int→Prop
 | 0,_,_,_,_,_=>False
 | n+1,b,c,d,e,f=>
 (aG (decide (f<e)) (asr (decide (0≤f)) (asr (decide (f<(((length c):Nat):Int))) (asr (aJ zI (getD c (f.toNat) .nils)) (asr (decide (0≤(i64.wrap (f+1)))) (asr (decide ((i64.wrap (f+1))<(((length c):Nat):Int))) (asr (aJ zI (getD c ((i64.wrap (f+1)).toNat) .nils)) (aG (decide ((aS (getD c (f.toNat) .nils))≥(aS (getD c ((i64.wrap (f+1)).toNat) .nils)))) (x0 8) (Ge a0 a1 x0 x1 n b c d e (i64.wrap (f+1)))))))))) (x1 b c d e f false))
def RE (a0 a1:iY) (b:Int) (c d:Ls) (K:Int→Prop):Prop:=
 (aG (decide (b>1000)) (K 4) (aG (decide ((((length c):Nat):Int)>40)) (K 4) (aG (decide (b<1)) (K 8) (aG (decide ((((length c):Nat):Int)<2)) (K 8) (aG ((((length d):Nat):Int) !=(i64.wrap ((((length c):Nat):Int)-1))) (K 8) (asr (decide (0<(((length c):Nat):Int))) (asr (aJ zI (getD c 0 .nils)) (aG ((aS (getD c 0 .nils)) !=0) (K 8) (asr (decide (0≤(i64.wrap ((((length c):Nat):Int)-1)))) (asr (decide ((i64.wrap ((((length c):Nat):Int)-1))<(((length c):Nat):Int))) (asr (aJ zI (getD c ((i64.wrap ((((length c):Nat):Int)-1)).toNat) .nils)) (aG ((aS (getD c ((i64.wrap ((((length c):Nat):Int)-1)).toNat) .nils)) !=b) (K 8) (∃ n:Nat,Ge a0 a1 K (fun e f g h i j=>(a0 g (fun k=>(aG (decide (k<0)) (K 8) (a1 g (fun l=>(aG (decide (l>12)) (K 8) (a1 g (fun m=>(aG (m==0) (K 8) (K 0))))))))))) n b c d (i64.wrap ((((length c):Nat):Int)-1)) 0)))))))))))))
def lI:iZ:=RE Gb Gd
def lJ:mN:=lC vD IN
def iF:jY:=vA (lC eF lJ)
def zA:mN:=lC iF lN
def zG:Sg:=⟨zA,Int→Prop,fun K=>(fun r0=>K (ic r0))⟩
def rj (Q:Qx):Int→Prop:=(fun b=>Q .ret [(2,.v (ic b))] [])
def rl (Q:Qx):Int→Ls→Ls→Int→Int→Bool→Prop:=(fun b c d e f g=>Q (.exit 0) [(1,.box (.agg [(ic b),(.data c),(.data d)])),(49,.v (ic e)),(50,.v (ic f)),(51,.v (.bool g))] [])
def ZO (a0 a1:iY) (Q:Qx):List St:=[⟨(pS hN (fX 1 iF (fV 49 eF (fV 50 eF fN))) fN),Ge a0 a1 (rj Q) (rl Q)⟩]
def ZP (a0 a1:iY):LP:=jF [(87419700,ZO a0 a1)]
def RF (e:Es) (a0 a1:iY):SE:=sE (E e) [(Id,lY.pw a0),(Fd,lY.pw a1)] (ZP a0 a1)
theorem ZQ (e:Es) (he:EG e):SEOk (bW (E e)) (RF e Gb Gd):=bZ (aM.uni _) ⟨(ra e he),(ri e he),trivial⟩ trivial he.ok
theorem rm (e:Es) (a0 a1):hO (RF e a0 a1) 5 a Lu false (ZO a0 a1):=fun _=>⟨fun _=>by kernel_rfl,fun _ _=>by kernel_rfl,trivial⟩
theorem rn (e:Es) (he:EG e):hZ (bW (E e)) (ZP Gb Gd) [] 87419700 (.loop 87419700 Lu):=fun _ _ _=>cJ.st (aM.uni _) (dV (ZQ e he) 5) (cS.no _ _) (bC (by kernel_rfl)) (rm e _ _ _)
theorem rp (e:Es) (a0 a1):cE (RF e a0 a1) 6 Pj zG (RE a0 a1):=fun _ _=>by kernel_rfl
theorem IZ (e:Es) (he:EG e):bO (E e) (zG.pw lI) vZ:=cH he (rp e _ _) (ZQ e he) bN.flat (gA (l:=[(87419700,.loop 87419700 Lu)]) ⟨rn e he,trivial⟩ (by kernel_rfl))
abbrev RG:Type:=Ls→Int→(Int→Prop)→Prop
def zH (x0:Ls→Int→Int→Int→Bool→Prop) (x1:Int→Prop):Nat→Ls→Int→Int→Int→Prop
 | 0,_,_,_,_=>False
 | n+1,b,c,d,e=>
 (aG (decide (e<d)) (asr (decide (0≤e)) (asr (decide (e<(((length b):Nat):Int))) (lt (getD b (e.toNat) .nils) (fun f=>(asr (aJ zI f) (aG (c ==(aS f)) (x1 e) (lt (i64.wrap (e+1)) (zH x0 x1 n b c d)))))))) (x0 b c d e false))
def Mi (b:Ls) (c:Int) (K:Int→Prop):Prop:=
 (∃ n:Nat,zH (fun d e f g h=>(K (-1))) K n b c (((length b):Nat):Int) 0)
def Mj:RG:=Mi
def RH:Sg:=⟨(lC vD Dg),Int→Prop,fun K=>(fun r0=>K (ic r0))⟩
def rq (Q:Qx):Ls→Int→Int→Int→Bool→Prop:=(fun b c d e f=>Q (.exit 0) [(0,.v (.data b)),(1,.v (ic c)),(7,.v (ic d)),(8,.v (ic e)),(9,.v (.bool f))] [])
def rr (Q:Qx):Int→Prop:=(fun b=>Q .ret [(4,.v (ic b))] [])
def ZR (Q:Qx):List St:=[⟨(pS hN (fV 0 vD (fV 1 eF Di)) fN),zH (rq Q) (rr Q)⟩]
def ZS:LP:=jF [(23412100,ZR)]
def RJ (e:Es):SE:=sE (E e) [] (ZS)
theorem ZT (e:Es) (he:EG e):SEOk (bW (E e)) (RJ e):=bZ (aM.uni _) trivial trivial he.ok
theorem ru (e:Es):hO (RJ e) 5 a Lz false (ZR):=fun _=>⟨fun _=>by kernel_rfl,fun _ _=>by kernel_rfl,trivial⟩
theorem rz (e:Es) (he:EG e):hZ (bW (E e)) (ZS) [] 23412100 (.loop 23412100 Lz):=fun _ _ _=>cJ.st (aM.uni _) (dV (ZT e he) 5) (cS.no _ _) (bC (by kernel_rfl)) (ru e _)
theorem sa (e:Es):cE (RJ e) 6 Pm RH Mi:=fun _ _=>by kernel_rfl
theorem se (e:Es) (he:EG e):bO (E e) (RH.pw Mj) Ie:=cH he (sa e) (ZT e he) bN.flat (gA (l:=[(23412100,.loop 23412100 Lz)]) ⟨rz e he,trivial⟩ (by kernel_rfl))
abbrev RK:Type:=Ls→Int→(Bool→Prop)→Prop
def Ml (a0:RG) (b:Ls) (c:Int) (K:Bool→Prop):Prop:=
 (a0 b c (fun d=>(K (decide (d≥0)))))
def Dk:RK:=Ml Mj
def Mm:Sg:=⟨(lC vD Dg),Bool→Prop,fun K=>(fun r0=>K (.bool r0))⟩
def sf (e:Es) (a0:RG):SE:=sE (E e) [(Ie,RH.pw a0)] eC
theorem sg (e:Es) (a0):cE (sf e a0) 6 Pn Mm (Ml a0):=fun _ _=>by kernel_rfl
theorem RL (e:Es) (he:EG e):bO (E e) (Mm.pw Dk) AZ:=cH he (sg e _) (bZ (aM.uni _) ⟨(se e he),trivial⟩ trivial he.ok) bN.flat (bC (by kernel_rfl))
abbrev Dl:Type:=Int→Ls→Ls→(Int→Int→Prop)→Prop
def Gf (a0:iZ) (x0:Int→Ls→Ls→Int→Ls→Int→Int→Bool→Prop):Nat→Int→Ls→Ls→Int→Ls→Int→Int→Prop
 | 0,_,_,_,_,_,_,_=>False
 | n+1,b,c,d,e,f,g,h=>
 (aG (decide (h<g)) (asr (decide (0≤h)) (asr (decide (h<(((length f):Nat):Int))) (asr (aJ zI (getD f (h.toNat) .nils)) (asr (decide (0≤(i64.wrap (h+1)))) (asr (decide ((i64.wrap (h+1))<(((length c):Nat):Int))) (asr (aJ zI (getD c ((i64.wrap (h+1)).toNat) .nils)) (asr (decide (0≤h)) (asr (decide (h<(((length c):Nat):Int))) (asr (aJ zI (getD c (h.toNat) .nils)) (Gf a0 x0 n b c d (i64.wrap (e+(i64.wrap ((aS (getD f (h.toNat) .nils))*(i64.wrap ((aS (getD c ((i64.wrap (h+1)).toNat) .nils))-(aS (getD c (h.toNat) .nils)))))))) f g (i64.wrap (h+1)))))))))))) (x0 b c d e f g h false))
def Mn (a0:iZ) (b:Int) (c d:Ls) (K:Int→Int→Prop):Prop:=
 (a0 b c d (fun e=>(aG (e !=0) (K 0 e) (∃ n:Nat,Gf a0 (fun f g h i j k l m=>(K i 0)) n b c d 0 d (((length d):Nat):Int) 0))))
def uF:Dl:=Mn lI
def RM:Sg:=⟨zA,Int→Int→Prop,fun K=>(fun r0 r1=>K (.tup [(ic r0),(ic r1)]))⟩
def si (Q:Qx):Int→Ls→Ls→Int→Ls→Int→Int→Bool→Prop:=(fun b c d e f g h i=>Q (.exit 0) [(1,.box (.agg [(ic b),(.data c),(.data d)])),(5,.v (ic e)),(14,.v (.data f)),(15,.v (ic g)),(16,.v (ic h)),(17,.v (.bool i))] [])
def Ja:Pat aF:=fV 14 vD (fV 15 eF (fV 16 eF fN))
def ZU (a0:iZ) (Q:Qx):List St:=[⟨(pS hN (fX 1 iF (fV 5 eF Ja)) fN),Gf a0 (si Q)⟩]
def ZV (a0:iZ):LP:=jF [(45203600,ZU a0)]
def RN (e:Es) (a0:iZ):SE:=sE (E e) [(vZ,zG.pw a0)] (ZV a0)
theorem ZW (e:Es) (he:EG e):SEOk (bW (E e)) (RN e lI):=bZ (aM.uni _) ⟨(IZ e he),trivial⟩ trivial he.ok
theorem sj (e:Es) (a0):hO (RN e a0) 5 a LJ false (ZU a0):=fun _=>⟨fun _=>by kernel_rfl,fun _ _=>by kernel_rfl,trivial⟩
theorem sk (e:Es) (he:EG e):hZ (bW (E e)) (ZV lI) [] 45203600 (.loop 45203600 LJ):=fun _ _ _=>cJ.st (aM.uni _) (dV (ZW e he) 5) (cS.no _ _) (bC (by kernel_rfl)) (sj e _ _)
theorem sn (e:Es) (a0):cE (RN e a0) 6 Qk RM (Mn a0):=fun _ _=>by kernel_rfl
theorem ZX (e:Es) (he:EG e):bO (E e) (RM.pw uF) Il:=cH he (sn e _) (ZW e he) bN.flat (gA (l:=[(45203600,.loop 45203600 LJ)]) ⟨sk e he,trivial⟩ (by kernel_rfl))
abbrev fS:Type:=Int→(Int→Int→Prop)→Prop
def ZY (b:Int) (K:Int→Int→Prop):Prop:=
 (K b 1)
def Bw:fS:=ZY
def nF:Sg:=⟨Dg,Int→Int→Prop,fun K=>(fun r0 r1=>K (.agg [(ic r0),(ic r1)]))⟩
def so (e:Es):SE:=sE (E e) [] eC
theorem sq (e:Es):cE (so e) 6 Ql nF ZY:=fun _ _=>by kernel_rfl
theorem RO (e:Es) (he:EG e):bO (E e) (nF.pw Bw) tY:=cH he (sq e) (bZ (aM.uni _) trivial trivial he.ok) bN.flat (bC (by kernel_rfl))
abbrev fM:Type:=J4 ((Bool→Prop)→Prop)
def RP (a0:IX) (b c d e:Int) (K:Bool→Prop):Prop:=
 (a0 b c d e (fun f g=>(K (decide (f<0)))))
def zJ:fM:=RP Bv
def sK:Sg:=⟨uE,Bool→Prop,fun K=>(fun r0=>K (.bool r0))⟩
def sr (e:Es) (a0:IX):SE:=sE (E e) [(Cw,Mh.pw a0)] eC
theorem su (e:Es) (a0):cE (sr e a0) 6 Qm sK (RP a0):=fun _ _=>by kernel_rfl
theorem RQ (e:Es) (he:EG e):bO (E e) (sK.pw zJ) yI:=cH he (su e _) (bZ (aM.uni _) ⟨(Ry e he),trivial⟩ trivial he.ok) bN.flat (bC (by kernel_rfl))
abbrev Dm:Type:=Int→Ls→Ls→Int→Int→(Bool→Prop)→Prop
def RR (a0:fL) (a1:fS) (a2:fM) (b:Int) (c d:Ls) (e f:Int) (K:Bool→Prop):Prop:=
 (a0 e f (fun g=>(aG (g==0) (aG (decide (e≥0)) (a1 b (fun h i=>(a2 h i e f (fun j=>(K (!j)))))) (K false)) (K false))))
def Bx:Dm:=RR nD Bw zJ
def Mo:Sg:=⟨(lC iF LY),Bool→Prop,fun K=>(fun r0=>K (.bool r0))⟩
def sw (e:Es) (a0:fL) (a1:fS) (a2:fM):SE:=sE (E e) [(qR,wI.pw a0),(tY,nF.pw a1),(yI,sK.pw a2)] eC
theorem ta (e:Es) (a0 a1 a2):cE (sw e a0 a1 a2) 6 Qn Mo (RR a0 a1 a2):=fun _ _=>by kernel_rfl
theorem ZZ (e:Es) (he:EG e):bO (E e) (Mo.pw Bx) Fo:=cH he (ta e _ _ _) (bZ (aM.uni _) ⟨(FU e he),(RO e he),(RQ e he),trivial⟩ trivial he.ok) bN.flat (bC (by kernel_rfl))
abbrev Dn:Type:=Int→Ls→Ls→J4 ((Int→Int→Int→Prop)→Prop)
def sL (a0:iZ) (a1:Dm) (a2:fL) (a3:fS) (a4:fM) (a5 a6 a7 a8:jZ) (x0:J4 (Int→Int→Prop)) (x1:J4 (Int→Int→Ls→Ls→Int→Int→Ls→Int→Int→Bool→Prop)):Nat→J4 (Int→Int→Ls→Ls→Int→Int→Ls→Int→Int→Prop)
 | 0,_,_,_,_,_,_,_,_,_,_,_,_,_=>False
 | n+1,b,c,d,e,f,g,h,i,j,k,l,m,o=>
 (aG (decide (o<m)) (asr (decide (0≤o)) (asr (decide (o<(((length l):Nat):Int))) (asr (aJ zI (getD l (o.toNat) .nils)) (asr (decide (0≤(i64.wrap (o+1)))) (asr (decide ((i64.wrap (o+1))<(((length h):Nat):Int))) (asr (aJ zI (getD h ((i64.wrap (o+1)).toNat) .nils)) (a3 (aS (getD h ((i64.wrap (o+1)).toNat) .nils)) (fun p q=>(a4 j k p q (fun r=>(aG (!r) (sL a0 a1 a2 a3 a4 a5 a6 a7 a8 x0 x1 n b c d e f g h i j k l m (i64.wrap (o+1))) (a3 0 (fun s t=>(aG (decide ((aS (getD l (o.toNat) .nils))>0)) (a5 p q j k (fun u v w=>(aG (w !=0) (x0 b c d e f w) (a3 (aS (getD l (o.toNat) .nils)) (fun z A=>(a6 u v z A (fun B C D=>(aG (D !=0) (x0 b c d e f D) (aG ((aS (getD l (o.toNat) .nils))==0) (sL a0 a1 a2 a3 a4 a5 a6 a7 a8 x0 x1 n b c d e f g h i p q l m (i64.wrap (o+1))) (a4 B C b c (fun E=>(aG E (a5 b c B C (fun F G H=>(aG (H !=0) (aG (H !=0) (x0 F G d e H 0) (sL a0 a1 a2 a3 a4 a5 a6 a7 a8 x0 x1 n F G d e H g h i p q l m (i64.wrap (o+1)))) (aG (H !=0) (x0 F G d e 6 0) (sL a0 a1 a2 a3 a4 a5 a6 a7 a8 x0 x1 n F G d e 6 g h i p q l m (i64.wrap (o+1))))))) (a3 (aS (getD l (o.toNat) .nils)) (fun F G=>(a7 b c F G (fun H I J=>(aG (J==0) (a8 j k H I (fun L M N=>(x0 b c L M N 0))) (x0 b c d e J 0)))))))))))))))))) (aG ((aS (getD l (o.toNat) .nils))==0) (sL a0 a1 a2 a3 a4 a5 a6 a7 a8 x0 x1 n b c d e f g h i p q l m (i64.wrap (o+1))) (a4 s t b c (fun u=>(aG u (a5 b c s t (fun v w z=>(aG (z !=0) (aG (z !=0) (x0 v w d e z 0) (sL a0 a1 a2 a3 a4 a5 a6 a7 a8 x0 x1 n v w d e z g h i p q l m (i64.wrap (o+1)))) (aG (z !=0) (x0 v w d e 6 0) (sL a0 a1 a2 a3 a4 a5 a6 a7 a8 x0 x1 n v w d e 6 g h i p q l m (i64.wrap (o+1))))))) (a3 (aS (getD l (o.toNat) .nils)) (fun v w=>(a7 b c v w (fun z A B=>(aG (B==0) (a8 j k z A (fun C D E=>(x0 b c C D E 0))) (x0 b c d e B 0)))))))))))))))))))))))) (x1 b c d e f g h i j k l m o false))
def RS (a0:iZ) (a1:Dm) (a2:fL) (a3:fS) (a4:fM) (a5 a6 a7 a8:jZ) (b:Int) (c d:Ls) (e f g h:Int) (K:Int→Int→Int→Prop):Prop:=
 (a0 b c d (fun i=>(aG (i !=0) (K 0 0 i) (a1 b c d e f (fun j=>(aG (!j) (K 0 0 2) (a2 g h (fun k=>(aG (k !=0) (K 0 0 2) (aG (decide (g<0)) (K 0 0 2) (aG (g==0) (K e f 0) (∃ n:Nat,sL a0 a1 a2 a3 a4 a5 a6 a7 a8 (fun l m o p q r=>(aG (r !=0) (aG (r !=0) (K 0 0 r) (K o p 0)) (aG (q !=0) (K 0 0 q) (K o p 0)))) (fun l m o p q r s t u v w z A B=>(aG (q !=0) (K 0 0 q) (K o p 0))) n g h 0 0 6 b c d e f d (((length d):Nat):Int) 0))))))))))))
def wL:Dn:=RS lI Bx nD Bw zJ qZ nE rB qY
def RT:Sg:=⟨(lC iF uE),Int→Int→Int→Prop,fun K=>(fun r0 r1 r2=>K (.tup [(.agg [(ic r0),(ic r1)]),(ic r2)]))⟩
def tb (Q:Qx):J4 (Int→Int→Prop ):=(fun b c d e f g=>Q .ret [(6,.v (ic g))] [⟨false,true,2,([(.agg [(ic b),(ic c)])]:Ls)⟩,⟨false,true,2,([(.agg [(ic d),(ic e)])]:Ls)⟩,⟨false,true,1,([(ic f)]:Ls)⟩])
def tc (Q:Qx):J4 (Int→Int→Ls→Ls→Int→Int→Ls→Int→Int→Bool→Prop ):=(fun b c d e f g h i j k l m o p=>Q (.exit 0) [(2,.v (.fn (.func Fp) [] [(.ptr 0 1 0 0),(.ptr 2 1 0 0),(.ptr 1 1 0 0)])),(3,.box (.agg [(ic g),(.data h),(.data i)])),(4,.box (.agg [(ic j),(ic k)])),(14,.v (.data l)),(15,.v (ic m)),(16,.v (ic o)),(17,.v (.bool p))] [⟨false,true,2,([(.agg [(ic b),(ic c)])]:Ls)⟩,⟨false,true,2,([(.agg [(ic d),(ic e)])]:Ls)⟩,⟨false,true,1,([(ic f)]:Ls)⟩])
def A0 (a0:iZ) (a1:Dm) (a2:fL) (a3:fS) (a4:fM) (a5 a6 a7 a8:jZ) (Q:Qx):List St:=[⟨(pS (hB false true 2 (rC uD rN) (hB false true 2 (rC uD rN) (hB false true 1 (rC eF rN) hN))) (fV 2 (vF Fp lN (lC (vP 0 0 (nK 1) (nK 0)) (lC (vP 2 0 (nK 1) (nK 0)) (lC (vP 1 0 (nK 1) (nK 0)) lN)))) (fX 3 iF (fX 4 uD Ja))) fN),sL a0 a1 a2 a3 a4 a5 a6 a7 a8 (tb Q) (tc Q)⟩]
def RU (a0:iZ) (a1:Dm) (a2:fL) (a3:fS) (a4:fM) (a5 a6 a7 a8:jZ):LP:=jF [(41613500,A0 a0 a1 a2 a3 a4 a5 a6 a7 a8)]
def A1 (e:Es) (a0:iZ) (a1:Dm) (a2:fL) (a3:fS) (a4:fM) (a5 a6 a7 a8:jZ):SE:=⟨(E e),yiW [(vZ,zG.pw a0),(Fo,Mo.pw a1),(qR,wI.pw a2),(tY,nF.pw a3),(yI,sK.pw a4),(tW,jQ.pw a5),(pU,jQ.pw a6),(tX,jQ.pw a7),(sG,jQ.pw a8)],yfD [(Fp,LK)],RU a0 a1 a2 a3 a4 a5 a6 a7 a8,fun _=>none⟩
def A2 (e:Es) (a0:iZ) (a1:Dm) (a2:fL) (a3:fS) (a4:fM) (a5 a6 a7 a8:jZ):SE:=⟨(E e),yiW [(vZ,zG.pw a0),(Fo,Mo.pw a1),(qR,wI.pw a2),(tY,nF.pw a3),(yI,sK.pw a4),(tW,jQ.pw a5),(pU,jQ.pw a6),(tX,jQ.pw a7),(sG,jQ.pw a8)],yfD [(OS,Qo),(Fp,LK)],RU a0 a1 a2 a3 a4 a5 a6 a7 a8,fun _=>none⟩
theorem td (e:Es) (he:EG e):SEOk (bW (E e)) (A1 e lI Bx nD Bw zJ qZ nE rB qY):=bZ (aM.uni _) ⟨(IZ e he),(ZZ e he),(FU e he),(RO e he),(RQ e he),(IV e he),(FY e he),(IW e he),(IU e he),trivial⟩ ⟨⟨by kernel_rfl,by kernel_rfl,rfl,fun as=>kR (by kernel_rfl) as,he.num _ (by kernel_rfl),by kernel_rfl,(bC (by kernel_rfl))⟩,trivial⟩ he.ok
theorem te (e:Es) (a0 a1 a2 a3 a4 a5 a6 a7 a8):hO (A1 e a0 a1 a2 a3 a4 a5 a6 a7 a8) 5 a LM false (A0 a0 a1 a2 a3 a4 a5 a6 a7 a8):=fun _=>⟨fun _=>by kernel_rfl,fun _ _=>by kernel_rfl,trivial⟩
theorem tf (e:Es) (he:EG e):hZ (bW (E e)) (RU lI Bx nD Bw zJ qZ nE rB qY) [] 41613500 (.loop 41613500 LM):=fun _ _ _=>cJ.st (aM.uni _) (dV (td e he) 5) (cS.no _ _) (bC (by kernel_rfl)) (te e _ _ _ _ _ _ _ _ _ _)
theorem tg (e:Es) (he:EG e):SEOk (bW (E e)) (A2 e lI Bx nD Bw zJ qZ nE rB qY):=bZ (aM.uni _) ⟨(IZ e he),(ZZ e he),(FU e he),(RO e he),(RQ e he),(IV e he),(FY e he),(IW e he),(IU e he),trivial⟩ ⟨⟨by kernel_rfl,by kernel_rfl,rfl,fun as=>kR (by kernel_rfl) as,he.num _ (by kernel_rfl),by kernel_rfl,(gA (l:=[(41613500,.loop 41613500 LM)]) ⟨tf e he,trivial⟩ (by kernel_rfl))⟩,⟨by kernel_rfl,by kernel_rfl,rfl,fun as=>kR (by kernel_rfl) as,he.num _ (by kernel_rfl),by kernel_rfl,(bC (by kernel_rfl))⟩,trivial⟩ he.ok
theorem th (e:Es) (a0 a1 a2 a3 a4 a5 a6 a7 a8):cE (A2 e a0 a1 a2 a3 a4 a5 a6 a7 a8) 6 Qp RT (RS a0 a1 a2 a3 a4 a5 a6 a7 a8):=fun _ _=>by kernel_rfl
theorem A3 (e:Es) (he:EG e):bO (E e) (RT.pw wL) Im:=cH he (th e _ _ _ _ _ _ _ _ _) (tg e he) bN.flat (bC (by kernel_rfl))
set_option linter.unusedVariables false
theorem ti (p0:Int) (p1 p2:Ls) (r0:Int) (h:∀ K:Int→Prop,K r0→lI p0 p1 p2 K) (K:Int→Prop):lI p0 p1 p2 K=K r0:=
 Aac ⟨fun k=>cW (IZ [] iE) (as:=[(.agg [(ic p0),(.data p1),(.data p2)])]) (x:=(ic r0)) (fun K' k'=>h (fun r0=>K' (ic r0)) k') (K:=fun x=>match x with | (ic r0)=>K r0 | _=>False) k,h K⟩
theorem tj (p0:Ls) (p1:Int) (r0:Bool) (h:∀ K:Bool→Prop,K r0→Dk p0 p1 K) (K:Bool→Prop):Dk p0 p1 K=K r0:=
 Aac ⟨fun k=>cW (RL [] iE) (as:=[(.data p0),(ic p1)]) (x:=(.bool r0)) (fun K' k'=>h (fun r0=>K' (.bool r0)) k') (K:=fun x=>match x with | (.bool r0)=>K r0 | _=>False) k,h K⟩
theorem tk (p0:Int) (p1 p2:Ls) (r0 r1:Int) (h:∀ K:Int→Int→Prop,K r0 r1→uF p0 p1 p2 K) (K:Int→Int→Prop):uF p0 p1 p2 K=K r0 r1:=
 Aac ⟨fun k=>cW (ZX [] iE) (as:=[(.agg [(ic p0),(.data p1),(.data p2)])]) (x:=(.tup [(ic r0),(ic r1)])) (fun K' k'=>h (fun r0 r1=>K' (.tup [(ic r0),(ic r1)])) k') (K:=fun x=>match x with | (.tup [(ic r0),(ic r1)])=>K r0 r1 | _=>False) k,h K⟩
theorem tl (p0:Int) (p1 p2:Ls) (p3 p4 p5 p6 r0 r1 r2:Int) (h:∀ K:Int→Int→Int→Prop,K r0 r1 r2→wL p0 p1 p2 p3 p4 p5 p6 K) (K:Int→Int→Int→Prop):wL p0 p1 p2 p3 p4 p5 p6 K=K r0 r1 r2:=
 Aac ⟨fun k=>cW (A3 [] iE) (as:=[(.agg [(ic p0),(.data p1),(.data p2)]),(.agg [(ic p3),(ic p4)]),(.agg [(ic p5),(ic p6)])]) (x:=(.tup [(.agg [(ic r0),(ic r1)]),(ic r2)])) (fun K' k'=>h (fun r0 r1 r2=>K' (.tup [(.agg [(ic r0),(ic r1)]),(ic r2)])) k') (K:=fun x=>match x with | (.tup [(.agg [(ic r0),(ic r1)]),(ic r2)])=>K r0 r1 r2 | _=>False) k,h K⟩
abbrev kA:Type:=Ls→Ls→(Int→Prop)→Prop
def Gg (a0:iZ) (x0:Int→Prop) (x1:Ls→Ls→Ls→Int→Int→Bool→Prop):Nat→Ls→Ls→Ls→Int→Int→Prop
 | 0,_,_,_,_,_=>False
 | n+1,b,c,d,e,f=>
 (aG (decide (f<e)) (asr (decide (0≤f)) (asr (decide (f<(((length d):Nat):Int))) (asr (aJ zK (getD d (f.toNat) .nils)) (a0 (aS (cQ (getD d (f.toNat) .nils) 0)) (gH (cQ (getD d (f.toNat) .nils) 1)) (gH (cQ (getD d (f.toNat) .nils) 2)) (fun g=>(aG (g !=0) (x0 g) (Gg a0 x0 x1 n b c d e (i64.wrap (f+1))))))))) (x1 b c d e f false))
def Dp (a0:iZ) (x0:Int→Prop) (x1:Ls→Ls→Ls→Int→Int→Bool→Prop):Nat→Ls→Ls→Ls→Int→Int→Prop
 | 0,_,_,_,_,_=>False
 | n+1,b,c,d,e,f=>
 (aG (decide (f<e)) (asr (decide (0≤f)) (asr (decide (f<(((length d):Nat):Int))) (asr (aJ zK (getD d (f.toNat) .nils)) (asr (decide (0<(((length b):Nat):Int))) (asr (aJ zK (getD b 0 .nils)) (aG ((aS (cQ (getD d (f.toNat) .nils) 0)) !=(aS (cQ (getD b 0 .nils) 0))) (x0 8) (Dp a0 x0 x1 n b c d e (i64.wrap (f+1))))))))) (x1 b c d e f false))
def RW (a0:iZ) (b c:Ls) (K:Int→Prop):Prop:=
 (aG (decide ((((length b):Nat):Int)>6)) (K 4) (aG (decide ((((length c):Nat):Int)>2000)) (K 4) (aG ((((length b):Nat):Int)==0) (K 8) (∃ m0:Nat,Gg a0 K (fun d e f g h i=>(∃ m1:Nat,Dp a0 K (fun j k l m o p=>(K 0)) m1 d e d (((length d):Nat):Int) 0)) m0 b c b (((length b):Nat):Int) 0))))
def wM:kA:=RW lI
def Dq:Sg:=⟨(lC (vA lJ) lN),Int→Prop,fun K=>(fun r0=>K (ic r0))⟩
def tn (Q:Qx):Int→Prop:=(fun b=>Q .ret [(2,.v (ic b))] [])
def tq (Q:Qx):Ls→Ls→Ls→Int→Int→Bool→Prop:=(fun b c d e f g=>Q (.exit 0) [(1,.box (.agg [(.data b),(.data c)])),(23,.v (.data d)),(24,.v (ic e)),(25,.v (ic f)),(26,.v (.bool g))] [])
def tt (Q:Qx):Int→Prop:=(fun b=>Q .ret [(2,.v (ic b))] [])
def tu (Q:Qx):Ls→Ls→Ls→Int→Int→Bool→Prop:=(fun b c d e f g=>Q (.exit 2) [(1,.box (.agg [(.data b),(.data c)])),(36,.v (.data d)),(37,.v (ic e)),(38,.v (ic f)),(39,.v (.bool g))] [])
def A4 (a0:iZ) (Q:Qx):List St:=[⟨(pS hN (fX 1 (vA lJ) (fV 23 vD (fV 24 eF (fV 25 eF fN)))) fN),Gg a0 (tn Q) (tq Q)⟩]
def A5 (a0:iZ) (Q:Qx):List St:=[⟨(pS hN (fX 1 (vA lJ) (fV 36 vD (fV 37 eF (fV 38 eF fN)))) fN),Dp a0 (tt Q) (tu Q)⟩]
def RX (a0:iZ):LP:=jF [(12157600,A4 a0),(12157601,A5 a0)]
def Mp (e:Es) (a0:iZ):SE:=sE (E e) [(vZ,zG.pw a0)] (RX a0)
theorem RY (e:Es) (he:EG e):SEOk (bW (E e)) (Mp e lI):=bZ (aM.uni _) ⟨(IZ e he),trivial⟩ trivial he.ok
theorem tv (e:Es) (a0):hO (Mp e a0) 5 a Lv false (A4 a0):=fun _=>⟨fun _=>by kernel_rfl,fun _ _=>by kernel_rfl,trivial⟩
theorem tw (e:Es) (he:EG e):hZ (bW (E e)) (RX lI) [] 12157600 (.loop 12157600 Lv):=fun _ _ _=>cJ.st (aM.uni _) (dV (RY e he) 5) (cS.no _ _) (bC (by kernel_rfl)) (tv e _ _)
theorem tx (e:Es) (a0):hO (Mp e a0) 5 a Lw false (A5 a0):=fun _=>⟨fun _=>by kernel_rfl,fun _ _=>by kernel_rfl,trivial⟩
theorem tz (e:Es) (he:EG e):hZ (bW (E e)) (RX lI) [] 12157601 (.loop 12157601 Lw):=fun _ _ _=>cJ.st (aM.uni _) (dV (RY e he) 5) (cS.no _ _) (bC (by kernel_rfl)) (tx e _ _)
theorem ua (e:Es) (a0):cE (Mp e a0) 6 Pk Dq (RW a0):=fun _ _=>by kernel_rfl
theorem RZ (e:Es) (he:EG e):bO (E e) (Dq.pw wM) Fe:=cH he (ua e _) (RY e he) bN.flat (gA (l:=[(12157600,.loop 12157600 Lv),(12157601,.loop 12157601 Lw)]) ⟨tw e he,tz e he,trivial⟩ (by kernel_rfl))
set_option linter.unusedVariables false
theorem uc (p0 p1:Ls) (r0:Int) (h:∀ K:Int→Prop,K r0→wM p0 p1 K) (K:Int→Prop):wM p0 p1 K=K r0:=
 Aac ⟨fun k=>cW (RZ [] iE) (as:=[(.agg [(.data p0),(.data p1)])]) (x:=(ic r0)) (fun K' k'=>h (fun r0=>K' (ic r0)) k') (K:=fun x=>match x with | (ic r0)=>K r0 | _=>False) k,h K⟩
def A6 (b:Int) (K:Int→Int→Prop):Prop:=
 (K b 1)
def A7:fS:=A6
def ud (e:Es):SE:=sE (E e) [] eC
theorem ue (e:Es):cE (ud e) 6 Qu nF A6:=fun _ _=>by kernel_rfl
theorem uf (e:Es) (he:EG e):bO (E e) (nF.pw A7) Ip:=cH he (ue e) (bZ (aM.uni _) trivial trivial he.ok) bN.flat (bC (by kernel_rfl))
def Sa (b:Int) (K:Int→Prop):Prop:=
 (aG (decide (b<0)) (K (u64.wrap ((u64.wrap (i64.wrap (0-(i64.wrap (b+1)))))+1))) (K (u64.wrap b)))
def Jb:iX:=Sa
def ug (e:Es):SE:=sE (E e) [] eC
theorem uh (e:Es):cE (ug e) 6 QC wH Sa:=fun _ _=>by kernel_rfl
theorem A8 (e:Es) (he:EG e):bO (E e) (wH.pw Jb) Bc:=cH he (uh e) (bZ (aM.uni _) trivial trivial he.ok) bN.flat (bC (by kernel_rfl))
def Jc (x0:Int→Int→Bool→Prop):Nat→Int→Int→Prop
 | 0,_,_=>False
 | n+1,b,c=>
 (aG (c !=0) (asr (!(decide (c=0))) (Jc x0 n c (Int.tmod b c))) (x0 b c false))
def Sb (b c:Int) (K:Int→Prop):Prop:=
 (∃ n:Nat,Jc (fun d e f=>(K d)) n b c)
def Gi:fL:=Sb
def ui (Q:Qx):Int→Int→Bool→Prop:=(fun b c d=>Q (.exit 0) [(0,.v (.int .u64 b)),(1,.v (.int .u64 c)),(6,.v (.bool d))] [])
def A9 (Q:Qx):List St:=[⟨Zq,Jc (ui Q)⟩]
def B0:LP:=jF [(16774900,A9)]
def Sc (e:Es):SE:=sE (E e) [] (B0)
theorem B1 (e:Es) (he:EG e):SEOk (bW (E e)) (Sc e):=bZ (aM.uni _) trivial trivial he.ok
theorem uj (e:Es):hO (Sc e) 5 a LR false (A9):=fun _=>⟨fun _=>by kernel_rfl,fun _ _=>by kernel_rfl,trivial⟩
theorem uk (e:Es) (he:EG e):hZ (bW (E e)) (B0) [] 16774900 (.loop 16774900 LR):=fun _ _ _=>cJ.st (aM.uni _) (dV (B1 e he) 5) (cS.no _ _) (bC (by kernel_rfl)) (uj e _)
theorem ul (e:Es):cE (Sc e) 6 QD Bo Sb:=fun _ _=>by kernel_rfl
theorem B2 (e:Es) (he:EG e):bO (E e) (Bo.pw Gi) Is:=cH he (ul e) (B1 e he) bN.flat (gA (l:=[(16774900,.loop 16774900 LR)]) ⟨uk e he,trivial⟩ (by kernel_rfl))
def Sd (a0:iX) (a1:fL) (b c:Int) (K:Int→Prop):Prop:=
 (aG (decide (c<1)) (K 8) (aG (decide (c>1000000000000000000)) (K 8) (aG (decide (b<(-1000000000000000000))) (K 8) (aG (decide (b>1000000000000000000)) (K 8) (a0 b (fun d=>(a1 d (u64.wrap c) (fun e=>(aG (e !=1) (K 8) (K 0))))))))))
def Mq:fL:=Sd Jb Gi
def um (e:Es) (a0:iX) (a1:fL):SE:=sE (E e) [(Bc,wH.pw a0),(Is,Bo.pw a1)] eC
theorem uo (e:Es) (a0 a1):cE (um e a0 a1) 6 QE wI (Sd a0 a1):=fun _ _=>by kernel_rfl
theorem ur (e:Es) (he:EG e):bO (E e) (wI.pw Mq) CB:=cH he (uo e _ _) (bZ (aM.uni _) ⟨(A8 e he),(B2 e he),trivial⟩ trivial he.ok) bN.flat (bC (by kernel_rfl))
def Sf (a0:fL) (b c d e:Int) (K:Int→Prop):Prop:=
 (a0 b c (fun f=>(aG (f !=0) (a0 b c K) (a0 d e K))))
def Gj:mQ:=Sf Mq
def uu (e:Es) (a0:fL):SE:=sE (E e) [(CB,wI.pw a0)] eC
theorem uv (e:Es) (a0):cE (uu e a0) 6 QF wJ (Sf a0):=fun _ _=>by kernel_rfl
theorem uw (e:Es) (he:EG e):bO (E e) (wJ.pw Gj) It:=cH he (uv e _) (bZ (aM.uni _) ⟨(ur e he),trivial⟩ trivial he.ok) bN.flat (bC (by kernel_rfl))
def Si (b c:Int) (K:Int→Int→Prop):Prop:=
 (K (u64.wrap ((u64.wrap ((u64.wrap ((Int.fdiv b 4294967296)*(Int.fdiv c 4294967296)))+(Int.fdiv (u64.wrap ((Int.fdiv b 4294967296)*(u64.wrap (BitVec.ofInt u64.bits c&&&BitVec.ofInt u64.bits 4294967295).toNat))) 4294967296)))+(Int.fdiv (u64.wrap ((u64.wrap ((u64.wrap (BitVec.ofInt u64.bits (u64.wrap ((Int.fdiv b 4294967296)*(u64.wrap (BitVec.ofInt u64.bits c&&&BitVec.ofInt u64.bits 4294967295).toNat)))&&&BitVec.ofInt u64.bits 4294967295).toNat)+(u64.wrap ((u64.wrap (BitVec.ofInt u64.bits b&&&BitVec.ofInt u64.bits 4294967295).toNat)*(Int.fdiv c 4294967296)))))+(Int.fdiv (u64.wrap ((u64.wrap (BitVec.ofInt u64.bits b&&&BitVec.ofInt u64.bits 4294967295).toNat)*(u64.wrap (BitVec.ofInt u64.bits c&&&BitVec.ofInt u64.bits 4294967295).toNat))) 4294967296))) 4294967296))) (u64.wrap (BitVec.ofInt u64.bits (u64.wrap ((u64.wrap ((u64.wrap ((u64.wrap (BitVec.ofInt u64.bits (u64.wrap ((Int.fdiv b 4294967296)*(u64.wrap (BitVec.ofInt u64.bits c&&&BitVec.ofInt u64.bits 4294967295).toNat)))&&&BitVec.ofInt u64.bits 4294967295).toNat)+(u64.wrap ((u64.wrap (BitVec.ofInt u64.bits b&&&BitVec.ofInt u64.bits 4294967295).toNat)*(Int.fdiv c 4294967296)))))+(Int.fdiv (u64.wrap ((u64.wrap (BitVec.ofInt u64.bits b&&&BitVec.ofInt u64.bits 4294967295).toNat)*(u64.wrap (BitVec.ofInt u64.bits c&&&BitVec.ofInt u64.bits 4294967295).toNat))) 4294967296)))*4294967296))|||BitVec.ofInt u64.bits (u64.wrap (BitVec.ofInt u64.bits (u64.wrap ((u64.wrap (BitVec.ofInt u64.bits b&&&BitVec.ofInt u64.bits 4294967295).toNat)*(u64.wrap (BitVec.ofInt u64.bits c&&&BitVec.ofInt u64.bits 4294967295).toNat)))&&&BitVec.ofInt u64.bits 4294967295).toNat)).toNat))
def Jd:wK:=Si
def Sj:Sg:=⟨yY,Int→Int→Prop,fun K=>(fun r0 r1=>K (.agg [(.int .u64 r0),(.int .u64 r1)]))⟩
def uy (e:Es):SE:=sE (E e) [] eC
theorem uz (e:Es):cE (uy e) 6 QH Sj Si:=fun _ _=>by kernel_rfl
theorem va (e:Es) (he:EG e):bO (E e) (Sj.pw Jd) Fs:=cH he (uz e) (bZ (aM.uni _) trivial trivial he.ok) bN.flat (bC (by kernel_rfl))
def Sk (b c d e:Int) (K:Bool→Prop):Prop:=
 (aG (decide (b<d)) (K true) (aG (b==d) (K (decide (c<e))) (K false)))
def Mr:fM:=Sk
def Sl:Sg:=⟨(lC (vA yY) (lC (vA yY) lN)),Bool→Prop,fun K=>(fun r0=>K (.bool r0))⟩
def vb (e:Es):SE:=sE (E e) [] eC
theorem vc (e:Es):cE (vb e) 6 QI Sl Sk:=fun _ _=>by kernel_rfl
theorem ve (e:Es) (he:EG e):bO (E e) (Sl.pw Mr) Fu:=cH he (vc e) (bZ (aM.uni _) trivial trivial he.ok) bN.flat (bC (by kernel_rfl))
def Sm (a0:iX) (a1:wK) (a2:fM) (b c d e:Int) (K:Bool→Prop):Prop:=
 (aG ((decide (b<0)) !=(decide (d<0))) (K (decide (b<0))) (a0 b (fun f=>(a1 f (u64.wrap e) (fun g h=>(a0 d (fun i=>(a1 i (u64.wrap c) (fun j k=>(aG (decide (b<0)) (a2 j k g h K) (a2 g h j k K)))))))))))
def Gk:fM:=Sm Jb Jd Mr
def vf (e:Es) (a0:iX) (a1:wK) (a2:fM):SE:=sE (E e) [(Bc,wH.pw a0),(Fs,Sj.pw a1),(Fu,Sl.pw a2)] eC
theorem vg (e:Es) (a0 a1 a2):cE (vf e a0 a1 a2) 6 QJ sK (Sm a0 a1 a2):=fun _ _=>by kernel_rfl
theorem vh (e:Es) (he:EG e):bO (E e) (sK.pw Gk) Fv:=cH he (vg e _ _ _) (bZ (aM.uni _) ⟨(A8 e he),(va e he),(ve e he),trivial⟩ trivial he.ok) bN.flat (bC (by kernel_rfl))
set_option linter.unusedVariables false
theorem vi (p0 p1 r0:Int) (h:∀ K:Int→Prop,K r0→Gi p0 p1 K) (K:Int→Prop):Gi p0 p1 K=K r0:=
 Aac ⟨fun k=>cW (B2 [] iE) (as:=[(.int .u64 p0),(.int .u64 p1)]) (x:=(.int .u64 r0)) (fun K' k'=>h (fun r0=>K' (.int .u64 r0)) k') (K:=fun x=>match x with | (.int .u64 r0)=>K r0 | _=>False) k,h K⟩
abbrev mG:Type:=Int→Ls→Ls→(Bool→Prop)→Prop
def Sn (b:Int) (c d:Ls) (K:Bool→Prop):Prop:=
 (aG (decide ((((length c):Nat):Int)>60)) (K true) (K (decide ((((length d):Nat):Int)>60))))
def Dr:mG:=Sn
def wN:Sg:=⟨zA,Bool→Prop,fun K=>(fun r0=>K (.bool r0))⟩
def vk (e:Es):SE:=sE (E e) [] eC
theorem vl (e:Es):cE (vk e) 6 OV wN Sn:=fun _ _=>by kernel_rfl
theorem vm (e:Es) (he:EG e):bO (E e) (wN.pw Dr) HV:=cH he (vl e) (bZ (aM.uni _) trivial trivial he.ok) bN.flat (bC (by kernel_rfl))
def Ds (x0:Int→Prop) (x1:Int→Ls→Ls→Bool→Int→Bool→Prop):Nat→Int→Ls→Ls→Bool→Int→Prop
 | 0,_,_,_,_,_=>False
 | n+1,b,c,d,e,f=>
 (aG (decide (f<(((length d):Nat):Int))) (asr (decide (0≤(i64.wrap (f+1)))) (asr (decide ((i64.wrap (f+1))<(((length c):Nat):Int))) (asr (aJ zI (getD c ((i64.wrap (f+1)).toNat) .nils)) (asr (decide (0≤f)) (asr (decide (f<(((length c):Nat):Int))) (asr (aJ zI (getD c (f.toNat) .nils)) (aG (decide ((aS (getD c ((i64.wrap (f+1)).toNat) .nils))≤(aS (getD c (f.toNat) .nils)))) (x0 8) (asr (decide (0≤f)) (asr (decide (f<(((length d):Nat):Int))) (asr (aJ zI (getD d (f.toNat) .nils)) (aG (decide ((aS (getD d (f.toNat) .nils))<0)) (x0 8) (asr (decide (0≤f)) (asr (decide (f<(((length d):Nat):Int))) (asr (aJ zI (getD d (f.toNat) .nils)) (aG (decide ((aS (getD d (f.toNat) .nils))>12)) (x0 8) (aG e (Ds x0 x1 n b c d true (i64.wrap (f+1))) (asr (decide (0≤f)) (asr (decide (f<(((length d):Nat):Int))) (asr (aJ zI (getD d (f.toNat) .nils)) (Ds x0 x1 n b c d (decide ((aS (getD d (f.toNat) .nils))>0)) (i64.wrap (f+1)))))))))))))))))))))) (x1 b c d e f false))
def So (b:Int) (c d:Ls) (K:Int→Prop):Prop:=
 (aG (decide (b>1000)) (K 4) (aG (decide ((((length c):Nat):Int)>40)) (K 4) (aG (decide (b<1)) (K 8) (aG (decide ((((length c):Nat):Int)<2)) (K 8) (aG ((((length d):Nat):Int) !=(i64.wrap ((((length c):Nat):Int)-1))) (K 8) (asr (decide (0<(((length c):Nat):Int))) (asr (aJ zI (getD c 0 .nils)) (aG ((aS (getD c 0 .nils)) !=0) (K 8) (asr (decide (0≤(i64.wrap ((((length c):Nat):Int)-1)))) (asr (decide ((i64.wrap ((((length c):Nat):Int)-1))<(((length c):Nat):Int))) (asr (aJ zI (getD c ((i64.wrap ((((length c):Nat):Int)-1)).toNat) .nils)) (aG ((aS (getD c ((i64.wrap ((((length c):Nat):Int)-1)).toNat) .nils)) !=b) (K 8) (∃ n:Nat,Ds K (fun e f g h i j=>(aG (!h) (K 8) (K 0))) n b c d false 0)))))))))))))
def sM:iZ:=So
def vo (Q:Qx):Int→Prop:=(fun b=>Q .ret [(2,.v (ic b))] [])
def vp (Q:Qx):Int→Ls→Ls→Bool→Int→Bool→Prop:=(fun b c d e f g=>Q (.exit 0) [(1,.box (.agg [(ic b),(.data c),(.data d)])),(3,.v (.bool e)),(4,.v (ic f)),(57,.v (.bool g))] [])
def B3 (Q:Qx):List St:=[⟨(pS hN (fX 1 iF (fV 3 vB rD)) fN),Ds (vo Q) (vp Q)⟩]
def B4:LP:=jF [(94526800,B3)]
def Sp (e:Es):SE:=sE (E e) [] (B4)
theorem B5 (e:Es) (he:EG e):SEOk (bW (E e)) (Sp e):=bZ (aM.uni _) trivial trivial he.ok
theorem vq (e:Es):hO (Sp e) 5 a Lj false (B3):=fun _=>⟨fun _=>by kernel_rfl,fun _ _=>by kernel_rfl,trivial⟩
theorem vt (e:Es) (he:EG e):hZ (bW (E e)) (B4) [] 94526800 (.loop 94526800 Lj):=fun _ _ _=>cJ.st (aM.uni _) (dV (B5 e he) 5) (cS.no _ _) (bC (by kernel_rfl)) (vq e _)
theorem vv (e:Es):cE (Sp e) 6 OY zG So:=fun _ _=>by kernel_rfl
theorem B6 (e:Es) (he:EG e):bO (E e) (zG.pw sM) Fa:=cH he (vv e) (B5 e he) bN.flat (gA (l:=[(94526800,.loop 94526800 Lj)]) ⟨vt e he,trivial⟩ (by kernel_rfl))
def Gl (x0:Int→Ls→Ls→Int→Bool→Prop) (x1:Bool→Prop):Nat→Int→Ls→Ls→Int→Prop
 | 0,_,_,_,_=>False
 | n+1,b,c,d,e=>
 (aG (decide (e<(((length d):Nat):Int))) (asr (decide (0≤e)) (asr (decide (e<(((length d):Nat):Int))) (lt (getD d (e.toNat) .nils) (fun f=>(asr (aJ zI f) (aG ((aS f)==0) (x1 false) (lt (i64.wrap (e+1)) (Gl x0 x1 n b c d)))))))) (x0 b c d e false))
def Sr (b:Int) (c d:Ls) (K:Bool→Prop):Prop:=
 (∃ n:Nat,Gl (fun e f g h i=>(K true)) K n b c d 0)
def zL:mG:=Sr
def vw (Q:Qx):Int→Ls→Ls→Int→Bool→Prop:=(fun b c d e f=>Q (.exit 0) [(1,.box (.agg [(ic b),(.data c),(.data d)])),(3,.v (ic e)),(8,.v (.bool f))] [])
def vz (Q:Qx):Bool→Prop:=(fun b=>Q .ret [(2,.v (.bool b))] [])
def B7 (Q:Qx):List St:=[⟨(pS hN (fX 1 iF (fV 3 eF fN)) fN),Gl (vw Q) (vz Q)⟩]
def B8:LP:=jF [(42667800,B7)]
def Ss (e:Es):SE:=sE (E e) [] (B8)
theorem B9 (e:Es) (he:EG e):SEOk (bW (E e)) (Ss e):=bZ (aM.uni _) trivial trivial he.ok
theorem wa (e:Es):hO (Ss e) 5 a Lm false (B7):=fun _=>⟨fun _=>by kernel_rfl,fun _ _=>by kernel_rfl,trivial⟩
theorem we (e:Es) (he:EG e):hZ (bW (E e)) (B8) [] 42667800 (.loop 42667800 Lm):=fun _ _ _=>cJ.st (aM.uni _) (dV (B9 e he) 5) (cS.no _ _) (bC (by kernel_rfl)) (wa e _)
theorem wg (e:Es):cE (Ss e) 6 Pa wN Sr:=fun _ _=>by kernel_rfl
theorem C0 (e:Es) (he:EG e):bO (E e) (wN.pw zL) HZ:=cH he (wg e) (B9 e he) bN.flat (gA (l:=[(42667800,.loop 42667800 Lm)]) ⟨we e he,trivial⟩ (by kernel_rfl))
set_option linter.unusedVariables false
theorem wi (p0:Int) (p1 p2:Ls) (r0:Int) (h:∀ K:Int→Prop,K r0→sM p0 p1 p2 K) (K:Int→Prop):sM p0 p1 p2 K=K r0:=
 Aac ⟨fun k=>cW (B6 [] iE) (as:=[(.agg [(ic p0),(.data p1),(.data p2)])]) (x:=(ic r0)) (fun K' k'=>h (fun r0=>K' (ic r0)) k') (K:=fun x=>match x with | (ic r0)=>K r0 | _=>False) k,h K⟩
theorem wj (p0:Int) (p1 p2:Ls) (r0:Bool) (h:∀ K:Bool→Prop,K r0→zL p0 p1 p2 K) (K:Bool→Prop):zL p0 p1 p2 K=K r0:=
 Aac ⟨fun k=>cW (C0 [] iE) (as:=[(.agg [(ic p0),(.data p1),(.data p2)])]) (x:=(.bool r0)) (fun K' k'=>h (fun r0=>K' (.bool r0)) k') (K:=fun x=>match x with | (.bool r0)=>K r0 | _=>False) k,h K⟩
abbrev zM:Type:=Ls→(Bool→Prop)→Prop
def Gm (a0:mG) (x0:Bool→Prop) (x1:Ls→Int→Bool→Prop):Nat→Ls→Int→Prop
 | 0,_,_=>False
 | n+1,b,c=>
 (aG (decide (c<(((length b):Nat):Int))) (asr (decide (0≤c)) (asr (decide (c<(((length b):Nat):Int))) (asr (aJ zK (getD b (c.toNat) .nils)) (a0 (aS (cQ (getD b (c.toNat) .nils) 0)) (gH (cQ (getD b (c.toNat) .nils) 1)) (gH (cQ (getD b (c.toNat) .nils) 2)) (fun d=>(aG d (x0 true) (Gm a0 x0 x1 n b (i64.wrap (c+1))))))))) (x1 b c false))
def Su (a0:mG) (b:Ls) (K:Bool→Prop):Prop:=
 (∃ n:Nat,Gm a0 K (fun c d e=>(K (decide ((((length c):Nat):Int)>10)))) n b 0)
def zN:zM:=Su Dr
def Gn:Sg:=⟨IN,Bool→Prop,fun K=>(fun r0=>K (.bool r0))⟩
def wk (Q:Qx):Bool→Prop:=(fun b=>Q .ret [(2,.v (.bool b))] [])
def wn (Q:Qx):Ls→Int→Bool→Prop:=(fun b c d=>Q (.exit 0) [(0,.v (.data b)),(3,.v (ic c)),(7,.v (.bool d))] [])
def Je:Pat tT:=pS hN (fV 0 vD (fV 3 eF fN)) fN
def C1 (a0:mG) (Q:Qx):List St:=[⟨Je,Gm a0 (wk Q) (wn Q)⟩]
def C2 (a0:mG):LP:=jF [(4277600,C1 a0)]
def Sv (e:Es) (a0:mG):SE:=sE (E e) [(HV,wN.pw a0)] (C2 a0)
theorem C3 (e:Es) (he:EG e):SEOk (bW (E e)) (Sv e Dr):=bZ (aM.uni _) ⟨(vm e he),trivial⟩ trivial he.ok
theorem wo (e:Es) (a0):hO (Sv e a0) 5 a Lf false (C1 a0):=fun _=>⟨fun _=>by kernel_rfl,fun _ _=>by kernel_rfl,trivial⟩
theorem wq (e:Es) (he:EG e):hZ (bW (E e)) (C2 Dr) [] 4277600 (.loop 4277600 Lf):=fun _ _ _=>cJ.st (aM.uni _) (dV (C3 e he) 5) (cS.no _ _) (bC (by kernel_rfl)) (wo e _ _)
theorem ws (e:Es) (a0):cE (Sv e a0) 6 OW Gn (Su a0):=fun _ _=>by kernel_rfl
theorem C4 (e:Es) (he:EG e):bO (E e) (Gn.pw zN) HW:=cH he (ws e _) (C3 e he) bN.flat (gA (l:=[(4277600,.loop 4277600 Lf)]) ⟨wq e he,trivial⟩ (by kernel_rfl))
def Gp (a0:iZ) (x0:Int→Prop) (x1:Ls→Ls→Int→Bool→Prop):Nat→Ls→Ls→Int→Prop
 | 0,_,_,_=>False
 | n+1,b,c,d=>
 (aG (decide (d<(((length b):Nat):Int))) (asr (decide (0≤d)) (asr (decide (d<(((length b):Nat):Int))) (asr (aJ zK (getD b (d.toNat) .nils)) (a0 (aS (cQ (getD b (d.toNat) .nils) 0)) (gH (cQ (getD b (d.toNat) .nils) 1)) (gH (cQ (getD b (d.toNat) .nils) 2)) (fun e=>(aG (e !=0) (asr (decide (0≤d)) (asr (decide (d<(((length b):Nat):Int))) (asr (aJ zK (getD b (d.toNat) .nils)) (a0 (aS (cQ (getD b (d.toNat) .nils) 0)) (gH (cQ (getD b (d.toNat) .nils) 1)) (gH (cQ (getD b (d.toNat) .nils) 2)) x0)))) (Gp a0 x0 x1 n b c (i64.wrap (d+1))))))))) (x1 b c d false))
def Dt (a0:iZ) (x0:Int→Prop) (x1:Ls→Ls→Int→Bool→Prop):Nat→Ls→Ls→Int→Prop
 | 0,_,_,_=>False
 | n+1,b,c,d=>
 (aG (decide (d<(((length b):Nat):Int))) (asr (decide (0≤d)) (asr (decide (d<(((length b):Nat):Int))) (asr (aJ zK (getD b (d.toNat) .nils)) (asr (decide (0<(((length b):Nat):Int))) (asr (aJ zK (getD b 0 .nils)) (aG ((aS (cQ (getD b (d.toNat) .nils) 0)) !=(aS (cQ (getD b 0 .nils) 0))) (x0 8) (Dt a0 x0 x1 n b c (i64.wrap (d+1))))))))) (x1 b c d false))
def Sw (a0:iZ) (b c:Ls) (K:Int→Prop):Prop:=
 (aG (decide ((((length b):Nat):Int)>6)) (K 4) (aG (decide ((((length c):Nat):Int)>2000)) (K 4) (aG ((((length b):Nat):Int)==0) (K 8) (∃ m0:Nat,Gp a0 K (fun d e f g=>(∃ m1:Nat,Dt a0 K (fun h i j k=>(K 0)) m1 d e 0)) m0 b c 0))))
def zO:kA:=Sw sM
def wt (Q:Qx):Int→Prop:=(fun b=>Q .ret [(2,.v (ic b))] [])
def wu (Q:Qx):Ls→Ls→Int→Bool→Prop:=(fun b c d e=>Q (.exit 0) [(1,.box (.agg [(.data b),(.data c)])),(3,.v (ic d)),(23,.v (.bool e))] [])
def ww (Q:Qx):Int→Prop:=(fun b=>Q .ret [(2,.v (ic b))] [])
def wx (Q:Qx):Ls→Ls→Int→Bool→Prop:=(fun b c d e=>Q (.exit 2) [(1,.box (.agg [(.data b),(.data c)])),(4,.v (ic d)),(43,.v (.bool e))] [])
def C5 (a0:iZ) (Q:Qx):List St:=[⟨(pS hN (fX 1 (vA lJ) (fV 3 eF fN)) fN),Gp a0 (wt Q) (wu Q)⟩]
def C6 (a0:iZ) (Q:Qx):List St:=[⟨(pS hN (fX 1 (vA lJ) rD) fN),Dt a0 (ww Q) (wx Q)⟩]
def Sx (a0:iZ):LP:=jF [(6981300,C5 a0),(6981301,C6 a0)]
def Ms (e:Es) (a0:iZ):SE:=sE (E e) [(Fa,zG.pw a0)] (Sx a0)
theorem Sy (e:Es) (he:EG e):SEOk (bW (E e)) (Ms e sM):=bZ (aM.uni _) ⟨(B6 e he),trivial⟩ trivial he.ok
theorem wy (e:Es) (a0):hO (Ms e a0) 5 a Lk false (C5 a0):=fun _=>⟨fun _=>by kernel_rfl,fun _ _=>by kernel_rfl,trivial⟩
theorem wz (e:Es) (he:EG e):hZ (bW (E e)) (Sx sM) [] 6981300 (.loop 6981300 Lk):=fun _ _ _=>cJ.st (aM.uni _) (dV (Sy e he) 5) (cS.no _ _) (bC (by kernel_rfl)) (wy e _ _)
theorem xa (e:Es) (a0):hO (Ms e a0) 5 a Ll false (C6 a0):=fun _=>⟨fun _=>by kernel_rfl,fun _ _=>by kernel_rfl,trivial⟩
theorem xb (e:Es) (he:EG e):hZ (bW (E e)) (Sx sM) [] 6981301 (.loop 6981301 Ll):=fun _ _ _=>cJ.st (aM.uni _) (dV (Sy e he) 5) (cS.no _ _) (bC (by kernel_rfl)) (xa e _ _)
theorem xc (e:Es) (a0):cE (Ms e a0) 6 OZ Dq (Sw a0):=fun _ _=>by kernel_rfl
theorem C7 (e:Es) (he:EG e):bO (E e) (Dq.pw zO) HY:=cH he (xc e _) (Sy e he) bN.flat (gA (l:=[(6981300,.loop 6981300 Lk),(6981301,.loop 6981301 Ll)]) ⟨wz e he,xb e he,trivial⟩ (by kernel_rfl))
set_option linter.unusedVariables false
theorem xd (p0:Ls) (r0:Bool) (h:∀ K:Bool→Prop,K r0→zN p0 K) (K:Bool→Prop):zN p0 K=K r0:=
 Aac ⟨fun k=>cW (C4 [] iE) (as:=[(.data p0)]) (x:=(.bool r0)) (fun K' k'=>h (fun r0=>K' (.bool r0)) k') (K:=fun x=>match x with | (.bool r0)=>K r0 | _=>False) k,h K⟩
theorem xe (p0 p1:Ls) (r0:Int) (h:∀ K:Int→Prop,K r0→zO p0 p1 K) (K:Int→Prop):zO p0 p1 K=K r0:=
 Aac ⟨fun k=>cW (C7 [] iE) (as:=[(.agg [(.data p0),(.data p1)])]) (x:=(ic r0)) (fun K' k'=>h (fun r0=>K' (ic r0)) k') (K:=fun x=>match x with | (ic r0)=>K r0 | _=>False) k,h K⟩
abbrev sN:Type:=Ls→Ls→(Bool→Prop)→Prop
def Sz (x0:Bool→Prop) (x1:Ls→Ls→Int→Bool→Prop):Nat→Ls→Ls→Int→Prop
 | 0,_,_,_=>False
 | n+1,b,c,d=>
 (aG (decide (d<(((length b):Nat):Int))) (asr (decide (0≤d)) (asr (decide (d<(((length b):Nat):Int))) (asr (aJ zI (getD b (d.toNat) .nils)) (asr (decide (0≤d)) (asr (decide (d<(((length c):Nat):Int))) (asr (aJ zI (getD c (d.toNat) .nils)) (aG ((aS (getD b (d.toNat) .nils)) !=(aS (getD c (d.toNat) .nils))) (x0 false) (Sz x0 x1 n b c (i64.wrap (d+1)))))))))) (x1 b c d false))
def SA (b c:Ls) (K:Bool→Prop):Prop:=
 (aG ((((length b):Nat):Int) !=(((length c):Nat):Int)) (K false) (∃ n:Nat,Sz K (fun d e f g=>(K true)) n b c 0))
def Gq:sN:=SA
def uG:Sg:=⟨lJ,Bool→Prop,fun K=>(fun r0=>K (.bool r0))⟩
def xf (Q:Qx):Bool→Prop:=(fun b=>Q .ret [(4,.v (.bool b))] [])
def xg (Q:Qx):Ls→Ls→Int→Bool→Prop:=(fun b c d e=>Q (.exit 0) [(0,.v (.data b)),(1,.v (.data c)),(5,.v (ic d)),(14,.v (.bool e))] [])
def uH:Pat aF:=fV 5 eF fN
def Jf:Pat tT:=pS hN (fV 0 vD (fV 1 vD uH)) fN
def C8 (Q:Qx):List St:=[⟨Jf,Sz (xf Q) (xg Q)⟩]
def C9:LP:=jF [(14397100,C8)]
def SB (e:Es):SE:=sE (E e) [] (C9)
theorem D0 (e:Es) (he:EG e):SEOk (bW (E e)) (SB e):=bZ (aM.uni _) trivial trivial he.ok
theorem xh (e:Es):hO (SB e) 5 a LQ false (C8):=fun _=>⟨fun _=>by kernel_rfl,fun _ _=>by kernel_rfl,trivial⟩
theorem xi (e:Es) (he:EG e):hZ (bW (E e)) (C9) [] 14397100 (.loop 14397100 LQ):=fun _ _ _=>cJ.st (aM.uni _) (dV (D0 e he) 5) (cS.no _ _) (bC (by kernel_rfl)) (xh e _)
theorem xj (e:Es):cE (SB e) 6 Qy uG SA:=fun _ _=>by kernel_rfl
theorem D3 (e:Es) (he:EG e):bO (E e) (uG.pw Gq) Ir:=cH he (xj e) (D0 e he) bN.flat (gA (l:=[(14397100,.loop 14397100 LQ)]) ⟨xi e he,trivial⟩ (by kernel_rfl))
set_option linter.unusedVariables false
theorem xk (p0 p1:Ls) (r0:Bool) (h:∀ K:Bool→Prop,K r0→Gq p0 p1 K) (K:Bool→Prop):Gq p0 p1 K=K r0:=
 Aac ⟨fun k=>cW (D3 [] iE) (as:=[(.data p0),(.data p1)]) (x:=(.bool r0)) (fun K' k'=>h (fun r0=>K' (.bool r0)) k') (K:=fun x=>match x with | (.bool r0)=>K r0 | _=>False) k,h K⟩
def SC (a0:RK) (b:Int) (c d:Ls) (K:Bool→Prop):Prop:=
 (a0 d 0 K)
def wP:mG:=SC Dk
def xl (e:Es) (a0:RK):SE:=sE (E e) [(AZ,Mm.pw a0)] eC
theorem xm (e:Es) (a0):cE (xl e a0) 6 Po wN (SC a0):=fun _ _=>by kernel_rfl
theorem SD (e:Es) (he:EG e):bO (E e) (wN.pw wP) Ba:=cH he (xm e _) (bZ (aM.uni _) ⟨(RL e he),trivial⟩ trivial he.ok) bN.flat (bC (by kernel_rfl))
def Gr (a0:kA) (a1:mG) (x0:Ls→Int→Int→Bool→Prop) (x1:Int→Prop):Nat→Ls→Int→Int→Prop
 | 0,_,_,_=>False
 | n+1,b,c,d=>
 (aG (decide (d<c)) (asr (decide (0≤d)) (asr (decide (d<(((length b):Nat):Int))) (lt (getD b (d.toNat) .nils) (fun e=>(asr (aJ zK e) (a1 (aS (cQ e 0)) (gH (cQ e 1)) (gH (cQ e 2)) (fun f=>(aG f (x1 d) (lt (i64.wrap (d+1)) (Gr a0 a1 x0 x1 n b c)))))))))) (x0 b c d false))
def SF (a0:kA) (a1:mG) (b:Ls) (K:Int→Prop):Prop:=
 (a0 b ([]:Ls) (fun c=>(aG (c !=0) (K c) (aG (decide ((((length b):Nat):Int)>4)) (K 4) (jn (fun (a:Int→Prop)=>(∃ n:Nat,Gr a0 a1 (fun d e f g=>(a (-1))) a n b (((length b):Nat):Int) 0)) (fun d=>(aG (decide (d≥0)) (K 2) (K 0))))))))
def jR:iY:=SF wM wP
def xn (Q:Qx):Ls→Int→Int→Bool→Prop:=(fun b c d e=>Q (.exit 0) [(0,.v (.data b)),(1,.v (.fn (.func Ba) [] [])),(7,.v (ic c)),(8,.v (ic d)),(9,.v (.bool e))] [])
def xo (Q:Qx):Int→Prop:=(fun b=>Q .ret [(4,.v (ic b))] [])
def D4 (a0:kA) (a1:mG) (Q:Qx):List St:=[⟨(pS hN (fV 0 vD (fV 1 (vF Ba lN lN) Di)) fN),Gr a0 a1 (xn Q) (xo Q)⟩]
def SG (a0:kA) (a1:mG):LP:=jF [(72162200,D4 a0 a1)]
def D5 (e:Es) (a0:kA) (a1:mG):SE:=⟨(E e),yiW [(Fe,Dq.pw a0),(Ba,wN.pw a1)],yfD [(KZ,Ly)],SG a0 a1,fun _=>none⟩
def D6 (e:Es) (a0:kA) (a1:mG):SE:=⟨(E e),yiW [(Fe,Dq.pw a0),(Ba,wN.pw a1)],yfD [(KZ,Ly),(OO,Pl)],SG a0 a1,fun _=>none⟩
theorem xp (e:Es) (he:EG e):SEOk (bW (E e)) (D5 e wM wP):=bZ (aM.uni _) ⟨(RZ e he),(SD e he),trivial⟩ ⟨⟨by kernel_rfl,by kernel_rfl,rfl,fun as=>kR (by kernel_rfl) as,he.num _ (by kernel_rfl),by kernel_rfl,(bC (by kernel_rfl))⟩,trivial⟩ he.ok
theorem xq (e:Es) (a0 a1):hO (D5 e a0 a1) 5 a Lx false (D4 a0 a1):=fun _=>⟨fun _=>by kernel_rfl,fun _ _=>by kernel_rfl,trivial⟩
theorem xr (e:Es) (he:EG e):hZ (bW (E e)) (SG wM wP) [] 72162200 (.loop 72162200 Lx):=fun _ _ _=>cJ.st (aM.uni _) (dV (xp e he) 5) (cS.no _ _) (bC (by kernel_rfl)) (xq e _ _ _)
theorem xt (e:Es) (he:EG e):SEOk (bW (E e)) (D6 e wM wP):=bZ (aM.uni _) ⟨(RZ e he),(SD e he),trivial⟩ ⟨⟨by kernel_rfl,by kernel_rfl,rfl,fun as=>kR (by kernel_rfl) as,he.num _ (by kernel_rfl),by kernel_rfl,(bC (by kernel_rfl))⟩,⟨by kernel_rfl,by kernel_rfl,rfl,fun as=>kR (by kernel_rfl) as,he.num _ (by kernel_rfl),by kernel_rfl,(gA (l:=[(72162200,.loop 72162200 Lx)]) ⟨xr e he,trivial⟩ (by kernel_rfl))⟩,trivial⟩ he.ok
theorem xu (e:Es) (a0 a1):cE (D6 e a0 a1) 6 Pp lY (SF a0 a1):=fun _ _=>by kernel_rfl
theorem Mt (e:Es) (he:EG e):bO (E e) (lY.pw jR) Bb:=cH he (xu e _ _) (xt e he) bN.flat (bC (by kernel_rfl))
def zP (p0 p1:Ls) (K:Int→Prop):Prop:=
 ∃ r0,K r0∧∀ e:Es,EG e→kH (E e) qQ [(.data p0),(.data p1)] (.int .i64 r0)
def Gs:Sg:=⟨lJ,Int→Prop,fun K=>(fun r0=>K (ic r0))⟩
theorem SH (e:Es) (he:EG e):AY (E e) (Gs.pw zP) qQ:=fun as K h=>by obtain ⟨a,e1,r0,hk,ha⟩:=Sg.inv h;subst e1;exact ⟨_,hk,ha e he⟩
def D7 (b:Int) (K:Int→Int→Prop):Prop:=
 (K b 1)
def lZ:fS:=D7
def xw (e:Es):SE:=sE (E e) [] eC
theorem xx (e:Es):cE (xw e) 6 Pt nF D7:=fun _ _=>by kernel_rfl
theorem Gt (e:Es) (he:EG e):bO (E e) (nF.pw lZ) mO:=cH he (xx e) (bZ (aM.uni _) trivial trivial he.ok) bN.flat (bC (by kernel_rfl))
abbrev wQ:Type:=Int→Ls→Ls→Ls→J4 (Int→Int→Int→(J4 (Prop))→Prop)
def SI (a0:fS) (a1 a2 a3 a4:jZ) (b:Int) (c d e:Ls) (f g h i j k l:Int) (K:J4 (Prop)):Prop:=
 (asr (decide (0≤g)) (asr (decide (g<(((length d):Nat):Int))) (lt (getD d (g.toNat) .nils) (fun m=>(asr (aJ zI m) (a0 (aS m) (fun o p=>(asr (decide (0≤h)) (asr (decide (h<(((length d):Nat):Int))) (lt (getD d (h.toNat) .nils) (fun q=>(asr (aJ zI q) (a0 (aS q) (fun r s=>(asr (decide (0≤g)) (asr (decide (g<(((length c):Nat):Int))) (lt (getD c (g.toNat) .nils) (fun t=>(asr (aJ zI t) (a0 (aS t) (fun u v=>(a1 i j u v (fun w z A=>(a2 w z o p (fun B C D=>(asr (decide (0≤g)) (asr (decide (g<(((length e):Nat):Int))) (lt (getD e (g.toNat) .nils) (fun E=>(asr (aJ zI E) (asr (decide (0≤h)) (asr (decide (h<(((length e):Nat):Int))) (lt (getD e (h.toNat) .nils) (fun F=>(asr (aJ zI F) (lt (i64.wrap ((aS E)-(aS F))) (fun G=>(a0 G (fun H I=>(a3 B C H I (fun J L M=>(a2 k l o p (fun N O P=>(a0 f (fun R S=>(a3 N O R S (fun T U V=>(a4 J L r s (fun W X Y=>(asr (decide (0≤h)) (asr (decide (h<(((length c):Nat):Int))) (lt (getD c (h.toNat) .nils) (fun Z=>(asr (aJ zI Z) (a0 (aS Z) (fun y0 y1=>(a3 W X y0 y1 (fun y2 y3 y4=>(a4 T U r s (fun y5 y6 y7=>(K y2 y3 y5 y6)))))))))))))))))))))))))))))))))))))))))))))))))))))))))))))
def mH:wQ:=SI lZ qZ nE qY rB
def SJ:Sg:=⟨(lC (vX 0 (vA (lC eF (lC vD (lC vD (lC vD (lC eF IL))))))) (lC (vA (lC eF (lC eF IL))) lN)),Int→Int→Int→Int→Prop,fun K=>(fun r0 r1 r2 r3=>K (.agg [(ic r0),(ic r1),(ic r2),(ic r3)]))⟩
def xy (e:Es) (a0:fS) (a1 a2 a3 a4:jZ):SE:=sE (E e) [(mO,nF.pw a0),(tW,jQ.pw a1),(pU,jQ.pw a2),(sG,jQ.pw a3),(tX,jQ.pw a4)] eC
theorem xz (e:Es) (a0 a1 a2 a3 a4):cE (xy e a0 a1 a2 a3 a4) 6 PX SJ (SI a0 a1 a2 a3 a4):=fun _ _=>by kernel_rfl
theorem SK (e:Es) (he:EG e):bO (E e) (SJ.pw mH) Fg:=cH he (xz e _ _ _ _ _) (bZ (aM.uni _) ⟨(Gt e he),(IV e he),(FY e he),(IU e he),(IW e he),trivial⟩ trivial he.ok) bN.flat (bC (by kernel_rfl))
abbrev sO:Type:=J4 (Int→(Int→Int→Prop)→Prop)
def SL (a0:fS) (a1 a2:jZ) (b c d e f:Int) (K:Int→Int→Prop):Prop:=
 (a0 f (fun g h=>(a1 g h b c (fun i j k=>(a2 i j d e (fun l m o=>(K l m)))))))
def gI:sO:=SL lZ qZ rB
def SM:Sg:=⟨(lC (vA (lC eF (lC eF IL))) Dg),Int→Int→Prop,fun K=>(fun r0 r1=>K (.agg [(ic r0),(ic r1)]))⟩
def ya (e:Es) (a0:fS) (a1 a2:jZ):SE:=sE (E e) [(mO,nF.pw a0),(tW,jQ.pw a1),(tX,jQ.pw a2)] eC
theorem yc (e:Es) (a0 a1 a2):cE (ya e a0 a1 a2) 6 PY SM (SL a0 a1 a2):=fun _ _=>by kernel_rfl
theorem SN (e:Es) (he:EG e):bO (E e) (SM.pw gI) Cv:=cH he (yc e _ _ _) (bZ (aM.uni _) ⟨(Gt e he),(IV e he),(IW e he),trivial⟩ trivial he.ok) bN.flat (bC (by kernel_rfl))
def SO (a0:IX) (b c d e:Int) (K:Bool→Prop):Prop:=
 (a0 b c d e (fun f g=>(K (decide (f<0)))))
def gO:fM:=SO Bv
def yd (e:Es) (a0:IX):SE:=sE (E e) [(Cw,Mh.pw a0)] eC
theorem ye (e:Es) (a0):cE (yd e a0) 6 Qf sK (SO a0):=fun _ _=>by kernel_rfl
theorem Mu (e:Es) (he:EG e):bO (E e) (sK.pw gO) Cx:=cH he (ye e _) (bZ (aM.uni _) ⟨(Ry e he),trivial⟩ trivial he.ok) bN.flat (bC (by kernel_rfl))
abbrev D8:Type:=Ls→Ls→(Int→Int→Prop)→Prop
def lK (p0 p1:Ls) (K:Int→Int→Prop):Prop:=
 ∃ r0 r1,K r0 r1∧∀ e:Es,EG e→qP (E e) sH [(.data p0),(.data p1)] (.agg [(.int .i64 r0),(.int .i64 r1)])
def Mv:Sg:=⟨lJ,Int→Int→Prop,fun K=>(fun r0 r1=>K (.agg [(ic r0),(ic r1)]))⟩
theorem Jg (e:Es) (he:EG e):bO (E e) (Mv.pw lK) sH:=fun as K h=>by obtain ⟨a,e1,r0,r1,hk,ha⟩:=Sg.inv h;subst e1;exact ⟨_,hk,ha e he⟩
abbrev zU:Type:=Ls→Ls→(Int→Int→Int→Prop)→Prop
def Jh (a0:kA) (a1:D8) (b c:Ls) (K:Int→Int→Int→Prop):Prop:=
 (a0 b c (fun d=>(aG (d !=0) (K 0 0 d) (a1 b c (fun e f=>(K e f 0))))))
def ybG:zU:=Jh zP lK
def Mw:Sg:=⟨lJ,Int→Int→Int→Prop,fun K=>(fun r0 r1 r2=>K (.tup [(.agg [(ic r0),(ic r1)]),(ic r2)]))⟩
def yf (e:Es) (a0:kA) (a1:D8):SE:=sE (E e) [(qQ,Gs.pw a0),(sH,Mv.pw a1)] eC
theorem yg (e:Es) (a0 a1):cE (yf e a0 a1) 6 Qj Mw (Jh a0 a1):=fun _ _=>by kernel_rfl
theorem D9 (e:Es) (he:EG e):AY (E e) (Mw.pw ybG) wA:=cH he (yg e _ _) (bZ (aM.solo _) ⟨(SH e he),(bO.solo (Jg e he)),trivial⟩ trivial he.ok) bN.flat (bC (by kernel_rfl))
abbrev SP:Type:=Ls→Ls→Int→Int→(Ls→Int→Prop)→Prop
def Gu (a0:kA) (a1:fL) (a2:fS) (a3:Dl) (a4:jZ) (a5:Dn) (x2:Ls→Ls→J4 (Ls→Int→Int→Bool→Prop)) (x3:Ls→Int→Prop):Nat→Ls→Ls→J4 (Ls→Int→Int→Prop)
 | 0,_,_,_,_,_,_,_,_,_=>False
 | n+1,b,c,d,e,f,g,h,i,j=>
 (aG (decide (j<i)) (asr (decide (0≤j)) (asr (decide (j<(((length h):Nat):Int))) (lt (getD h (j.toNat) .nils) (fun k=>(asr (aJ zI k) (asr (decide (0≤(aS k))) (asr (decide ((aS k)<(((length c):Nat):Int))) (lt (getD c ((aS k).toNat) .nils) (fun l=>(asr (aJ zK l) (a3 (aS (cQ l 0)) (gH (cQ l 1)) (gH (cQ l 2)) (fun m o=>(a2 m (fun p q=>(a4 d e p q (fun r s t=>(jn (fun (a:Int→Int→Int→Prop)=>(aG (t==0) (asr (decide (0≤(aS k))) (asr (decide ((aS k)<(((length c):Nat):Int))) (lt (getD c ((aS k).toNat) .nils) (fun u=>(asr (aJ zK u) (a5 (aS (cQ u 0)) (gH (cQ u 1)) (gH (cQ u 2)) f g r s a)))))) (a f g t))) (fun u v w=>(aG (w !=0) (x3 b w) (asr (decide ((length b)=(length b))) (asr (decide ((0+(length b))≤(length b))) (asr (!(decide (((0+(length b))+1)≤(length b)))) (asr (decide ((length b)=(length b))) (asr (decide ((((length b)+1)+64)*(16+1)≤room)) (lt (i64.wrap (j+1)) (fun z=>(asr (decide ((length (b++([(.agg [(ic u),(ic v)])]:Ls)))=length (b++([(.agg [(ic u),(ic v)])]:Ls)))&&decide ((length (b++([(.agg [(ic u),(ic v)])]:Ls)))=length (b++([(.agg [(ic u),(ic v)])]:Ls)))) (Gu a0 a1 a2 a3 a4 a5 x2 x3 n (b++([(.agg [(ic u),(ic v)])]:Ls)) c d e u v h i z)))))))))))))))))))))))))))) (x2 b c d e f g h i j false))
def SQ (a0:kA) (a1:fL) (a2:fS) (a3:Dl) (a4:jZ) (a5:Dn) (x0:Ls→J4 (Ls→Int→Int→Bool→Prop)) (x1:Int→Prop) (x2:Ls→Ls→J4 (Ls→Int→Int→Bool→Prop)) (x3:Ls→Int→Prop):Nat→Ls→J4 (Ls→Int→Int→Prop)
 | 0,_,_,_,_,_,_,_,_=>False
 | n+1,b,c,d,e,f,g,h,i=>
 (aG (decide (i<h)) (asr (decide (0≤i)) (asr (decide (i<(((length g):Nat):Int))) (lt (getD g (i.toNat) .nils) (fun j=>(asr (aJ zI j) (asr (decide (0≤(aS j))) (asr (decide ((aS j)<(((length b):Nat):Int))) (lt (getD b ((aS j).toNat) .nils) (fun k=>(asr (aJ zK k) (a3 (aS (cQ k 0)) (gH (cQ k 1)) (gH (cQ k 2)) (fun l m=>(a2 l (fun o p=>(a4 c d o p (fun q r s=>(jn (fun (a:Int→Int→Int→Prop)=>(aG (s==0) (asr (decide (0≤(aS j))) (asr (decide ((aS j)<(((length b):Nat):Int))) (lt (getD b ((aS j).toNat) .nils) (fun t=>(asr (aJ zK t) (a5 (aS (cQ t 0)) (gH (cQ t 1)) (gH (cQ t 2)) e f q r a)))))) (a e f s))) (fun t u v=>(aG (v !=0) (x1 v) (lt (i64.wrap (i+1)) (fun w=>(asr (decide (1=length ([(.agg [(ic t),(ic u)])]:Ls))&&decide (1=length ([(.agg [(ic t),(ic u)])]:Ls))) (Gu a0 a1 a2 a3 a4 a5 x2 x3 n ([(.agg [(ic t),(ic u)])]:Ls) b c d t u g h w))))))))))))))))))))))) (x0 b c d e f g h i false))
def SR (a0:kA) (a1:fL) (a2:fS) (a3:Dl) (a4:jZ) (a5:Dn) (b c:Ls) (d e:Int) (K:Ls→Int→Prop):Prop:=
 (a0 b c (fun f=>(aG (f !=0) (K ([]:Ls) f) (jn (fun (a:Bool→Prop)=>(a1 d e (fun g=>(aG (g !=0) (a true) (a (decide (d<0))))))) (fun g=>(aG g (K ([]:Ls) 2) (a2 0 (fun h i=>(∃ n:Nat,SQ a0 a1 a2 a3 a4 a5 (fun j k l m o p q r s=>(K ([]:Ls) 0)) (fun j=>(K ([]:Ls) j)) (fun j k l m o p q r s t=>(asr (decide ((length j)=(length j))) (asr (decide ((0+(length j))≤(length j))) (K (take (length j) j) 0)))) (fun j k=>(K ([]:Ls) k)) n b d e h i c (((length c):Nat):Int) 0)))))))))
def ybV:SP:=SR zP nD lZ uF nE wL
def SS:Sg:=⟨(lC vD (lC vD LY)),Ls→Int→Prop,fun K=>(fun r0 r1=>K (.tup [(.data r0),(ic r1)]))⟩
def yh (Q:Qx):Ls→J4 (Ls→Int→Int→Bool→Prop ):=(fun b c d e f g h i j=>Q (.exit 0) [(0,.v (.data b)),(5,.box (.agg [(ic c),(ic d)])),(9,.box (.agg [(ic e),(ic f)])),(10,.v .nils),(32,.v (.data g)),(33,.v (ic h)),(34,.v (ic i)),(35,.v (.bool j))] [])
def yi (Q:Qx):Int→Prop:=(fun b=>Q .ret [(6,.v .nils),(7,.v (ic b))] [])
def E0 (Q:Qx):Ls→Ls→J4 (Ls→Int→Int→Bool→Prop ):=(fun b c d e f g h i j k=>Q (.exit 0) [(0,.v (.data c)),(5,.box (.agg [(ic d),(ic e)])),(9,.box (.agg [(ic f),(ic g)])),(10,.v (.own 0 0 (length b) (length b) none)),(32,.v (.data h)),(33,.v (ic i)),(34,.v (ic j)),(35,.v (.bool k))] [⟨false,true,2,b⟩])
def E4 (Q:Qx):Ls→Int→Prop:=(fun b c=>Q .ret [(6,.v .nils),(7,.v (ic c))] [⟨false,true,2,b⟩])
def Ji:Pat aF:=fV 32 vD (fV 33 eF (fV 34 eF fN))
def uI:jY:=vW 0 (nK 0) (nT 0) (nT 0)
def E5 (a0:kA) (a1:fL) (a2:fS) (a3:Dl) (a4:jZ) (a5:Dn) (Q:Qx):List St:=[⟨(pS hN (fV 0 vD (fX 5 uD (fX 9 uD (fV 10 Cq Ji)))) fN),SQ a0 a1 a2 a3 a4 a5 (yh Q) (yi Q) (E0 Q) (E4 Q)⟩,⟨(pS (hB false true 2 rA hN) (fV 0 vD (fX 5 uD (fX 9 uD (fV 10 uI Ji)))) fN),Gu a0 a1 a2 a3 a4 a5 (E0 Q) (E4 Q)⟩]
def E6 (a0:kA) (a1:fL) (a2:fS) (a3:Dl) (a4:jZ) (a5:Dn):LP:=jF [(60678000,E5 a0 a1 a2 a3 a4 a5)]
def ST (e:Es) (a0:kA) (a1:fL) (a2:fS) (a3:Dl) (a4:jZ) (a5:Dn):SE:=sE (E e) [(qQ,Gs.pw a0),(qR,wI.pw a1),(mO,nF.pw a2),(Il,RM.pw a3),(pU,jQ.pw a4),(Im,RT.pw a5)] (E6 a0 a1 a2 a3 a4 a5)
theorem E7 (e:Es) (he:EG e):SEOk (eK (E e)) (ST e zP nD lZ uF nE wL):=bZ (aM.solo _) ⟨(SH e he),(bO.solo (FU e he)),(bO.solo (Gt e he)),(bO.solo (ZX e he)),(bO.solo (FY e he)),(bO.solo (A3 e he)),trivial⟩ trivial he.ok
theorem yj (e:Es) (a0 a1 a2 a3 a4 a5):hO (ST e a0 a1 a2 a3 a4 a5) 5 a LN false (E5 a0 a1 a2 a3 a4 a5):=fun _=>⟨fun _=>by kernel_rfl,fun _ _=>by kernel_rfl,fun _=>by kernel_rfl,fun _ _=>by kernel_rfl,trivial⟩
theorem ym (e:Es) (he:EG e):hZ (eK (E e)) (E6 zP nD lZ uF nE wL) [] 60678000 (.loop 60678000 LN):=fun _ _ _=>cJ.st (aM.solo _) (dV (E7 e he) 5) (cS.no _ _) (bC (by kernel_rfl)) (yj e _ _ _ _ _ _ _)
theorem yo (e:Es) (a0 a1 a2 a3 a4 a5):cE (ST e a0 a1 a2 a3 a4 a5) 6 Qq SS (SR a0 a1 a2 a3 a4 a5):=fun _ _=>by kernel_rfl
theorem E8 (e:Es) (he:EG e):AY (E e) (SS.pw ybV) Cy:=cH he (yo e _ _ _ _ _ _) (E7 e he) bN.flat (gA (l:=[(60678000,.loop 60678000 LN)]) ⟨ym e he,trivial⟩ (by kernel_rfl))
abbrev By:Type:=Ls→(Ls→Int→Int→Int→Prop)→Prop
def zV (p0:Ls) (K:Ls→Int→Int→Int→Prop):Prop:=
 ∃ r0 r1 r2 r3,K r0 r1 r2 r3∧∀ e:Es,EG e→kH (E e) pV [(.data p0)] (.tup [(.data r0),(.agg [(.int .i64 r1),(.int .i64 r2)]),(.int .i64 r3)])
def SU:Sg:=⟨IN,Ls→Int→Int→Int→Prop,fun K=>(fun r0 r1 r2 r3=>K (.tup [(.data r0),(.agg [(ic r1),(ic r2)]),(ic r3)]))⟩
theorem SV (e:Es) (he:EG e):AY (E e) (SU.pw zV) pV:=fun as K h=>by obtain ⟨a,e1,r0,r1,r2,r3,hk,ha⟩:=Sg.inv h;subst e1;exact ⟨_,hk,ha e he⟩
set_option linter.unusedVariables false
theorem yp (p0:Int) (p1 p2:Ls) (r0:Bool) (h:∀ K:Bool→Prop,K r0→wP p0 p1 p2 K) (K:Bool→Prop):wP p0 p1 p2 K=K r0:=
 Aac ⟨fun k=>cW (SD [] iE) (as:=[(.agg [(ic p0),(.data p1),(.data p2)])]) (x:=(.bool r0)) (fun K' k'=>h (fun r0=>K' (.bool r0)) k') (K:=fun x=>match x with | (.bool r0)=>K r0 | _=>False) k,h K⟩
theorem yq (p0:Ls) (r0:Int) (h:∀ K:Int→Prop,K r0→jR p0 K) (K:Int→Prop):jR p0 K=K r0:=
 Aac ⟨fun k=>cW (Mt [] iE) (as:=[(.data p0)]) (x:=(ic r0)) (fun K' k'=>h (fun r0=>K' (ic r0)) k') (K:=fun x=>match x with | (ic r0)=>K r0 | _=>False) k,h K⟩
theorem yr (p0 p1:Ls) (r0:Int) (h:∀ K:Int→Prop,K r0→zP p0 p1 K) (K:Int→Prop):zP p0 p1 K=K r0:=
 Aac ⟨fun k=>yE (SH [] iE) (as:=[(.data p0),(.data p1)]) (x:=(ic r0)) (fun K' k'=>h (fun r0=>K' (ic r0)) k') (K:=fun x=>match x with | (ic r0)=>K r0 | _=>False) k,h K⟩
theorem yt (p0 p1:Ls) (r0 r1:Int) (h:∀ K:Int→Int→Prop,K r0 r1→lK p0 p1 K) (K:Int→Int→Prop):lK p0 p1 K=K r0 r1:=
 Aac ⟨fun k=>cW (Jg [] iE) (as:=[(.data p0),(.data p1)]) (x:=(.agg [(ic r0),(ic r1)])) (fun K' k'=>h (fun r0 r1=>K' (.agg [(ic r0),(ic r1)])) k') (K:=fun x=>match x with | (.agg [(ic r0),(ic r1)])=>K r0 r1 | _=>False) k,h K⟩
theorem E9 (p0 p1:Ls) (p2 p3:Int) (r0:Ls) (r1:Int) (h:∀ K:Ls→Int→Prop,K r0 r1→ybV p0 p1 p2 p3 K) (K:Ls→Int→Prop):ybV p0 p1 p2 p3 K=K r0 r1:=
 Aac ⟨fun k=>yE (E8 [] iE) (as:=[(.data p0),(.data p1),(.agg [(ic p2),(ic p3)])]) (x:=(.tup [(.data r0),(ic r1)])) (fun K' k'=>h (fun r0 r1=>K' (.tup [(.data r0),(ic r1)])) k') (K:=fun x=>match x with | (.tup [(.data r0),(ic r1)])=>K r0 r1 | _=>False) k,h K⟩
theorem F4 (p0 r0:Ls) (r1 r2 r3:Int) (h:∀ K:Ls→Int→Int→Int→Prop,K r0 r1 r2 r3→zV p0 K) (K:Ls→Int→Int→Int→Prop):zV p0 K=K r0 r1 r2 r3:=
 Aac ⟨fun k=>yE (SV [] iE) (as:=[(.data p0)]) (x:=(.tup [(.data r0),(.agg [(ic r1),(ic r2)]),(ic r3)])) (fun K' k'=>h (fun r0 r1 r2 r3=>K' (.tup [(.data r0),(.agg [(ic r1),(ic r2)]),(ic r3)])) k') (K:=fun x=>match x with | (.tup [(.data r0),(.agg [(ic r1),(ic r2)]),(ic r3)])=>K r0 r1 r2 r3 | _=>False) k,h K⟩
def Gv (a0:zM) (x0:Ls→Int→Bool→Prop) (x1:Bool→Prop):Nat→Ls→Int→Prop
 | 0,_,_=>False
 | n+1,b,c=>
 (aG (decide (c<(((length b):Nat):Int))) (jn (fun (a:Bool→Prop)=>(asr (decide (0≤c)) (asr (decide (c<(((length b):Nat):Int))) (lt (getD b (c.toNat) .nils) (fun d=>(asr (aJ zK d) (aG (decide ((((length (gH (cQ d 1))):Nat):Int)>14)) (asr (decide (0≤c)) (asr (decide (c<(((length b):Nat):Int))) (lt (getD b (c.toNat) .nils) (fun e=>(asr (aJ zK e) (a (decide ((((length (gH (cQ e 1))):Nat):Int)≤40)))))))) (a false)))))))) (fun d=>(aG d (x1 true) (lt (i64.wrap (c+1)) (Gv a0 x0 x1 n b))))) (x0 b c false))
def SW (a0:zM) (b:Ls) (K:Bool→Prop):Prop:=
 (∃ n:Nat,Gv a0 (fun c d e=>(a0 c K)) K n b 0)
def Gw:zM:=SW zN
def yu (Q:Qx):Ls→Int→Bool→Prop:=(fun b c d=>Q (.exit 0) [(0,.v (.data b)),(3,.v (ic c)),(7,.v (.bool d))] [])
def yv (Q:Qx):Bool→Prop:=(fun b=>Q .ret [(2,.v (.bool b))] [])
def F5 (a0:zM) (Q:Qx):List St:=[⟨Je,Gv a0 (yu Q) (yv Q)⟩]
def F6 (a0:zM):LP:=jF [(60274600,F5 a0)]
def SX (e:Es) (a0:zM):SE:=sE (E e) [(HW,Gn.pw a0)] (F6 a0)
theorem F7 (e:Es) (he:EG e):SEOk (bW (E e)) (SX e zN):=bZ (aM.uni _) ⟨(C4 e he),trivial⟩ trivial he.ok
theorem yw (e:Es) (a0):hO (SX e a0) 5 a Lg false (F5 a0):=fun _=>⟨fun _=>by kernel_rfl,fun _ _=>by kernel_rfl,trivial⟩
theorem yx (e:Es) (he:EG e):hZ (bW (E e)) (F6 zN) [] 60274600 (.loop 60274600 Lg):=fun _ _ _=>cJ.st (aM.uni _) (dV (F7 e he) 5) (cS.no _ _) (bC (by kernel_rfl)) (yw e _ _)
theorem yy (e:Es) (a0):cE (SX e a0) 6 OX Gn (SW a0):=fun _ _=>by kernel_rfl
theorem F8 (e:Es) (he:EG e):bO (E e) (Gn.pw Gw) HX:=cH he (yy e _) (F7 e he) bN.flat (gA (l:=[(60274600,.loop 60274600 Lg)]) ⟨yx e he,trivial⟩ (by kernel_rfl))
def Gx (a0:kA) (a1:mG) (x0:Ls→Int→Bool→Prop) (x1:Int→Prop):Nat→Ls→Int→Prop
 | 0,_,_=>False
 | n+1,b,c=>
 (aG (decide (c<(((length b):Nat):Int))) (asr (decide (0≤c)) (asr (decide (c<(((length b):Nat):Int))) (lt (getD b (c.toNat) .nils) (fun d=>(asr (aJ zK d) (a1 (aS (cQ d 0)) (gH (cQ d 1)) (gH (cQ d 2)) (fun e=>(aG (!e) (x1 2) (lt (i64.wrap (c+1)) (Gx a0 a1 x0 x1 n b)))))))))) (x0 b c false))
def SY (a0:kA) (a1:mG) (b:Ls) (K:Int→Prop):Prop:=
 (a0 b ([]:Ls) (fun c=>(aG (c !=0) (K c) (aG (decide ((((length b):Nat):Int)>4)) (K 4) (∃ n:Nat,Gx a0 a1 (fun d e f=>(K 0)) K n b 0)))))
def Gy:iY:=SY zO zL
def yz (Q:Qx):Ls→Int→Bool→Prop:=(fun b c d=>Q (.exit 0) [(0,.v (.data b)),(4,.v (ic c)),(17,.v (.bool d))] [])
def za (Q:Qx):Int→Prop:=(fun b=>Q .ret [(2,.v (ic b))] [])
def F9 (a0:kA) (a1:mG) (Q:Qx):List St:=[⟨(pS hN (fV 0 vD rD) fN),Gx a0 a1 (yz Q) (za Q)⟩]
end Go.Pf.Vc
