/- Part 3. -/
import Derived.Test.YtfljciocndelnaaGreatEgW2
open Go.IntKind (i64 u8 u64)
open List (length getD take drop replicate set map isEmpty)
namespace Go.Pf.Vc
open Go Go.Pf
def Nb:TFn:=⟨1,[.tmp 2],(zQ (oQ [O 1 (.boxL t0),O 2 (.mv (I 0))] [0,2]) (zQ (zQ (.ops [O 8 (.fad 0 t1),oF 9 1 8,O 10 (.len t9),O 11 (.bin .gtr dH (I 6)),M 12 11,zF 13 12 (.fad 1 t1),zF 14 12 (.load false 1 dI),zF 15 12 (.len dJ),zF 16 12 (.bin .gtr eG (I 2000)),O 17 (.pick cS (.c (.bool true)) dD)] [⟨1,zE,0⟩,⟨6,zE,0⟩] [] (zR 8 9)) (zC fE (zQ (oQ [O 2 (.mv (I 4))] [1,17]) .ret) .skip)) (zQ (zQ (.ops [O 18 (.fad 0 t1),oF 19 1 18,O 20 (.len fJ),O 21 (.bin .eql gB (I 0))] [⟨1,zE,0⟩] [] (zR 17 4)) (zC gC (zQ (oQ [O 2 (.mv (I 8))] [1,21]) .ret) .skip)) (zQ (zQ (.ops [O 22 (.fad 0 t1),oF 23 1 22,O 24 (.len hZ),O 25 (.mv (I 0))] [⟨1,zE,0⟩] [] [21,22]) (zB 0 (.loop 12157600 Jw))) (zQ (zQ (.ops [O 35 (.fad 0 t1),oF 36 1 35,O 37 (.len nA),O 38 (.mv (I 0))] [⟨1,zE,0⟩] [] [23,24,25,26,35]) (zB 2 (.loop 12157601 Jx))) (zQ (oQ [O 2 (.mv (I 0))] [1,36,37,38,39]) .ret))))))⟩
def Jy:TC:=(zQ (oQ [oX 9 .lss 8 7] []) (zQ (zC t9 .skip (.exit 0)) (zQ (zB 1 (zQ (oQ [M 10 8,M 5 10] [9,10]) (zQ (.ops [M 11 1,M 12 0,M 13 5,O 14 (.iad 3 cS dI),oT 15 3 14,O 16 (.call cM [eG])] [⟨3,zK,0⟩,⟨4,zK,0⟩] [] (zR 11 5)) (zC dD (zQ (oQ [M 17 5,M 4 17] [0,1,5,7,8,16,17]) .ret) .skip)))) (oQ [O 18 (.bin .add t8 (I 1)),M 8 18] [5,16,18]))))
def Nc:TFn:=⟨2,[.tmp 4],(zQ (oQ [O 4 (.mv (I 0))] [4]) (zQ (zQ (oQ [M 6 0,O 7 (.len t6),O 8 (.mv (I 0))] [6]) (zB 0 (.loop 72162200 Jy))) (zQ (oQ [O 4 (.mv (I (-1)))] [0,1,7,8,9]) .ret)))⟩
def Jz:TFn:=⟨2,[.tmp 4],(zQ (oQ [O 4 (.mv (.c (.bool false)))] [4]) (zQ (oQ [M 5 0,M 6 1,O 7 (.call (.f MC) [t5,t6]),O 8 (.bin .geq t7 (I 0)),M 4 8] [0,1,5,6,7,8]) .ret))⟩
def JA:TC:=(zQ (oQ [oX 9 .lss 8 7] []) (zQ (zC t9 .skip (.exit 0)) (zQ (zB 1 (zQ (oQ [M 10 8,M 5 10] [9,10]) (zQ (.ops [M 11 1,M 12 0,M 13 5,O 14 (.iad 1 cS dI),oF 15 1 14,oX 16 .eql 11 15] [⟨3,zI,0⟩,⟨4,zI,0⟩] [] (zR 11 5)) (zC dD (zQ (oQ [M 17 5,M 4 17] [0,1,5,7,8,16,17]) .ret) .skip)))) (oQ [O 18 (.bin .add t8 (I 1)),M 8 18] [5,16,18]))))
def Nd:TFn:=⟨2,[.tmp 4],(zQ (oQ [O 4 (.mv (I 0))] [4]) (zQ (zQ (oQ [M 6 0,O 7 (.len t6),O 8 (.mv (I 0))] [6]) (zB 0 (.loop 23412100 JA))) (zQ (oQ [O 4 (.mv (I (-1)))] [0,1,7,8,9]) .ret)))⟩
def Nf:TFn:=⟨2,[.tmp 4],(zQ (oQ [O 4 (.mv (.c (.bool false)))] [4]) (zQ (oQ [M 5 0,M 6 1,O 7 (.call (.f Gb) [t5,t6]),O 8 (.bin .geq t7 (I 0)),M 4 8] [0,1,5,6,7,8]) .ret))⟩
def Ng:TFn:=⟨1,[.tmp 2],(zQ (oQ [O 1 (.boxL t0),O 2 (.mv (.c (.bool false)))] [0,2]) (zQ (.ops [O 3 (.fad 2 t1),oF 4 1 3,O 5 (.call (.f Dn) [t4,(I 0)]),M 2 5] [⟨1,zK,0⟩] [] [1,3,4,5]) .ret))⟩
def Nh:TFn:=⟨1,[.tmp 2],(zQ (oQ [O 2 (.mv (I 0))] [2]) (zQ (zQ (oQ [M 4 0,O 5 (.build [.nils,.nils] [(0,1,t4)]),O 6 (.call (.f Dm) [t5]),M 3 6] [4,5,6]) (zQ (oQ [M 7 3,O 8 (.bin .neq t7 (I 0))] [7]) (zC t8 (zQ (oQ [M 9 3,M 2 9] [0,3,8,9]) .ret) .skip))) (zQ (zQ (oQ [M 10 0,O 11 (.len dH),O 12 (.bin .gtr cM (I 4))] [3,8,10,11]) (zC cS (zQ (oQ [O 2 (.mv (I 4))] [0,12]) .ret) .skip)) (zQ (zQ (oQ [M 13 0,O 14 (.call (.f Jb) [dI,(.f yP)])] [0,12,13]) (zC dJ (zQ (oQ [O 2 (.mv (I 2))] [14]) .ret) .skip)) (zQ (oQ [O 2 (.mv (I 0))] [14]) .ret)))))⟩
def X8:TC:=(zQ (oQ [oX 8 .lss 7 6] []) (zQ (zC t8 .skip (.exit 0)) (zQ (zB 1 (zQ (.ops [O 9 (.iad 1 t5 t7),oF 10 1 9,M 4 10] [⟨0,zI,0⟩,⟨1,zI,0⟩] [] [8,9,10]) (.yret (.seq (.ops [M 11 0,M 12 4,O 13 (.call cM [cS]),O 14 (.un .not dI)] [] [4,11,12,13]) (.cond dJ .ret .skip)) [M 11 0,M 12 4] 13 cM [cS] 14 [4,11,12,13]))) (oQ [O 15 (.bin .add t7 (I 1)),M 7 15] [14,15]))))
def VD:TFn:=⟨2,[],(zQ (oQ [oF 5 1 1,O 6 (.len t5),O 7 (.mv (I 0))] [1]) (zB 0 (.loop 27750900 X8)))⟩
def Ni:TFn:=⟨1,[.tmp 2],(zQ (oQ [O 1 (.boxH true 1 t0),O 2 (.mv (.c .nilf))] [0,2]) (zQ (oQ [O 3 (.mkFn (.func Jc) [] [t1]),M 2 3] [1,3]) .ret))⟩
def X9:TC:=(zQ (oQ [oX 8 .lss 7 6] []) (zQ (zC t8 .skip (.exit 0)) (zQ (zB 1 (zQ (.ops [O 9 (.iad 1 t5 t7),oF 10 1 9,M 4 10] [⟨0,zI,0⟩,⟨1,zI,0⟩] [] [8,9,10]) (.yret (.seq (.ops [M 11 0,M 12 4,O 13 (.call cM [cS]),O 14 (.un .not dI)] [] [4,11,12,13]) (.cond dJ .ret .skip)) [M 11 0,M 12 4] 13 cM [cS] 14 [4,11,12,13]))) (oQ [O 15 (.bin .add t7 (I 1)),M 7 15] [14,15]))))
def Y3:TC:=(zQ (oQ [oF 5 1 1,O 6 (.len t5),O 7 (.mv (I 0))] [1]) (zB 0 (.loop 32280200 X9)))
def Y4:TC:=(oQ [M 5 7] [4,6,7])
def Y5:TC:=(zB 1 (.ops [oF 8 1 2,M 9 5,O 10 (.bD 1 (.int .i64 (0)) 1 [(0,t9)]),O 11 (.app true 1 8 t8 dH),zS 1 t2 cM] [⟨0,zD,0⟩,⟨4,zD,0⟩] [] [2,5,8,9,10,11]))
def VE:TFn:=⟨2,[.tmp 4],(zQ (oQ [O 2 (.boxH false 1 t0),O 4 (.mv (.c .nils))] [0]) (zQ (zQ (oQ [M 6 1] [1]) (zB 0 (.rangeF t6 Jc 2 Y3 [7] Y4 Y5))) (zQ (.ops [oF 12 1 2,M 4 12] [⟨0,zD,0⟩] [] [2,6,12]) .ret)))⟩
def VF:TFn:=⟨1,[.tmp 2],(zQ (oQ [O 2 (.mv (.c .nils))] [2]) (zQ (oQ [M 3 0,O 4 (.call (.f Vx) [(.c .nils),t3]),M 2 4] [0,3,4]) .ret))⟩
def VG:TFn:=⟨1,[.tmp 2],(zQ (oQ [O 2 (.mv (I 0))] []) (zQ (zQ (oQ [M 3 0,O 4 (.bin .geq t3 (.c (.int .u32 (65536))))] [3]) (zC t4 (zQ (oQ [M 5 0,O 6 (.bin .shr t5 (.c (.int .u64 (16)))),M 0 6] [2,4,5,6]) (oQ [O 2 (.mv (I 16))] [])) .skip)) (zQ (zQ (oQ [M 7 0,O 8 (.bin .geq t7 (.c (.int .u32 (256))))] [4,7]) (zC t8 (zQ (oQ [M 9 0,O 10 (.bin .shr t9 (.c (.int .u64 (8)))),M 0 10] [8,9,10]) (oQ [M 11 2,O 12 (.bin .add cM (I 8)),M 2 12] [11,12])) .skip)) (zQ (oQ [M 13 2,M 14 0,O 15 (.conv .u8 dJ),O 16 (.idx false 256 1 (.c (.agg [(.int .u8 (0)),(.int .u8 (1)),(.int .u8 (2)),(.int .u8 (2)),(.int .u8 (3)),(.int .u8 (3)),(.int .u8 (3)),(.int .u8 (3)),(.int .u8 (4)),(.int .u8 (4)),(.int .u8 (4)),(.int .u8 (4)),(.int .u8 (4)),(.int .u8 (4)),(.int .u8 (4)),(.int .u8 (4)),(.int .u8 (5)),(.int .u8 (5)),(.int .u8 (5)),(.int .u8 (5)),(.int .u8 (5)),(.int .u8 (5)),(.int .u8 (5)),(.int .u8 (5)),(.int .u8 (5)),(.int .u8 (5)),(.int .u8 (5)),(.int .u8 (5)),(.int .u8 (5)),(.int .u8 (5)),(.int .u8 (5)),(.int .u8 (5)),(.int .u8 (6)),(.int .u8 (6)),(.int .u8 (6)),(.int .u8 (6)),(.int .u8 (6)),(.int .u8 (6)),(.int .u8 (6)),(.int .u8 (6)),(.int .u8 (6)),(.int .u8 (6)),(.int .u8 (6)),(.int .u8 (6)),(.int .u8 (6)),(.int .u8 (6)),(.int .u8 (6)),(.int .u8 (6)),(.int .u8 (6)),(.int .u8 (6)),(.int .u8 (6)),(.int .u8 (6)),(.int .u8 (6)),(.int .u8 (6)),(.int .u8 (6)),(.int .u8 (6)),(.int .u8 (6)),(.int .u8 (6)),(.int .u8 (6)),(.int .u8 (6)),(.int .u8 (6)),(.int .u8 (6)),(.int .u8 (6)),(.int .u8 (6)),(.int .u8 (7)),(.int .u8 (7)),(.int .u8 (7)),(.int .u8 (7)),(.int .u8 (7)),(.int .u8 (7)),(.int .u8 (7)),(.int .u8 (7)),(.int .u8 (7)),(.int .u8 (7)),(.int .u8 (7)),(.int .u8 (7)),(.int .u8 (7)),(.int .u8 (7)),(.int .u8 (7)),(.int .u8 (7)),(.int .u8 (7)),(.int .u8 (7)),(.int .u8 (7)),(.int .u8 (7)),(.int .u8 (7)),(.int .u8 (7)),(.int .u8 (7)),(.int .u8 (7)),(.int .u8 (7)),(.int .u8 (7)),(.int .u8 (7)),(.int .u8 (7)),(.int .u8 (7)),(.int .u8 (7)),(.int .u8 (7)),(.int .u8 (7)),(.int .u8 (7)),(.int .u8 (7)),(.int .u8 (7)),(.int .u8 (7)),(.int .u8 (7)),(.int .u8 (7)),(.int .u8 (7)),(.int .u8 (7)),(.int .u8 (7)),(.int .u8 (7)),(.int .u8 (7)),(.int .u8 (7)),(.int .u8 (7)),(.int .u8 (7)),(.int .u8 (7)),(.int .u8 (7)),(.int .u8 (7)),(.int .u8 (7)),(.int .u8 (7)),(.int .u8 (7)),(.int .u8 (7)),(.int .u8 (7)),(.int .u8 (7)),(.int .u8 (7)),(.int .u8 (7)),(.int .u8 (7)),(.int .u8 (7)),(.int .u8 (7)),(.int .u8 (7)),(.int .u8 (7)),(.int .u8 (7)),(.int .u8 (7)),(.int .u8 (8)),(.int .u8 (8)),(.int .u8 (8)),(.int .u8 (8)),(.int .u8 (8)),(.int .u8 (8)),(.int .u8 (8)),(.int .u8 (8)),(.int .u8 (8)),(.int .u8 (8)),(.int .u8 (8)),(.int .u8 (8)),(.int .u8 (8)),(.int .u8 (8)),(.int .u8 (8)),(.int .u8 (8)),(.int .u8 (8)),(.int .u8 (8)),(.int .u8 (8)),(.int .u8 (8)),(.int .u8 (8)),(.int .u8 (8)),(.int .u8 (8)),(.int .u8 (8)),(.int .u8 (8)),(.int .u8 (8)),(.int .u8 (8)),(.int .u8 (8)),(.int .u8 (8)),(.int .u8 (8)),(.int .u8 (8)),(.int .u8 (8)),(.int .u8 (8)),(.int .u8 (8)),(.int .u8 (8)),(.int .u8 (8)),(.int .u8 (8)),(.int .u8 (8)),(.int .u8 (8)),(.int .u8 (8)),(.int .u8 (8)),(.int .u8 (8)),(.int .u8 (8)),(.int .u8 (8)),(.int .u8 (8)),(.int .u8 (8)),(.int .u8 (8)),(.int .u8 (8)),(.int .u8 (8)),(.int .u8 (8)),(.int .u8 (8)),(.int .u8 (8)),(.int .u8 (8)),(.int .u8 (8)),(.int .u8 (8)),(.int .u8 (8)),(.int .u8 (8)),(.int .u8 (8)),(.int .u8 (8)),(.int .u8 (8)),(.int .u8 (8)),(.int .u8 (8)),(.int .u8 (8)),(.int .u8 (8)),(.int .u8 (8)),(.int .u8 (8)),(.int .u8 (8)),(.int .u8 (8)),(.int .u8 (8)),(.int .u8 (8)),(.int .u8 (8)),(.int .u8 (8)),(.int .u8 (8)),(.int .u8 (8)),(.int .u8 (8)),(.int .u8 (8)),(.int .u8 (8)),(.int .u8 (8)),(.int .u8 (8)),(.int .u8 (8)),(.int .u8 (8)),(.int .u8 (8)),(.int .u8 (8)),(.int .u8 (8)),(.int .u8 (8)),(.int .u8 (8)),(.int .u8 (8)),(.int .u8 (8)),(.int .u8 (8)),(.int .u8 (8)),(.int .u8 (8)),(.int .u8 (8)),(.int .u8 (8)),(.int .u8 (8)),(.int .u8 (8)),(.int .u8 (8)),(.int .u8 (8)),(.int .u8 (8)),(.int .u8 (8)),(.int .u8 (8)),(.int .u8 (8)),(.int .u8 (8)),(.int .u8 (8)),(.int .u8 (8)),(.int .u8 (8)),(.int .u8 (8)),(.int .u8 (8)),(.int .u8 (8)),(.int .u8 (8)),(.int .u8 (8)),(.int .u8 (8)),(.int .u8 (8)),(.int .u8 (8)),(.int .u8 (8)),(.int .u8 (8)),(.int .u8 (8)),(.int .u8 (8)),(.int .u8 (8)),(.int .u8 (8)),(.int .u8 (8)),(.int .u8 (8)),(.int .u8 (8)),(.int .u8 (8)),(.int .u8 (8)),(.int .u8 (8)),(.int .u8 (8)),(.int .u8 (8)),(.int .u8 (8))])) eG),O 17 (.conv .i64 dD),oX 18 .add 13 17,M 2 18] [0,8,13,14,15,16,17,18]) .ret))))⟩
def Nj:TFn:=⟨1,[.tmp 2],(zQ (oQ [O 2 (.mv (I 0))] []) (zQ (zQ (oQ [M 3 0,O 4 (.bin .geq t3 (.c (.int .u64 (4294967296))))] [3]) (zC t4 (zQ (oQ [M 5 0,O 6 (.bin .shr t5 (.c (.int .u64 (32)))),M 0 6] [2,4,5,6]) (oQ [O 2 (.mv (I 32))] [])) .skip)) (zQ (zQ (oQ [M 7 0,O 8 (.bin .geq t7 (.c (.int .u64 (65536))))] [4,7]) (zC t8 (zQ (oQ [M 9 0,O 10 (.bin .shr t9 (.c (.int .u64 (16)))),M 0 10] [8,9,10]) (oQ [M 11 2,O 12 (.bin .add cM (I 16)),M 2 12] [11,12])) .skip)) (zQ (zQ (oQ [M 13 0,O 14 (.bin .geq dI (.c (.int .u64 (256))))] [8,13]) (zC dJ (zQ (oQ [M 15 0,O 16 (.bin .shr eG (.c (.int .u64 (8)))),M 0 16] [14,15,16]) (oQ [M 17 2,O 18 (.bin .add fE (I 8)),M 2 18] [17,18])) .skip)) (zQ (oQ [M 19 2,M 20 0,O 21 (.conv .u8 gB),O 22 (.idx false 256 1 (.c (.agg [(.int .u8 (0)),(.int .u8 (1)),(.int .u8 (2)),(.int .u8 (2)),(.int .u8 (3)),(.int .u8 (3)),(.int .u8 (3)),(.int .u8 (3)),(.int .u8 (4)),(.int .u8 (4)),(.int .u8 (4)),(.int .u8 (4)),(.int .u8 (4)),(.int .u8 (4)),(.int .u8 (4)),(.int .u8 (4)),(.int .u8 (5)),(.int .u8 (5)),(.int .u8 (5)),(.int .u8 (5)),(.int .u8 (5)),(.int .u8 (5)),(.int .u8 (5)),(.int .u8 (5)),(.int .u8 (5)),(.int .u8 (5)),(.int .u8 (5)),(.int .u8 (5)),(.int .u8 (5)),(.int .u8 (5)),(.int .u8 (5)),(.int .u8 (5)),(.int .u8 (6)),(.int .u8 (6)),(.int .u8 (6)),(.int .u8 (6)),(.int .u8 (6)),(.int .u8 (6)),(.int .u8 (6)),(.int .u8 (6)),(.int .u8 (6)),(.int .u8 (6)),(.int .u8 (6)),(.int .u8 (6)),(.int .u8 (6)),(.int .u8 (6)),(.int .u8 (6)),(.int .u8 (6)),(.int .u8 (6)),(.int .u8 (6)),(.int .u8 (6)),(.int .u8 (6)),(.int .u8 (6)),(.int .u8 (6)),(.int .u8 (6)),(.int .u8 (6)),(.int .u8 (6)),(.int .u8 (6)),(.int .u8 (6)),(.int .u8 (6)),(.int .u8 (6)),(.int .u8 (6)),(.int .u8 (6)),(.int .u8 (6)),(.int .u8 (7)),(.int .u8 (7)),(.int .u8 (7)),(.int .u8 (7)),(.int .u8 (7)),(.int .u8 (7)),(.int .u8 (7)),(.int .u8 (7)),(.int .u8 (7)),(.int .u8 (7)),(.int .u8 (7)),(.int .u8 (7)),(.int .u8 (7)),(.int .u8 (7)),(.int .u8 (7)),(.int .u8 (7)),(.int .u8 (7)),(.int .u8 (7)),(.int .u8 (7)),(.int .u8 (7)),(.int .u8 (7)),(.int .u8 (7)),(.int .u8 (7)),(.int .u8 (7)),(.int .u8 (7)),(.int .u8 (7)),(.int .u8 (7)),(.int .u8 (7)),(.int .u8 (7)),(.int .u8 (7)),(.int .u8 (7)),(.int .u8 (7)),(.int .u8 (7)),(.int .u8 (7)),(.int .u8 (7)),(.int .u8 (7)),(.int .u8 (7)),(.int .u8 (7)),(.int .u8 (7)),(.int .u8 (7)),(.int .u8 (7)),(.int .u8 (7)),(.int .u8 (7)),(.int .u8 (7)),(.int .u8 (7)),(.int .u8 (7)),(.int .u8 (7)),(.int .u8 (7)),(.int .u8 (7)),(.int .u8 (7)),(.int .u8 (7)),(.int .u8 (7)),(.int .u8 (7)),(.int .u8 (7)),(.int .u8 (7)),(.int .u8 (7)),(.int .u8 (7)),(.int .u8 (7)),(.int .u8 (7)),(.int .u8 (7)),(.int .u8 (7)),(.int .u8 (7)),(.int .u8 (7)),(.int .u8 (7)),(.int .u8 (8)),(.int .u8 (8)),(.int .u8 (8)),(.int .u8 (8)),(.int .u8 (8)),(.int .u8 (8)),(.int .u8 (8)),(.int .u8 (8)),(.int .u8 (8)),(.int .u8 (8)),(.int .u8 (8)),(.int .u8 (8)),(.int .u8 (8)),(.int .u8 (8)),(.int .u8 (8)),(.int .u8 (8)),(.int .u8 (8)),(.int .u8 (8)),(.int .u8 (8)),(.int .u8 (8)),(.int .u8 (8)),(.int .u8 (8)),(.int .u8 (8)),(.int .u8 (8)),(.int .u8 (8)),(.int .u8 (8)),(.int .u8 (8)),(.int .u8 (8)),(.int .u8 (8)),(.int .u8 (8)),(.int .u8 (8)),(.int .u8 (8)),(.int .u8 (8)),(.int .u8 (8)),(.int .u8 (8)),(.int .u8 (8)),(.int .u8 (8)),(.int .u8 (8)),(.int .u8 (8)),(.int .u8 (8)),(.int .u8 (8)),(.int .u8 (8)),(.int .u8 (8)),(.int .u8 (8)),(.int .u8 (8)),(.int .u8 (8)),(.int .u8 (8)),(.int .u8 (8)),(.int .u8 (8)),(.int .u8 (8)),(.int .u8 (8)),(.int .u8 (8)),(.int .u8 (8)),(.int .u8 (8)),(.int .u8 (8)),(.int .u8 (8)),(.int .u8 (8)),(.int .u8 (8)),(.int .u8 (8)),(.int .u8 (8)),(.int .u8 (8)),(.int .u8 (8)),(.int .u8 (8)),(.int .u8 (8)),(.int .u8 (8)),(.int .u8 (8)),(.int .u8 (8)),(.int .u8 (8)),(.int .u8 (8)),(.int .u8 (8)),(.int .u8 (8)),(.int .u8 (8)),(.int .u8 (8)),(.int .u8 (8)),(.int .u8 (8)),(.int .u8 (8)),(.int .u8 (8)),(.int .u8 (8)),(.int .u8 (8)),(.int .u8 (8)),(.int .u8 (8)),(.int .u8 (8)),(.int .u8 (8)),(.int .u8 (8)),(.int .u8 (8)),(.int .u8 (8)),(.int .u8 (8)),(.int .u8 (8)),(.int .u8 (8)),(.int .u8 (8)),(.int .u8 (8)),(.int .u8 (8)),(.int .u8 (8)),(.int .u8 (8)),(.int .u8 (8)),(.int .u8 (8)),(.int .u8 (8)),(.int .u8 (8)),(.int .u8 (8)),(.int .u8 (8)),(.int .u8 (8)),(.int .u8 (8)),(.int .u8 (8)),(.int .u8 (8)),(.int .u8 (8)),(.int .u8 (8)),(.int .u8 (8)),(.int .u8 (8)),(.int .u8 (8)),(.int .u8 (8)),(.int .u8 (8)),(.int .u8 (8)),(.int .u8 (8)),(.int .u8 (8)),(.int .u8 (8)),(.int .u8 (8)),(.int .u8 (8)),(.int .u8 (8)),(.int .u8 (8)),(.int .u8 (8)),(.int .u8 (8)),(.int .u8 (8)),(.int .u8 (8)),(.int .u8 (8)),(.int .u8 (8)),(.int .u8 (8)),(.int .u8 (8)),(.int .u8 (8))])) gC),O 23 (.conv .i64 gD),oX 24 .add 19 23,M 2 24] [0,14,19,20,21,22,23,24]) .ret)))))⟩
def VH:TFn:=⟨1,[.tmp 2],(zQ (oQ [O 2 (.mv (I 0))] [2]) (zQ (zC (.c (.bool false)) (zQ (oQ [M 3 0,O 4 (.conv .u32 t3),O 5 (.call (.f ME) [t4]),M 2 5] [0,3,4,5]) .ret) .skip) (zQ (oQ [M 6 0,O 7 (.call (.f Dp) [t6]),M 2 7] [0,6,7]) .ret)))⟩
def VI:TFn:=⟨1,[.tmp 2],(zQ (oQ [O 2 (.mv (.c (.bool false)))] [2]) (zQ (oQ [M 3 0,M 4 0,oX 5 .neq 3 4,M 2 5] [0,3,4,5]) .ret))⟩
def VJ:TFn:=⟨2,[.tmp 4],(zQ (oQ [O 4 (.mv (.c (.bool false)))] [4]) (zQ (oQ [M 5 0,O 6 (.call (.f Jd) [t5]),M 7 6,zT 8 7 (.mv t1),zT 9 7 (.call (.f Jd) [t8]),zT 10 7 (.un .not t9),O 11 (.pick t7 dH (.c (.bool false))),M 12 11,zF 13 12 (.mv t0),zF 14 12 (.mv t1),zF 15 12 (.bin .lss dI dJ),O 16 (.pick cS (.c (.bool true)) eG),M 4 16] [0,1,5,6,7,8,9,10,11,12,13,14,15,16]) .ret))⟩
def Y6:TC:=(zQ (zQ (.ops [M 16 7,M 17 1,oX 18 .gtr 16 17,M 19 18,zT 20 19 (.mv t0),zT 21 19 (.mv t7),zT 22 19 (.iad 1 gB gC),zT 23 19 (.load false 1 gD),zT 24 19 (.mv t0),zT 25 19 (.mv t7),zT 26 19 (.bin .sub iC (I 1)),zT 27 19 (.iad 1 gE jD),zT 28 19 (.load false 1 mY),zT 29 19 (.call (.f Je) [hZ,gS]),O 30 (.pick fJ kX (.c (.bool false)))] [⟨6,zI,0⟩,⟨7,zI,0⟩,⟨11,zI,0⟩,⟨12,zI,0⟩] [(0,1),(4,5),(4,8),(5,8),(6,8),(7,8),(4,9),(5,9),(6,9),(7,9),(8,9),(4,10),(5,10),(6,10),(7,10),(8,10),(4,11),(5,11),(6,11),(7,11),(4,12),(5,12),(6,12),(7,12)] (zR 16 14)) (zC jS .skip (.exit 2))) (zQ (zB 3 (.ops [M 33 0,M 34 7,M 35 0,M 36 7,O 37 (.bin .sub nA (I 1)),M 38 0,M 39 7,O 40 (.bin .sub nC (I 1)),O 41 (.iad 1 lU lV),oF 42 1 41,M 43 0,M 44 7,O 45 (.iad 1 rW qJ),oF 46 1 45,O 47 (.iad 1 mZ jU),zS 1 qL kL,O 48 (.iad 1 jE nB),zS 1 pC mK] [⟨8,zI,0⟩,⟨9,zI,0⟩,⟨12,zI,0⟩,⟨13,zI,0⟩,⟨14,zI,0⟩,⟨15,zI,0⟩,⟨16,zI,0⟩,⟨17,zI,0⟩] [(0,1),(0,2),(1,2),(0,3),(1,3),(2,3),(0,4),(1,4),(2,4),(0,5),(1,5),(2,5),(3,5),(4,5),(0,6),(1,6),(2,6),(3,6),(4,6),(5,6),(0,7),(1,7),(2,7),(3,7),(4,7),(5,7),(0,8),(1,8),(2,8),(3,8),(4,8),(0,9),(1,9),(2,9),(3,9),(4,9),(0,10),(1,10),(2,10),(3,10),(4,10),(5,10),(6,10),(7,10),(8,10),(9,10),(0,11),(1,11),(2,11),(3,11),(4,11),(5,11),(6,11),(7,11),(8,11),(9,11),(10,11),(0,12),(1,12),(2,12),(3,12),(4,12),(5,12),(6,12),(7,12),(8,12),(9,12),(0,13),(1,13),(2,13),(3,13),(4,13),(5,13),(6,13),(7,13),(8,13),(9,13),(2,14),(3,14),(4,14),(2,15),(3,15),(4,15)] [30,33,34,35,36,37,38,39,40,41,42,43,44,45,46,47,48])) (oQ [M 31 7,O 32 (.bin .sub jT (I 1)),M 7 32] [31,32])))
def Y7:TC:=(zQ (zQ (oQ [M 10 6,M 11 2,oX 12 .lss 10 11] [10,11]) (zC cS .skip (.exit 0))) (zQ (zB 1 (zQ (oQ [M 15 6,M 7 15] [12,15]) (zB 2 (.loop 58428500 Y6)))) (oQ [M 13 6,O 14 (.bin .add dI (I 1)),M 6 14] [7,13,14,30])))
def VK:TFn:=⟨3,[],(zQ (oQ [M 8 1,O 9 (.bin .add t8 (I 1)),M 6 9] [8,9]) (zB 0 (.loop 58428501 Y7)))⟩
def zH:Opd:=.t 65
def Bb:Opd:=.t 66
def zJ:Opd:=.t 69
def Gt:Opd:=.t 88
def JB:Opd:=.t 96
def pD:Opd:=.t 109
def wA:Opd:=.t 113
def Bc:Opd:=.t 117
def Be:Opd:=.t 118
def rX:Opd:=.t 119
def wC:Opd:=.t 120
def wE:Opd:=.t 122
def Bf:Opd:=.t 127
def Gu:Opd:=.t 128
def Bg:Opd:=.t 129
def wF:Opd:=.t 130
def wG:Opd:=.t 131
def Y8:TC:=(zB 1 (zQ (oQ [M 19 2,M 20 1,oX 21 .sub 19 20,M 10 21] [19,20,21]) (zQ (zQ (oQ [M 22 10,O 23 (.bin .leq gD (I 12))] [22]) (zC hZ (zQ (oQ [M 24 0,M 25 1,M 26 2,O 27 (.call (.f Vz) [gE,iC,jD])] [0,1,2,3,8,9,10,23,24,25,26,27]) .ret) .skip)) (.cut (.seq (.seq (.ops [M 28 3,O 29 (.bin .eql gS (I 0))] [] [23,28]) (.cond kX (.seq (.ops [M 30 0,M 31 1,M 32 2,O 33 (.call (.f 132) [jS,jT,kM])] [] [0,1,2,3,8,9,10,29,30,31,32,33]) .ret) .skip)) (.seq (.seq (.ops [M 34 8,O 35 (.un .not jU)] [] [29,34]) (.cond jE (.seq (.ops [M 36 0,M 37 1,M 38 2,O 39 (.call (.f 133) [nA,nB,lU])] [] (zR 35 5)) (.ops [M 40 3,O 41 (.bin .sub lV (I 1)),M 3 41] [] [40,41])) .skip)) (.seq (.ops [M 43 0,M 44 1,M 45 2,O 46 (.call (.f 134) [rW,qJ,qK]),M 42 46,O 47 (.ext kL 0),O 48 (.ext kL 1),M 11 47,M 12 48] [] [35,42,43,44,45,46,47,48]) (.seq (.seq (.ops [M 49 12,O 50 (.bin .eql qM (I 2))] [] [49]) (.cond yZ (.seq (.ops [M 51 0,M 52 1,M 53 2,O 54 (.call (.f 135) [tP,tQ,AZ])] [] [12,50,51,52,53,54]) (.seq (.ops [M 55 2,O 56 (.bin .sub mX (I 1)),M 57 11,M 58 1,oX 59 .sub 57 58,oX 60 .sub 56 59,M 11 60] [] (zR 55 6)) (.ops [O 12 (.mv (I 1))] [] []))) .skip)) (.seq (.seq (.ops [M 61 8,M 62 61,zT 63 62 (.mv t9),O 64 (.pick AV Gm (.c (.bool false))),M 65 64,zT 66 65 (.mv cS),zT 67 65 (.bin .eql Bb (I 1)),O 68 (.pick zH AW (.c (.bool false)))] [] [12,50,61,62,63,64,65,66,67]) (.cond yT (.seq (.ops [M 69 0,M 70 1,M 71 2,O 72 (.call (.f 136) [zJ,zG,vZ])] [] (zR 68 4)) (.cond yU .ret .skip)) .skip)) (.seq (.seq (.ops [M 73 1,O 74 (.bin .gtr yV (I 0)),M 75 74,zT 76 75 (.mv t0),zT 77 75 (.mv t1),zT 78 75 (.bin .sub vT (I 1)),zT 79 75 (.iad 1 yX tO),zT 80 75 (.load false 1 Ba),zT 81 75 (.mv t0),zT 82 75 (.mv cM),zT 83 75 (.iad 1 AY DE),zT 84 75 (.load false 1 Gn),zT 85 75 (.call (.f Je) [AX,DF]),zT 86 75 (.un .not DH),O 87 (.pick tN yY (.c (.bool false)))] [(3,4),(3,5),(3,8),(4,8),(5,8),(6,8),(7,8),(3,9),(4,9),(5,9),(6,9),(7,9),(8,9),(3,10),(4,10),(5,10),(6,10),(7,10),(3,11),(4,11),(5,11),(6,11),(7,11)] [68,72,73,74,75,76,77,78,79,80,81,82,83,84,85,86]) (.cond Gp (.seq (.ops [M 88 0,M 89 1,M 90 2,M 91 11,O 92 (.call (.f 138) [Gt,DJ,Jj,Gq]),M 13 92] [] [1,10,11,87,88,89,90,91,92]) (.seq (.ops [M 93 13,M 1 93] [] [13,93]) (.exit 1))) .skip)) (.seq (.ops [M 95 0,M 96 1,M 97 2,M 98 11,O 99 (.call (.f 139) [Gr,JB,Jm,Gs]),M 94 99,O 100 (.ext DM 0),O 101 (.ext DM 1),M 14 100,M 15 101] [] [8,9,11,87,94,95,96,97,98,99,100,101]) (.seq (.ops [M 102 15,M 9 102] [] [15,102]) (.seq (.ops [M 103 14,M 104 1,oX 105 .sub 103 104,M 106 2,M 107 14,oX 108 .sub 106 107,M 16 105,M 17 108] [] (zR 103 6)) (.seq (.ops [M 109 10,O 110 (.bin .quo pD (I 8)),M 18 110] [] [10,109,110]) (.seq (.ops [M 111 16,M 112 17,oX 113 .lss 111 112] [] [111,112]) (.cond wA (.seq (.ops [M 114 16,M 115 18,oX 116 .geq 114 115,M 8 116] [] [16,17,18,113,114,115,116]) (.seq (.ops [M 117 0,M 118 1,M 119 14,M 120 3,O 121 (.call (.f Jf) [Bc,Be,rX,wC])] [] [1,117,118,119,120,121]) (.ops [M 122 14,O 123 (.bin .add wE (I 1)),M 1 123] [] [14,122,123]))) (.seq (.ops [M 124 17,M 125 18,oX 126 .geq 124 125,M 8 126] [] [16,17,18,113,124,125,126]) (.seq (.ops [M 127 0,M 128 14,O 129 (.bin .add Gu (I 1)),M 130 2,M 131 3,O 132 (.call (.f Jf) [Bf,Bg,wF,wG])] [] [2,127,128,129,130,131,132]) (.ops [M 133 14,M 2 133] [] [14,133])))))))))))))))))))
def VL:TFn:=⟨4,[],(zQ (oQ [O 8 (.mv (.c (.bool true)))] []) (zQ (oQ [O 9 (.mv (.c (.bool true)))] []) (zB 0 (.loop 82372100 Y8))))⟩
def VM:TFn:=⟨1,[],(zQ (oQ [M 3 0,O 4 (.len t3),M 2 4] [3,4]) (oQ [M 5 0,M 6 2,M 7 2,O 8 (.conv .u64 t7),O 9 (.call (.f MF) [t8]),O 10 (.call (.f Jf) [t5,(I 0),t6,t9])] [0,2,5,6,7,8,9,10]))⟩
def VN:TFn:=⟨1,[.tmp 2],(zQ (oQ [O 2 (.mv (.c .nils))] [2]) (zQ (oQ [M 4 0,O 5 (.call (.f Vy) [t4]),M 3 5] [0,4,5]) (zQ (oQ [M 6 3,O 7 (.call (.f VA) [t6])] [6,7]) (zQ (oQ [M 8 3,M 2 8] [3,8]) .ret))))⟩
def Nk:TC:=(zQ (oQ [oX 20 .lss 19 18] []) (zQ (zC gB .skip (.exit 0)) (zQ (zB 1 (zQ (oQ [M 21 19,O 22 (.iad 1 fE fJ),oF 23 1 22,M 7 21,M 8 23] (zR 20 4)) (zQ (oQ [M 24 8,M 25 7,oX 26 .neq 24 25] [7,8,24,25]) (zC jD (zQ (oQ [O 4 (.mv (I 8))] [0,1,17,18,19,26]) .ret) .skip)))) (oQ [O 27 (.bin .add fJ (I 1)),M 19 27] [26,27]))))
def Gv:TFn:=⟨2,[.tmp 4],(zQ (oQ [O 4 (.mv (I 0))] [4]) (zQ (zQ (oQ [M 9 0,O 10 (.call (.f AN) [t9]),M 5 10] [9,10]) (zQ (oQ [M 11 5,O 12 (.bin .neq cM (I 0))] [11]) (zC cS (zQ (oQ [M 13 5,M 4 13] [0,1,5,12,13]) .ret) .skip))) (zQ (oQ [M 14 1,O 15 (.call (.f MD) [dJ]),O 16 (.call (.f cA) [eG]),M 6 16] [5,12,14,15,16]) (zQ (zQ (oQ [M 17 6,O 18 (.len fE),O 19 (.mv (I 0))] [6]) (zB 0 (.loop 54010400 Nk))) (zQ (zQ (oQ [M 28 1,O 29 (.len gS),M 30 0,O 31 (.len jS),oX 32 .neq 29 31] [0,1,17,18,19,20,28,29,30,31]) (zC kM (zQ (oQ [O 4 (.mv (I 8))] [32]) .ret) .skip)) (zQ (oQ [O 4 (.mv (I 0))] [32]) .ret))))))⟩
def Nl:TFn:=⟨1,[.cell 2 true 2],(zQ (oQ [O 2 (.allocL (gz 2))] []) (zQ (oQ [M 3 0,O 4 (.build [(ic (0)),(ic (0))] [(0,1,t3),(1,1,(I 1))]),zS 2 t2 t4] [0,3,4]) .ret))⟩
def Nm:TFn:=⟨1,[.tmp 2],(zQ (oQ [O 2 (.mv (.c (.int .u64 (0))))] [2]) (zQ (zQ (oQ [M 3 0,O 4 (.bin .lss t3 (I 0))] [3]) (zC t4 (zQ (oQ [M 5 0,O 6 (.conv .u64 t5),O 7 (.un .neg t6),M 2 7] [0,4,5,6,7]) .ret) .skip)) (zQ (oQ [M 8 0,O 9 (.conv .u64 t8),M 2 9] [0,4,8,9]) .ret)))⟩
def JC:TC:=(zQ (zQ (oQ [M 5 1,O 6 (.bin .gtr t5 (.c (.int .u64 (0))))] [5]) (zC t6 .skip (.exit 0))) (zB 1 (.ops [M 7 1,M 8 0,M 9 1,oX 10 .rem 8 9,M 0 7,M 1 10] [] [(0,1),(0,2),(1,2),(0,3),(2,4),(3,4)] (zR 6 5))))
def Nn:TFn:=⟨2,[.tmp 4],(zQ (oQ [O 4 (.mv (.c (.int .u64 (0))))] [4]) (zQ (zB 0 (.loop 32725300 JC)) (zQ (oQ [M 11 0,M 4 11] [0,1,6,11]) .ret)))⟩
def No:TFn:=⟨1,[.tmp 2],(zQ (oQ [O 1 (.boxL t0),O 2 (.mv (I 0))] [0,2]) (zQ (zQ (.ops [O 3 (.fad 1 t1),oF 4 1 3,O 5 (.bin .lss t4 (I 1)),M 6 5,zF 7 6 (.fad 0 t1),zF 8 6 (.load false 1 t7),zF 9 6 (.call (.f mW) [t8]),zF 10 6 (.fad 1 t1),zF 11 6 (.load false 1 dH),zF 12 6 (.conv .u64 cM),zF 13 6 (.minmax true [t9,cS]),zF 14 6 (.bin .gtr dI (.c (.int .u64 (1000000000000000000)))),O 15 (.pick t6 (.c (.bool true)) dJ),M 16 15,zF 17 16 (.fad 0 t1),zF 18 16 (.load false 1 fE),zF 19 16 (.call (.f mW) [fP]),zF 20 16 (.fad 1 t1),zF 21 16 (.load false 1 gB),zF 22 16 (.conv .u64 gC),zF 23 16 (.call (.f rR) [fJ,gD]),zF 24 16 (.bin .gtr hZ (.c (.int .u64 (1)))),O 25 (.pick dD (.c (.bool true)) gE)] [⟨1,z2,0⟩,⟨5,z2,0⟩,⟨8,z2,0⟩,⟨15,z2,0⟩,⟨18,z2,0⟩] [(4,7),(5,7),(6,7),(4,8),(5,8),(6,8),(4,9),(5,9),(6,9),(14,17),(15,17),(16,17),(14,18),(15,18),(16,18),(14,19),(15,19),(16,19)] [1,3,4,5,6,7,8,9,10,11,12,13,14,15,16,17,18,19,20,21,22,23,24]) (zC iC (zQ (oQ [O 2 (.mv (I 8))] [25]) .ret) .skip)) (zQ (oQ [O 2 (.mv (I 0))] [25]) .ret)))⟩
def JD:TC:=(zQ (oQ [oX 9 .lss 8 7] []) (zQ (zC t9 .skip (.exit 0)) (zQ (zB 1 (zQ (.ops [O 10 (.iad 1 t6 t8),oF 11 1 10,M 5 11] [⟨0,zI,0⟩,⟨1,zI,0⟩] [] [9,10,11]) (zQ (oQ [M 12 5,M 13 3,oX 14 .neq 12 13] [12,13]) (zC dJ (zQ (oQ [M 15 5,M 2 15] [3,5,6,7,8,14,15]) .ret) .skip)))) (oQ [O 16 (.bin .add t8 (I 1)),M 8 16] [5,14,16]))))
def Np:TFn:=⟨1,[.tmp 2],(zQ (oQ [O 2 (.mv (I 0))] [2]) (zQ (oQ [O 3 (.mv (I 0))] []) (zQ (zQ (oQ [M 6 0,O 7 (.len t6),O 8 (.mv (I 0))] [0]) (zB 0 (.loop 38508400 JD))) (zQ (oQ [M 17 3,M 2 17] [3,6,7,8,9,17]) .ret))))⟩
def Nq:TFn:=⟨2,[.tmp 4],(zQ (oQ [O 2 (.boxL t0),O 3 (.boxL t1),O 4 (.mv (I 0))] [0,1,4]) (zQ (.ops [oT 5 2 2,O 6 (.call (.f oZ) [t5]),oT 7 2 3,O 8 (.call (.f oZ) [t7]),O 9 (.bD 1 (ic (0)) 2 [(0,t6),(1,t8)]),O 10 (.call (.f Gc) [t9]),M 4 10] [] [(0,2),(1,2)] [2,3,5,6,7,8,9,10]) .ret))⟩
def Nr:TFn:=⟨2,[.tmp 4,.tmp 5],(zQ (oQ [O 4 (.mv (.c (.int .u64 (0)))),O 5 (.mv (.c (.int .u64 (0))))] [4,5]) (zQ (oQ [M 14 0,O 15 (.bin .and dJ (.c (.int .u64 (4294967295)))),M 6 15] [14,15]) (zQ (oQ [M 16 0,O 17 (.bin .shr dD (.c (.int .u64 (32)))),M 7 17] [16,17]) (zQ (oQ [M 18 1,O 19 (.bin .and fP (.c (.int .u64 (4294967295)))),M 8 19] [18,19]) (zQ (oQ [M 20 1,O 21 (.bin .shr gB (.c (.int .u64 (32)))),M 9 21] [20,21]) (zQ (oQ [M 22 6,M 23 8,oX 24 .mul 22 23,M 10 24] [22,23,24]) (zQ (oQ [M 25 7,M 26 8,oX 27 .mul 25 26,M 28 10,O 29 (.bin .shr gS (.c (.int .u64 (32)))),oX 30 .add 27 29,M 11 30] [8,10,25,26,27,28,29,30]) (zQ (oQ [M 31 11,O 32 (.bin .and jT (.c (.int .u64 (4294967295)))),M 12 32] [31,32]) (zQ (oQ [M 33 11,O 34 (.bin .shr mZ (.c (.int .u64 (32)))),M 13 34] [11,33,34]) (zQ (oQ [M 35 12,M 36 6,M 37 9,oX 38 .mul 36 37,oX 39 .add 35 38,M 12 39] [6,35,36,37,38,39]) (zQ (oQ [M 40 7,M 41 9,oX 42 .mul 40 41,M 43 13,oX 44 .add 42 43,M 45 12,O 46 (.bin .shr qK (.c (.int .u64 (32)))),oX 47 .add 44 46,M 4 47] [7,9,12,13,40,41,42,43,44,45,46,47]) (zQ (oQ [M 48 0,M 49 1,oX 50 .mul 48 49,M 5 50] [0,1,48,49,50]) .ret))))))))))))⟩
def Ns:TFn:=⟨1,[.tmp 2],(zQ (oQ [O 2 (.mv (I 0))] [2]) (zQ (oQ [M 3 0,O 4 (.call (.f Dp) [t3]),O 5 (.bin .sub (I 64) t4),M 2 5] [0,3,4,5]) .ret))⟩
def JE:TC:=(zQ (zQ (oQ [M 67 15,O 68 (.bin .geq AW (.c (.int .u64 (4294967296)))),M 69 68,zF 70 69 (.mv eG),zF 71 69 (.mv dH),zF 72 69 (.bin .mul zG vZ),zF 73 69 (.mv dD),zF 74 69 (.bin .mul (.c (.int .u64 (4294967296))) yV),zF 75 69 (.mv dI),zF 76 69 (.bin .add yW tN),zF 77 69 (.bin .gtr yU yX),O 78 (.pick zJ (.c (.bool true)) vT)] [67,68,69,70,71,72,73,74,75,76,77,85]) (zC tO .skip (.exit 0))) (zB 1 (zQ (oQ [M 79 15,O 80 (.bin .sub Ba (.c (.int .u64 (1)))),M 15 80] [78,79,80]) (zQ (oQ [M 81 16,M 82 9,oX 83 .add 81 82,M 16 83] [81,82,83]) (zQ (oQ [M 84 16,O 85 (.bin .geq DF (.c (.int .u64 (4294967296))))] [84]) (zC DH (.exit 0) .skip))))))
def Bh:Opd:=.t 102
def Bi:Opd:=.t 104
def Bj:Opd:=.t 105
def Gw:Opd:=.t 106
def pE:Opd:=.t 107
def Bl:Opd:=.t 108
def wH:Opd:=.t 110
def Bm:Opd:=.t 111
def Bn:Opd:=.t 112
def Gx:Opd:=.t 114
def JF:TC:=(zQ (zQ (oQ [M 102 18,O 103 (.bin .geq Bh (.c (.int .u64 (4294967296)))),M 104 103,zF 105 104 (.mv fP),zF 106 104 (.mv dH),zF 107 104 (.bin .mul Bj Gw),zF 108 104 (.mv dD),zF 109 104 (.bin .mul (.c (.int .u64 (4294967296))) Bl),zF 110 104 (.mv dJ),zF 111 104 (.bin .add pD wH),zF 112 104 (.bin .gtr pE Bm),O 113 (.pick Bi (.c (.bool true)) Bn)] [102,103,104,105,106,107,108,109,110,111,112,120]) (zC wA .skip (.exit 2))) (zB 3 (zQ (oQ [M 114 18,O 115 (.bin .sub Gx (.c (.int .u64 (1)))),M 18 115] [113,114,115]) (zQ (oQ [M 116 16,M 117 9,oX 118 .add 116 117,M 16 118] [116,117,118]) (zQ (oQ [M 119 16,O 120 (.bin .geq rX (.c (.int .u64 (4294967296))))] [119]) (zC wC (.exit 2) .skip))))))
def Bo:Opd:=.t 121
def Gy:Opd:=.t 125
def Nt:TFn:=⟨3,[.tmp 6,.tmp 7],(zQ (oQ [O 6 (.mv (.c (.int .u64 (0)))),O 7 (.mv (.c (.int .u64 (0))))] [6,7]) (zQ (zQ (oQ [M 19 2,O 20 (.bin .eql fJ (.c (.int .u64 (0))))] [19]) (zC gB (oQ [O 21 (.load false 1 (.g 0)),⟨none,.bad,none⟩] [20,21]) .skip)) (zQ (zQ (oQ [M 22 2,M 23 0,oX 24 .leq 22 23] [20,22,23]) (zC gE (oQ [O 25 (.load false 1 (.g 1)),⟨none,.bad,none⟩] [24,25]) .skip)) (zQ (zQ (oQ [M 26 0,O 27 (.bin .eql jD (.c (.int .u64 (0))))] [24,26]) (zC mY (zQ (.ops [M 28 1,M 29 2,oX 30 .quo 28 29,M 31 1,M 32 2,oX 33 .rem 31 32,M 6 30,M 7 33] [] [(0,1),(0,3),(1,3),(2,3),(0,4),(1,4),(2,4),(3,4),(0,5),(1,5),(2,5),(3,6),(4,6),(5,6)] [0,1,2,27,28,29,30,31,32,33]) .ret) .skip)) (zQ (oQ [M 34 2,O 35 (.call (.f Gd) [jU]),O 36 (.conv .u64 jE),M 8 36] [27,34,35,36]) (zQ (oQ [M 37 2,M 38 8,oX 39 .shl 37 38,M 2 39] [37,38,39]) (zQ (oQ [M 40 2,O 41 (.bin .shr lV (.c (.int .u64 (32)))),M 9 41] [40,41]) (zQ (oQ [M 42 2,O 43 (.bin .and kL (.c (.int .u64 (4294967295)))),M 10 43] [42,43]) (zQ (oQ [M 44 0,M 45 8,oX 46 .shl 44 45,M 47 1,M 48 8,O 49 (.bin .sub (.c (.int .u64 (64))) pC),oX 50 .shr 47 49,oX 51 .or 46 50,M 11 51] [0,44,45,46,47,48,49,50,51]) (zQ (oQ [M 52 1,M 53 8,oX 54 .shl 52 53,M 12 54] [1,52,53,54]) (zQ (oQ [M 55 12,O 56 (.bin .shr mX (.c (.int .u64 (32)))),M 13 56] [55,56]) (zQ (oQ [M 57 12,O 58 (.bin .and vS (.c (.int .u64 (4294967295)))),M 14 58] [12,57,58]) (zQ (oQ [M 59 11,M 60 9,oX 61 .quo 59 60,M 15 61] [59,60,61]) (zQ (oQ [M 62 11,M 63 15,M 64 9,oX 65 .mul 63 64,oX 66 .sub 62 65,M 16 66] (zR 62 5)) (zQ (zB 0 (.loop 60530100 JE)) (zQ (oQ [M 86 11,O 87 (.bin .mul yY (.c (.int .u64 (4294967296)))),M 88 13,oX 89 .add 87 88,M 90 15,M 91 2,oX 92 .mul 90 91,oX 93 .sub 89 92,M 17 93] [11,13,16,78,85,86,87,88,89,90,91,92,93]) (zQ (oQ [M 94 17,M 95 9,oX 96 .quo 94 95,M 18 96] [94,95,96]) (zQ (oQ [M 97 17,M 98 18,M 99 9,oX 100 .mul 98 99,oX 101 .sub 97 100,M 16 101] (zR 97 5)) (zQ (zB 2 (.loop 60530101 JF)) (zQ (oQ [M 121 15,O 122 (.bin .mul Bo (.c (.int .u64 (4294967296)))),M 123 18,oX 124 .add 122 123,M 125 17,O 126 (.bin .mul Gy (.c (.int .u64 (4294967296)))),M 127 14,oX 128 .add 126 127,M 129 18,M 130 2,oX 131 .mul 129 130,oX 132 .sub 128 131,M 133 8,oX 134 .shr 132 133,M 6 124,M 7 134] [2,8,9,10,14,15,16,17,18,113,120,121,122,123,124,125,126,127,128,129,130,131,132,133,134]) .ret))))))))))))))))))))⟩
def Nu:TFn:=⟨3,[.tmp 6],(zQ (oQ [O 6 (.mv (.c (.int .u64 (0))))] [6]) (zQ (oQ [M 10 0,M 11 2,oX 12 .rem 10 11,M 13 1,M 14 2,O 15 (.call (.f AP) [cS,dI,dJ]),M 9 15,O 16 (.ext t9 0),O 17 (.ext t9 1),M 7 16,M 8 17] [0,1,2,7,9,10,11,12,13,14,15,16,17]) (zQ (oQ [M 18 8,M 6 18] [8,18]) .ret)))⟩
def Nv:TFn:=⟨3,[.cell 6 true 2,.tmp 7],(zQ (oQ [O 6 (.allocL (gz 2)),O 7 (.mv (I 0))] [7]) (zQ (zQ (oQ [M 8 1,M 9 2,O 10 (.minmax true [t8,t9]),O 11 (.bin .gtr dH (.c (.int .u64 (1000000000000000000))))] [8,9,10]) (zC cM (zQ (oQ [O 12 (.build [(ic (0)),(ic (0))] []),zS 2 t6 cS,O 7 (.mv (I 16))] [0,1,2,11,12]) .ret) .skip)) (zQ (zQ (oQ [M 13 0] [0,11]) (zC dI (zQ (oQ [M 14 1,O 15 (.conv .i64 dJ),O 16 (.un .neg eG),M 17 2,O 18 (.conv .i64 fE),O 19 (.build [(ic (0)),(ic (0))] [(0,1,dD),(1,1,fP)]),zS 2 t6 fJ,O 7 (.mv (I 0))] [1,2,13,14,15,16,17,18,19]) .ret) .skip)) (zQ (oQ [M 20 1,O 21 (.conv .i64 gB),M 22 2,O 23 (.conv .i64 gD),O 24 (.build [(ic (0)),(ic (0))] [(0,1,gC),(1,1,hZ)]),zS 2 t6 gE,O 7 (.mv (I 0))] [1,2,13,20,21,22,23,24]) .ret))))⟩
def Nw:Opd:=.t 99
def pF:Opd:=.t 101
def pG:Opd:=.t 103
def Bp:Opd:=.t 116
def Gz:Opd:=.t 123
def Bq:Opd:=.t 124
def Br:Opd:=.t 132
def Bs:Opd:=.t 133
def Bt:Opd:=.t 134
def wI:Opd:=.t 138
def Ny:Opd:=.t 140
def Nz:Opd:=.t 143
def GA:Opd:=.t 145
def NA:Opd:=.t 148
def NB:Opd:=.t 152
def NC:Opd:=.t 153
def ND:Opd:=.t 154
def NE:Opd:=.t 155
def NF:Opd:=.t 156
def NG:Opd:=.t 157
def GB:Opd:=.t 158
def NH:Opd:=.t 159
def NI:TFn:=⟨2,[.cell 4 true 2,.tmp 5],(zQ (oQ [O 2 (.boxL t0),O 3 (.boxL t1),O 4 (.allocL (gz 2)),O 5 (.mv (I 0))] [0,1,5]) (zQ (zQ (oQ [oT 21 2 2,oT 22 2 3,O 23 (.call (.f pA) [gC,gD]),M 6 23] [21,22,23]) (zQ (oQ [M 24 6,O 25 (.bin .neq gE (I 0))] [24]) (zC iC (zQ (oQ [O 26 (.build [(ic (0)),(ic (0))] []),M 27 6,zS 2 t4 jD,M 5 27] [2,3,6,25,26,27]) .ret) .skip))) (zQ (.ops [O 28 (.fad 1 t2),oF 29 1 28,O 30 (.conv .u64 kX),O 31 (.fad 1 t3),oF 32 1 31,O 33 (.conv .u64 kM),O 34 (.call (.f rR) [jS,mZ]),M 7 34] [⟨1,z2,0⟩,⟨4,z2,0⟩] [] [6,25,28,29,30,31,32,33,34]) (zQ (.ops [O 36 (.fad 0 t2),oF 37 1 36,O 38 (.call (.f mW) [nB]),O 39 (.fad 1 t3),oF 40 1 39,O 41 (.conv .u64 lV),M 42 7,oX 43 .quo 41 42,O 44 (.call (.f pB) [lU,rW]),M 35 44,O 45 (.ext jE 0),O 46 (.ext jE 1),M 8 45,M 9 46] [⟨1,z2,0⟩,⟨4,z2,0⟩] [(0,3),(1,3),(2,3),(0,4),(1,4),(2,4),(0,5),(1,5),(2,5),(0,6),(1,6),(2,6),(3,6),(4,6),(5,6),(0,7),(1,7),(2,7),(10,11),(11,12)] (zR 35 12)) (zQ (.ops [O 48 (.fad 0 t3),oF 49 1 48,O 50 (.call (.f mW) [qM]),O 51 (.fad 1 t2),oF 52 1 51,O 53 (.conv .u64 tQ),M 54 7,oX 55 .quo 53 54,O 56 (.call (.f pB) [yZ,mX]),M 47 56,O 57 (.ext qL 0),O 58 (.ext qL 1),M 10 57,M 11 58] [⟨1,z2,0⟩,⟨4,z2,0⟩] [(0,3),(1,3),(2,3),(0,4),(1,4),(2,4),(0,5),(1,5),(2,5),(0,6),(1,6),(2,6),(3,6),(4,6),(5,6),(0,7),(1,7),(2,7),(10,11),(11,12)] (zR 47 12)) (zQ (.ops [O 59 (.fad 0 t2),oF 60 1 59,O 61 (.bin .lss vY (I 0)),M 12 61] [⟨1,z2,0⟩] [] [59,60,61]) (zQ (oQ [O 13 (.mv (.c (.int .u64 (0)))),O 14 (.mv (.c (.int .u64 (0)))),O 15 (.mv (.c (.int .u64 (0))))] [13,14,15]) (zQ (zQ (.ops [O 62 (.fad 0 t2),oF 63 1 62,O 64 (.bin .lss Gm (I 0)),O 65 (.fad 0 t3),oF 66 1 65,O 67 (.bin .lss Bb (I 0)),O 68 (.eqB false zA AW)] [⟨1,z2,0⟩,⟨4,z2,0⟩] [] (zR 62 6)) (zC yT (zQ (oQ [M 70 9,M 71 11,O 72 (.call (.f vM) [zG,vZ,(.c (.int .u64 (0)))]),M 69 72,O 73 (.ext zJ 0),O 74 (.ext zJ 1),M 14 73,M 15 74] [9,11,68,69,70,71,72,73,74]) (oQ [M 76 8,M 77 10,M 78 15,O 79 (.call (.f vM) [yX,vT,tO]),M 75 79,O 80 (.ext tN 0),O 81 (.ext tN 1),M 13 80] [8,10,15,75,76,77,78,79,80,81])) (zQ (zQ (oQ [M 82 8,M 83 10,oX 84 .lss 82 83,M 85 84,zF 86 85 (.mv t8),zF 87 85 (.mv dH),zF 88 85 (.bin .eql yY Gp),zF 89 85 (.mv Gt),zT 90 89 (.mv t9),zT 91 89 (.mv cM),zT 92 89 (.bin .lss Jj Gq),zF 93 85 (.pick DJ Jk (.c (.bool false))),O 94 (.pick DH (.c (.bool true)) DL)] [68,82,83,84,85,86,87,88,89,90,91,92,93]) (zC DM (zQ (oQ [M 95 10,M 96 11,M 97 8,M 98 9,M 8 95,M 9 96,M 10 97,M 11 98] (zR 94 5)) (oQ [M 99 12,O 100 (.un .not Nw),M 12 100] [99,100])) .skip)) (zQ (oQ [M 102 9,M 103 11,O 104 (.call (.f vN) [Bh,pG,(.c (.int .u64 (0)))]),M 101 104,O 105 (.ext pF 0),O 106 (.ext pF 1),M 14 105,M 15 106] [9,11,94,101,102,103,104,105,106]) (oQ [M 108 8,M 109 10,M 110 15,O 111 (.call (.f vN) [Bl,pD,wH]),M 107 111,O 112 (.ext pE 0),O 113 (.ext pE 1),M 13 112] [8,10,15,107,108,109,110,111,112,113]))))) (zQ (zQ (oQ [M 114 13,O 115 (.bin .eql Gx (.c (.int .u64 (0)))),M 116 115,zT 117 116 (.mv dJ),zT 118 116 (.bin .eql Bc (.c (.int .u64 (0)))),O 119 (.pick Bp Be (.c (.bool false)))] (zR 114 5)) (zC rX (zQ (oQ [O 120 (.build [(ic (0)),(ic (0))] [(1,1,(I 1))]),zS 2 t4 wC,O 5 (.mv (I 0))] [2,3,7,12,13,14,119,120]) .ret) .skip)) (zQ (oQ [M 121 13,M 122 14,M 123 7,O 124 (.call (.f Ge) [Bo,wE,Gz]),M 125 7,O 126 (.call (.f rR) [Bq,Gy]),M 16 126] [119,121,122,123,124,125,126]) (zQ (zQ (oQ [M 127 13,M 128 16,oX 129 .geq 127 128] [127,128]) (zC Bg (zQ (oQ [O 130 (.build [(ic (0)),(ic (0))] []),zS 2 t4 wF,O 5 (.mv (I 16))] [2,3,7,12,13,14,16,129,130]) .ret) .skip)) (zQ (oQ [M 132 13,M 133 14,M 134 16,O 135 (.call (.f AP) [Br,Bs,Bt]),M 131 135,O 136 (.ext wG 0),O 137 (.ext wG 1),M 17 136,M 18 137] [13,14,18,129,131,132,133,134,135,136,137]) (zQ (.ops [O 139 (.fad 1 t2),oF 140 1 139,O 141 (.conv .u64 Ny),M 142 7,oX 143 .quo 141 142,O 144 (.fad 1 t3),oF 145 1 144,O 146 (.conv .u64 GA),M 147 16,oX 148 .quo 146 147,O 149 (.call (.f pB) [Nz,NA]),M 138 149,O 150 (.ext wI 0),O 151 (.ext wI 1),M 19 150,M 20 151] [⟨1,z2,0⟩,⟨6,z2,0⟩] [(0,3),(1,3),(2,3),(0,5),(1,5),(2,5),(3,5),(4,5),(0,6),(1,6),(2,6),(3,6),(4,6),(0,7),(1,7),(2,7),(3,7),(4,7),(0,8),(1,8),(2,8),(3,8),(4,8),(5,8),(6,8),(7,8),(0,9),(1,9),(2,9),(3,9),(4,9),(12,13),(13,14)] [2,3,7,16,138,139,140,141,142,143,144,145,146,147,148,149,150,151]) (zQ (zQ (oQ [M 152 19,O 153 (.bin .gtr NB (.c (.int .u64 (0))))] [19,152]) (zC NC (zQ (oQ [O 154 (.build [(ic (0)),(ic (0))] []),zS 2 t4 ND,O 5 (.mv (I 16))] [12,17,20,153,154]) .ret) .skip)) (zQ (oQ [M 155 12,M 156 17,M 157 20,O 158 (.call (.f AQ) [NE,NF,NG]),O 159 (.ext GB 0),O 160 (.ext GB 1),zS 2 t4 NH,M 5 160] [12,17,20,153,155,156,157,158,159,160]) .ret)))))))))))))))⟩
def NJ:TFn:=⟨2,[.cell 4 true 2,.tmp 5],(zQ (oQ [O 2 (.boxL t0),O 3 (.boxL t1),O 4 (.allocL (gz 2)),O 5 (.mv (I 0))] [0,1,5]) (zQ (zQ (oQ [oT 7 2 2,oT 8 2 3,O 9 (.call (.f pA) [t7,t8]),M 6 9] [7,8,9]) (zQ (oQ [M 10 6,O 11 (.bin .neq dH (I 0))] [10]) (zC cM (zQ (oQ [O 12 (.build [(ic (0)),(ic (0))] []),M 13 6,zS 2 t4 cS,M 5 13] [2,3,6,11,12,13]) .ret) .skip))) (zQ (.ops [O 14 (.fad 0 t3),oF 15 1 14,O 16 (.un .neg eG),O 17 (.fad 0 t3),zS 1 fE dD] [⟨1,z2,0⟩,⟨4,z2,0⟩] [] [6,11,14,15,16,17]) (zQ (oQ [oT 18 2 2,oT 19 2 3,O 20 (.call (.f qI) [fP,fJ]),O 21 (.ext gB 0),O 22 (.ext gB 1),zS 2 t4 gC,M 5 22] [2,3,18,19,20,21,22]) .ret))))⟩
def NK:TFn:=⟨2,[.cell 4 true 2,.tmp 5],(zQ (oQ [O 2 (.boxL t0),O 3 (.boxL t1),O 4 (.allocL (gz 2)),O 5 (.mv (I 0))] [0,1,5]) (zQ (zQ (oQ [oT 17 2 2,oT 18 2 3,O 19 (.call (.f pA) [fE,fP]),M 6 19] [17,18,19]) (zQ (oQ [M 20 6,O 21 (.bin .neq gB (I 0))] [20]) (zC gC (zQ (oQ [O 22 (.build [(ic (0)),(ic (0))] []),M 23 6,zS 2 t4 gD,M 5 23] [2,3,6,21,22,23]) .ret) .skip))) (zQ (.ops [O 24 (.fad 0 t2),oF 25 1 24,O 26 (.call (.f mW) [iC]),O 27 (.fad 1 t2),oF 28 1 27,O 29 (.conv .u64 gS),O 30 (.fad 0 t3),oF 31 1 30,O 32 (.call (.f mW) [jT]),O 33 (.fad 1 t3),oF 34 1 33,O 35 (.conv .u64 jU),M 7 26,M 8 29,M 9 32,M 10 35] [⟨1,z2,0⟩,⟨4,z2,0⟩,⟨7,z2,0⟩,⟨10,z2,0⟩] [(0,3),(1,3),(2,3),(0,4),(1,4),(2,4),(0,5),(1,5),(2,5),(0,6),(1,6),(2,6),(3,6),(4,6),(5,6),(0,7),(1,7),(2,7),(3,7),(4,7),(5,7),(3,8),(4,8),(5,8),(0,9),(1,9),(2,9),(3,9),(4,9),(5,9),(6,9),(7,9),(8,9),(0,10),(1,10),(2,10),(3,10),(4,10),(5,10),(6,10),(7,10),(8,10),(0,11),(1,11),(2,11),(3,11),(4,11),(5,11),(6,11),(7,11),(8,11),(3,12),(4,12),(5,12),(9,12),(10,12),(11,12),(9,13),(10,13),(11,13),(9,14),(10,14),(11,14)] [6,21,24,25,26,27,28,29,30,31,32,33,34,35]) (zQ (oQ [M 36 7,M 37 10,O 38 (.call (.f rR) [nA,nB]),M 39 9,M 40 8,O 41 (.call (.f rR) [nC,lV]),M 11 38,M 12 41] (zR 36 6)) (zQ (.ops [M 43 7,M 44 11,oX 45 .quo 43 44,M 46 9,M 47 12,oX 48 .quo 46 47,O 49 (.call (.f pB) [qK,pC]),M 42 49,O 50 (.ext kL 0),O 51 (.ext kL 1),M 13 50,M 14 51] [] [(0,1),(0,3),(1,3),(2,3),(0,4),(1,4),(2,4),(3,4),(0,5),(1,5),(2,5),(8,9),(9,10)] [7,9,42,43,44,45,46,47,48,49,50,51]) (zQ (.ops [M 53 8,M 54 12,oX 55 .quo 53 54,M 56 10,M 57 11,oX 58 .quo 56 57,O 59 (.call (.f pB) [mX,Ji]),M 52 59,O 60 (.ext tQ 0),O 61 (.ext tQ 1),M 15 60,M 16 61] [] [(0,1),(0,3),(1,3),(2,3),(0,4),(1,4),(2,4),(3,4),(0,5),(1,5),(2,5),(8,9),(9,10)] [8,10,11,12,52,53,54,55,56,57,58,59,60,61]) (zQ (zQ (oQ [M 62 13,M 63 15,oX 64 .add 62 63,O 65 (.bin .gtr zA (.c (.int .u64 (0))))] [13,15,62,63,64]) (zC zH (zQ (oQ [O 66 (.build [(ic (0)),(ic (0))] []),zS 2 t4 Bb,O 5 (.mv (I 16))] [2,3,14,16,65,66]) .ret) .skip)) (zQ (.ops [M 67 14,O 68 (.bin .gtr AW (.c (.int .u64 (0)))),M 69 68,zT 70 69 (.fad 0 t2),zT 71 69 (.load false 1 zG),zT 72 69 (.bin .lss vZ (I 0)),zT 73 69 (.fad 0 t3),zT 74 69 (.load false 1 yV),zT 75 69 (.bin .lss yW (I 0)),zT 76 69 (.eqB true yU tN),O 77 (.pick zJ yX (.c (.bool false))),M 78 14,M 79 16,O 80 (.call (.f AQ) [vT,tO,Ba]),O 81 (.ext AX 0),O 82 (.ext AX 1),zS 2 t4 AY,M 5 82] [⟨4,z2,0⟩,⟨7,z2,0⟩] [] [2,3,14,16,65,67,68,69,70,71,72,73,74,75,76,77,78,79,80,81,82]) .ret))))))))⟩
def NL:TFn:=⟨2,[.cell 4 true 2,.tmp 5],(zQ (oQ [O 2 (.boxL t0),O 3 (.boxL t1),O 4 (.allocL (gz 2)),O 5 (.mv (I 0))] [0,1,5]) (zQ (zQ (oQ [oT 7 2 2,oT 8 2 3,O 9 (.call (.f pA) [t7,t8]),M 6 9] [7,8,9]) (zQ (oQ [M 10 6,O 11 (.bin .neq dH (I 0))] [10]) (zC cM (zQ (oQ [O 12 (.build [(ic (0)),(ic (0))] []),M 13 6,zS 2 t4 cS,M 5 13] [2,3,6,11,12,13]) .ret) .skip))) (zQ (zB 0 (zQ (.ops [O 15 (.fad 0 t3),oF 16 1 15,O 17 (.bin .eql dD (I 0)),M 14 17] [⟨1,z2,0⟩] [] [6,11,15,16,17]) (zC dJ (zQ (oQ [O 18 (.build [(ic (0)),(ic (0))] []),zS 2 t4 fP,O 5 (.mv (I 18))] [2,3,14,18]) .ret) (zQ (.ops [O 20 (.fad 0 t3),oF 21 1 20,O 22 (.bin .lss gC (I 0)),M 19 22] [⟨1,z2,0⟩] [] [14,20,21,22]) (zC fJ (zQ (.ops [oT 23 2 2,O 24 (.fad 1 t3),oF 25 1 24,O 26 (.un .neg iC),O 27 (.fad 0 t3),oF 28 1 27,O 29 (.un .neg gS),O 30 (.build [(ic (0)),(ic (0))] [(0,1,jD),(1,1,kX)]),O 31 (.call (.f nZ) [hZ,jS]),O 32 (.ext jT 0),O 33 (.ext jT 1),zS 2 t4 kM,M 5 33] [⟨2,z2,0⟩,⟨5,z2,0⟩] [] [2,3,19,23,24,25,26,27,28,29,30,31,32,33]) .ret) .skip))))) (zQ (.ops [oT 34 2 2,O 35 (.fad 1 t3),oF 36 1 35,O 37 (.fad 0 t3),oF 38 1 37,O 39 (.build [(ic (0)),(ic (0))] [(0,1,nA),(1,1,lU)]),O 40 (.call (.f nZ) [jU,nC]),O 41 (.ext lV 0),O 42 (.ext lV 1),zS 2 t4 lW,M 5 42] [⟨2,z2,0⟩,⟨4,z2,0⟩] [] [2,3,19,34,35,36,37,38,39,40,41,42]) .ret))))⟩
def GC:Opd:=.t 115
def Bu:Opd:=.t 126
def NM:TFn:=⟨2,[.cell 4 true 4],(zQ (oQ [O 3 (.boxL t1),O 4 (.allocL (gz 4))] [1]) (zQ (.ops [M 11 0,O 12 (.nilchk cM),O 13 (.fad 0 cS),O 14 (.fad 2 dI),oF 15 1 14,M 16 0,O 17 (.nilchk dD),O 18 (.fad 5 fE),oF 19 1 18,O 20 (.iad 1 eG fJ),oF 21 1 20,O 22 (.call (.f lI) [gC]),M 23 0,O 24 (.nilchk hZ),O 25 (.fad 0 gE),O 26 (.fad 2 iC),oF 27 1 26,M 28 0,O 29 (.nilchk gS),O 30 (.fad 6 kX),oF 31 1 30,O 32 (.iad 1 mY jT),oF 33 1 32,O 34 (.call (.f lI) [mZ]),O 5 (.allocL (gz 2)),O 6 (.allocL (gz 2)),zS 2 t5 gD,zS 2 t6 jU] [⟨9,zI,0⟩,⟨10,zI,0⟩,⟨21,zI,0⟩,⟨22,zI,0⟩] [(0,5),(1,5),(2,5),(3,5),(4,5),(0,6),(1,6),(2,6),(3,6),(4,6),(0,7),(1,7),(2,7),(3,7),(4,7),(0,8),(1,8),(2,8),(3,8),(4,8),(0,12),(1,12),(2,12),(3,12),(4,12),(5,12),(6,12),(7,12),(8,12),(9,12),(10,12),(11,12),(0,13),(1,13),(2,13),(3,13),(4,13),(5,13),(6,13),(7,13),(8,13),(9,13),(10,13),(11,13),(0,14),(1,14),(2,14),(3,14),(4,14),(5,14),(6,14),(7,14),(8,14),(9,14),(10,14),(11,14),(0,15),(1,15),(2,15),(3,15),(4,15),(5,15),(6,15),(7,15),(8,15),(9,15),(10,15),(11,15),(0,16),(1,16),(2,16),(3,16),(4,16),(5,16),(6,16),(7,16),(8,16),(9,16),(10,16),(11,16),(0,17),(1,17),(2,17),(3,17),(4,17),(5,17),(6,17),(7,17),(8,17),(9,17),(10,17),(11,17),(12,17),(13,17),(14,17),(15,17),(16,17),(0,18),(1,18),(2,18),(3,18),(4,18),(5,18),(6,18),(7,18),(8,18),(9,18),(10,18),(11,18),(12,18),(13,18),(14,18),(15,18),(16,18),(0,19),(1,19),(2,19),(3,19),(4,19),(5,19),(6,19),(7,19),(8,19),(9,19),(10,19),(11,19),(12,19),(13,19),(14,19),(15,19),(16,19),(0,20),(1,20),(2,20),(3,20),(4,20),(5,20),(6,20),(7,20),(8,20),(9,20),(10,20),(11,20),(12,20),(13,20),(14,20),(15,20),(16,20),(0,21),(1,21),(2,21),(3,21),(4,21),(5,21),(6,21),(7,21),(8,21),(9,21),(10,21),(11,21),(0,22),(1,22),(2,22),(3,22),(4,22),(5,22),(6,22),(7,22),(8,22),(9,22),(10,22),(11,22),(0,24),(1,24),(2,24),(3,24),(4,24),(5,24),(6,24),(7,24),(8,24),(9,24),(10,24),(11,24),(12,24),(13,24),(14,24),(15,24),(16,24),(17,24),(18,24),(19,24),(20,24),(21,24),(22,24),(23,24),(0,25),(1,25),(2,25),(3,25),(4,25),(5,25),(6,25),(7,25),(8,25),(9,25),(10,25),(11,25),(12,25),(13,25),(14,25),(15,25),(16,25),(17,25),(18,25),(19,25),(20,25),(21,25),(22,25),(23,25),(24,25)] (zR 11 24)) (zQ (.ops [O 36 (.fad 0 t3),oT 37 2 36,M 38 0,O 39 (.nilchk lU),O 40 (.fad 0 nC),O 41 (.fad 1 lV),oF 42 1 41,M 43 0,O 44 (.nilchk rW),O 45 (.fad 5 qJ),oF 46 1 45,O 47 (.iad 1 kL mK),oF 48 1 47,O 49 (.call (.f lI) [pC]),O 50 (.call (.f rS) [nB,qM]),M 35 50,O 51 (.ext jE 0),O 52 (.ext jE 1),O 7 (.allocL (gz 2)),zS 2 t7 tP,M 8 52] [⟨1,z4,0⟩,⟨11,zI,0⟩,⟨12,zI,0⟩] [(0,2),(1,2),(0,3),(1,3),(0,4),(1,4),(0,5),(1,5),(0,6),(1,6),(0,7),(1,7),(2,7),(3,7),(4,7),(5,7),(6,7),(0,8),(1,8),(2,8),(3,8),(4,8),(5,8),(6,8),(0,9),(1,9),(2,9),(3,9),(4,9),(5,9),(6,9),(0,10),(1,10),(2,10),(3,10),(4,10),(5,10),(6,10),(0,11),(1,11),(0,12),(1,12),(0,13),(1,13),(16,17),(0,18),(1,18),(2,18),(3,18),(4,18),(5,18),(6,18),(7,18),(8,18),(9,18),(10,18),(11,18),(12,18),(13,18),(14,18),(15,18),(16,18),(17,18),(17,19)] [8,35,36,37,38,39,40,41,42,43,44,45,46,47,48,49,50,51,52]) (zQ (oQ [oT 54 2 7,oT 55 2 5,O 56 (.call (.f nZ) [vU,mX]),M 53 56,O 57 (.ext AZ 0),O 58 (.ext AZ 1),zS 2 t7 vS] (zR 53 6)) (zQ (.ops [oT 60 2 7,M 61 0,O 62 (.nilchk yS),O 63 (.fad 3 AV),oF 64 1 63,M 65 0,O 66 (.nilchk zH),O 67 (.fad 5 Bb),oF 68 1 67,O 69 (.iad 1 zA yT),oF 70 1 69,M 71 0,O 72 (.nilchk vZ),O 73 (.fad 3 yU),oF 74 1 73,M 75 0,O 76 (.nilchk tN),O 77 (.fad 6 yX),oF 78 1 77,O 79 (.iad 1 yW tO),oF 80 1 79,oX 81 .sub 70 80,O 82 (.call (.f lI) [AY]),O 83 (.call (.f qI) [vY,DE]),M 59 83,O 84 (.ext vV 0),O 85 (.ext vV 1),zS 2 t7 DF] [⟨9,zI,0⟩,⟨10,zI,0⟩,⟨19,zI,0⟩,⟨20,zI,0⟩] [(0,1),(0,2),(0,3),(0,4),(0,5),(1,5),(2,5),(3,5),(4,5),(0,6),(1,6),(2,6),(3,6),(4,6),(0,7),(1,7),(2,7),(3,7),(4,7),(0,8),(1,8),(2,8),(3,8),(4,8),(0,9),(0,10),(0,11),(1,11),(2,11),(3,11),(4,11),(5,11),(6,11),(7,11),(8,11),(9,11),(10,11),(0,12),(1,12),(2,12),(3,12),(4,12),(5,12),(6,12),(7,12),(8,12),(9,12),(10,12),(0,13),(1,13),(2,13),(3,13),(4,13),(5,13),(6,13),(7,13),(8,13),(9,13),(10,13),(0,14),(1,14),(2,14),(3,14),(4,14),(5,14),(6,14),(7,14),(8,14),(9,14),(10,14),(0,15),(1,15),(2,15),(3,15),(4,15),(5,15),(6,15),(7,15),(8,15),(9,15),(10,15),(11,15),(12,15),(13,15),(14,15),(0,16),(1,16),(2,16),(3,16),(4,16),(5,16),(6,16),(7,16),(8,16),(9,16),(10,16),(11,16),(12,16),(13,16),(14,16),(0,17),(1,17),(2,17),(3,17),(4,17),(5,17),(6,17),(7,17),(8,17),(9,17),(10,17),(11,17),(12,17),(13,17),(14,17),(0,18),(1,18),(2,18),(3,18),(4,18),(5,18),(6,18),(7,18),(8,18),(9,18),(10,18),(11,18),(12,18),(13,18),(14,18),(0,19),(1,19),(2,19),(3,19),(4,19),(5,19),(6,19),(7,19),(8,19),(9,19),(10,19),(0,20),(1,20),(2,20),(3,20),(4,20),(5,20),(6,20),(7,20),(8,20),(9,20),(10,20),(0,21),(0,22),(25,26),(26,27)] (zR 59 27)) (zQ (.ops [O 87 (.fad 2 t3),oT 88 2 87,oT 89 2 5,O 90 (.call (.f nZ) [Gt,DJ]),M 86 90,O 91 (.ext yY 0),O 92 (.ext yY 1),O 9 (.allocL (gz 2)),zS 2 t9 Gq,M 10 92] [⟨1,z4,0⟩] [] [3,5,10,86,87,88,89,90,91,92]) (zQ (.ops [oT 94 2 9,M 95 0,O 96 (.nilchk Gr),O 97 (.fad 4 JB),oF 98 1 97,O 99 (.call (.f lI) [Gs]),O 100 (.call (.f qI) [DM,Nw]),M 93 100,O 101 (.ext DL 0),O 102 (.ext DL 1),zS 2 t9 pF] [] [(0,1),(0,2),(0,3),(0,4),(0,5),(8,9),(9,10)] (zR 93 10)) (zQ (oQ [oT 104 2 7,oT 105 2 6,O 106 (.call (.f rT) [Bi,Bj]),M 103 106,O 107 (.ext pG 0),O 108 (.ext pG 1),zS 2 t7 pE] (zR 103 6)) (zQ (.ops [oT 110 2 7,M 111 0,O 112 (.nilchk Bm),O 113 (.fad 0 Bn),O 114 (.fad 1 wA),oF 115 1 114,M 116 0,O 117 (.nilchk Bp),O 118 (.fad 6 Bc),oF 119 1 118,O 120 (.iad 1 GC rX),oF 121 1 120,O 122 (.call (.f lI) [Bo]),O 123 (.call (.f qI) [wH,wE]),M 109 123,O 124 (.ext pD 0),O 125 (.ext pD 1),zS 2 t7 Bq] [⟨10,zI,0⟩,⟨11,zI,0⟩] [(0,1),(0,2),(0,3),(0,4),(0,5),(0,6),(1,6),(2,6),(3,6),(4,6),(5,6),(0,7),(1,7),(2,7),(3,7),(4,7),(5,7),(0,8),(1,8),(2,8),(3,8),(4,8),(5,8),(0,9),(1,9),(2,9),(3,9),(4,9),(5,9),(0,10),(0,11),(0,12),(15,16),(16,17)] [0,109,110,111,112,113,114,115,116,117,118,119,120,121,122,123,124,125]) (zQ (oQ [oT 127 2 9,oT 128 2 6,O 129 (.call (.f rT) [Bf,Gu]),M 126 129,O 130 (.ext Bu 0),O 131 (.ext Bu 1),zS 2 t9 wF] [6,126,127,128,129,130,131]) (zQ (oQ [oT 132 2 7,oT 133 2 9,O 134 (.build [(ic (0)),(ic (0)),(ic (0)),(ic (0))] [(0,2,Br),(2,2,Bs)]),zS 4 t4 Bt] [7,9,132,133,134]) .ret)))))))))))⟩
def NN:TFn:=⟨2,[.cell 4 true 2],(zQ (oQ [O 2 (.boxL t0),O 4 (.allocL (gz 2))] [0]) (zQ (.ops [M 10 1,O 11 (.call (.f lI) [dH]),O 12 (.fad 0 t2),oT 13 2 12,O 14 (.call (.f rS) [cM,dI]),M 9 14,O 15 (.ext t9 0),O 16 (.ext t9 1),O 5 (.allocL (gz 2)),zS 2 t5 eG,M 6 16] [⟨3,z4,0⟩] [(0,2),(1,2),(0,3),(1,3),(6,7),(0,8),(1,8),(2,8),(3,8),(4,8),(5,8),(6,8),(7,8),(7,9)] [1,6,9,10,11,12,13,14,15,16]) (zQ (.ops [oT 18 2 5,O 19 (.fad 2 t2),oT 20 2 19,O 21 (.call (.f rT) [fP,gB]),M 17 21,O 22 (.ext fE 0),O 23 (.ext fE 1),O 7 (.allocL (gz 2)),zS 2 t7 gD,M 8 23] [⟨2,z4,0⟩] [] [2,5,8,17,18,19,20,21,22,23]) (zQ (oQ [oT 24 2 7,zS 2 t4 gE] [7,24]) .ret))))⟩
def DN:Opd:=.t 56
def JG:TC:=(zQ (oQ [oX 11 .lss 10 9] []) (zQ (zC cM .skip (.exit 0)) (zQ (zB 1 (zQ (oQ [M 12 10,O 13 (.iad 1 t8 dH),oF 14 1 13,M 5 12,M 6 14] (zR 11 4)) (zQ (.ops [M 15 0,oF 16 1 2,M 17 5,O 18 (.iad 4 dD fE),oT 19 4 18,M 20 6,O 21 (.nilchk gB),O 22 (.fad 0 gC),O 23 (.fad 1 gD),oF 24 1 23,M 25 6,O 26 (.nilchk iC),O 27 (.fad 6 jD),oF 28 1 27,O 29 (.bin .add gS (I 1)),O 30 (.iad 1 gE kX),oF 31 1 30,O 32 (.call (.f AR) [fJ,jT]),M 33 6,O 34 (.nilchk mZ),O 35 (.fad 6 jU),O 36 (.call eG [kM,jE])] [⟨3,z4,0⟩,⟨4,z4,0⟩,⟨9,(.agg [.i .i64,.d,.d,.d,.i .i64,.i .i64,.i .i64]),0⟩,⟨13,(.agg [.i .i64,.d,.d,.d,.i .i64,.i .i64,.i .i64]),0⟩,⟨15,zI,0⟩,⟨16,zI,0⟩] [(0,1),(0,2),(1,2),(0,3),(0,4),(0,5),(1,5),(2,5),(3,5),(4,5),(0,6),(1,6),(2,6),(3,6),(4,6),(0,7),(1,7),(2,7),(3,7),(4,7),(0,8),(1,8),(2,8),(3,8),(4,8),(0,9),(1,9),(2,9),(3,9),(4,9),(0,10),(1,10),(2,10),(3,10),(4,10),(5,10),(6,10),(7,10),(8,10),(9,10),(0,11),(1,11),(2,11),(3,11),(4,11),(5,11),(6,11),(7,11),(8,11),(9,11),(0,12),(1,12),(2,12),(3,12),(4,12),(5,12),(6,12),(7,12),(8,12),(9,12),(0,13),(1,13),(2,13),(3,13),(4,13),(5,13),(6,13),(7,13),(8,13),(9,13),(0,14),(1,14),(2,14),(3,14),(4,14),(5,14),(6,14),(7,14),(8,14),(9,14),(0,15),(1,15),(2,15),(3,15),(4,15),(0,16),(1,16),(2,16),(3,16),(4,16),(0,17),(0,18),(1,18),(2,18),(3,18),(4,18),(5,18),(6,18),(7,18),(8,18),(9,18),(10,18),(11,18),(12,18),(13,18),(14,18),(15,18),(16,18),(17,18),(0,19),(1,19),(2,19),(3,19),(4,19),(5,19),(6,19),(7,19),(8,19),(9,19),(10,19),(11,19),(12,19),(13,19),(14,19),(15,19),(16,19),(17,19),(0,20),(1,20),(2,20),(3,20),(4,20),(5,20),(6,20),(7,20),(8,20),(9,20),(10,20),(11,20),(12,20),(13,20),(14,20),(15,20),(16,20),(17,20)] [6,15,16,17,18,19,20,21,22,23,24,25,26,27,28,29,30,31,32,33,34,35,36]) (zQ (oQ [M 37 5,oF 38 1 3,oX 39 .lss 37 38] [37,38]) (zC nC (zQ (oQ [oF 40 1 1,M 41 5,O 42 (.bin .add lW (I 1)),O 43 (.iad 1 lV kL),oF 44 1 43,M 7 44] (zR 39 6)) (.ops [M 45 0,oF 46 1 2,M 47 5,O 48 (.iad 4 mK qL),oT 49 4 48,M 50 7,O 51 (.nilchk yZ),O 52 (.fad 0 tP),O 53 (.fad 1 tQ),oF 54 1 53,M 55 7,O 56 (.nilchk mX),O 57 (.fad 5 DN),oF 58 1 57,O 59 (.bin .add Ji (I 1)),O 60 (.iad 1 vU vV),oF 61 1 60,O 62 (.call (.f AR) [qM,yS]),M 63 7,O 64 (.nilchk Gm),O 65 (.fad 5 zA),O 66 (.call qK [AV,zH])] [⟨3,z4,0⟩,⟨4,z4,0⟩,⟨9,(.agg [.i .i64,.d,.d,.d,.i .i64,.i .i64,.i .i64]),0⟩,⟨13,(.agg [.i .i64,.d,.d,.d,.i .i64,.i .i64,.i .i64]),0⟩,⟨15,zI,0⟩,⟨16,zI,0⟩] [(0,1),(0,2),(1,2),(0,3),(0,4),(0,5),(1,5),(2,5),(3,5),(4,5),(0,6),(1,6),(2,6),(3,6),(4,6),(0,7),(1,7),(2,7),(3,7),(4,7),(0,8),(1,8),(2,8),(3,8),(4,8),(0,9),(1,9),(2,9),(3,9),(4,9),(0,10),(1,10),(2,10),(3,10),(4,10),(5,10),(6,10),(7,10),(8,10),(9,10),(0,11),(1,11),(2,11),(3,11),(4,11),(5,11),(6,11),(7,11),(8,11),(9,11),(0,12),(1,12),(2,12),(3,12),(4,12),(5,12),(6,12),(7,12),(8,12),(9,12),(0,13),(1,13),(2,13),(3,13),(4,13),(5,13),(6,13),(7,13),(8,13),(9,13),(0,14),(1,14),(2,14),(3,14),(4,14),(5,14),(6,14),(7,14),(8,14),(9,14),(0,15),(1,15),(2,15),(3,15),(4,15),(0,16),(1,16),(2,16),(3,16),(4,16),(0,17),(0,18),(1,18),(2,18),(3,18),(4,18),(5,18),(6,18),(7,18),(8,18),(9,18),(10,18),(11,18),(12,18),(13,18),(14,18),(15,18),(16,18),(17,18),(0,19),(1,19),(2,19),(3,19),(4,19),(5,19),(6,19),(7,19),(8,19),(9,19),(10,19),(11,19),(12,19),(13,19),(14,19),(15,19),(16,19),(17,19),(0,20),(1,20),(2,20),(3,20),(4,20),(5,20),(6,20),(7,20),(8,20),(9,20),(10,20),(11,20),(12,20),(13,20),(14,20),(15,20),(16,20),(17,20)] [5,7,45,46,47,48,49,50,51,52,53,54,55,56,57,58,59,60,61,62,63,64,65,66])) .skip))))) (oQ [O 67 (.bin .add dH (I 1)),M 10 67] [5,39,67]))))
def DO:TFn:=⟨4,[],(zQ (oQ [oF 8 1 1,O 9 (.len t8),O 10 (.mv (I 0))] []) (zB 0 (.loop 31735400 JG)))⟩
def NO:TFn:=⟨1,[.tmp 2],(zQ (oQ [O 2 (.mv (.c (.bool false)))] [2]) (zQ (oQ [M 3 0,M 4 0,oX 5 .neq 3 4,M 2 5] [0,3,4,5]) .ret))⟩
def NP:TFn:=⟨2,[.tmp 4],(zQ (oQ [O 4 (.mv (I 0))] [4]) (zQ (oQ [M 7 0,O 8 (.call (.f Ds) [t7]),M 5 8] [7,8]) (zQ (oQ [M 9 1,O 10 (.call (.f Ds) [t9]),M 6 10] [9,10]) (zQ (zQ (oQ [M 11 5] [5]) (zC cM (zQ (zQ (oQ [M 12 6] [0,1,6,11]) (zC cS (zQ (oQ [O 4 (.mv (I 0))] [12]) .ret) .skip)) (zQ (oQ [O 4 (.mv (I (-1)))] [12]) .ret)) .skip)) (zQ (zQ (oQ [M 13 6] [6,11]) (zC dI (zQ (oQ [O 4 (.mv (I 1))] [0,1,13]) .ret) .skip)) (zQ (zQ (oQ [M 14 0,M 15 1,oX 16 .lss 14 15] [13,14,15]) (zC dD (zQ (oQ [O 4 (.mv (I (-1)))] [0,1,16]) .ret) .skip)) (zQ (zQ (oQ [M 17 0,M 18 1,oX 19 .gtr 17 18] [0,1,16,17,18]) (zC fJ (zQ (oQ [O 4 (.mv (I 1))] [19]) .ret) .skip)) (zQ (oQ [O 4 (.mv (I 0))] [19]) .ret))))))))⟩
def NQ:TFn:=⟨1,[.tmp 2],(zQ (oQ [O 2 (.mv (.c (.bool false)))] [2]) (zQ (oQ [M 3 0,M 4 0,oX 5 .neq 3 4,M 2 5] [0,3,4,5]) .ret))⟩
def NR:TFn:=⟨2,[.tmp 4],(zQ (oQ [O 4 (.mv (I 0))] [4]) (zQ (oQ [M 7 0,O 8 (.call (.f Dt) [t7]),M 5 8] [7,8]) (zQ (oQ [M 9 1,O 10 (.call (.f Dt) [t9]),M 6 10] [9,10]) (zQ (zQ (oQ [M 11 5] [5]) (zC cM (zQ (zQ (oQ [M 12 6] [0,1,6,11]) (zC cS (zQ (oQ [O 4 (.mv (I 0))] [12]) .ret) .skip)) (zQ (oQ [O 4 (.mv (I (-1)))] [12]) .ret)) .skip)) (zQ (zQ (oQ [M 13 6] [6,11]) (zC dI (zQ (oQ [O 4 (.mv (I 1))] [0,1,13]) .ret) .skip)) (zQ (zQ (oQ [M 14 0,M 15 1,oX 16 .lss 14 15] [13,14,15]) (zC dD (zQ (oQ [O 4 (.mv (I (-1)))] [0,1,16]) .ret) .skip)) (zQ (zQ (oQ [M 17 0,M 18 1,oX 19 .gtr 17 18] [0,1,16,17,18]) (zC fJ (zQ (oQ [O 4 (.mv (I 1))] [19]) .ret) .skip)) (zQ (oQ [O 4 (.mv (I 0))] [19]) .ret))))))))⟩
def JH:TC:=(zQ (oQ [oX 9 .lss 8 7] []) (zQ (zC t9 .skip (.exit 0)) (zQ (zB 1 (zQ (.ops [O 10 (.iad 1 t6 t8),oF 11 1 10,M 5 11] [⟨0,zI,0⟩,⟨1,zI,0⟩] [] [9,10,11]) (zQ (oQ [M 12 5,M 13 3,oX 14 .neq 12 13] [12,13]) (zC dJ (zQ (oQ [M 15 5,M 2 15] [3,5,6,7,8,14,15]) .ret) .skip)))) (oQ [O 16 (.bin .add t8 (I 1)),M 8 16] [5,14,16]))))
def NS:TFn:=⟨1,[.tmp 2],(zQ (oQ [O 2 (.mv (I 0))] [2]) (zQ (oQ [O 3 (.mv (I 0))] []) (zQ (zQ (oQ [M 6 0,O 7 (.len t6),O 8 (.mv (I 0))] [0]) (zB 0 (.loop 53260600 JH))) (zQ (oQ [M 17 3,M 2 17] [3,6,7,8,9,17]) .ret))))⟩
def NT:TFn:=⟨2,[.tmp 4,.tmp 5],(zQ (oQ [O 2 (.boxL t0),O 3 (.boxL t1),O 4 (.mv (I 0)),O 5 (.mv (I 0))] [0,1,4,5]) (zQ (zQ (oQ [oT 12 2 2,oT 13 2 3,O 14 (.call (.f pA) [cS,dI]),M 6 14] [12,13,14]) (zQ (oQ [M 15 6,O 16 (.bin .neq eG (I 0))] [15]) (zC dD (zQ (oQ [M 17 6,O 4 (.mv (I 0)),M 5 17] [2,3,6,16,17]) .ret) .skip))) (zQ (zQ (.ops [O 18 (.fad 0 t2),oF 19 1 18,O 20 (.bin .lss fJ (I 0)),O 21 (.fad 0 t3),oF 22 1 21,O 23 (.bin .lss gD (I 0)),O 24 (.eqB true gB hZ)] [⟨1,z2,0⟩,⟨4,z2,0⟩] [] [6,16,18,19,20,21,22,23]) (zC gE (zQ (.ops [O 25 (.fad 0 t2),oF 26 1 25,O 27 (.fad 0 t3),oF 28 1 27,O 29 (.call (.f Gf) [jD,gS]),M 4 29,O 5 (.mv (I 0))] [⟨1,z2,0⟩,⟨3,z2,0⟩] [] [2,3,24,25,26,27,28,29]) .ret) .skip)) (zQ (.ops [O 31 (.fad 0 t2),oF 32 1 31,O 33 (.call (.f mW) [kM]),O 34 (.fad 1 t3),oF 35 1 34,O 36 (.conv .u64 jE),O 37 (.call (.f pB) [mZ,nA]),M 30 37,O 38 (.ext jS 0),O 39 (.ext jS 1),M 7 38,M 8 39] [⟨1,z2,0⟩,⟨4,z2,0⟩] [(0,3),(1,3),(2,3),(0,4),(1,4),(2,4),(0,5),(1,5),(2,5),(8,9),(9,10)] [24,30,31,32,33,34,35,36,37,38,39]) (zQ (.ops [O 41 (.fad 0 t3),oF 42 1 41,O 43 (.call (.f mW) [kL]),O 44 (.fad 1 t2),oF 45 1 44,O 46 (.conv .u64 qK),O 47 (.call (.f pB) [rW,mK]),M 40 47,O 48 (.ext lV 0),O 49 (.ext lV 1),M 9 48,M 10 49] [⟨1,z2,0⟩,⟨4,z2,0⟩] [(0,3),(1,3),(2,3),(0,4),(1,4),(2,4),(0,5),(1,5),(2,5),(8,9),(9,10)] [3,40,41,42,43,44,45,46,47,48,49]) (zQ (oQ [M 50 7,M 51 9,O 52 (.call (.f Du) [yZ,tP]),M 53 8,M 54 10,O 55 (.call (.f Du) [AZ,vU]),O 56 (.bD 1 (ic (0)) 2 [(0,tQ),(1,mX)]),O 57 (.call (.f Gg) [DN]),M 11 57] [7,8,9,10,50,51,52,53,54,55,56,57]) (zQ (zQ (.ops [O 58 (.fad 0 t2),oF 59 1 58,O 60 (.bin .lss vV (I 0))] [⟨1,z2,0⟩] [] [2,58,59]) (zC vY (oQ [M 61 11,O 62 (.un .neg yS),M 11 62] [60,61,62]) .skip)) (zQ (oQ [M 63 11,M 4 63,O 5 (.mv (I 0))] [11,60,63]) .ret))))))))⟩
def NU:TFn:=⟨2,[.tmp 4],(zQ (oQ [O 2 (.boxL t0),O 3 (.boxL t1),O 4 (.mv (.c (.bool false)))] [0,1,4]) (zQ (oQ [oT 8 2 2,oT 9 2 3,O 10 (.call (.f AS) [t8,t9]),M 7 10,O 11 (.ext t7 0),O 12 (.ext t7 1),M 5 11,M 6 12] [2,3,6,7,8,9,10,11,12]) (zQ (oQ [M 13 5,O 14 (.bin .lss dI (I 0)),M 4 14] [5,13,14]) .ret)))⟩
def DP:TFn:=⟨3,[],(zQ (oQ [O 3 (.boxL t0)] [0,1]) (zQ (oQ [oT 5 2 3,oT 6 2 2,O 7 (.call (.f Dv) [t5,t6])] [5,6]) (zC t7 (oQ [oT 8 2 3,zS 2 t2 t8] [2,3,7,8]) .skip)))⟩
def DQ:TFn:=⟨4,[],(zQ (oQ [O 4 (.boxL t0)] [0]) (zQ (oQ [oT 6 2 4,oT 7 2 2,O 8 (.eqA false 2 [(0,(some .i64)),(1,(some .i64))] t6 t7)] [2,4,6,7]) (zC t8 (oQ [oF 9 1 3,M 10 1,O 11 (.bSl false 1 .nilp 1 [(0,dH)]),O 12 (.app false 1 8 t9 cM),zS 1 t3 cS] [1,3,8,9,10,11,12]) .skip)))⟩
def pH:TC:=(zQ (oQ [oX 42 .lss 41 40] []) (zQ (zC kL .skip (.exit 2)) (zQ (zB 3 (zQ (.ops [M 43 41,O 44 (.iad 1 nC lW),oF 45 1 44,M 9 43,M 10 45] [⟨1,zI,0⟩,⟨2,zI,0⟩] [] (zR 42 4)) (zQ (.ops [M 46 8,O 47 (.nilchk mK),O 48 (.fad 4 qL),oF 49 1 48,M 50 10,M 51 8,O 52 (.nilchk tP),O 53 (.fad 0 tQ),O 54 (.fad 1 AZ),oF 55 1 54,M 56 9,O 57 (.bin .add DN (I 1)),O 58 (.iad 1 mX vS),oF 59 1 58,M 60 8,O 61 (.nilchk vY),O 62 (.fad 0 yS),O 63 (.fad 1 AV),oF 64 1 63,M 65 9,O 66 (.iad 1 zA zH),oF 67 1 66,oX 68 .sub 59 67,oX 69 .mul 50 68,oX 70 .add 49 69,O 71 (.nilchk mK),O 72 (.fad 4 vZ),zS 1 yU zG] [⟨3,(.agg [.i .i64,.d,.d,.d,.i .i64,.i .i64,.i .i64]),0⟩,⟨9,(.agg [.i .i64,.d,.d,.d,.i .i64,.i .i64,.i .i64]),0⟩,⟨12,zI,0⟩,⟨13,zI,0⟩,⟨18,(.agg [.i .i64,.d,.d,.d,.i .i64,.i .i64,.i .i64]),0⟩,⟨20,zI,0⟩,⟨21,zI,0⟩,⟨27,(.agg [.i .i64,.d,.d,.d,.i .i64,.i .i64,.i .i64]),0⟩] [(0,4),(1,4),(2,4),(3,4),(0,5),(1,5),(2,5),(3,5),(4,5),(0,6),(1,6),(2,6),(3,6),(4,6),(0,7),(1,7),(2,7),(3,7),(4,7),(0,8),(1,8),(2,8),(3,8),(4,8),(0,9),(1,9),(2,9),(3,9),(4,9),(0,10),(1,10),(2,10),(3,10),(4,10),(5,10),(6,10),(7,10),(8,10),(9,10),(0,11),(1,11),(2,11),(3,11),(4,11),(5,11),(6,11),(7,11),(8,11),(9,11),(0,12),(1,12),(2,12),(3,12),(4,12),(0,13),(1,13),(2,13),(3,13),(4,13),(0,14),(1,14),(2,14),(3,14),(4,14),(5,14),(6,14),(7,14),(8,14),(9,14),(10,14),(11,14),(12,14),(13,14),(0,15),(1,15),(2,15),(3,15),(4,15),(5,15),(6,15),(7,15),(8,15),(9,15),(10,15),(11,15),(12,15),(13,15),(0,16),(1,16),(2,16),(3,16),(4,16),(5,16),(6,16),(7,16),(8,16),(9,16),(10,16),(11,16),(12,16),(13,16),(0,17),(1,17),(2,17),(3,17),(4,17),(5,17),(6,17),(7,17),(8,17),(9,17),(10,17),(11,17),(12,17),(13,17),(0,18),(1,18),(2,18),(3,18),(4,18),(5,18),(6,18),(7,18),(8,18),(9,18),(10,18),(11,18),(12,18),(13,18),(0,19),(1,19),(2,19),(3,19),(4,19),(5,19),(6,19),(7,19),(8,19),(9,19),(10,19),(11,19),(12,19),(13,19),(14,19),(15,19),(16,19),(17,19),(18,19),(0,20),(1,20),(2,20),(3,20),(4,20),(5,20),(6,20),(7,20),(8,20),(9,20),(10,20),(11,20),(12,20),(13,20),(0,21),(1,21),(2,21),(3,21),(4,21),(5,21),(6,21),(7,21),(8,21),(9,21),(10,21),(11,21),(12,21),(13,21),(0,22),(1,22),(2,22),(3,22),(4,22),(0,23),(1,23),(2,23),(3,23)] [9,10,46,47,48,49,50,51,52,53,54,55,56,57,58,59,60,61,62,63,64,65,66,67,68,69,70,71,72]) (.ops [M 73 8,M 74 8,O 75 (.nilchk yW),O 76 (.fad 3 tN),oF 77 1 76,M 78 8,O 79 (.nilchk tO),O 80 (.fad 4 Ba),oF 81 1 80,O 82 (.bD 1 (ic (0)) 1 [(0,AY)]),O 83 (.app true 1 8 vT DE),O 84 (.nilchk yV),O 85 (.fad 3 DF),zS 1 DH Gn] [⟨4,(.agg [.i .i64,.d,.d,.d,.i .i64,.i .i64,.i .i64]),0⟩,⟨8,(.agg [.i .i64,.d,.d,.d,.i .i64,.i .i64,.i .i64]),0⟩,⟨13,(.agg [.i .i64,.d,.d,.d,.i .i64,.i .i64,.i .i64]),0⟩] [(0,1),(0,2),(0,3),(0,4),(0,5),(1,5),(2,5),(3,5),(4,5),(0,6),(1,6),(2,6),(3,6),(4,6),(0,7),(1,7),(2,7),(3,7),(4,7),(0,8),(1,8),(2,8),(3,8),(4,8),(0,9),(1,9),(2,9),(3,9),(4,9),(0,10)] (zR 73 13))))) (oQ [O 86 (.bin .add lW (I 1)),M 41 86] [86]))))
def oA:TC:=(zQ (oQ [oX 25 .lss 24 23] []) (zQ (zC iC .skip (.exit 0)) (zQ (zB 1 (zQ (.ops [O 26 (.iad 1 gD gE),oF 27 1 26,M 7 27] [⟨0,zI,0⟩,⟨1,zI,0⟩] [] [25,26,27]) (zQ (.ops [M 28 0,M 29 7,O 30 (.iad 3 gS kX),oT 31 3 30,O 32 (.buildN true 1 (ic (0)) 1 [(0,(I 0))]),O 33 (.build [(ic (0)),.nils,.nils,.nils,(ic (0)),(ic (0)),(ic (0))] [(0,3,jT),(3,1,kM)]),O 34 (.boxH false 7 mZ),M 8 34] [⟨2,zK,0⟩,⟨3,zK,0⟩] [] [7,28,29,30,31,32,33,34]) (zQ (zQ (.ops [M 35 8,O 36 (.nilchk jE),O 37 (.fad 0 nA),O 38 (.fad 2 nB),oF 39 1 38,O 40 (.len nC),O 41 (.mv (I 0))] [⟨4,(.agg [.i .i64,.d,.d,.d,.i .i64,.i .i64,.i .i64]),0⟩] [] (zR 35 4)) (zB 2 (.lG 5508400 pH))) (.ops [oF 87 1 5,M 88 8,O 89 (.bSl false 1 .nilp 1 [(0,Gt)]),O 90 (.app false 1 8 Gp DJ),zS 1 t5 Jj] [⟨0,zD,0⟩,⟨4,zD,0⟩] [] [8,39,40,41,42,87,88,89,90]))))) (oQ [O 91 (.bin .add gE (I 1)),M 24 91] [91]))))
def JI:TC:=(zQ (oQ [oX 104 .lss 103 102] []) (zQ (zC Bi .skip (.exit 6)) (zQ (zB 7 (zQ (oQ [O 105 (.iad 1 pF pG),oF 106 1 105,M 15 106] [104,105,106]) (zQ (oQ [M 107 15,oT 108 4 12,O 109 (.call (.f Dq) [pE,Bl]),zS 4 cS pD] [15,107,108,109]) (.ops [oF 110 1 13,oT 111 4 12,O 112 (.bD 4 (gz 4) 1 [(0,Bm)]),O 113 (.app true 4 32 wH Bn),zS 1 dI wA] [⟨0,zD,0⟩,⟨4,zD,0⟩] [] (zR 110 4))))) (oQ [O 114 (.bin .add pG (I 1)),M 103 114] [114]))))
def GD:Opd:=.t 136
def NV:Opd:=.t 139
def GE:Opd:=.t 142
def NW:Opd:=.t 144
def NX:Opd:=.t 146
def JJ:TC:=(zQ (oQ [oX 139 .lss 138 137] []) (zQ (zC NV .skip (.exit 8)) (zQ (zB 9 (zQ (oQ [O 140 (.iad 1 GD wI),oF 141 1 140,M 21 141] [139,140,141]) (.ops [M 142 21,O 143 (.nilchk GE),oF 144 1 143,O 145 (.bin .add NW (I 1)),O 146 (.nilchk GE),zS 1 NX GA] [⟨2,zI,0⟩,⟨5,zI,0⟩] [] [21,142,143,144,145,146]))) (oQ [O 147 (.bin .add wI (I 1)),M 138 147] [147]))))
def GF:Opd:=.t 100
def fQ:TC:=(zB 5 (zQ (oQ [O 95 (.call (.f lI) [(I 0)]),O 96 (.call (.f lI) [(I 0)]),O 97 (.build [(ic (0)),(ic (0)),(ic (0)),(ic (0))] [(0,2,Gr),(2,2,JB)]),O 12 (.allocL (gz 4)),zS 4 cS Jm] [95,96,97,136,137,138,139]) (zQ (.ops [oF 98 1 5,O 99 (.len Gs),O 100 (.mkSl true 4 32 (gz 4) (I 0) Nw),O 13 (.aH false 1 .nils),zS 1 dI GF] [⟨0,zD,0⟩,⟨4,zD,0⟩] [] [98,99,100]) (zQ (zQ (.ops [oF 101 1 5,O 102 (.len pF),O 103 (.mv (I 0))] [⟨0,zD,0⟩] [] []) (zB 6 (.lG 5508402 JI))) (zQ (.ops [oF 115 1 13,oF 116 1 11,O 117 (.iad 4 GC Bp),oT 118 4 117,M 119 0,O 120 (.iad 3 rX (I 0)),O 121 (.fad 0 wC),oF 122 1 121,O 123 (.call (.f AR) [Be,wE]),O 16 (.allocL (gz 2)),zS 2 dD Gz] [⟨0,zD,0⟩,⟨1,zI,0⟩,⟨2,z4,0⟩,⟨3,z4,0⟩,⟨5,zK,0⟩,⟨7,zK,0⟩] [(0,1),(0,4),(1,4),(2,4),(3,4),(0,5),(1,5),(2,5),(3,5),(0,6),(1,6),(2,6),(3,6),(0,7),(1,7),(2,7),(3,7),(0,9),(1,9),(2,9),(3,9),(4,9),(5,9),(6,9),(7,9),(8,9)] [12,101,102,103,104,115,116,117,118,119,120,121,122,123]) (zQ (.ops [oT 124 2 16,O 17 (.aH false 2 (gz 2)),zS 2 fE Bq] [⟨2,z2,0⟩] [] [124]) (zQ (oQ [O 125 (.mkFn (.func Dr) [] [t5,dI,cM]),M 18 125] [13,125]) (zQ (oQ [M 126 18,O 127 (.mkFn (.func Dw) [] [fE]),O 128 (.call Bu [Bf])] [126,127,128]) (zQ (zQ (.ops [oT 129 2 17,oT 130 2 16,O 131 (.eqA false 2 [(0,(some .i64)),(1,(some .i64))] Bg wF)] [⟨0,z2,0⟩] [] [16,129,130]) (zC wG (zQ (.ops [oT 132 2 17,zS 2 t4 Br] [⟨0,z2,0⟩] [] [0,5,11,17,18,131,132]) .ret) .skip)) (zQ (oQ [O 19 (.aH false 1 .nils)] [131]) (zQ (oQ [M 133 18,O 134 (.mkFn (.func Dx) [] [fE,fJ]),O 135 (.call Bs [Bt])] [17,18,133,134,135]) (zQ (zQ (.ops [oF 136 1 19,O 137 (.len GD),O 138 (.mv (I 0))] [⟨0,zD,0⟩] [] [19]) (zB 8 (.lG 5508403 JJ))) (.exit 5)))))))))))))
def GG:TFn:=⟨2,[.cell 4 true 2],(zQ (oQ [O 4 (.allocL (gz 2))] []) (zQ (oQ [O 5 (.aH false 1 .nils)] []) (zQ (zQ (oQ [M 22 1,O 23 (.len gD),O 24 (.mv (I 0))] [1]) (zB 0 (.lG 5508401 oA))) (zQ (.ops [oF 92 1 5,O 93 (.len Jk),O 94 (.bin .sub DL (I 1)),O 11 (.aH false 1 (ic (0))),zS 1 cM DM] [⟨0,zD,0⟩,⟨4,zI,0⟩] [] [22,23,24,25,92,93,94]) (zQ .skip (zB 4 (.lG 5508404 fQ)))))))⟩
def NY:TFn:=⟨2,[.cell 4 true 2,.tmp 5],(zQ (oQ [O 4 (.allocL (gz 2)),O 5 (.mv (I 0))] [5]) (zQ (zQ (oQ [M 7 0,M 8 1,O 9 (.call (.f oY) [t7,t8]),M 6 9] [7,8,9]) (zQ (oQ [M 10 6,O 11 (.bin .neq dH (I 0))] [10]) (zC cM (zQ (oQ [O 12 (.build [(ic (0)),(ic (0))] []),M 13 6,zS 2 t4 cS,M 5 13] [0,1,6,11,12,13]) .ret) .skip))) (zQ (oQ [M 14 0,M 15 1,O 16 (.call (.f rU) [dJ,eG]),zS 2 t4 dD,O 5 (.mv (I 0))] [0,1,6,11,14,15,16]) .ret)))⟩
def JK:TC:=(zQ (oQ [oX 17 .lss 16 15] []) (zQ (zC fE .skip (.exit 0)) (zQ (zB 1 (zQ (.ops [M 18 16,O 19 (.iad 1 dJ dD),oF 20 1 19,M 6 18,M 7 20] [⟨1,zI,0⟩,⟨2,zI,0⟩] [] (zR 17 4)) (.ops [M 21 5,M 22 7,O 23 (.fad 1 t1),oF 24 1 23,M 25 6,O 26 (.bin .add iC (I 1)),O 27 (.iad 1 gE jD),oF 28 1 27,O 29 (.fad 1 t1),oF 30 1 29,M 31 6,O 32 (.iad 1 jS jT),oF 33 1 32,oX 34 .sub 28 33,oX 35 .mul 22 34,oX 36 .add 21 35,M 5 36] [⟨3,zK,0⟩,⟨6,zI,0⟩,⟨7,zI,0⟩,⟨9,zK,0⟩,⟨11,zI,0⟩,⟨12,zI,0⟩] [(0,1),(0,2),(1,2),(0,3),(1,3),(0,4),(1,4),(2,4),(3,4),(0,5),(1,5),(2,5),(3,5),(0,6),(1,6),(0,7),(1,7),(0,8),(1,8),(2,8),(3,8),(4,8),(5,8),(6,8),(7,8),(0,9),(1,9),(2,9),(3,9),(4,9),(5,9),(6,9),(7,9),(0,10),(1,10),(2,10),(3,10),(4,10),(5,10),(6,10),(7,10),(8,10),(9,10),(0,11),(1,11),(2,11),(3,11),(4,11),(5,11),(6,11),(7,11),(0,12),(1,12),(2,12),(3,12),(4,12),(5,12),(6,12),(7,12),(0,13),(1,13),(0,14)] [6,7,21,22,23,24,25,26,27,28,29,30,31,32,33,34,35,36]))) (oQ [O 37 (.bin .add dD (I 1)),M 16 37] [37]))))
def NZ:TFn:=⟨1,[.tmp 2,.tmp 3],(zQ (oQ [O 1 (.boxL t0),O 2 (.mv (I 0)),O 3 (.mv (I 0))] [0,2,3]) (zQ (zQ (oQ [oT 8 3 1,O 9 (.call (.f tM) [t8]),M 4 9] [8,9]) (zQ (oQ [M 10 4,O 11 (.bin .neq dH (I 0))] [10]) (zC cM (zQ (oQ [M 12 4,O 2 (.mv (I 0)),M 3 12] [1,4,11,12]) .ret) .skip))) (zQ (oQ [O 5 (.mv (I 0))] [4,11]) (zQ (zQ (.ops [O 13 (.fad 2 t1),oF 14 1 13,O 15 (.len dJ),O 16 (.mv (I 0))] [⟨1,zK,0⟩] [] [13]) (zB 0 (.loop 45203600 JK))) (zQ (oQ [M 38 5,M 2 38,O 3 (.mv (I 0))] [1,5,14,15,16,17,38]) .ret)))))⟩
def Oa:TFn:=⟨1,[.cell 2 true 2],(zQ (oQ [O 2 (.allocL (gz 2))] []) (zQ (oQ [M 3 0,O 4 (.build [(ic (0)),(ic (0))] [(0,1,t3),(1,1,(I 1))]),zS 2 t2 t4] [0,3,4]) .ret))⟩
def Ob:TFn:=⟨2,[.tmp 4],(zQ (oQ [O 2 (.boxL t0),O 3 (.boxL t1),O 4 (.mv (.c (.bool false)))] [0,1,4]) (zQ (oQ [oT 8 2 2,oT 9 2 3,O 10 (.call (.f AS) [t8,t9]),M 7 10,O 11 (.ext t7 0),O 12 (.ext t7 1),M 5 11,M 6 12] [2,3,6,7,8,9,10,11,12]) (zQ (oQ [M 13 5,O 14 (.bin .lss dI (I 0)),M 4 14] [5,13,14]) .ret)))⟩
def Oc:TFn:=⟨2,[.tmp 4],(zQ (oQ [O 2 (.boxL t0),O 3 (.boxL t1),O 4 (.mv (.c (.bool false)))] [0,1,4]) (zQ (.ops [oT 5 2 3,O 6 (.call (.f oZ) [t5]),O 7 (.bin .eql t6 (I 0)),M 8 7,zT 9 8 (.fad 0 t3),zT 10 8 (.load false 1 t9),zT 11 8 (.bin .geq dH (I 0)),O 12 (.pick t8 cM (.c (.bool false))),M 13 12,zT 14 13 (.fad 0 t2),zT 15 13 (.load false 1 dJ),zT 16 13 (.call (.f rV) [eG]),zT 17 13 (.load true 2 t3),zT 18 13 (.call (.f vQ) [dD,fE]),zT 19 13 (.un .not fP),O 20 (.pick dI fJ (.c (.bool false))),M 4 20] [⟨5,z2,0⟩,⟨10,zK,0⟩] [(9,12),(10,12),(11,12)] [2,3,5,6,7,8,9,10,11,12,13,14,15,16,17,18,19,20]) .ret))⟩
def JL:TFn:=⟨7,[.tmp 11],(zQ (oQ [O 7 (.boxL t0),O 8 (.boxL t1),O 9 (.boxL t2),O 11 (.mv (.c (.bool false)))] [0,1,2,8,11]) (zQ (zQ (oQ [M 16 3,O 17 (.bin .eql dD (I 0))] [16]) (zC fE (zQ (oQ [O 11 (.mv (.c (.bool false)))] [3,4,5,6,7,9,17]) .ret) .skip)) (zQ (zQ (oQ [oT 18 2 9,oT 19 2 4,O 20 (.call (.f vQ) [fP,fJ])] [17,18,19]) (zC gB (zQ (oQ [oT 22 2 4,oT 23 2 9,O 24 (.call (.f rS) [gD,hZ]),M 21 24,O 25 (.ext gC 0),O 26 (.ext gC 1),O 12 (.allocL (gz 2)),zS 2 cS iC,M 13 26] [3,6,7,9,20,21,22,23,24,25,26]) (zQ (oQ [oT 27 2 12,zS 2 t4 mY,zS 1 t5 (I 6)] [4,12,27]) (zQ (zQ (oQ [M 28 13,O 29 (.bin .neq gS (I 0))] [28]) (zC kX (oQ [M 30 13,zS 1 t5 jS] [5,29,30]) .skip)) (zQ (oQ [M 31 13,O 32 (.bin .neq jT (I 0)),M 11 32] [5,13,29,31,32]) .ret)))) .skip)) (zQ (.ops [oT 34 2 4,M 35 3,O 36 (.call (.f rV) [jE]),O 37 (.call (.f rT) [jU,nA]),M 33 37,O 38 (.ext mZ 0),O 39 (.ext mZ 1),O 14 (.allocL (gz 2)),zS 2 dJ lU,M 15 39] [] [(0,1),(0,2),(5,6),(0,7),(1,7),(2,7),(3,7),(4,7),(5,7),(6,7),(6,8)] [3,4,9,20,33,34,35,36,37,38,39]) (zQ (zQ (oQ [M 40 15,O 41 (.bin .eql lV (I 0))] [40]) (zC lW (oQ [oT 43 2 7,oT 44 2 14,O 45 (.call (.f qI) [rW,qJ]),M 42 45,O 46 (.ext kL 0),O 47 (.ext kL 1),zS 2 t6 mK,M 15 47] [6,7,14,41,42,43,44,45,46,47]) .skip)) (zQ (oQ [M 48 15,zS 1 t5 pC] [5,6,7,14,15,41,48]) (zQ (oQ [O 11 (.mv (.c (.bool true)))] []) .ret)))))))⟩
def JM:TC:=(zQ (oQ [oX 17 .lss 16 15] []) (zQ (zC fE .skip (.exit 0)) (zQ (zB 1 (zQ (.ops [M 18 16,O 19 (.iad 1 dJ dD),oF 20 1 19,M 7 18,M 8 20] [⟨1,zI,0⟩,⟨2,zI,0⟩] [] (zR 17 4)) (zQ (.ops [O 21 (.fad 1 t3),oF 22 1 21,M 23 7,O 24 (.bin .add hZ (I 1)),O 25 (.iad 1 gD gE),oF 26 1 25,O 27 (.call (.f rV) [jD]),O 9 (.allocL (gz 2)),zS 2 t9 mY] [⟨1,zK,0⟩,⟨4,zI,0⟩,⟨5,zI,0⟩] [] [7,21,22,23,24,25,26,27]) (zQ (zQ (oQ [oT 28 2 4,oT 29 2 9,O 30 (.call (.f vQ) [gS,kX]),O 31 (.un .not jS)] [28,29,30]) (zC jT (.exit 1) .skip)) (zQ (oQ [O 32 (.call (.f rV) [(I 0)]),O 10 (.allocL (gz 2)),zS 2 dH kM] [31,32]) (zQ (zQ (oQ [M 33 8,O 34 (.bin .gtr mZ (I 0))] [33]) (zC jU (zQ (oQ [oT 36 2 9,oT 37 2 4,O 38 (.call (.f rS) [nA,nB]),M 35 38,O 39 (.ext jE 0),O 40 (.ext jE 1),O 11 (.allocL (gz 2)),zS 2 cM nC,M 12 40] (zR 34 7)) (zQ (zQ (oQ [M 41 12,O 42 (.bin .neq lW (I 0))] [41]) (zC kL (zQ (oQ [M 43 12,M 6 43] [2,3,4,8,9,10,11,12,14,15,16,42,43]) .ret) .skip)) (zQ (.ops [oT 45 2 11,M 46 8,O 47 (.call (.f rV) [mK]),O 48 (.call (.f nZ) [qK,qL]),M 44 48,O 49 (.ext qJ 0),O 50 (.ext qJ 1),zS 2 dH qM,M 12 50] [] [(0,1),(0,2),(5,6),(6,7)] [11,42,44,45,46,47,48,49,50]) (zQ (oQ [M 51 12,O 52 (.bin .neq tP (I 0))] [51]) (zC tQ (zQ (oQ [M 53 12,M 6 53] [2,3,4,8,9,10,12,14,15,16,52,53]) .ret) .skip))))) .skip)) (zQ (zQ (oQ [M 54 2,oT 55 2 4,oT 56 2 9,oT 57 2 10,M 58 8,O 59 (.call vU [mX,DN,vS,Ji])] [8,10,12,34,52,54,55,56,57,58]) (zC vV (zQ (oQ [O 6 (.mv (I 0))] [2,3,4,9,14,15,16,59]) .ret) .skip)) (oQ [oT 60 2 9,zS 2 t4 vY] [9,59,60])))))))) (oQ [O 61 (.bin .add dD (I 1)),M 16 61] [8,9,31,61]))))
def Od:TFn:=⟨3,[.tmp 6],(zQ (oQ [O 3 (.boxL t0),O 4 (.boxL t1),O 6 (.mv (I 0))] [0,1,6]) (zQ (zQ (.ops [O 13 (.fad 2 t3),oF 14 1 13,O 15 (.len dJ),O 16 (.mv (I 0))] [⟨1,zK,0⟩] [] [13]) (zB 0 (.loop 41613500 JM))) (zQ (oQ [O 6 (.mv (I 0))] [2,3,4,14,15,16,17]) .ret)))⟩
def Oe:TFn:=⟨3,[.cell 6 true 2,.tmp 7],(zQ (oQ [O 3 (.boxL t0),O 4 (.boxL t1),O 5 (.boxH true 2 t2),O 6 (.allocL (gz 2)),O 7 (.mv (I 0))] [0,1,2,7]) (zQ (zQ (oQ [oT 12 3 3,O 13 (.call (.f tM) [cS]),M 8 13] [12,13]) (zQ (oQ [M 14 8,O 15 (.bin .neq dJ (I 0))] [14]) (zC eG (zQ (oQ [O 16 (.build [(ic (0)),(ic (0))] []),M 17 8,zS 2 t6 dD,M 7 17] [3,4,5,8,15,16,17]) .ret) .skip))) (zQ (zQ (.ops [oT 18 3 3,oT 19 2 4,O 20 (.call (.f Dy) [fP,fJ]),O 21 (.un .not gB),M 22 21,zF 23 22 (.load true 2 t5),zF 24 22 (.call (.f oZ) [hZ]),zF 25 22 (.bin .neq gE (I 0)),O 26 (.pick gD (.c (.bool true)) iC),M 27 26,zF 28 27 (.fad 0 t5),zF 29 27 (.load false 1 gS),zF 30 27 (.bin .lss kX (I 0)),O 31 (.pick mY (.c (.bool true)) jS)] [⟨5,z2,0⟩,⟨11,z2,0⟩] [] [8,15,18,19,20,21,22,23,24,25,26,27,28,29,30]) (zC jT (zQ (oQ [O 32 (.build [(ic (0)),(ic (0))] []),zS 2 t6 kM,O 7 (.mv (I 2))] [3,4,5,31,32]) .ret) .skip)) (zQ (zQ (.ops [O 33 (.fad 0 t5),oF 34 1 33,O 35 (.bin .eql jU (I 0))] [⟨1,z2,0⟩] [] [31,33,34]) (zC jE (zQ (oQ [oT 36 2 4,zS 2 t6 nA,O 7 (.mv (I 0))] [3,4,5,35,36]) .ret) .skip)) (zQ (oQ [O 9 (.aH true 2 (gz 2))] [35]) (zQ (.ops [O 10 (.aH true 1 (ic (0))),zS 1 dH (I 6)] [⟨1,zI,0⟩] [] []) (zQ (oQ [oT 37 3 3,oT 38 2 4,O 39 (.mkFn (.func Dz) [] [t5,dH,t9]),O 40 (.call (.f MG) [nB,lU,nC]),M 11 40] [3,4,5,37,38,39,40]) (zQ (zQ (oQ [M 41 11,O 42 (.bin .neq lW (I 0))] [41]) (zC kL (.ops [M 43 11,zS 1 dH rW] [⟨1,zI,0⟩] [] [11,42,43]) .skip)) (zQ (zQ (.ops [oF 44 1 10,O 45 (.bin .neq qJ (I 0))] [⟨0,zI,0⟩] [] [11,42,44]) (zC qK (zQ (.ops [O 46 (.build [(ic (0)),(ic (0))] []),oF 47 1 10,zS 2 t6 mK,M 7 47] [⟨1,zI,0⟩] [(0,1),(1,2)] [9,10,45,46,47]) .ret) .skip)) (zQ (.ops [oT 48 2 9,zS 2 t6 pC,O 7 (.mv (I 0))] [⟨0,z2,0⟩] [] [9,10,45,48]) .ret))))))))))⟩
def JN:TC:=(zQ (oQ [oX 35 .lss 34 33] []) (zQ (zC jE .skip (.exit 0)) (zQ (zB 1 (zQ (.ops [O 36 (.iad 1 kM jU),oF 37 1 36,M 12 37] [⟨0,zI,0⟩,⟨1,zI,0⟩] [] [35,36,37]) (zQ (.ops [M 39 0,M 40 12,O 41 (.iad 3 nC lV),oT 42 3 41,O 43 (.call (.f Gi) [kL]),M 38 43,O 44 (.ext lU 0),O 45 (.ext lU 1),M 13 44,M 14 45] [⟨2,zK,0⟩,⟨3,zK,0⟩] [] [14,38,39,40,41,42,43,44,45]) (zQ (.ops [oT 47 2 5,M 48 13,O 49 (.call (.f lI) [pC]),O 50 (.call (.f nZ) [qL,qM]),M 46 50,O 51 (.ext mK 0),O 52 (.ext mK 1),O 15 (.allocL (gz 2)),zS 2 eG tP,M 16 52] [] [(0,1),(0,2),(5,6),(0,7),(1,7),(2,7),(3,7),(4,7),(5,7),(6,7),(6,8)] [13,46,47,48,49,50,51,52]) (zQ (zQ (oQ [M 53 16,O 54 (.bin .eql AZ (I 0))] [53]) (zC vU (.ops [M 56 0,M 57 12,O 58 (.iad 3 DN vS),oT 59 3 58,oT 60 2 9,oT 61 2 15,O 62 (.call (.f Gj) [vV,vY,yS]),M 55 62,O 63 (.ext mX 0),O 64 (.ext mX 1),zS 2 t9 Gm,M 16 64] [⟨2,zK,0⟩,⟨3,zK,0⟩] [(0,1),(0,4),(1,4),(2,4),(3,4),(0,5),(1,5),(2,5),(3,5),(4,5),(8,9),(9,10)] [12,15,54,55,56,57,58,59,60,61,62,63,64]) .skip)) (zQ (zQ (oQ [M 65 16,O 66 (.bin .neq zH (I 0))] [12,15,54,65]) (zC Bb (zQ (oQ [M 67 16,O 6 (.mv (.c .nils)),M 7 67] [0,5,9,10,16,32,33,34,66,67]) .ret) .skip)) (oQ [M 68 10,oT 69 2 9,O 70 (.bD 2 (gz 2) 1 [(0,zJ)]),O 71 (.app true 2 16 yT zG),M 10 71] [16,66,68,69,70,71]))))))) (oQ [O 72 (.bin .add jU (I 1)),M 34 72] [72]))))
def Of:TFn:=⟨3,[.tmp 6,.tmp 7],(zQ (oQ [O 5 (.boxL t2),O 6 (.mv (.c .nils)),O 7 (.mv (I 0))] [2,6,7]) (zQ (zQ (oQ [M 17 0,M 18 1,O 19 (.call (.f oY) [fE,fP]),M 8 19] [17,18,19]) (zQ (oQ [M 20 8,O 21 (.bin .neq gB (I 0))] [20]) (zC gC (zQ (oQ [M 22 8,O 6 (.mv (.c .nils)),M 7 22] [0,1,5,8,21,22]) .ret) .skip))) (zQ (zQ (.ops [oT 23 2 5,O 24 (.call (.f oZ) [hZ]),O 25 (.bin .neq gE (I 0)),M 26 25,zF 27 26 (.fad 0 t5),zF 28 26 (.load false 1 mY),zF 29 26 (.bin .lss gS (I 0)),O 30 (.pick jD (.c (.bool true)) kX)] [⟨5,z2,0⟩] [] [8,21,23,24,25,26,27,28,29]) (zC jS (zQ (oQ [O 6 (.mv (.c .nils)),O 7 (.mv (I 2))] [0,1,5,30]) .ret) .skip)) (zQ (oQ [O 31 (.call (.f lI) [(I 0)]),O 9 (.allocL (gz 2)),zS 2 t9 jT] [30,31]) (zQ (oQ [O 10 (.mv (.c .nils))] []) (zQ (zQ (oQ [M 32 1,O 33 (.len kM),O 34 (.mv (I 0))] [1]) (zB 0 (.loop 60678000 JN))) (zQ (oQ [M 73 10,M 6 73,O 7 (.mv (I 0))] [0,5,9,10,32,33,34,35,73]) .ret)))))))⟩
def Y9:TC:=(zQ (oQ [oX 16 .lss 15 14] []) (zQ (zC dD .skip (.exit 0)) (zQ (zB 1 (zQ (oQ [M 17 15,M 6 17] [16,17]) (zQ (.ops [M 18 0,M 19 6,O 20 (.call (.f Dn) [fP,fJ]),O 21 (.un .not gB),M 22 21,zT 23 22 (.load false 1 t3),zT 24 22 (.mv t0),zT 25 22 (.mv t0),zT 26 22 (.len iC),zT 27 22 (.mv t0),zT 28 22 (.len mY),zT 29 22 (.slc 1 gE none (some jD) (some gS)),zT 30 22 (.mv t6),zT 31 22 (.bD 1 (ic (0)) 1 [(0,jS)]),zT 32 22 (.app true 1 8 kX jT),zT 33 22 (.call hZ [kM]),zT 34 22 (.un .not mZ),O 35 (.pick gD jU (.c (.bool false)))] [] [(0,1),(5,6),(5,7),(6,7),(5,8),(6,8),(5,9),(6,9),(7,9),(8,9),(5,10),(6,10),(7,10),(8,10),(5,11),(5,12),(6,12),(7,12),(8,12),(9,12),(10,12),(11,12),(5,13),(6,13),(7,13),(8,13),(9,13),(10,13),(11,13),(5,14)] [6,18,19,20,21,22,23,24,25,26,27,28,29,30,31,32,33,34]) (zC jE (zQ (oQ [O 5 (.mv (.c (.bool false)))] [0,3,14,15,35]) .ret) .skip)))) (oQ [O 36 (.bin .add eG (I 1)),M 15 36] [35,36]))))
def VO:TFn:=⟨4,[.tmp 5],(zQ (oQ [O 5 (.mv (.c (.bool false)))] [5]) (zQ (zQ (oQ [M 7 0,O 8 (.len t7),oF 9 1 1,oX 10 .eql 8 9] [7,8,9]) (zC dH (zQ (oQ [oF 11 1 2,M 12 0,O 13 (.call cM [cS]),M 5 13] [0,1,2,3,10,11,12,13]) .ret) .skip)) (zQ (zQ (oQ [oF 14 1 1,O 15 (.mv (I 0))] [1,2,10]) (zB 0 (.loop 61763900 Y9))) (zQ (oQ [O 5 (.mv (.c (.bool true)))] [0,3,14,15,16]) .ret))))⟩
def VQ:TFn:=⟨2,[],(zQ (oQ [O 2 (.boxH false 1 t0)] [0]) (zQ (oQ [O 3 (.aH false 1 .nilf)] []) (zQ (oQ [O 4 (.mkFn (.func MH) [] [t1,t2,t3]),zS 1 t3 t4] [1,2,4]) (oQ [oF 5 1 3,O 6 (.call t5 [(.c .nils)])] [3,5,6]))))⟩
def VS:TFn:=⟨1,[.tmp 2],(zQ (oQ [O 1 (.boxH false 1 t0),O 2 (.mv (.c .nilf))] [0,2]) (zQ (oQ [O 3 (.mkFn (.func MI) [] [t1]),M 2 3] [1,3]) .ret))⟩
def Z0:TC:=(zQ (oQ [O 2 (.boxH false 1 t0)] [0]) (zQ (oQ [O 3 (.aH false 1 .nilf)] []) (zQ (oQ [O 4 (.mkFn (.func MH) [] [t1,t2,t3]),zS 1 t3 t4] [1,2,4]) (oQ [oF 5 1 3,O 6 (.call t5 [(.c .nils)])] [3,5,6]))))
def Z1:TC:=(oQ [M 6 17] [4,16,17])
def Z2:TC:=(zB 1 (zQ (.ops [oF 18 1 1,M 19 6,O 20 (.call (.f rU) [fP,fJ]),O 7 (.aH false 2 (.agg [(.int .i64 (0)),(.int .i64 (0))])),zS 2 t7 gB] [⟨0,zD,0⟩,⟨4,z2,0⟩] [] [1,18,19,20]) (zQ (.ops [oF 21 1 2,O 22 (.eqN false gC),M 23 22,zF 24 23 (.load true 2 t3),zF 25 23 (.load true 2 t7),zF 26 23 (.call (.f Dv) [gE,iC]),O 27 (.pick hZ (.c (.bool true)) jD)] [⟨0,zD,0⟩,⟨3,z2,0⟩,⟨4,z2,0⟩] [] (zR 21 6)) (zC mY (.ops [M 28 6,oT 29 2 7,zS 1 t2 gS,zS 2 t3 kX] [⟨1,z2,0⟩,⟨2,zD,0⟩,⟨3,z2,0⟩] [(0,1),(1,2)] [2,3,6,7,27,28,29]) .skip))))
def VT:TFn:=⟨1,[.cell 2 false 1,.cell 3 true 2,.tmp 4],(zQ (oQ [O 1 (.boxH false 1 t0),O 2 (.aH false 1 .nils),O 3 (.aH false 2 (gz 2)),O 4 (.mv (I 0))] [0]) (zQ (zQ (oQ [oF 8 1 1,O 9 (.call (.f AN) [t8]),M 5 9] [8,9]) (zQ (oQ [M 10 5,O 11 (.bin .neq dH (I 0))] [10]) (zC cM (zQ (oQ [O 12 (.build [(ic (0)),(ic (0))] []),M 13 5,zS 1 t2 (.c .nils),zS 2 t3 cS,M 4 13] [1,5,11,12,13]) .ret) .skip))) (zQ (zQ (oQ [oF 14 1 1,O 15 (.len dJ),O 16 (.call (.f VB) [eG])] [5,11,14,15]) (zB 0 (.rangeF dD MI 2 Z0 [17] Z1 Z2))) (zQ (.ops [oF 30 1 2,oT 31 2 3,zS 1 t2 jS,zS 2 t3 jT,O 4 (.mv (I 0))] [] [(0,1),(1,2)] [1,16,30,31]) .ret))))⟩
def Og:TFn:=⟨1,[.cell 2 true 2],(zQ (oQ [O 2 (.allocL (gz 2))] []) (zQ (oQ [M 3 0,O 4 (.build [(ic (0)),(ic (0))] [(0,1,t3),(1,1,(I 1))]),zS 2 t2 t4] [0,3,4]) .ret))⟩
def Oh:TFn:=⟨1,[.cell 2 true 2],(zQ (oQ [O 2 (.allocL (gz 2))] []) (zQ (oQ [M 3 0,O 4 (.call (.f Gk) [t3]),zS 2 t2 t4] [0,3,4]) .ret))⟩
def JO:TC:=(zQ (zQ (oQ [M 11 5,M 12 0,O 13 (.len cS),oX 14 .lss 11 13] [11,12,13]) (zC dJ .skip (.exit 0))) (zQ (zB 1 (zQ (.ops [M 17 0,M 18 5,O 19 (.iad 2 fE fP),oT 20 2 19,M 21 1,M 22 5,O 23 (.iad 2 gC gD),oT 24 2 23,O 25 (.eqA true 2 [(0,(some .i64)),(1,(some .i64))] gB gE)] [⟨2,z2,0⟩,⟨3,z2,0⟩,⟨6,z2,0⟩,⟨7,z2,0⟩] [(0,1),(0,4),(1,4),(2,4),(3,4),(0,5),(1,5),(2,5),(3,5),(4,5),(0,6),(1,6),(2,6),(3,6),(0,7),(1,7),(2,7),(3,7)] [14,17,18,19,20,21,22,23,24]) (zC iC (zQ (oQ [O 4 (.mv (.c (.bool false)))] [0,1,5,25]) .ret) .skip))) (oQ [M 15 5,O 16 (.bin .add eG (I 1)),M 5 16] [15,16,25])))
def Oi:TFn:=⟨2,[.tmp 4],(zQ (oQ [O 4 (.mv (.c (.bool false)))] [4]) (zQ (zQ (oQ [M 6 0,O 7 (.len t6),M 8 1,O 9 (.len t8),oX 10 .neq 7 9] (zR 6 4)) (zC dH (zQ (oQ [O 4 (.mv (.c (.bool false)))] [0,1,10]) .ret) .skip)) (zQ (zQ (oQ [O 5 (.mv (I 0))] [10]) (zB 0 (.loop 13861700 JO))) (zQ (oQ [O 4 (.mv (.c (.bool true)))] [0,1,5,14]) .ret))))⟩
def JP:TC:=(zQ (zQ (oQ [M 11 5,M 12 0,O 13 (.len cS),oX 14 .lss 11 13] [11,12,13]) (zC dJ .skip (.exit 0))) (zQ (zB 1 (zQ (.ops [M 17 0,M 18 5,O 19 (.iad 1 fE fP),oF 20 1 19,M 21 1,M 22 5,O 23 (.iad 1 gC gD),oF 24 1 23,oX 25 .neq 20 24] [⟨2,zI,0⟩,⟨3,zI,0⟩,⟨6,zI,0⟩,⟨7,zI,0⟩] [(0,1),(0,4),(1,4),(2,4),(3,4),(0,5),(1,5),(2,5),(3,5),(4,5),(0,6),(1,6),(2,6),(3,6),(0,7),(1,7),(2,7),(3,7)] [14,17,18,19,20,21,22,23,24]) (zC iC (zQ (oQ [O 4 (.mv (.c (.bool false)))] [0,1,5,25]) .ret) .skip))) (oQ [M 15 5,O 16 (.bin .add eG (I 1)),M 5 16] [15,16,25])))
def Oj:TFn:=⟨2,[.tmp 4],(zQ (oQ [O 4 (.mv (.c (.bool false)))] [4]) (zQ (zQ (oQ [M 6 0,O 7 (.len t6),M 8 1,O 9 (.len t8),oX 10 .neq 7 9] (zR 6 4)) (zC dH (zQ (oQ [O 4 (.mv (.c (.bool false)))] [0,1,10]) .ret) .skip)) (zQ (zQ (oQ [O 5 (.mv (I 0))] [10]) (zB 0 (.loop 14397100 JP))) (zQ (oQ [O 4 (.mv (.c (.bool true)))] [0,1,5,14]) .ret))))⟩
def Ok:TFn:=⟨0,[.tmp 0],(zQ (oQ [O 0 (.mv (.c (.bool false)))] [0]) (zQ (oQ [O 16 (.call (.f tL) []),O 17 (.bD 1 (ic (0)) 2 [(0,(I 0)),(1,(I 1))]),O 18 (.call (.f yQ) [dD,fE]),M 15 18,O 19 (.ext eG 0),O 20 (.ext eG 1),O 1 (.allocL (gz 2)),zS 2 t1 fJ,M 2 20] (zR 15 6)) (zQ (.ops [O 22 (.call (.f tL) []),O 23 (.bD 1 (ic (0)) 2 [(0,(I 0)),(1,(I 1))]),oT 24 2 1,O 25 (.call (.f vR) [gD,hZ,gE]),M 21 25,O 26 (.ext gC 0),O 27 (.ext gC 1),M 3 26,M 4 27] [] [(0,1),(0,2),(1,2),(5,6),(6,7)] (zR 21 7)) (zQ (oQ [O 29 (.call (.f tL) []),O 30 (.bD 1 (ic (0)) 2 [(0,(I 1)),(1,(I 0))]),O 31 (.call (.f yQ) [kX,jS]),M 28 31,O 32 (.ext gS 0),O 33 (.ext gS 1),O 5 (.allocL (gz 2)),zS 2 t5 kM,M 6 33] (zR 28 6)) (zQ (.ops [O 35 (.call (.f tL) []),O 36 (.bD 1 (ic (0)) 2 [(0,(I 1)),(1,(I 0))]),oT 37 2 5,O 38 (.call (.f vR) [jE,nA,nB]),M 34 38,O 39 (.ext jU 0),O 40 (.ext jU 1),M 7 39,M 8 40] [] [(0,1),(0,2),(1,2),(5,6),(6,7)] (zR 34 7)) (zQ (oQ [O 42 (.call (.f tL) []),O 43 (.call (.f AT) [kL]),M 41 43,O 44 (.ext lW 0),O 45 (.ext lW 1),O 46 (.ext lW 2),O 10 (.allocL (gz 2)),M 9 44,zS 2 dH qK,M 11 46] (zR 41 6)) (zQ (oQ [O 48 (.call (.f tL) []),O 49 (.bD 1 (ic (0)) 2 [(0,(I 0)),(1,(I 1))]),O 50 (.build [(ic (0)),(ic (0))] [(0,1,(I 1)),(1,1,(I 2))]),O 51 (.call (.f vR) [pC,qM,yZ]),M 47 51,O 52 (.ext qL 0),O 53 (.ext qL 1),M 12 52,M 13 53] [12,47,48,49,50,51,52,53]) (zQ (oQ [O 54 (.build [(ic (0)),(ic (0))] [(0,1,(I 8)),(1,1,(I 5))]),O 55 (.call (.f AU) [(I 4)]),O 56 (.bSl true 2 (gz 2) 2 [(0,vU),(1,mX)]),M 14 56] [54,55,56]) (zQ (oQ [M 57 2,O 58 (.bin .eql vS (I 0)),M 59 58,zT 60 59 (.load true 2 t1),zT 61 59 (.build [(ic (0)),(ic (0))] [(0,1,(I 2)),(1,1,(I 5))]),zT 62 59 (.eqA false 2 [(0,(some .i64)),(1,(some .i64))] vY yS),O 63 (.pick vV AV (.c (.bool false))),M 64 63,zT 65 64 (.mv t4),zT 66 64 (.bin .eql zH (I 0)),O 67 (.pick zA Bb (.c (.bool false))),M 68 67,zT 69 68 (.mv t3),zT 70 68 (.mv dJ),zT 71 68 (.call (.f DA) [zJ,zG]),O 72 (.pick yT vZ (.c (.bool false))),M 73 72,zT 74 73 (.mv t6),zT 75 73 (.bin .eql yW (I 0)),O 76 (.pick yV tN (.c (.bool false))),M 77 76,zT 78 77 (.load true 2 t5),zT 79 77 (.build [(ic (0)),(ic (0))] [(0,1,(I 3)),(1,1,(I 5))]),zT 80 77 (.eqA false 2 [(0,(some .i64)),(1,(some .i64))] tO Ba),O 81 (.pick vT AX (.c (.bool false))),M 82 81,zT 83 82 (.mv t8),zT 84 82 (.bin .eql Gn (I 0)),O 85 (.pick DE DF (.c (.bool false))),M 86 85,zT 87 86 (.mv t7),zT 88 86 (.mv dJ),zT 89 86 (.call (.f DA) [Gp,Gt]),O 90 (.pick yY DJ (.c (.bool false))),M 91 90,zT 92 91 (.mv cM),zT 93 91 (.bin .eql Jk (I 0)),O 94 (.pick Gq DL (.c (.bool false))),M 95 94,zT 96 95 (.load true 2 dH),zT 97 95 (.load true 2 t5),zT 98 95 (.eqA false 2 [(0,(some .i64)),(1,(some .i64))] JB Jm),O 99 (.pick Gr Gs (.c (.bool false))),M 100 99,zT 101 100 (.mv t9),zT 102 100 (.bD 1 (ic (0)) 2 [(0,(I 1)),(1,(I 0))]),zT 103 100 (.call (.f Gl) [pF,Bh]),O 104 (.pick GF pG (.c (.bool false))),M 105 104,zT 106 105 (.mv dI),zT 107 105 (.bin .eql Gw (I 6)),O 108 (.pick Bj pE (.c (.bool false))),M 0 108] [1,2,3,4,5,6,7,8,9,10,11,13,14,57,58,59,60,61,62,63,64,65,66,67,68,69,70,71,72,73,74,75,76,77,78,79,80,81,82,83,84,85,86,87,88,89,90,91,92,93,94,95,96,97,98,99,100,101,102,103,104,105,106,107,108]) .ret)))))))))⟩
def Ol:TFn:=⟨2,[.cell 4 true 2],(zQ (oQ [O 4 (.allocL (.agg [(.int .u64 (0)),(.int .u64 (0))]))] []) (zQ (oQ [M 12 0,O 13 (.bin .shr cS (.c (.int .u64 (32)))),M 14 0,O 15 (.bin .and dJ (.c (.int .u64 (4294967295)))),M 5 13,M 6 15] [0,12,13,14,15]) (zQ (oQ [M 16 1,O 17 (.bin .shr dD (.c (.int .u64 (32)))),M 18 1,O 19 (.bin .and fP (.c (.int .u64 (4294967295)))),M 7 17,M 8 19] [1,16,17,18,19]) (zQ (oQ [M 20 6,M 21 8,oX 22 .mul 20 21,M 23 5,M 24 8,oX 25 .mul 23 24,M 9 22,M 10 25] [8,20,21,22,23,24,25]) (zQ (oQ [M 26 10,O 27 (.bin .and jD (.c (.int .u64 (4294967295)))),M 28 6,M 29 7,oX 30 .mul 28 29,oX 31 .add 27 30,M 32 9,O 33 (.bin .shr kM (.c (.int .u64 (32)))),oX 34 .add 31 33,M 11 34] [6,26,27,28,29,30,31,32,33,34]) (zQ (oQ [M 35 5,M 36 7,oX 37 .mul 35 36,M 38 10,O 39 (.bin .shr lU (.c (.int .u64 (32)))),oX 40 .add 37 39,M 41 11,O 42 (.bin .shr lW (.c (.int .u64 (32)))),oX 43 .add 40 42,M 44 11,O 45 (.bin .shl qJ (.c (.int .u64 (32)))),M 46 9,O 47 (.bin .and mK (.c (.int .u64 (4294967295)))),oX 48 .or 45 47,O 49 (.build [(.int .u64 (0)),(.int .u64 (0))] [(0,1,rW),(1,1,pC)]),zS 2 t4 qM] [5,7,9,10,11,35,36,37,38,39,40,41,42,43,44,45,46,47,48,49]) .ret))))))⟩
def Om:TFn:=⟨2,[.tmp 4],(zQ (oQ [O 2 (.boxL t0),O 3 (.boxL t1),O 4 (.mv (.c (.bool false)))] [0,1,4]) (zQ (.ops [O 5 (.fad 0 t2),oF 6 1 5,O 7 (.fad 0 t3),oF 8 1 7,oX 9 .lss 6 8,M 10 9,zF 11 10 (.fad 0 t2),zF 12 10 (.load false 1 cM),zF 13 10 (.fad 0 t3),zF 14 10 (.load false 1 dI),zF 15 10 (.bin .eql cS dJ),zF 16 10 (.mv eG),zT 17 16 (.fad 1 t2),zT 18 16 (.load false 1 fE),zT 19 16 (.fad 1 t3),zT 20 16 (.load false 1 fJ),zT 21 16 (.bin .lss fP gB),zF 22 10 (.pick dD gC (.c (.bool false))),O 23 (.pick dH (.c (.bool true)) gD),M 4 23] [⟨1,(.agg [.i .u64,.i .u64]),0⟩,⟨3,(.agg [.i .u64,.i .u64]),0⟩,⟨7,(.agg [.i .u64,.i .u64]),0⟩,⟨9,(.agg [.i .u64,.i .u64]),0⟩,⟨13,(.agg [.i .u64,.i .u64]),0⟩,⟨15,(.agg [.i .u64,.i .u64]),0⟩] [] [2,3,5,6,7,8,9,10,11,12,13,14,15,16,17,18,19,20,21,22,23]) .ret))⟩
def Oo:TFn:=⟨2,[.tmp 4],(zQ (oQ [O 2 (.boxL t0),O 3 (.boxL t1),O 4 (.mv (.c (.bool false)))] [0,1,4]) (zQ (zQ (.ops [O 7 (.fad 0 t2),oF 8 1 7,O 9 (.bin .lss t8 (I 0)),O 10 (.fad 0 t3),oF 11 1 10,O 12 (.bin .lss cM (I 0)),O 13 (.eqB true t9 cS)] [⟨1,z2,0⟩,⟨4,z2,0⟩] [] (zR 7 6)) (zC dI (zQ (.ops [O 14 (.fad 0 t2),oF 15 1 14,O 16 (.bin .lss eG (I 0)),M 4 16] [⟨1,z2,0⟩] [] [2,3,13,14,15,16]) .ret) .skip)) (zQ (.ops [O 17 (.fad 0 t2),oF 18 1 17,O 19 (.call (.f yO) [fP]),O 20 (.fad 1 t3),oF 21 1 20,O 22 (.conv .u64 gC),O 23 (.call (.f DB) [fJ,gD]),O 24 (.fad 0 t3),oF 25 1 24,O 26 (.call (.f yO) [iC]),O 27 (.fad 1 t2),oF 28 1 27,O 29 (.conv .u64 gS),O 30 (.call (.f DB) [jD,kX]),O 5 (.allocL (.agg [(.int .u64 (0)),(.int .u64 (0))])),O 6 (.allocL (.agg [(.int .u64 (0)),(.int .u64 (0))])),zS 2 t5 hZ,zS 2 t6 jS] [⟨1,z2,0⟩,⟨4,z2,0⟩,⟨8,z2,0⟩,⟨11,z2,0⟩] [(0,3),(1,3),(2,3),(0,4),(1,4),(2,4),(0,5),(1,5),(2,5),(0,7),(1,7),(2,7),(3,7),(4,7),(5,7),(6,7),(0,8),(1,8),(2,8),(3,8),(4,8),(5,8),(6,8),(0,10),(1,10),(2,10),(3,10),(4,10),(5,10),(6,10),(7,10),(8,10),(9,10),(0,11),(1,11),(2,11),(3,11),(4,11),(5,11),(6,11),(7,11),(8,11),(9,11),(0,12),(1,12),(2,12),(3,12),(4,12),(5,12),(6,12),(7,12),(8,12),(9,12),(0,14),(1,14),(2,14),(3,14),(4,14),(5,14),(6,14),(7,14),(8,14),(9,14),(10,14),(11,14),(12,14),(13,14),(0,15),(1,15),(2,15),(3,15),(4,15),(5,15),(6,15),(7,15),(8,15),(9,15),(10,15),(11,15),(12,15),(13,15),(14,15)] [3,13,17,18,19,20,21,22,23,24,25,26,27,28,29,30]) (zQ (zQ (.ops [O 31 (.fad 0 t2),oF 32 1 31,O 33 (.bin .lss kM (I 0))] [⟨1,z2,0⟩] [] [2,31,32]) (zC mZ (zQ (oQ [oT 34 2 6,oT 35 2 5,O 36 (.call (.f DC) [jU,jE]),M 4 36] [5,6,33,34,35,36]) .ret) .skip)) (zQ (oQ [oT 37 2 5,oT 38 2 6,O 39 (.call (.f DC) [nB,lU]),M 4 39] [5,6,33,37,38,39]) .ret)))))⟩
def Oq:TFn:=⟨3,[.tmp 6],(zQ (oQ [O 5 (.boxL t2),O 6 (.mv (.c (.bool false)))] [2,6]) (zQ (zQ (.ops [M 11 0,M 12 1,O 13 (.call (.f FY) [cM,cS]),O 14 (.un .not dI),M 15 14,zF 16 15 (.load true 2 t5),zF 17 15 (.call (.f Dk) [dD]),zF 18 15 (.bin .neq fE (I 0)),O 19 (.pick eG (.c (.bool true)) fP),M 20 19,zF 21 20 (.fad 0 t5),zF 22 20 (.load false 1 gC),zF 23 20 (.bin .lss gD (I 0)),O 24 (.pick gB (.c (.bool true)) hZ)] [⟨11,z2,0⟩] [] (zR 11 13)) (zC gE (zQ (oQ [O 25 (.call (.f yR) []),M 6 25] [0,1,5,24,25]) .ret) .skip)) (zQ (oQ [M 27 0,M 28 1,O 29 (.call (.f yQ) [mY,gS]),M 26 29,O 30 (.ext jD 0),O 31 (.ext jD 1),O 7 (.allocL (gz 2)),zS 2 t7 jS,M 8 31] [24,26,27,28,29,30,31]) (zQ (zQ (oQ [M 32 8,O 33 (.bin .neq kM (I 0)),M 34 33,zF 35 34 (.load true 2 t7),zF 36 34 (.call (.f Dk) [jE]),zF 37 34 (.bin .neq nA (I 0)),O 38 (.pick jU (.c (.bool true)) nB)] [8,32,33,34,35,36,37]) (zC lU (zQ (oQ [O 6 (.mv (.c (.bool false)))] [0,1,5,7,38]) .ret) .skip)) (zQ (oQ [M 40 0,M 41 1,oT 42 2 5,O 43 (.call (.f vR) [lV,lW,kL]),M 39 43,O 44 (.ext nC 0),O 45 (.ext nC 1),M 9 44,M 10 45] (zR 38 8)) (zQ (zQ (oQ [M 46 10,O 47 (.bin .eql mK (I 16)),M 48 47,zF 49 48 (.load true 2 t5),zF 50 48 (.load true 2 t7),zF 51 48 (.eqA false 2 [(0,(some .i64)),(1,(some .i64))] qM yZ),O 52 (.pick pC (.c (.bool true)) tP)] (zR 46 6)) (zC tQ (zQ (oQ [O 53 (.call (.f yR) []),M 6 53] [0,1,5,7,9,10,52,53]) .ret) .skip)) (zQ (zQ (oQ [oT 54 2 7,oT 55 2 5,O 56 (.call (.f DD) [vU,mX])] [5,7,52,54,55]) (zC DN (zQ (oQ [M 57 10,O 58 (.bin .eql vS (I 6)),M 59 58,zT 60 59 (.call (.f yR) []),O 61 (.pick vV vY (.c (.bool false))),M 6 61] [0,1,9,10,56,57,58,59,60,61]) .ret) .skip)) (zQ (.ops [M 62 10,O 63 (.bin .eql AV (I 0)),M 64 63,zT 65 64 (.mv t9),zT 66 64 (.len zH),zT 67 64 (.mv t1),zT 68 64 (.len AW),zT 69 64 (.bin .eql Bb yT),O 70 (.pick zA zJ (.c (.bool false))),M 71 70,zT 72 71 (.mv t9),zT 73 71 (.mv t9),zT 74 71 (.len yV),zT 75 71 (.bin .sub yW (I 1)),zT 76 71 (.iad 2 yU tN),zT 77 71 (.load true 2 yX),zT 78 71 (.mv t0),zT 79 71 (.iad 3 tO (I 0)),zT 80 71 (.fad 0 Ba),zT 81 71 (.load false 1 AX),zT 82 71 (.call (.f AU) [AY]),zT 83 71 (.call (.f DD) [vT,DE]),O 84 (.pick vZ Gn (.c (.bool false))),M 85 84,zT 86 85 (.call (.f yR) []),O 87 (.pick DH yY (.c (.bool false))),M 6 87] [⟨14,z2,0⟩,⟨15,z2,0⟩,⟨17,zK,0⟩,⟨19,zK,0⟩] [(3,5),(4,5),(3,6),(4,6),(10,11),(10,12),(10,13),(10,16),(11,16),(12,16),(13,16),(14,16),(15,16),(10,17),(11,17),(12,17),(13,17),(14,17),(15,17),(10,18),(11,18),(12,18),(13,18),(14,18),(15,18),(10,19),(11,19),(12,19),(13,19),(14,19),(15,19),(10,20),(11,20),(12,20),(13,20),(14,20),(15,20)] [0,1,9,10,56,62,63,64,65,66,67,68,69,70,71,72,73,74,75,76,77,78,79,80,81,82,83,84,85,86,87]) .ret))))))))⟩
def tab:List (Nat×AFn):=[(FQ,MK.fn),(FR,ML.fn),(FS,MM.fn),(Di,MN.fn),(FT,MO.fn),(FU,MP.fn),(Dj,MQ.fn),(FW,MR.fn),(FX,MS.fn),(FY,MT.fn),(yO,MU.fn),(FZ,MV.fn),(Dk,MW.fn),(tL,MX.fn),(Ga,MY.fn),(Dl,MZ.fn),(tM,Na.fn),(Dm,Nb.fn),(MC,Nc.fn),(Jb,Jz.fn),(Gb,Nd.fn),(Dn,Nf.fn),(yP,Ng.fn),(AN,Nh.fn),(Jc,VD.fn),(MD,Ni.fn),(Vx,VE.fn),(Vy,VF.fn),(ME,VG.fn),(Dp,Nj.fn),(MF,VH.fn),(Jd,VI.fn),(Je,VJ.fn),(Vz,VK.fn),(Jf,VL.fn),(VA,VM.fn),(cA,VN.fn),(oY,Gv.fn),(lI,Nl.fn),(mW,Nm.fn),(rR,Nn.fn),(oZ,No.fn),(Gc,Np.fn),(pA,Nq.fn),(pB,Nr.fn),(Gd,Ns.fn),(AP,Nt.fn),(Ge,Nu.fn),(AQ,Nv.fn),(qI,NI.fn),(rS,NJ.fn),(nZ,NK.fn),(rT,NL.fn),(Dq,NM.fn),(AR,NN.fn),(Dr,DO.fn),(Ds,NO.fn),(Gf,NP.fn),(Dt,NQ.fn),(Du,NR.fn),(Gg,NS.fn),(AS,NT.fn),(Dv,NU.fn),(Dw,DP.fn),(Dx,DQ.fn),(rU,GG.fn),(yQ,NY.fn),(Gi,NZ.fn),(rV,Oa.fn),(vQ,Ob.fn),(Dy,Oc.fn),(Dz,JL.fn),(MG,Od.fn),(Gj,Oe.fn),(vR,Of.fn),(MH,VO.fn),(MI,VQ.fn),(VB,VS.fn),(AT,VT.fn),(Gk,Og.fn),(AU,Oh.fn),(DA,Oi.fn),(Gl,Oj.fn),(yR,Ok.fn),(DB,Ol.fn),(DC,Om.fn),(DD,Oo.fn),(MJ,Oq.fn)]
def Bv:List Nat:=[FQ,FR,FS,Di,FT,FU,Dj,FW,FX,FY,yO,FZ,Dk,tL,Ga,Dl,tM,Dm,Gb,Dn,yP,AN,ME,Dp,MF,Jd,Je,oY,lI,mW,rR,oZ,Gc,pA,pB,vM,vN,Gd,AP,Ge,AQ,qI,rS,nZ,rT,Dq,AR,Ds,Gf,Dt,Du,Gg,AS,Dv,rU,yQ,Gi,rV,vQ,Dy,Gj,vR,AT,Gk,AU,DA,Gl,yR,DB,DC,DD,MJ,(Dq+3000000)]
def Bw:nY:=[]
def GH:List (Nat×PV):=[]
def E (ef:Es):Env:=(vL vM vN tab Bv Bw GH ef)
def Z3:Env:=rL vM vN tab Bv Bw GH
def DR:List Nat:=[]
abbrev EG (e:Es):Prop:=EffG E DR e
theorem gK:EG []:=⟨fun _ _ _ _ h=>(by cases h),fun _ _ _ _=>rfl⟩
theorem bS {e:Es} (he:EG e) {P:EP} {S:SE} {d n:Nat} {t:TFn} {s:Sg} {w:s.W} (hq:bQ S d t s w) (hS:SEOk P S) (hR:bF P S.E (jK S d) t.body) (hl:LpOk P S.E S.lp [] t.body) (hE:S.E=E e:=by rfl) (hs:IV vM vN Bw n=false:=by kernel_rfl) (hm:memN DR n=false:=by kernel_rfl) (hf:S.E.fns n=some t.fn:=by kernel_rfl) (hu:S.E.qui n=true:=by kernel_rfl) (hn:S.E.nl n=false:=by kernel_rfl):∀ as K,s.pw w as K→∃ r,K r∧hO P n as r:=V8 hq hS hR hl (fun _=>by rw [hE];exact kW hs _) (by rw [hE];exact he.num _ hm) hf hu hn
abbrev VU:Type:=Int→Int→Int→(Int→Int→Prop)→Prop
abbrev VV:Type:=Int→Int→Int→(Int→Int→Prop)→Prop
theorem Z4 (e:Es) (_:EG e):bG (E e) ynC vM:=V2
theorem Z5 (e:Es) (_:EG e):bG (E e) ynE vN:=V3 (by kernel_rfl)
set_option maxRecDepth 100000
abbrev gL:Type:=Int→(Int→Prop)→Prop
def Ot (b:Int) (K:Int→Prop):Prop:=
 (aD (decide (b≥4294967296)) (aD (decide ((Int.fdiv b 4294967296)≥65536)) (aD (decide ((Int.fdiv (Int.fdiv b 4294967296) 65536)≥256)) (asr (decide (0≤(u8.wrap (Int.fdiv (Int.fdiv (Int.fdiv b 4294967296) 65536) 256)))) (asr (decide ((u8.wrap (Int.fdiv (Int.fdiv (Int.fdiv b 4294967296) 65536) 256))<256)) (K (i64.wrap (56+(i64.wrap (aP (getD rK ((u8.wrap (Int.fdiv (Int.fdiv (Int.fdiv b 4294967296) 65536) 256)).toNat) .nils)))))))) (asr (decide (0≤(u8.wrap (Int.fdiv (Int.fdiv b 4294967296) 65536)))) (asr (decide ((u8.wrap (Int.fdiv (Int.fdiv b 4294967296) 65536))<256)) (K (i64.wrap (48+(i64.wrap (aP (getD rK ((u8.wrap (Int.fdiv (Int.fdiv b 4294967296) 65536)).toNat) .nils))))))))) (aD (decide ((Int.fdiv b 4294967296)≥256)) (asr (decide (0≤(u8.wrap (Int.fdiv (Int.fdiv b 4294967296) 256)))) (asr (decide ((u8.wrap (Int.fdiv (Int.fdiv b 4294967296) 256))<256)) (K (i64.wrap (40+(i64.wrap (aP (getD rK ((u8.wrap (Int.fdiv (Int.fdiv b 4294967296) 256)).toNat) .nils)))))))) (asr (decide (0≤(u8.wrap (Int.fdiv b 4294967296)))) (asr (decide ((u8.wrap (Int.fdiv b 4294967296))<256)) (K (i64.wrap (32+(i64.wrap (aP (getD rK ((u8.wrap (Int.fdiv b 4294967296)).toNat) .nils)))))))))) (aD (decide (b≥65536)) (aD (decide ((Int.fdiv b 65536)≥256)) (asr (decide (0≤(u8.wrap (Int.fdiv (Int.fdiv b 65536) 256)))) (asr (decide ((u8.wrap (Int.fdiv (Int.fdiv b 65536) 256))<256)) (K (i64.wrap (24+(i64.wrap (aP (getD rK ((u8.wrap (Int.fdiv (Int.fdiv b 65536) 256)).toNat) .nils)))))))) (asr (decide (0≤(u8.wrap (Int.fdiv b 65536)))) (asr (decide ((u8.wrap (Int.fdiv b 65536))<256)) (K (i64.wrap (16+(i64.wrap (aP (getD rK ((u8.wrap (Int.fdiv b 65536)).toNat) .nils))))))))) (aD (decide (b≥256)) (asr (decide (0≤(u8.wrap (Int.fdiv b 256)))) (asr (decide ((u8.wrap (Int.fdiv b 256))<256)) (K (i64.wrap (8+(i64.wrap (aP (getD rK ((u8.wrap (Int.fdiv b 256)).toNat) .nils)))))))) (asr (decide (0≤(u8.wrap b))) (asr (decide ((u8.wrap b)<256)) (K (i64.wrap (0+(i64.wrap (aP (getD rK ((u8.wrap b).toNat) .nils)))))))))))
def JQ:gL:=Ot
def cU:kK:=vI u64
def Ou:lH:=lC cU lN
def DT:Sg:=⟨Ou,Int→Prop,fun K=>(fun r0=>K (ic r0))⟩
def Z6 (e:Es):SE:=sE (E e) [] dC
theorem Z7 (e:Es):bQ (Z6 e) 6 Nj DT Ot:=fun _ _=>by kernel_rfl
theorem Z8 (e:Es) (he:EG e):bG (E e) (DT.pw JQ) Dp:=bS he (Z7 e) (bN (aJ.uni _) trivial trivial he.ok) bF.flat (bC (by kernel_rfl))
abbrev DU:Type:=Int→(Bool→Prop)→Prop
def eI:kK:=vI i64
def Bx:lH:=lC eI lN
def Ov:Sg:=⟨Bx,Bool→Prop,fun K=>(fun r0=>K (.bool r0))⟩
def GI:lH:=lC eI Bx
def Ow (b:Int) (K:Int→Prop):Prop:=
 (aD (decide (b<0)) (K (u64.wrap (0-(u64.wrap b)))) (K (u64.wrap b)))
def By:gL:=Ow
def tR:Sg:=⟨Bx,Int→Prop,fun K=>(fun r0=>K (.int .u64 r0))⟩
def Z9 (e:Es):SE:=sE (E e) [] dC
theorem aa (e:Es):bQ (Z9 e) 6 Nm tR Ow:=fun _ _=>by kernel_rfl
theorem JR (e:Es) (he:EG e):bG (E e) (tR.pw By) mW:=bS he (aa e) (bN (aJ.uni _) trivial trivial he.ok) bF.flat (bC (by kernel_rfl))
abbrev dX:Type:=Int→Int→(Int→Prop)→Prop
def GJ (x0:Int→Int→Bool→Prop):Nat→Int→Int→Prop
 | 0,_,_=>False
 | n+1,b,c=>
 (aD (decide (c>0)) (asr (!(decide (c=0))) (GJ x0 n c (Int.tmod b c))) (x0 b c false))
def Ox (b c:Int) (K:Int→Prop):Prop:=
 (∃ n:Nat,GJ (fun d _ _=>(K d)) n b c)
def rY:dX:=Ox
def wJ:lH:=lC cU Ou
def zL:Sg:=⟨wJ,Int→Prop,fun K=>(fun r0=>K (.int .u64 r0))⟩
def ae (Q:Qx):Int→Int→Bool→Prop:=(fun b c d=>Q (.exit 0) [(0,.v (.int .u64 b)),(1,.v (.int .u64 c)),(6,.v (.bool d))] [])
def VW:Pat rP:=pS hN (fV 0 cU (fV 1 cU fN)) fN
def VX (Q:Qx):List St:=[⟨VW,GJ (ae Q)⟩]
def VY:LP:=iN [(32725300,VX)]
def Oy (e:Es):SE:=sE (E e) [] (VY)
theorem VZ (e:Es) (he:EG e):SEOk (bM (E e)) (Oy e):=bN (aJ.uni _) trivial trivial he.ok
theorem af (e:Es):gQ (Oy e) 5 a JC false (VX):=fun _=>⟨fun _=>by kernel_rfl,fun _ _=>by kernel_rfl,trivial⟩
theorem ag (e:Es) (he:EG e):gR (bM (E e)) (VY) [] 32725300 (.loop 32725300 JC):=fun _ _ _=>bU.st (aJ.uni _) (eF (VZ e he) 5) (dB.no _ _) (bC (by kernel_rfl)) (af e _)
theorem ah (e:Es):bQ (Oy e) 6 Nn zL Ox:=fun _ _=>by kernel_rfl
theorem Oz (e:Es) (he:EG e):bG (E e) (zL.pw rY) rR:=bS he (ah e) (VZ e he) bF.flat (fI (l:=[(32725300,.loop 32725300 JC)]) ⟨ag e he,trivial⟩ (by kernel_rfl))
def OA (a0:gL) (a1:dX) (b c:Int) (K:Int→Prop):Prop:=
 (aD (decide (c<1)) (K 8) (a0 b (fun d=>(aD (decide ((if (u64.wrap c)>d then (u64.wrap c) else d)>1000000000000000000)) (K 8) (a0 b (fun e=>(a1 e (u64.wrap c) (fun f=>(aD (decide (f>1)) (K 8) (K 0))))))))))
def lX:dX:=OA By rY
def wK:kK:=vA GI
def GK:lH:=lC wK lN
def tS:Sg:=⟨GK,Int→Prop,fun K=>(fun r0=>K (ic r0))⟩
def ai (e:Es) (a0:gL) (a1:dX):SE:=sE (E e) [(mW,tR.pw a0),(rR,zL.pw a1)] dC
theorem aj (e:Es) (a0 a1):bQ (ai e a0 a1) 6 No tS (OA a0 a1):=fun _ _=>by kernel_rfl
theorem DV (e:Es) (he:EG e):bG (E e) (tS.pw lX) oZ:=bS he (aj e _ _) (bN (aJ.uni _) ⟨(JR e he),(Oz e he),trivial⟩ trivial he.ok) bF.flat (bC (by kernel_rfl))
abbrev kO:Type:=Ls→(Int→Prop)→Prop
def DW (x0:Int→Prop) (x1:Int→Ls→Int→Int→Bool→Prop):Nat→Int→Ls→Int→Int→Prop
 | 0,_,_,_,_=>False
 | n+1,b,c,d,e=>
 (aD (decide (e<d)) (asr (decide (0≤e)) (asr (decide (e<(((length c):Nat):Int))) (asr (aG zI (getD c (e.toNat) .nils)) (aD ((aP (getD c (e.toNat) .nils)) !=b) (x0 (aP (getD c (e.toNat) .nils))) (DW x0 x1 n b c d (i64.wrap (e+1))))))) (x1 b c d e false))
def OB (b:Ls) (K:Int→Prop):Prop:=
 (∃ n:Nat,DW K (fun c _ _ _ _=>(K c)) n 0 b (((length b):Nat):Int) 0)
def JS:kO:=OB
def GL:lH:=lC vD lN
def kY:Sg:=⟨GL,Int→Prop,fun K=>(fun r0=>K (ic r0))⟩
def ak (Q:Qx):Int→Prop:=(fun b=>Q .ret [(2,.v (ic b))] [])
def al (Q:Qx):Int→Ls→Int→Int→Bool→Prop:=(fun b c d e f=>Q (.exit 0) [(3,.v (ic b)),(6,.v (.data c)),(7,.v (ic d)),(8,.v (ic e)),(9,.v (.bool f))] [])
def Bz:Pat aB:=fV 7 eI (fV 8 eI fN)
def GM:Pat rP:=pS hN (fV 3 eI (fV 6 vD Bz)) fN
def Wa (Q:Qx):List St:=[⟨GM,DW (ak Q) (al Q)⟩]
def Wb:LP:=iN [(38508400,Wa)]
def OC (e:Es):SE:=sE (E e) [] (Wb)
theorem Wc (e:Es) (he:EG e):SEOk (bM (E e)) (OC e):=bN (aJ.uni _) trivial trivial he.ok
theorem am (e:Es):gQ (OC e) 5 a JD false (Wa):=fun _=>⟨fun _=>by kernel_rfl,fun _ _=>by kernel_rfl,trivial⟩
theorem ap (e:Es) (he:EG e):gR (bM (E e)) (Wb) [] 38508400 (.loop 38508400 JD):=fun _ _ _=>bU.st (aJ.uni _) (eF (Wc e he) 5) (dB.no _ _) (bC (by kernel_rfl)) (am e _)
theorem aq (e:Es):bQ (OC e) 6 Np kY OB:=fun _ _=>by kernel_rfl
theorem ar (e:Es) (he:EG e):bG (E e) (kY.pw JS) Gc:=bS he (aq e) (Wc e he) bF.flat (fI (l:=[(38508400,.loop 38508400 JD)]) ⟨ap e he,trivial⟩ (by kernel_rfl))
abbrev rZ:Type:=J4 ((Int→Prop)→Prop)
def OD (a0:dX) (a1:kO) (b c d e:Int) (K:Int→Prop):Prop:=
 (a0 b c (fun f=>(a0 d e (fun g=>(a1 ([(ic f),(ic g)]:Ls) K)))))
def zM:rZ:=OD lX JS
def sA:lH:=lC wK GK
def BA:Sg:=⟨sA,Int→Prop,fun K=>(fun r0=>K (ic r0))⟩
def au (e:Es) (a0:dX) (a1:kO):SE:=sE (E e) [(oZ,tS.pw a0),(Gc,kY.pw a1)] dC
theorem aw (e:Es) (a0 a1):bQ (au e a0 a1) 6 Nq BA (OD a0 a1):=fun _ _=>by kernel_rfl
theorem GN (e:Es) (he:EG e):bG (E e) (BA.pw zM) pA:=bS he (aw e _ _) (bN (aJ.uni _) ⟨(DV e he),(ar e he),trivial⟩ trivial he.ok) bF.flat (bC (by kernel_rfl))
abbrev tT:Type:=Int→Int→(Int→Int→Prop)→Prop
def OE (b c:Int) (K:Int→Int→Prop):Prop:=
 (K (u64.wrap ((u64.wrap ((u64.wrap ((Int.fdiv b 4294967296)*(Int.fdiv c 4294967296)))+(Int.fdiv (u64.wrap ((u64.wrap ((Int.fdiv b 4294967296)*(u64.wrap (BitVec.ofInt u64.bits c&&&BitVec.ofInt u64.bits 4294967295).toNat)))+(Int.fdiv (u64.wrap ((u64.wrap (BitVec.ofInt u64.bits b&&&BitVec.ofInt u64.bits 4294967295).toNat)*(u64.wrap (BitVec.ofInt u64.bits c&&&BitVec.ofInt u64.bits 4294967295).toNat))) 4294967296))) 4294967296)))+(Int.fdiv (u64.wrap ((u64.wrap (BitVec.ofInt u64.bits (u64.wrap ((u64.wrap ((Int.fdiv b 4294967296)*(u64.wrap (BitVec.ofInt u64.bits c&&&BitVec.ofInt u64.bits 4294967295).toNat)))+(Int.fdiv (u64.wrap ((u64.wrap (BitVec.ofInt u64.bits b&&&BitVec.ofInt u64.bits 4294967295).toNat)*(u64.wrap (BitVec.ofInt u64.bits c&&&BitVec.ofInt u64.bits 4294967295).toNat))) 4294967296)))&&&BitVec.ofInt u64.bits 4294967295).toNat)+(u64.wrap ((u64.wrap (BitVec.ofInt u64.bits b&&&BitVec.ofInt u64.bits 4294967295).toNat)*(Int.fdiv c 4294967296))))) 4294967296))) (u64.wrap (b*c)))
def wL:tT:=OE
def GO:Sg:=⟨wJ,Int→Int→Prop,fun K=>(fun r0 r1=>K (.tup [(.int .u64 r0),(.int .u64 r1)]))⟩
def ay (e:Es):SE:=sE (E e) [] dC
theorem az (e:Es):bQ (ay e) 6 Nr GO OE:=fun _ _=>by kernel_rfl
theorem OF (e:Es) (he:EG e):bG (E e) (GO.pw wL) pB:=bS he (az e) (bN (aJ.uni _) trivial trivial he.ok) bF.flat (bC (by kernel_rfl))
def OG (a0:gL) (b:Int) (K:Int→Prop):Prop:=
 (a0 b (fun c=>(K (i64.wrap (64-c)))))
def zN:gL:=OG JQ
def bb (e:Es) (a0:gL):SE:=sE (E e) [(Dp,DT.pw a0)] dC
theorem bc (e:Es) (a0):bQ (bb e a0) 6 Ns DT (OG a0):=fun _ _=>by kernel_rfl
theorem be (e:Es) (he:EG e):bG (E e) (DT.pw zN) Gd:=bS he (bc e _) (bN (aJ.uni _) ⟨(Z8 e he),trivial⟩ trivial he.ok) bF.flat (bC (by kernel_rfl))
abbrev GP:Type:=Int→Int→Int→(Int→Int→Prop)→Prop
mutual
def JT (a0:gL) (x0:J4 (J4 (Int→Bool→Prop))) (x1:J4 (J4 (Int→Bool→Prop))):Nat→J4 (J4 (Int→Prop))
 | 0,_,_,_,_,_,_,_,_,_=>False
 | n+1,b,c,d,e,f,g,h,i,j=>
 (aD (decide (i≥4294967296)) (aD (decide ((u64.wrap (j+d))≥4294967296)) (x0 b c d e f g h (u64.wrap (i-1)) (u64.wrap (j+d)) true) (zO a0 x0 x1 n b c d e f g h (u64.wrap (i-1)) (u64.wrap (j+d)) false)) (aD (decide ((u64.wrap (i*e))>(u64.wrap ((u64.wrap (4294967296*j))+g)))) (aD (decide ((u64.wrap (j+d))≥4294967296)) (x0 b c d e f g h (u64.wrap (i-1)) (u64.wrap (j+d)) true) (zO a0 x0 x1 n b c d e f g h (u64.wrap (i-1)) (u64.wrap (j+d)) false)) (x1 b c d e f g h i j false)))
def zO (a0:gL) (x0:J4 (J4 (Int→Bool→Prop))) (x1:J4 (J4 (Int→Bool→Prop))):Nat→J4 (J4 (Int→Bool→Prop))
 | 0,_,_,_,_,_,_,_,_,_,_=>False
 | n+1,b,c,d,e,f,g,h,i,j,_=>
 (aD (decide (i≥4294967296)) (aD (decide ((u64.wrap (j+d))≥4294967296)) (x0 b c d e f g h (u64.wrap (i-1)) (u64.wrap (j+d)) true) (zO a0 x0 x1 n b c d e f g h (u64.wrap (i-1)) (u64.wrap (j+d)) false)) (aD (decide ((u64.wrap (i*e))>(u64.wrap ((u64.wrap (4294967296*j))+g)))) (aD (decide ((u64.wrap (j+d))≥4294967296)) (x0 b c d e f g h (u64.wrap (i-1)) (u64.wrap (j+d)) true) (zO a0 x0 x1 n b c d e f g h (u64.wrap (i-1)) (u64.wrap (j+d)) false)) (x1 b c d e f g h i j false)))
end
mutual
def DX (a0:gL) (x0:J4 (J4 (Int→Bool→Prop))) (x1:J4 (J4 (Int→Bool→Prop))):Nat→J4 (J4 (Int→Prop))
 | 0,_,_,_,_,_,_,_,_,_=>False
 | n+1,b,c,d,e,f,g,h,i,j=>
 (aD (decide (j≥4294967296)) (aD (decide ((u64.wrap (h+d))≥4294967296)) (x0 b c d e f g (u64.wrap (h+d)) i (u64.wrap (j-1)) true) (zP a0 x0 x1 n b c d e f g (u64.wrap (h+d)) i (u64.wrap (j-1)) false)) (aD (decide ((u64.wrap (j*e))>(u64.wrap ((u64.wrap (4294967296*h))+f)))) (aD (decide ((u64.wrap (h+d))≥4294967296)) (x0 b c d e f g (u64.wrap (h+d)) i (u64.wrap (j-1)) true) (zP a0 x0 x1 n b c d e f g (u64.wrap (h+d)) i (u64.wrap (j-1)) false)) (x1 b c d e f g h i j false)))
def zP (a0:gL) (x0:J4 (J4 (Int→Bool→Prop))) (x1:J4 (J4 (Int→Bool→Prop))):Nat→J4 (J4 (Int→Bool→Prop))
 | 0,_,_,_,_,_,_,_,_,_,_=>False
 | n+1,b,c,d,e,f,g,h,i,j,_=>
 (aD (decide (j≥4294967296)) (aD (decide ((u64.wrap (h+d))≥4294967296)) (x0 b c d e f g (u64.wrap (h+d)) i (u64.wrap (j-1)) true) (zP a0 x0 x1 n b c d e f g (u64.wrap (h+d)) i (u64.wrap (j-1)) false)) (aD (decide ((u64.wrap (j*e))>(u64.wrap ((u64.wrap (4294967296*h))+f)))) (aD (decide ((u64.wrap (h+d))≥4294967296)) (x0 b c d e f g (u64.wrap (h+d)) i (u64.wrap (j-1)) true) (zP a0 x0 x1 n b c d e f g (u64.wrap (h+d)) i (u64.wrap (j-1)) false)) (x1 b c d e f g h i j false)))
end
def OH (a0:gL) (b c d:Int) (K:Int→Int→Prop):Prop:=
 (aD (d==0) False (aD (decide (d≤b)) False (aD (b==0) (asr (!(decide (d=0))) (asr (!(decide (d=0))) (K (u64.wrap (Int.tdiv c d)) (Int.tmod c d)))) (a0 d (fun e=>(asr (!(decide ((u64.wrap e)<0))) (asr (!(decide ((u64.wrap e)<0))) (asr (!(decide ((u64.wrap (64-(u64.wrap e)))<0))) (asr (!(decide ((u64.wrap e)<0))) (asr (!(decide ((Int.fdiv (u64.wrap (d*2 ^ (min (u64.wrap e).toNat u64.bits))) 4294967296)=0))) (∃ m0:Nat,JT a0 (fun f g h i j k l m _ _=>(asr (!(decide (h=0))) (∃ m1:Nat,DX a0 (fun q r _ _ u v _ z A _=>(asr (!(decide (r<0))) (K (u64.wrap ((u64.wrap (v*4294967296))+A)) (Int.fdiv (u64.wrap ((u64.wrap ((u64.wrap (z*4294967296))+u))-(u64.wrap (A*q)))) (2 ^ (min r.toNat u64.bits)))))) (fun q r _ _ u v _ z A _=>(asr (!(decide (r<0))) (K (u64.wrap ((u64.wrap (v*4294967296))+A)) (Int.fdiv (u64.wrap ((u64.wrap ((u64.wrap (z*4294967296))+u))-(u64.wrap (A*q)))) (2 ^ (min r.toNat u64.bits)))))) m1 f g h i l m (u64.wrap ((u64.wrap ((u64.wrap ((u64.wrap (j*4294967296))+k))-(u64.wrap (m*f))))-(u64.wrap ((u64.wrap (Int.tdiv (u64.wrap ((u64.wrap ((u64.wrap (j*4294967296))+k))-(u64.wrap (m*f)))) h))*h)))) (u64.wrap ((u64.wrap ((u64.wrap (j*4294967296))+k))-(u64.wrap (m*f)))) (u64.wrap (Int.tdiv (u64.wrap ((u64.wrap ((u64.wrap (j*4294967296))+k))-(u64.wrap (m*f)))) h))))) (fun f g h i j k l m _ _=>(asr (!(decide (h=0))) (∃ m1:Nat,DX a0 (fun q r _ _ u v _ z A _=>(asr (!(decide (r<0))) (K (u64.wrap ((u64.wrap (v*4294967296))+A)) (Int.fdiv (u64.wrap ((u64.wrap ((u64.wrap (z*4294967296))+u))-(u64.wrap (A*q)))) (2 ^ (min r.toNat u64.bits)))))) (fun q r _ _ u v _ z A _=>(asr (!(decide (r<0))) (K (u64.wrap ((u64.wrap (v*4294967296))+A)) (Int.fdiv (u64.wrap ((u64.wrap ((u64.wrap (z*4294967296))+u))-(u64.wrap (A*q)))) (2 ^ (min r.toNat u64.bits)))))) m1 f g h i l m (u64.wrap ((u64.wrap ((u64.wrap ((u64.wrap (j*4294967296))+k))-(u64.wrap (m*f))))-(u64.wrap ((u64.wrap (Int.tdiv (u64.wrap ((u64.wrap ((u64.wrap (j*4294967296))+k))-(u64.wrap (m*f)))) h))*h)))) (u64.wrap ((u64.wrap ((u64.wrap (j*4294967296))+k))-(u64.wrap (m*f)))) (u64.wrap (Int.tdiv (u64.wrap ((u64.wrap ((u64.wrap (j*4294967296))+k))-(u64.wrap (m*f)))) h))))) m0 (u64.wrap (d*2 ^ (min (u64.wrap e).toNat u64.bits))) (u64.wrap e) (Int.fdiv (u64.wrap (d*2 ^ (min (u64.wrap e).toNat u64.bits))) 4294967296) (u64.wrap (BitVec.ofInt u64.bits (u64.wrap (d*2 ^ (min (u64.wrap e).toNat u64.bits)))&&&BitVec.ofInt u64.bits 4294967295).toNat) (u64.wrap (BitVec.ofInt u64.bits (u64.wrap (b*2 ^ (min (u64.wrap e).toNat u64.bits)))|||BitVec.ofInt u64.bits (Int.fdiv c (2 ^ (min (u64.wrap (64-(u64.wrap e))).toNat u64.bits)))).toNat) (Int.fdiv (u64.wrap (c*2 ^ (min (u64.wrap e).toNat u64.bits))) 4294967296) (u64.wrap (BitVec.ofInt u64.bits (u64.wrap (c*2 ^ (min (u64.wrap e).toNat u64.bits)))&&&BitVec.ofInt u64.bits 4294967295).toNat) (u64.wrap (Int.tdiv (u64.wrap (BitVec.ofInt u64.bits (u64.wrap (b*2 ^ (min (u64.wrap e).toNat u64.bits)))|||BitVec.ofInt u64.bits (Int.fdiv c (2 ^ (min (u64.wrap (64-(u64.wrap e))).toNat u64.bits)))).toNat) (Int.fdiv (u64.wrap (d*2 ^ (min (u64.wrap e).toNat u64.bits))) 4294967296))) (u64.wrap ((u64.wrap (BitVec.ofInt u64.bits (u64.wrap (b*2 ^ (min (u64.wrap e).toNat u64.bits)))|||BitVec.ofInt u64.bits (Int.fdiv c (2 ^ (min (u64.wrap (64-(u64.wrap e))).toNat u64.bits)))).toNat)-(u64.wrap ((u64.wrap (Int.tdiv (u64.wrap (BitVec.ofInt u64.bits (u64.wrap (b*2 ^ (min (u64.wrap e).toNat u64.bits)))|||BitVec.ofInt u64.bits (Int.fdiv c (2 ^ (min (u64.wrap (64-(u64.wrap e))).toNat u64.bits)))).toNat) (Int.fdiv (u64.wrap (d*2 ^ (min (u64.wrap e).toNat u64.bits))) 4294967296)))*(Int.fdiv (u64.wrap (d*2 ^ (min (u64.wrap e).toNat u64.bits))) 4294967296))))))))))))))))
def zU:GP:=OH zN
def JU:Sg:=⟨(lC cU wJ),Int→Int→Prop,fun K=>(fun r0 r1=>K (.tup [(.int .u64 r0),(.int .u64 r1)]))⟩
def Wd (Q:Qx):J4 (J4 (Int→Bool→Prop )):=(fun b c d e f g h i j k=>Q (.exit 0) [(2,.v (.int .u64 b)),(8,.v (.int .u64 c)),(9,.v (.int .u64 d)),(10,.v (.int .u64 e)),(11,.v (.int .u64 f)),(13,.v (.int .u64 g)),(14,.v (.int .u64 h)),(15,.v (.int .u64 i)),(16,.v (.int .u64 j)),(85,.v (.bool k))] [])
def We (Q:Qx):J4 (J4 (Int→Bool→Prop )):=(fun b c d e f g h i j k=>Q (.exit 0) [(2,.v (.int .u64 b)),(8,.v (.int .u64 c)),(9,.v (.int .u64 d)),(10,.v (.int .u64 e)),(11,.v (.int .u64 f)),(13,.v (.int .u64 g)),(14,.v (.int .u64 h)),(15,.v (.int .u64 i)),(16,.v (.int .u64 j)),(78,.v (.bool k))] [])
def Wf (Q:Qx):J4 (J4 (Int→Bool→Prop )):=(fun b c d e f g h i j k=>Q (.exit 2) [(2,.v (.int .u64 b)),(8,.v (.int .u64 c)),(9,.v (.int .u64 d)),(10,.v (.int .u64 e)),(14,.v (.int .u64 f)),(15,.v (.int .u64 g)),(16,.v (.int .u64 h)),(17,.v (.int .u64 i)),(18,.v (.int .u64 j)),(120,.v (.bool k))] [])
def Wg (Q:Qx):J4 (J4 (Int→Bool→Prop )):=(fun b c d e f g h i j k=>Q (.exit 2) [(2,.v (.int .u64 b)),(8,.v (.int .u64 c)),(9,.v (.int .u64 d)),(10,.v (.int .u64 e)),(14,.v (.int .u64 f)),(15,.v (.int .u64 g)),(16,.v (.int .u64 h)),(17,.v (.int .u64 i)),(18,.v (.int .u64 j)),(113,.v (.bool k))] [])
def Wh (a0:gL) (Q:Qx):List St:=[⟨(pS hN (fV 2 cU (fV 8 cU (fV 9 cU (fV 10 cU (fV 11 cU (fV 13 cU (fV 14 cU (fV 15 cU (fV 16 cU fN))))))))) fN),JT a0 (Wd Q) (We Q)⟩,⟨(pS hN (fV 2 cU (fV 8 cU (fV 9 cU (fV 10 cU (fV 11 cU (fV 13 cU (fV 14 cU (fV 15 cU (fV 16 cU (fV 85 vB fN)))))))))) fN),zO a0 (Wd Q) (We Q)⟩]
def Wi (a0:gL) (Q:Qx):List St:=[⟨(pS hN (fV 2 cU (fV 8 cU (fV 9 cU (fV 10 cU (fV 14 cU (fV 15 cU (fV 16 cU (fV 17 cU (fV 18 cU fN))))))))) fN),DX a0 (Wf Q) (Wg Q)⟩,⟨(pS hN (fV 2 cU (fV 8 cU (fV 9 cU (fV 10 cU (fV 14 cU (fV 15 cU (fV 16 cU (fV 17 cU (fV 18 cU (fV 120 vB fN)))))))))) fN),zP a0 (Wf Q) (Wg Q)⟩]
def OI (a0:gL):LP:=iN [(60530100,Wh a0),(60530101,Wi a0)]
def JV (e:Es) (a0:gL):SE:=sE (E e) [(Gd,DT.pw a0)] (OI a0)
theorem OJ (e:Es) (he:EG e):SEOk (bM (E e)) (JV e zN):=bN (aJ.uni _) ⟨(be e he),trivial⟩ trivial he.ok
theorem bg (e:Es) (a0):gQ (JV e a0) 5 a JE false (Wh a0):=fun _=>⟨fun _=>by kernel_rfl,fun _ _=>by kernel_rfl,fun _=>by kernel_rfl,fun _ _=>by kernel_rfl,trivial⟩
theorem bh (e:Es) (he:EG e):gR (bM (E e)) (OI zN) [] 60530100 (.loop 60530100 JE):=fun _ _ _=>bU.st (aJ.uni _) (eF (OJ e he) 5) (dB.no _ _) (bC (by kernel_rfl)) (bg e _ _)
theorem bi (e:Es) (a0):gQ (JV e a0) 5 a JF false (Wi a0):=fun _=>⟨fun _=>by kernel_rfl,fun _ _=>by kernel_rfl,fun _=>by kernel_rfl,fun _ _=>by kernel_rfl,trivial⟩
theorem bj (e:Es) (he:EG e):gR (bM (E e)) (OI zN) [] 60530101 (.loop 60530101 JF):=fun _ _ _=>bU.st (aJ.uni _) (eF (OJ e he) 5) (dB.no _ _) (bC (by kernel_rfl)) (bi e _ _)
theorem bm (e:Es) (a0):bQ (JV e a0) 6 Nt JU (OH a0):=fun _ _=>by kernel_rfl
theorem Wj (e:Es) (he:EG e):bG (E e) (JU.pw zU) AP:=bS he (bm e _) (OJ e he) bF.flat (fI (l:=[(60530100,.loop 60530100 JE),(60530101,.loop 60530101 JF)]) ⟨bh e he,bj e he,trivial⟩ (by kernel_rfl))
abbrev OL:Type:=Int→Int→Int→(Int→Prop)→Prop
def OM (a0:GP) (b c d:Int) (K:Int→Prop):Prop:=
 (asr (!(decide (d=0))) (a0 (Int.tmod b d) c d (fun _ f=>(K f))))
def BB:OL:=OM zU
def ON:Sg:=⟨(lC cU wJ),Int→Prop,fun K=>(fun r0=>K (.int .u64 r0))⟩
def bn (e:Es) (a0:GP):SE:=sE (E e) [(AP,JU.pw a0)] dC
theorem bo (e:Es) (a0):bQ (bn e a0) 6 Nu ON (OM a0):=fun _ _=>by kernel_rfl
theorem bq (e:Es) (he:EG e):bG (E e) (ON.pw BB) Ge:=bS he (bo e _) (bN (aJ.uni _) ⟨(Wj e he),trivial⟩ trivial he.ok) bF.flat (bC (by kernel_rfl))
abbrev GQ:Type:=Bool→Int→Int→(Int→Int→Int→Prop)→Prop
def OO (b:Bool) (c d:Int) (K:Int→Int→Int→Prop):Prop:=
 (aD (decide ((if d>c then d else c)>1000000000000000000)) (K 0 0 16) (aD b (K (i64.wrap (0-(i64.wrap c))) (i64.wrap d) 0) (K (i64.wrap c) (i64.wrap d) 0)))
def zV:GQ:=OO
def JW:Sg:=⟨(lC vB wJ),Int→Int→Int→Prop,fun K=>(fun r0 r1 r2=>K (.tup [(.agg [(ic r0),(ic r1)]),(ic r2)]))⟩
def br (e:Es):SE:=sE (E e) [] dC
theorem bv (e:Es):bQ (br e) 6 Nv JW OO:=fun _ _=>by kernel_rfl
theorem Wk (e:Es) (he:EG e):bG (E e) (JW.pw zV) AQ:=bS he (bv e) (bN (aJ.uni _) trivial trivial he.ok) bF.flat (bC (by kernel_rfl))
abbrev iO:Type:=J4 ((Int→Int→Int→Prop)→Prop)
def OP (a0:rZ) (a1:dX) (a2:gL) (a3:tT) (a4:VU) (a5:OL) (a6:GP) (a7:GQ) (a8:VV) (b c d e:Int) (K:Int→Int→Int→Prop):Prop:=
 (a0 b c d e (fun f=>(aD (f !=0) (K 0 0 f) (a1 (u64.wrap c) (u64.wrap e) (fun g=>(a2 b (fun h=>(asr (!(decide (g=0))) (a3 h (u64.wrap (Int.tdiv (u64.wrap e) g)) (fun i j=>(a2 d (fun k=>(asr (!(decide (g=0))) (a3 k (u64.wrap (Int.tdiv (u64.wrap c) g)) (fun l m=>(aD ((decide (b<0)) ==(decide (d<0))) (a4 j m 0 (fun o p=>(a4 i l p (fun q _=>(aD (q==0) (aD (o==0) (K 0 1 0) (a5 q o g (fun s=>(a1 s g (fun t=>(aD (decide (q≥t)) (K 0 0 16) (a6 q o t (fun u _=>(asr (!(decide (g=0))) (asr (!(decide (t=0))) (a3 (u64.wrap (Int.tdiv (u64.wrap c) g)) (u64.wrap (Int.tdiv (u64.wrap e) t)) (fun w z=>(aD (decide (w>0)) (K 0 0 16) (a7 (decide (b<0)) u z K)))))))))))))) (a5 q o g (fun s=>(a1 s g (fun t=>(aD (decide (q≥t)) (K 0 0 16) (a6 q o t (fun u _=>(asr (!(decide (g=0))) (asr (!(decide (t=0))) (a3 (u64.wrap (Int.tdiv (u64.wrap c) g)) (u64.wrap (Int.tdiv (u64.wrap e) t)) (fun w z=>(aD (decide (w>0)) (K 0 0 16) (a7 (decide (b<0)) u z K)))))))))))))))))) (aD (decide (i<l)) (a8 m j 0 (fun o p=>(a8 l i p (fun q _=>(aD (q==0) (aD (o==0) (K 0 1 0) (a5 q o g (fun s=>(a1 s g (fun t=>(aD (decide (q≥t)) (K 0 0 16) (a6 q o t (fun u _=>(asr (!(decide (g=0))) (asr (!(decide (t=0))) (a3 (u64.wrap (Int.tdiv (u64.wrap c) g)) (u64.wrap (Int.tdiv (u64.wrap e) t)) (fun w z=>(aD (decide (w>0)) (K 0 0 16) (a7 (!(decide (b<0))) u z K)))))))))))))) (a5 q o g (fun s=>(a1 s g (fun t=>(aD (decide (q≥t)) (K 0 0 16) (a6 q o t (fun u _=>(asr (!(decide (g=0))) (asr (!(decide (t=0))) (a3 (u64.wrap (Int.tdiv (u64.wrap c) g)) (u64.wrap (Int.tdiv (u64.wrap e) t)) (fun w z=>(aD (decide (w>0)) (K 0 0 16) (a7 (!(decide (b<0))) u z K)))))))))))))))))) (aD (i==l) (aD (decide (j<m)) (a8 m j 0 (fun o p=>(a8 l i p (fun q _=>(aD (q==0) (aD (o==0) (K 0 1 0) (a5 q o g (fun s=>(a1 s g (fun t=>(aD (decide (q≥t)) (K 0 0 16) (a6 q o t (fun u _=>(asr (!(decide (g=0))) (asr (!(decide (t=0))) (a3 (u64.wrap (Int.tdiv (u64.wrap c) g)) (u64.wrap (Int.tdiv (u64.wrap e) t)) (fun w z=>(aD (decide (w>0)) (K 0 0 16) (a7 (!(decide (b<0))) u z K)))))))))))))) (a5 q o g (fun s=>(a1 s g (fun t=>(aD (decide (q≥t)) (K 0 0 16) (a6 q o t (fun u _=>(asr (!(decide (g=0))) (asr (!(decide (t=0))) (a3 (u64.wrap (Int.tdiv (u64.wrap c) g)) (u64.wrap (Int.tdiv (u64.wrap e) t)) (fun w z=>(aD (decide (w>0)) (K 0 0 16) (a7 (!(decide (b<0))) u z K)))))))))))))))))) (a8 j m 0 (fun o p=>(a8 i l p (fun q _=>(aD (q==0) (aD (o==0) (K 0 1 0) (a5 q o g (fun s=>(a1 s g (fun t=>(aD (decide (q≥t)) (K 0 0 16) (a6 q o t (fun u _=>(asr (!(decide (g=0))) (asr (!(decide (t=0))) (a3 (u64.wrap (Int.tdiv (u64.wrap c) g)) (u64.wrap (Int.tdiv (u64.wrap e) t)) (fun w z=>(aD (decide (w>0)) (K 0 0 16) (a7 (decide (b<0)) u z K)))))))))))))) (a5 q o g (fun s=>(a1 s g (fun t=>(aD (decide (q≥t)) (K 0 0 16) (a6 q o t (fun u _=>(asr (!(decide (g=0))) (asr (!(decide (t=0))) (a3 (u64.wrap (Int.tdiv (u64.wrap c) g)) (u64.wrap (Int.tdiv (u64.wrap e) t)) (fun w z=>(aD (decide (w>0)) (K 0 0 16) (a7 (decide (b<0)) u z K))))))))))))))))))) (a8 j m 0 (fun o p=>(a8 i l p (fun q _=>(aD (q==0) (aD (o==0) (K 0 1 0) (a5 q o g (fun s=>(a1 s g (fun t=>(aD (decide (q≥t)) (K 0 0 16) (a6 q o t (fun u _=>(asr (!(decide (g=0))) (asr (!(decide (t=0))) (a3 (u64.wrap (Int.tdiv (u64.wrap c) g)) (u64.wrap (Int.tdiv (u64.wrap e) t)) (fun w z=>(aD (decide (w>0)) (K 0 0 16) (a7 (decide (b<0)) u z K)))))))))))))) (a5 q o g (fun s=>(a1 s g (fun t=>(aD (decide (q≥t)) (K 0 0 16) (a6 q o t (fun u _=>(asr (!(decide (g=0))) (asr (!(decide (t=0))) (a3 (u64.wrap (Int.tdiv (u64.wrap c) g)) (u64.wrap (Int.tdiv (u64.wrap e) t)) (fun w z=>(aD (decide (w>0)) (K 0 0 16) (a7 (decide (b<0)) u z K))))))))))))))))))))))))))))))))))))
def pI:iO:=OP zM rY By wL Dc BB zU zV Dd
def iD:Sg:=⟨sA,Int→Int→Int→Prop,fun K=>(fun r0 r1 r2=>K (.tup [(.agg [(ic r0),(ic r1)]),(ic r2)]))⟩
def bw (e:Es) (a0:rZ) (a1:dX) (a2:gL) (a3:tT) (a4:VU) (a5:OL) (a6:GP) (a7:GQ) (a8:VV):SE:=sE (E e) [(pA,BA.pw a0),(rR,zL.pw a1),(mW,tR.pw a2),(pB,GO.pw a3),(vM,Mw a4),(Ge,ON.pw a5),(AP,JU.pw a6),(AQ,JW.pw a7),(vN,Mx a8)] dC
theorem bz (e:Es) (a0 a1 a2 a3 a4 a5 a6 a7 a8):bQ (bw e a0 a1 a2 a3 a4 a5 a6 a7 a8) 6 NI iD (OP a0 a1 a2 a3 a4 a5 a6 a7 a8):=fun _ _=>by kernel_rfl
theorem GR (e:Es) (he:EG e):bG (E e) (iD.pw pI) qI:=bS he (bz e _ _ _ _ _ _ _ _ _) (bN (aJ.uni _) ⟨(GN e he),(Oz e he),(JR e he),(OF e he),(Z4 e he),(bq e he),(Wj e he),(Wk e he),(Z5 e he),trivial⟩ trivial he.ok) bF.flat (bC (by kernel_rfl))
def OQ (a0:rZ) (a1:iO) (b c d e:Int) (K:Int→Int→Int→Prop):Prop:=
 (a0 b c d e (fun f=>(aD (f !=0) (K 0 0 f) (a1 b c (i64.wrap (0-d)) e K))))
def pJ:iO:=OQ zM pI
def cd (e:Es) (a0:rZ) (a1:iO):SE:=sE (E e) [(pA,BA.pw a0),(qI,iD.pw a1)] dC
theorem ce (e:Es) (a0 a1):bQ (cd e a0 a1) 6 NJ iD (OQ a0 a1):=fun _ _=>by kernel_rfl
theorem GS (e:Es) (he:EG e):bG (E e) (iD.pw pJ) rS:=bS he (ce e _ _) (bN (aJ.uni _) ⟨(GN e he),(GR e he),trivial⟩ trivial he.ok) bF.flat (bC (by kernel_rfl))
def OR (a0:rZ) (a1:gL) (a2:dX) (a3:tT) (a4:GQ) (b c d e:Int) (K:Int→Int→Int→Prop):Prop:=
 (a0 b c d e (fun f=>(aD (f !=0) (K 0 0 f) (a1 b (fun g=>(a1 d (fun h=>(a2 g (u64.wrap e) (fun i=>(a2 h (u64.wrap c) (fun j=>(asr (!(decide (i=0))) (asr (!(decide (j=0))) (a3 (u64.wrap (Int.tdiv g i)) (u64.wrap (Int.tdiv h j)) (fun k l=>(asr (!(decide (j=0))) (asr (!(decide (i=0))) (a3 (u64.wrap (Int.tdiv (u64.wrap c) j)) (u64.wrap (Int.tdiv (u64.wrap e) i)) (fun m o=>(aD (decide ((u64.wrap (k+m))>0)) (K 0 0 16) (aD (decide (l>0)) (a4 ((decide (b<0)) !=(decide (d<0))) l o K) (a4 false l o K))))))))))))))))))))))
def lY:iO:=OR zM By rY wL zV
def cf (e:Es) (a0:rZ) (a1:gL) (a2:dX) (a3:tT) (a4:GQ):SE:=sE (E e) [(pA,BA.pw a0),(mW,tR.pw a1),(rR,zL.pw a2),(pB,GO.pw a3),(AQ,JW.pw a4)] dC
theorem cg (e:Es) (a0 a1 a2 a3 a4):bQ (cf e a0 a1 a2 a3 a4) 6 NK iD (OR a0 a1 a2 a3 a4):=fun _ _=>by kernel_rfl
theorem DY (e:Es) (he:EG e):bG (E e) (iD.pw lY) nZ:=bS he (cg e _ _ _ _ _) (bN (aJ.uni _) ⟨(GN e he),(JR e he),(Oz e he),(OF e he),(Wk e he),trivial⟩ trivial he.ok) bF.flat (bC (by kernel_rfl))
def OS (a0:rZ) (a1:iO) (b c d e:Int) (K:Int→Int→Int→Prop):Prop:=
 (a0 b c d e (fun f=>(aD (f !=0) (K 0 0 f) (aD (d==0) (K 0 0 18) (aD (decide (d<0)) (a1 b c (i64.wrap (0-e)) (i64.wrap (0-d)) K) (a1 b c e d K))))))
def pK:iO:=OS zM lY
def ci (e:Es) (a0:rZ) (a1:iO):SE:=sE (E e) [(pA,BA.pw a0),(nZ,iD.pw a1)] dC
theorem cj (e:Es) (a0 a1):bQ (ci e a0 a1) 6 NL iD (OS a0 a1):=fun _ _=>by kernel_rfl
theorem GT (e:Es) (he:EG e):bG (E e) (iD.pw pK) rT:=bS he (cj e _ _) (bN (aJ.uni _) ⟨(GN e he),(DY e he),trivial⟩ trivial he.ok) bF.flat (bC (by kernel_rfl))
def OT (b:Int) (K:Bool→Prop):Prop:=
 (K (b !=b))
def OU:DU:=OT
def cm (e:Es):SE:=sE (E e) [] dC
theorem cn (e:Es):bQ (cm e) 6 NO Ov OT:=fun _ _=>by kernel_rfl
theorem co (e:Es) (he:EG e):bG (E e) (Ov.pw OU) Ds:=bS he (cn e) (bN (aJ.uni _) trivial trivial he.ok) bF.flat (bC (by kernel_rfl))
def OV (a0:DU) (b c:Int) (K:Int→Prop):Prop:=
 (a0 b (fun d=>(a0 c (fun e=>(aD d (aD e (K 0) (K (-1))) (aD e (K 1) (aD (decide (b<c)) (K (-1)) (aD (decide (b>c)) (K 1) (K 0)))))))))
def JX:dX:=OV OU
def OW:Sg:=⟨GI,Int→Prop,fun K=>(fun r0=>K (ic r0))⟩
def cp (e:Es) (a0:DU):SE:=sE (E e) [(Ds,Ov.pw a0)] dC
theorem cq (e:Es) (a0):bQ (cp e a0) 6 NP OW (OV a0):=fun _ _=>by kernel_rfl
theorem cr (e:Es) (he:EG e):bG (E e) (OW.pw JX) Gf:=bS he (cq e _) (bN (aJ.uni _) ⟨(co e he),trivial⟩ trivial he.ok) bF.flat (bC (by kernel_rfl))
def OX (b:Int) (K:Bool→Prop):Prop:=
 (K (b !=b))
def OY:DU:=OX
def OZ:Sg:=⟨Ou,Bool→Prop,fun K=>(fun r0=>K (.bool r0))⟩
def ct (e:Es):SE:=sE (E e) [] dC
theorem cu (e:Es):bQ (ct e) 6 NQ OZ OX:=fun _ _=>by kernel_rfl
theorem cv (e:Es) (he:EG e):bG (E e) (OZ.pw OY) Dt:=bS he (cu e) (bN (aJ.uni _) trivial trivial he.ok) bF.flat (bC (by kernel_rfl))
def Pa (a0:DU) (b c:Int) (K:Int→Prop):Prop:=
 (a0 b (fun d=>(a0 c (fun e=>(aD d (aD e (K 0) (K (-1))) (aD e (K 1) (aD (decide (b<c)) (K (-1)) (aD (decide (b>c)) (K 1) (K 0)))))))))
def JY:dX:=Pa OY
def Pb:Sg:=⟨wJ,Int→Prop,fun K=>(fun r0=>K (ic r0))⟩
def cw (e:Es) (a0:DU):SE:=sE (E e) [(Dt,OZ.pw a0)] dC
theorem da (e:Es) (a0):bQ (cw e a0) 6 NR Pb (Pa a0):=fun _ _=>by kernel_rfl
theorem db (e:Es) (he:EG e):bG (E e) (Pb.pw JY) Du:=bS he (da e _) (bN (aJ.uni _) ⟨(cv e he),trivial⟩ trivial he.ok) bF.flat (bC (by kernel_rfl))
def DZ (x0:Int→Prop) (x1:Int→Ls→Int→Int→Bool→Prop):Nat→Int→Ls→Int→Int→Prop
 | 0,_,_,_,_=>False
 | n+1,b,c,d,e=>
 (aD (decide (e<d)) (asr (decide (0≤e)) (asr (decide (e<(((length c):Nat):Int))) (asr (aG zI (getD c (e.toNat) .nils)) (aD ((aP (getD c (e.toNat) .nils)) !=b) (x0 (aP (getD c (e.toNat) .nils))) (DZ x0 x1 n b c d (i64.wrap (e+1))))))) (x1 b c d e false))
def Pc (b:Ls) (K:Int→Prop):Prop:=
 (∃ n:Nat,DZ K (fun c _ _ _ _=>(K c)) n 0 b (((length b):Nat):Int) 0)
def JZ:kO:=Pc
def dc (Q:Qx):Int→Prop:=(fun b=>Q .ret [(2,.v (ic b))] [])
def dd (Q:Qx):Int→Ls→Int→Int→Bool→Prop:=(fun b c d e f=>Q (.exit 0) [(3,.v (ic b)),(6,.v (.data c)),(7,.v (ic d)),(8,.v (ic e)),(9,.v (.bool f))] [])
def Wl (Q:Qx):List St:=[⟨GM,DZ (dc Q) (dd Q)⟩]
def Wm:LP:=iN [(53260600,Wl)]
def Pd (e:Es):SE:=sE (E e) [] (Wm)
theorem Wn (e:Es) (he:EG e):SEOk (bM (E e)) (Pd e):=bN (aJ.uni _) trivial trivial he.ok
theorem de (e:Es):gQ (Pd e) 5 a JH false (Wl):=fun _=>⟨fun _=>by kernel_rfl,fun _ _=>by kernel_rfl,trivial⟩
theorem dg (e:Es) (he:EG e):gR (bM (E e)) (Wm) [] 53260600 (.loop 53260600 JH):=fun _ _ _=>bU.st (aJ.uni _) (eF (Wn e he) 5) (dB.no _ _) (bC (by kernel_rfl)) (de e _)
theorem dh (e:Es):bQ (Pd e) 6 NS kY Pc:=fun _ _=>by kernel_rfl
theorem di (e:Es) (he:EG e):bG (E e) (kY.pw JZ) Gg:=bS he (dh e) (Wn e he) bF.flat (fI (l:=[(53260600,.loop 53260600 JH)]) ⟨dg e he,trivial⟩ (by kernel_rfl))
abbrev GU:Type:=J4 ((Int→Int→Prop)→Prop)
def Pe (a0:rZ) (a1:dX) (a2:gL) (a3:tT) (a4:dX) (a5:kO) (b c d e:Int) (K:Int→Int→Prop):Prop:=
 (a0 b c d e (fun f=>(aD (f !=0) (K 0 f) (aD ((decide (b<0)) !=(decide (d<0))) (a1 b d (fun g=>(K g 0))) (a2 b (fun g=>(a3 g (u64.wrap e) (fun h i=>(a2 d (fun j=>(a3 j (u64.wrap c) (fun k l=>(a4 h k (fun m=>(a4 i l (fun o=>(a5 ([(ic m),(ic o)]:Ls) (fun p=>(aD (decide (b<0)) (K (i64.wrap (0-p)) 0) (K p 0))))))))))))))))))))
def zW:GU:=Pe zM JX By wL JY JZ
def Ka:Sg:=⟨sA,Int→Int→Prop,fun K=>(fun r0 r1=>K (.tup [(ic r0),(ic r1)]))⟩
def dj (e:Es) (a0:rZ) (a1:dX) (a2:gL) (a3:tT) (a4:dX) (a5:kO):SE:=sE (E e) [(pA,BA.pw a0),(Gf,OW.pw a1),(mW,tR.pw a2),(pB,GO.pw a3),(Du,Pb.pw a4),(Gg,kY.pw a5)] dC
theorem dk (e:Es) (a0 a1 a2 a3 a4 a5):bQ (dj e a0 a1 a2 a3 a4 a5) 6 NT Ka (Pe a0 a1 a2 a3 a4 a5):=fun _ _=>by kernel_rfl
theorem Pg (e:Es) (he:EG e):bG (E e) (Ka.pw zW) AS:=bS he (dk e _ _ _ _ _ _) (bN (aJ.uni _) ⟨(GN e he),(cr e he),(JR e he),(OF e he),(db e he),(di e he),trivial⟩ trivial he.ok) bF.flat (bC (by kernel_rfl))
set_option linter.unusedVariables false
theorem dl (p0 p1 r0:Int) (h:∀ K:Int→Prop,K r0→lX p0 p1 K) (K:Int→Prop):lX p0 p1 K=K r0:=
 Aac ⟨fun k=>cJ (DV [] gK) (as:=[(.agg [(ic p0),(ic p1)])]) (x:=(ic r0)) (fun K' k'=>h (fun r0=>K' (ic r0)) k') (K:=fun x=>match x with | (ic r0)=>K r0 | _=>False) k,h K⟩
theorem dm (p0 p1 p2 p3 r0 r1 r2:Int) (h:∀ K:Int→Int→Int→Prop,K r0 r1 r2→pI p0 p1 p2 p3 K) (K:Int→Int→Int→Prop):pI p0 p1 p2 p3 K=K r0 r1 r2:=
 Aac ⟨fun k=>cJ (GR [] gK) (as:=[(.agg [(ic p0),(ic p1)]),(.agg [(ic p2),(ic p3)])]) (x:=(.tup [(.agg [(ic r0),(ic r1)]),(ic r2)])) (fun K' k'=>h (fun r0 r1 r2=>K' (.tup [(.agg [(ic r0),(ic r1)]),(ic r2)])) k') (K:=fun x=>match x with | (.tup [(.agg [(ic r0),(ic r1)]),(ic r2)])=>K r0 r1 r2 | _=>False) k,h K⟩
theorem dp (p0 p1 p2 p3 r0 r1 r2:Int) (h:∀ K:Int→Int→Int→Prop,K r0 r1 r2→pJ p0 p1 p2 p3 K) (K:Int→Int→Int→Prop):pJ p0 p1 p2 p3 K=K r0 r1 r2:=
 Aac ⟨fun k=>cJ (GS [] gK) (as:=[(.agg [(ic p0),(ic p1)]),(.agg [(ic p2),(ic p3)])]) (x:=(.tup [(.agg [(ic r0),(ic r1)]),(ic r2)])) (fun K' k'=>h (fun r0 r1 r2=>K' (.tup [(.agg [(ic r0),(ic r1)]),(ic r2)])) k') (K:=fun x=>match x with | (.tup [(.agg [(ic r0),(ic r1)]),(ic r2)])=>K r0 r1 r2 | _=>False) k,h K⟩
theorem du (p0 p1 p2 p3 r0 r1 r2:Int) (h:∀ K:Int→Int→Int→Prop,K r0 r1 r2→lY p0 p1 p2 p3 K) (K:Int→Int→Int→Prop):lY p0 p1 p2 p3 K=K r0 r1 r2:=
 Aac ⟨fun k=>cJ (DY [] gK) (as:=[(.agg [(ic p0),(ic p1)]),(.agg [(ic p2),(ic p3)])]) (x:=(.tup [(.agg [(ic r0),(ic r1)]),(ic r2)])) (fun K' k'=>h (fun r0 r1 r2=>K' (.tup [(.agg [(ic r0),(ic r1)]),(ic r2)])) k') (K:=fun x=>match x with | (.tup [(.agg [(ic r0),(ic r1)]),(ic r2)])=>K r0 r1 r2 | _=>False) k,h K⟩
theorem dv (p0 p1 p2 p3 r0 r1 r2:Int) (h:∀ K:Int→Int→Int→Prop,K r0 r1 r2→pK p0 p1 p2 p3 K) (K:Int→Int→Int→Prop):pK p0 p1 p2 p3 K=K r0 r1 r2:=
 Aac ⟨fun k=>cJ (GT [] gK) (as:=[(.agg [(ic p0),(ic p1)]),(.agg [(ic p2),(ic p3)])]) (x:=(.tup [(.agg [(ic r0),(ic r1)]),(ic r2)])) (fun K' k'=>h (fun r0 r1 r2=>K' (.tup [(.agg [(ic r0),(ic r1)]),(ic r2)])) k') (K:=fun x=>match x with | (.tup [(.agg [(ic r0),(ic r1)]),(ic r2)])=>K r0 r1 r2 | _=>False) k,h K⟩
theorem dw (p0 p1 p2 p3 r0 r1:Int) (h:∀ K:Int→Int→Prop,K r0 r1→zW p0 p1 p2 p3 K) (K:Int→Int→Prop):zW p0 p1 p2 p3 K=K r0 r1:=
 Aac ⟨fun k=>cJ (Pg [] gK) (as:=[(.agg [(ic p0),(ic p1)]),(.agg [(ic p2),(ic p3)])]) (x:=(.tup [(ic r0),(ic r1)])) (fun K' k'=>h (fun r0 r1=>K' (.tup [(ic r0),(ic r1)])) k') (K:=fun x=>match x with | (.tup [(ic r0),(ic r1)])=>K r0 r1 | _=>False) k,h K⟩
def Ea (x0:Ls→Int→Int→Bool→Prop):Nat→Ls→Int→Int→Prop
 | 0,_,_,_=>False
 | n+1,b,c,d=>
 (aD (decide (d<(((length b):Nat):Int))) (asr (decide (0≤d)) (asr (decide (d<(((length b):Nat):Int))) (asr (aG zI (getD b (d.toNat) .nils)) (Ea x0 n b (if (aP (getD b (d.toNat) .nils))<c then (aP (getD b (d.toNat) .nils)) else c) (i64.wrap (d+1)))))) (x0 b c d false))
def Ph (b:Ls) (K:Int→Prop):Prop:=
 (aD (decide ((((length b):Nat):Int)<1)) False (asr (decide (0<(((length b):Nat):Int))) (asr (aG zI (getD b 0 .nils)) (∃ n:Nat,Ea (fun c d e f=>(K d)) n b (aP (getD b 0 .nils)) 1))))
def Eb:kO:=Ph
def dx (Q:Qx):Ls→Int→Int→Bool→Prop:=(fun b c d e=>Q (.exit 0) [(0,.v (.data b)),(3,.v (ic c)),(4,.v (ic d)),(15,.v (.bool e))] [])
def wM:Pat aB:=fV 4 eI fN
def GV:Pat rP:=pS hN (fV 0 vD (fV 3 eI wM)) fN
def Wo (Q:Qx):List St:=[⟨GV,Ea (dx Q)⟩]
def Wp:LP:=iN [(10434000,Wo)]
def Pi (e:Es):SE:=sE (E e) [] (Wp)
theorem Wq (e:Es) (he:EG e):SEOk (bM (E e)) (Pi e):=bN (aJ.uni _) trivial trivial he.ok
theorem dy (e:Es):gQ (Pi e) 5 a Jt false (Wo):=fun _=>⟨fun _=>by kernel_rfl,fun _ _=>by kernel_rfl,trivial⟩
theorem dz (e:Es) (he:EG e):gR (bM (E e)) (Wp) [] 10434000 (.loop 10434000 Jt):=fun _ _ _=>bU.st (aJ.uni _) (eF (Wq e he) 5) (dB.no _ _) (bC (by kernel_rfl)) (dy e _)
theorem eh (e:Es):bQ (Pi e) 6 MY kY Ph:=fun _ _=>by kernel_rfl
theorem ei (e:Es) (he:EG e):bG (E e) (kY.pw Eb) Ga:=bS he (eh e) (Wq e he) bF.flat (fI (l:=[(10434000,.loop 10434000 Jt)]) ⟨dz e he,trivial⟩ (by kernel_rfl))
def Ec (x0:Ls→Int→Int→Bool→Prop):Nat→Ls→Int→Int→Prop
 | 0,_,_,_=>False
 | n+1,b,c,d=>
 (aD (decide (d<(((length b):Nat):Int))) (asr (decide (0≤d)) (asr (decide (d<(((length b):Nat):Int))) (asr (aG zI (getD b (d.toNat) .nils)) (Ec x0 n b (if (aP (getD b (d.toNat) .nils))>c then (aP (getD b (d.toNat) .nils)) else c) (i64.wrap (d+1)))))) (x0 b c d false))
def Pj (b:Ls) (K:Int→Prop):Prop:=
 (aD (decide ((((length b):Nat):Int)<1)) False (asr (decide (0<(((length b):Nat):Int))) (asr (aG zI (getD b 0 .nils)) (∃ n:Nat,Ec (fun c d e f=>(K d)) n b (aP (getD b 0 .nils)) 1))))
def Ed:kO:=Pj
def em (Q:Qx):Ls→Int→Int→Bool→Prop:=(fun b c d e=>Q (.exit 0) [(0,.v (.data b)),(3,.v (ic c)),(4,.v (ic d)),(15,.v (.bool e))] [])
def Wr (Q:Qx):List St:=[⟨GV,Ec (em Q)⟩]
def Ws:LP:=iN [(64079100,Wr)]
def Pk (e:Es):SE:=sE (E e) [] (Ws)
theorem Wt (e:Es) (he:EG e):SEOk (bM (E e)) (Pk e):=bN (aJ.uni _) trivial trivial he.ok
theorem eo (e:Es):gQ (Pk e) 5 a Ju false (Wr):=fun _=>⟨fun _=>by kernel_rfl,fun _ _=>by kernel_rfl,trivial⟩
theorem ew (e:Es) (he:EG e):gR (bM (E e)) (Ws) [] 64079100 (.loop 64079100 Ju):=fun _ _ _=>bU.st (aJ.uni _) (eF (Wt e he) 5) (dB.no _ _) (bC (by kernel_rfl)) (eo e _)
theorem fa (e:Es):bQ (Pk e) 6 MZ kY Pj:=fun _ _=>by kernel_rfl
theorem fb (e:Es) (he:EG e):bG (E e) (kY.pw Ed) Dl:=bS he (fa e) (Wt e he) bF.flat (fI (l:=[(64079100,.loop 64079100 Ju)]) ⟨ew e he,trivial⟩ (by kernel_rfl))
abbrev gM:Type:=Int→Ls→Ls→(Int→Prop)→Prop
def Ee (a0 a1:kO) (x0:Int→Prop) (x1:Int→Ls→Ls→Int→Int→Bool→Prop):Nat→Int→Ls→Ls→Int→Int→Prop
 | 0,_,_,_,_,_=>False
 | n+1,b,c,d,e,f=>
 (aD (decide (f<e)) (asr (decide (0≤f)) (asr (decide (f<(((length c):Nat):Int))) (asr (aG zI (getD c (f.toNat) .nils)) (asr (decide (0≤(i64.wrap (f+1)))) (asr (decide ((i64.wrap (f+1))<(((length c):Nat):Int))) (asr (aG zI (getD c ((i64.wrap (f+1)).toNat) .nils)) (aD (decide ((aP (getD c (f.toNat) .nils))≥(aP (getD c ((i64.wrap (f+1)).toNat) .nils)))) (x0 8) (Ee a0 a1 x0 x1 n b c d e (i64.wrap (f+1)))))))))) (x1 b c d e f false))
def Pl (a0 a1:kO) (b:Int) (c d:Ls) (K:Int→Prop):Prop:=
 (aD (decide (b>1000)) (K 4) (aD (decide ((((length c):Nat):Int)>40)) (K 4) (aD (decide (b<1)) (K 8) (aD (decide ((((length c):Nat):Int)<2)) (K 8) (aD ((((length d):Nat):Int) !=(i64.wrap ((((length c):Nat):Int)-1))) (K 8) (asr (decide (0<(((length c):Nat):Int))) (asr (aG zI (getD c 0 .nils)) (aD ((aP (getD c 0 .nils)) !=0) (K 8) (asr (decide (0≤(i64.wrap ((((length c):Nat):Int)-1)))) (asr (decide ((i64.wrap ((((length c):Nat):Int)-1))<(((length c):Nat):Int))) (asr (aG zI (getD c ((i64.wrap ((((length c):Nat):Int)-1)).toNat) .nils)) (aD ((aP (getD c ((i64.wrap ((((length c):Nat):Int)-1)).toNat) .nils)) !=b) (K 8) (∃ n:Nat,Ee a0 a1 K (fun e f g h i j=>(a0 g (fun k=>(aD (decide (k<0)) (K 8) (a1 g (fun l=>(aD (decide (l>12)) (K 8) (a1 g (fun m=>(aD (m==0) (K 8) (K 0))))))))))) n b c d (i64.wrap ((((length c):Nat):Int)-1)) 0)))))))))))))
def jV:gM:=Pl Eb Ed
def jW:lH:=lC vD GL
def lZ:kK:=vA (lC eI jW)
def BC:lH:=lC lZ lN
def wN:Sg:=⟨BC,Int→Prop,fun K=>(fun r0=>K (ic r0))⟩
def fc (Q:Qx):Int→Prop:=(fun b=>Q .ret [(2,.v (ic b))] [])
def ff (Q:Qx):Int→Ls→Ls→Int→Int→Bool→Prop:=(fun b c d e f g=>Q (.exit 0) [(1,.box (.agg [(ic b),(.data c),(.data d)])),(49,.v (ic e)),(50,.v (ic f)),(51,.v (.bool g))] [])
def Wu (a0 a1:kO) (Q:Qx):List St:=[⟨(pS hN (fX 1 lZ (fV 49 eI (fV 50 eI fN))) fN),Ee a0 a1 (fc Q) (ff Q)⟩]
def Wv (a0 a1:kO):LP:=iN [(87419700,Wu a0 a1)]
def Pm (e:Es) (a0 a1:kO):SE:=sE (E e) [(Ga,kY.pw a0),(Dl,kY.pw a1)] (Wv a0 a1)
theorem Ww (e:Es) (he:EG e):SEOk (bM (E e)) (Pm e Eb Ed):=bN (aJ.uni _) ⟨(ei e he),(fb e he),trivial⟩ trivial he.ok
theorem fh (e:Es) (a0 a1):gQ (Pm e a0 a1) 5 a Jv false (Wu a0 a1):=fun _=>⟨fun _=>by kernel_rfl,fun _ _=>by kernel_rfl,trivial⟩
theorem fi (e:Es) (he:EG e):gR (bM (E e)) (Wv Eb Ed) [] 87419700 (.loop 87419700 Jv):=fun _ _ _=>bU.st (aJ.uni _) (eF (Ww e he) 5) (dB.no _ _) (bC (by kernel_rfl)) (fh e _ _ _)
theorem fj (e:Es) (a0 a1):bQ (Pm e a0 a1) 6 Na wN (Pl a0 a1):=fun _ _=>by kernel_rfl
theorem GW (e:Es) (he:EG e):bG (E e) (wN.pw jV) tM:=bS he (fj e _ _) (Ww e he) bF.flat (fI (l:=[(87419700,.loop 87419700 Jv)]) ⟨fi e he,trivial⟩ (by kernel_rfl))
abbrev Pn:Type:=Ls→Int→(Int→Prop)→Prop
def Ef (x0:Ls→Int→Int→Int→Bool→Prop) (x1:Int→Prop):Nat→Ls→Int→Int→Int→Prop
 | 0,_,_,_,_=>False
 | n+1,b,c,d,e=>
 (aD (decide (e<d)) (asr (decide (0≤e)) (asr (decide (e<(((length b):Nat):Int))) (lt (getD b (e.toNat) .nils) (fun f=>(asr (aG zI f) (aD (c ==(aP f)) (x1 e) (lt (i64.wrap (e+1)) (Ef x0 x1 n b c d)))))))) (x0 b c d e false))
def Po (b:Ls) (c:Int) (K:Int→Prop):Prop:=
 (∃ n:Nat,Ef (fun d e f g h=>(K (-1))) K n b c (((length b):Nat):Int) 0)
def Pp:Pn:=Po
def Pq:Sg:=⟨(lC vD Bx),Int→Prop,fun K=>(fun r0=>K (ic r0))⟩
def fk (Q:Qx):Ls→Int→Int→Int→Bool→Prop:=(fun b c d e f=>Q (.exit 0) [(0,.v (.data b)),(1,.v (ic c)),(7,.v (ic d)),(8,.v (ic e)),(9,.v (.bool f))] [])
def fm (Q:Qx):Int→Prop:=(fun b=>Q .ret [(4,.v (ic b))] [])
def Wx (Q:Qx):List St:=[⟨(pS hN (fV 0 vD (fV 1 eI Bz)) fN),Ef (fk Q) (fm Q)⟩]
def Wy:LP:=iN [(23412100,Wx)]
def Pr (e:Es):SE:=sE (E e) [] (Wy)
theorem Wz (e:Es) (he:EG e):SEOk (bM (E e)) (Pr e):=bN (aJ.uni _) trivial trivial he.ok
theorem fp (e:Es):gQ (Pr e) 5 a JA false (Wx):=fun _=>⟨fun _=>by kernel_rfl,fun _ _=>by kernel_rfl,trivial⟩
theorem fq (e:Es) (he:EG e):gR (bM (E e)) (Wy) [] 23412100 (.loop 23412100 JA):=fun _ _ _=>bU.st (aJ.uni _) (eF (Wz e he) 5) (dB.no _ _) (bC (by kernel_rfl)) (fp e _)
theorem ft (e:Es):bQ (Pr e) 6 Nd Pq Po:=fun _ _=>by kernel_rfl
theorem fw (e:Es) (he:EG e):bG (E e) (Pq.pw Pp) Gb:=bS he (ft e) (Wz e he) bF.flat (fI (l:=[(23412100,.loop 23412100 JA)]) ⟨fq e he,trivial⟩ (by kernel_rfl))
abbrev Ps:Type:=Ls→Int→(Bool→Prop)→Prop
def Pt (a0:Pn) (b:Ls) (c:Int) (K:Bool→Prop):Prop:=
 (a0 b c (fun d=>(K (decide (d≥0)))))
def Pu:Ps:=Pt Pp
def Pv:Sg:=⟨(lC vD Bx),Bool→Prop,fun K=>(fun r0=>K (.bool r0))⟩
def fx (e:Es) (a0:Pn):SE:=sE (E e) [(Gb,Pq.pw a0)] dC
theorem fy (e:Es) (a0):bQ (fx e a0) 6 Nf Pv (Pt a0):=fun _ _=>by kernel_rfl
theorem gb (e:Es) (he:EG e):bG (E e) (Pv.pw Pu) Dn:=bS he (fy e _) (bN (aJ.uni _) ⟨(fw e he),trivial⟩ trivial he.ok) bF.flat (bC (by kernel_rfl))
abbrev BD:Type:=Int→Ls→Ls→(Int→Int→Prop)→Prop
def Eh (a0:gM) (x0:Int→Ls→Ls→Int→Ls→Int→Int→Bool→Prop):Nat→Int→Ls→Ls→Int→Ls→Int→Int→Prop
 | 0,_,_,_,_,_,_,_=>False
 | n+1,b,c,d,e,f,g,h=>
 (aD (decide (h<g)) (asr (decide (0≤h)) (asr (decide (h<(((length f):Nat):Int))) (asr (aG zI (getD f (h.toNat) .nils)) (asr (decide (0≤(i64.wrap (h+1)))) (asr (decide ((i64.wrap (h+1))<(((length c):Nat):Int))) (asr (aG zI (getD c ((i64.wrap (h+1)).toNat) .nils)) (asr (decide (0≤h)) (asr (decide (h<(((length c):Nat):Int))) (asr (aG zI (getD c (h.toNat) .nils)) (Eh a0 x0 n b c d (i64.wrap (e+(i64.wrap ((aP (getD f (h.toNat) .nils))*(i64.wrap ((aP (getD c ((i64.wrap (h+1)).toNat) .nils))-(aP (getD c (h.toNat) .nils)))))))) f g (i64.wrap (h+1)))))))))))) (x0 b c d e f g h false))
def Kb (a0:gM) (b:Int) (c d:Ls) (K:Int→Int→Prop):Prop:=
 (a0 b c d (fun e=>(aD (e !=0) (K 0 e) (∃ n:Nat,Eh a0 (fun f g h i j k l m=>(K i 0)) n b c d 0 d (((length d):Nat):Int) 0))))
def sB:BD:=Kb jV
def Pw:Sg:=⟨BC,Int→Int→Prop,fun K=>(fun r0 r1=>K (.tup [(ic r0),(ic r1)]))⟩
def gf (Q:Qx):Int→Ls→Ls→Int→Ls→Int→Int→Bool→Prop:=(fun b c d e f g h i=>Q (.exit 0) [(1,.box (.agg [(ic b),(.data c),(.data d)])),(5,.v (ic e)),(14,.v (.data f)),(15,.v (ic g)),(16,.v (ic h)),(17,.v (.bool i))] [])
def GX:Pat aB:=fV 14 vD (fV 15 eI (fV 16 eI fN))
def WA (a0:gM) (Q:Qx):List St:=[⟨(pS hN (fX 1 lZ (fV 5 eI GX)) fN),Eh a0 (gf Q)⟩]
def WB (a0:gM):LP:=iN [(45203600,WA a0)]
def Px (e:Es) (a0:gM):SE:=sE (E e) [(tM,wN.pw a0)] (WB a0)
theorem WD (e:Es) (he:EG e):SEOk (bM (E e)) (Px e jV):=bN (aJ.uni _) ⟨(GW e he),trivial⟩ trivial he.ok
theorem gh (e:Es) (a0):gQ (Px e a0) 5 a JK false (WA a0):=fun _=>⟨fun _=>by kernel_rfl,fun _ _=>by kernel_rfl,trivial⟩
theorem gi (e:Es) (he:EG e):gR (bM (E e)) (WB jV) [] 45203600 (.loop 45203600 JK):=fun _ _ _=>bU.st (aJ.uni _) (eF (WD e he) 5) (dB.no _ _) (bC (by kernel_rfl)) (gh e _ _)
theorem gj (e:Es) (a0):bQ (Px e a0) 6 NZ Pw (Kb a0):=fun _ _=>by kernel_rfl
theorem WE (e:Es) (he:EG e):bG (E e) (Pw.pw sB) Gi:=bS he (gj e _) (WD e he) bF.flat (fI (l:=[(45203600,.loop 45203600 JK)]) ⟨gi e he,trivial⟩ (by kernel_rfl))
abbrev dZ:Type:=Int→(Int→Int→Prop)→Prop
def WF (b:Int) (K:Int→Int→Prop):Prop:=
 (K b 1)
def zX:dZ:=WF
def lJ:Sg:=⟨Bx,Int→Int→Prop,fun K=>(fun r0 r1=>K (.agg [(ic r0),(ic r1)]))⟩
def gk (e:Es):SE:=sE (E e) [] dC
theorem gm (e:Es):bQ (gk e) 6 Oa lJ WF:=fun _ _=>by kernel_rfl
theorem Py (e:Es) (he:EG e):bG (E e) (lJ.pw zX) rV:=bS he (gm e) (bN (aJ.uni _) trivial trivial he.ok) bF.flat (bC (by kernel_rfl))
abbrev iE:Type:=J4 ((Bool→Prop)→Prop)
def Pz (a0:GU) (b c d e:Int) (K:Bool→Prop):Prop:=
 (a0 b c d e (fun f g=>(K (decide (f<0)))))
def wP:iE:=Pz zW
def sC:Sg:=⟨sA,Bool→Prop,fun K=>(fun r0=>K (.bool r0))⟩
def gn (e:Es) (a0:GU):SE:=sE (E e) [(AS,Ka.pw a0)] dC
theorem gq (e:Es) (a0):bQ (gn e a0) 6 Ob sC (Pz a0):=fun _ _=>by kernel_rfl
theorem PA (e:Es) (he:EG e):bG (E e) (sC.pw wP) vQ:=bS he (gq e _) (bN (aJ.uni _) ⟨(Pg e he),trivial⟩ trivial he.ok) bF.flat (bC (by kernel_rfl))
abbrev BE:Type:=Int→Ls→Ls→Int→Int→(Bool→Prop)→Prop
def PB (a0:dX) (a1:dZ) (a2:iE) (b:Int) (c d:Ls) (e f:Int) (K:Bool→Prop):Prop:=
 (a0 e f (fun g=>(aD (g==0) (aD (decide (e≥0)) (a1 b (fun h i=>(a2 h i e f (fun j=>(K (!j)))))) (K false)) (K false))))
def zY:BE:=PB lX zX wP
def Kc:Sg:=⟨(lC lZ GK),Bool→Prop,fun K=>(fun r0=>K (.bool r0))⟩
def gr (e:Es) (a0:dX) (a1:dZ) (a2:iE):SE:=sE (E e) [(oZ,tS.pw a0),(rV,lJ.pw a1),(vQ,sC.pw a2)] dC
theorem gu (e:Es) (a0 a1 a2):bQ (gr e a0 a1 a2) 6 Oc Kc (PB a0 a1 a2):=fun _ _=>by kernel_rfl
theorem WG (e:Es) (he:EG e):bG (E e) (Kc.pw zY) Dy:=bS he (gu e _ _ _) (bN (aJ.uni _) ⟨(DV e he),(Py e he),(PA e he),trivial⟩ trivial he.ok) bF.flat (bC (by kernel_rfl))
abbrev BF:Type:=Int→Ls→Ls→J4 ((Int→Int→Int→Prop)→Prop)
def qN (a0:gM) (a1:BE) (a2:dX) (a3:dZ) (a4:iE) (a5 a6 a7 a8:iO) (x0:J4 (Int→Int→Prop)) (x1:J4 (Int→Int→Ls→Ls→Int→Int→Ls→Int→Int→Bool→Prop)):Nat→J4 (Int→Int→Ls→Ls→Int→Int→Ls→Int→Int→Prop)
 | 0,_,_,_,_,_,_,_,_,_,_,_,_,_=>False
 | n+1,b,c,d,e,f,g,h,i,j,k,l,m,o=>
 (aD (decide (o<m)) (asr (decide (0≤o)) (asr (decide (o<(((length l):Nat):Int))) (asr (aG zI (getD l (o.toNat) .nils)) (asr (decide (0≤(i64.wrap (o+1)))) (asr (decide ((i64.wrap (o+1))<(((length h):Nat):Int))) (asr (aG zI (getD h ((i64.wrap (o+1)).toNat) .nils)) (a3 (aP (getD h ((i64.wrap (o+1)).toNat) .nils)) (fun p q=>(a4 j k p q (fun r=>(aD (!r) (qN a0 a1 a2 a3 a4 a5 a6 a7 a8 x0 x1 n b c d e f g h i j k l m (i64.wrap (o+1))) (a3 0 (fun s t=>(aD (decide ((aP (getD l (o.toNat) .nils))>0)) (a5 p q j k (fun u v w=>(aD (w !=0) (x0 b c d e f w) (a3 (aP (getD l (o.toNat) .nils)) (fun z A=>(a6 u v z A (fun B C D=>(aD (D !=0) (x0 b c d e f D) (aD ((aP (getD l (o.toNat) .nils))==0) (qN a0 a1 a2 a3 a4 a5 a6 a7 a8 x0 x1 n b c d e f g h i p q l m (i64.wrap (o+1))) (a4 B C b c (fun E=>(aD E (a5 b c B C (fun F G H=>(aD (H !=0) (aD (H !=0) (x0 F G d e H 0) (qN a0 a1 a2 a3 a4 a5 a6 a7 a8 x0 x1 n F G d e H g h i p q l m (i64.wrap (o+1)))) (aD (H !=0) (x0 F G d e 6 0) (qN a0 a1 a2 a3 a4 a5 a6 a7 a8 x0 x1 n F G d e 6 g h i p q l m (i64.wrap (o+1))))))) (a3 (aP (getD l (o.toNat) .nils)) (fun F G=>(a7 b c F G (fun H I J=>(aD (J==0) (a8 j k H I (fun L M N=>(x0 b c L M N 0))) (x0 b c d e J 0)))))))))))))))))) (aD ((aP (getD l (o.toNat) .nils))==0) (qN a0 a1 a2 a3 a4 a5 a6 a7 a8 x0 x1 n b c d e f g h i p q l m (i64.wrap (o+1))) (a4 s t b c (fun u=>(aD u (a5 b c s t (fun v w z=>(aD (z !=0) (aD (z !=0) (x0 v w d e z 0) (qN a0 a1 a2 a3 a4 a5 a6 a7 a8 x0 x1 n v w d e z g h i p q l m (i64.wrap (o+1)))) (aD (z !=0) (x0 v w d e 6 0) (qN a0 a1 a2 a3 a4 a5 a6 a7 a8 x0 x1 n v w d e 6 g h i p q l m (i64.wrap (o+1))))))) (a3 (aP (getD l (o.toNat) .nils)) (fun v w=>(a7 b c v w (fun z A B=>(aD (B==0) (a8 j k z A (fun C D E=>(x0 b c C D E 0))) (x0 b c d e B 0)))))))))))))))))))))))) (x1 b c d e f g h i j k l m o false))
def PC (a0:gM) (a1:BE) (a2:dX) (a3:dZ) (a4:iE) (a5 a6 a7 a8:iO) (b:Int) (c d:Ls) (e f g h:Int) (K:Int→Int→Int→Prop):Prop:=
 (a0 b c d (fun i=>(aD (i !=0) (K 0 0 i) (a1 b c d e f (fun j=>(aD (!j) (K 0 0 2) (a2 g h (fun k=>(aD (k !=0) (K 0 0 2) (aD (decide (g<0)) (K 0 0 2) (aD (g==0) (K e f 0) (∃ n:Nat,qN a0 a1 a2 a3 a4 a5 a6 a7 a8 (fun l m o p q r=>(aD (r !=0) (aD (r !=0) (K 0 0 r) (K o p 0)) (aD (q !=0) (K 0 0 q) (K o p 0)))) (fun l m o p q r s t u v w z A B=>(aD (q !=0) (K 0 0 q) (K o p 0))) n g h 0 0 6 b c d e f d (((length d):Nat):Int) 0))))))))))))
def tU:BF:=PC jV zY lX zX wP pJ lY pK pI
def PD:Sg:=⟨(lC lZ sA),Int→Int→Int→Prop,fun K=>(fun r0 r1 r2=>K (.tup [(.agg [(ic r0),(ic r1)]),(ic r2)]))⟩
def gv (Q:Qx):J4 (Int→Int→Prop ):=(fun b c d e f g=>Q .ret [(6,.v (ic g))] [⟨false,true,2,([(.agg [(ic b),(ic c)])]:Ls)⟩,⟨false,true,2,([(.agg [(ic d),(ic e)])]:Ls)⟩,⟨false,true,1,([(ic f)]:Ls)⟩])
def gw (Q:Qx):J4 (Int→Int→Ls→Ls→Int→Int→Ls→Int→Int→Bool→Prop ):=(fun b c d e f g h i j k l m o p=>Q (.exit 0) [(2,.v (.fn (.func Dz) [] [(.ptr 0 1 0 0),(.ptr 2 1 0 0),(.ptr 1 1 0 0)])),(3,.box (.agg [(ic g),(.data h),(.data i)])),(4,.box (.agg [(ic j),(ic k)])),(14,.v (.data l)),(15,.v (ic m)),(16,.v (ic o)),(17,.v (.bool p))] [⟨false,true,2,([(.agg [(ic b),(ic c)])]:Ls)⟩,⟨false,true,2,([(.agg [(ic d),(ic e)])]:Ls)⟩,⟨false,true,1,([(ic f)]:Ls)⟩])
def WH (a0:gM) (a1:BE) (a2:dX) (a3:dZ) (a4:iE) (a5 a6 a7 a8:iO) (Q:Qx):List St:=[⟨(pS (hB false true 2 (rC wK rN) (hB false true 2 (rC wK rN) (hB false true 1 (rC eI rN) hN))) (fV 2 (vF Dz lN (lC (vP 0 0 (nK 1) (nK 0)) (lC (vP 2 0 (nK 1) (nK 0)) (lC (vP 1 0 (nK 1) (nK 0)) lN)))) (fX 3 lZ (fX 4 wK GX))) fN),qN a0 a1 a2 a3 a4 a5 a6 a7 a8 (gv Q) (gw Q)⟩]
def PE (a0:gM) (a1:BE) (a2:dX) (a3:dZ) (a4:iE) (a5 a6 a7 a8:iO):LP:=iN [(41613500,WH a0 a1 a2 a3 a4 a5 a6 a7 a8)]
def WI (e:Es) (a0:gM) (a1:BE) (a2:dX) (a3:dZ) (a4:iE) (a5 a6 a7 a8:iO):SE:=⟨(E e),yki [(tM,wN.pw a0),(Dy,Kc.pw a1),(oZ,tS.pw a2),(rV,lJ.pw a3),(vQ,sC.pw a4),(rS,iD.pw a5),(nZ,iD.pw a6),(rT,iD.pw a7),(qI,iD.pw a8)],yhi [(Dz,JL)],PE a0 a1 a2 a3 a4 a5 a6 a7 a8,fun _=>none⟩
def WJ (e:Es) (a0:gM) (a1:BE) (a2:dX) (a3:dZ) (a4:iE) (a5 a6 a7 a8:iO):SE:=⟨(E e),yki [(tM,wN.pw a0),(Dy,Kc.pw a1),(oZ,tS.pw a2),(rV,lJ.pw a3),(vQ,sC.pw a4),(rS,iD.pw a5),(nZ,iD.pw a6),(rT,iD.pw a7),(qI,iD.pw a8)],yhi [(MG,Od),(Dz,JL)],PE a0 a1 a2 a3 a4 a5 a6 a7 a8,fun _=>none⟩
theorem gx (e:Es) (he:EG e):SEOk (bM (E e)) (WI e jV zY lX zX wP pJ lY pK pI):=bN (aJ.uni _) ⟨(GW e he),(WG e he),(DV e he),(Py e he),(PA e he),(GS e he),(DY e he),(GT e he),(GR e he),trivial⟩ ⟨⟨by kernel_rfl,by kernel_rfl,rfl,fun as=>kW (by kernel_rfl) as,he.num _ (by kernel_rfl),by kernel_rfl,(bC (by kernel_rfl))⟩,trivial⟩ he.ok
theorem gy (e:Es) (a0 a1 a2 a3 a4 a5 a6 a7 a8):gQ (WI e a0 a1 a2 a3 a4 a5 a6 a7 a8) 5 a JM false (WH a0 a1 a2 a3 a4 a5 a6 a7 a8):=fun _=>⟨fun _=>by kernel_rfl,fun _ _=>by kernel_rfl,trivial⟩
theorem ia (e:Es) (he:EG e):gR (bM (E e)) (PE jV zY lX zX wP pJ lY pK pI) [] 41613500 (.loop 41613500 JM):=fun _ _ _=>bU.st (aJ.uni _) (eF (gx e he) 5) (dB.no _ _) (bC (by kernel_rfl)) (gy e _ _ _ _ _ _ _ _ _ _)
theorem ie (e:Es) (he:EG e):SEOk (bM (E e)) (WJ e jV zY lX zX wP pJ lY pK pI):=bN (aJ.uni _) ⟨(GW e he),(WG e he),(DV e he),(Py e he),(PA e he),(GS e he),(DY e he),(GT e he),(GR e he),trivial⟩ ⟨⟨by kernel_rfl,by kernel_rfl,rfl,fun as=>kW (by kernel_rfl) as,he.num _ (by kernel_rfl),by kernel_rfl,(fI (l:=[(41613500,.loop 41613500 JM)]) ⟨ia e he,trivial⟩ (by kernel_rfl))⟩,⟨by kernel_rfl,by kernel_rfl,rfl,fun as=>kW (by kernel_rfl) as,he.num _ (by kernel_rfl),by kernel_rfl,(bC (by kernel_rfl))⟩,trivial⟩ he.ok
theorem ig (e:Es) (a0 a1 a2 a3 a4 a5 a6 a7 a8):bQ (WJ e a0 a1 a2 a3 a4 a5 a6 a7 a8) 6 Oe PD (PC a0 a1 a2 a3 a4 a5 a6 a7 a8):=fun _ _=>by kernel_rfl
theorem WK (e:Es) (he:EG e):bG (E e) (PD.pw tU) Gj:=bS he (ig e _ _ _ _ _ _ _ _ _) (ie e he) bF.flat (bC (by kernel_rfl))
set_option linter.unusedVariables false
theorem ii (p0:Int) (p1 p2:Ls) (r0:Int) (h:∀ K:Int→Prop,K r0→jV p0 p1 p2 K) (K:Int→Prop):jV p0 p1 p2 K=K r0:=
 Aac ⟨fun k=>cJ (GW [] gK) (as:=[(.agg [(ic p0),(.data p1),(.data p2)])]) (x:=(ic r0)) (fun K' k'=>h (fun r0=>K' (ic r0)) k') (K:=fun x=>match x with | (ic r0)=>K r0 | _=>False) k,h K⟩
theorem ij (p0:Int) (p1 p2:Ls) (r0 r1:Int) (h:∀ K:Int→Int→Prop,K r0 r1→sB p0 p1 p2 K) (K:Int→Int→Prop):sB p0 p1 p2 K=K r0 r1:=
 Aac ⟨fun k=>cJ (WE [] gK) (as:=[(.agg [(ic p0),(.data p1),(.data p2)])]) (x:=(.tup [(ic r0),(ic r1)])) (fun K' k'=>h (fun r0 r1=>K' (.tup [(ic r0),(ic r1)])) k') (K:=fun x=>match x with | (.tup [(ic r0),(ic r1)])=>K r0 r1 | _=>False) k,h K⟩
theorem ik (p0:Int) (p1 p2:Ls) (p3 p4 p5 p6 r0 r1 r2:Int) (h:∀ K:Int→Int→Int→Prop,K r0 r1 r2→tU p0 p1 p2 p3 p4 p5 p6 K) (K:Int→Int→Int→Prop):tU p0 p1 p2 p3 p4 p5 p6 K=K r0 r1 r2:=
 Aac ⟨fun k=>cJ (WK [] gK) (as:=[(.agg [(ic p0),(.data p1),(.data p2)]),(.agg [(ic p3),(ic p4)]),(.agg [(ic p5),(ic p6)])]) (x:=(.tup [(.agg [(ic r0),(ic r1)]),(ic r2)])) (fun K' k'=>h (fun r0 r1 r2=>K' (.tup [(.agg [(ic r0),(ic r1)]),(ic r2)])) k') (K:=fun x=>match x with | (.tup [(.agg [(ic r0),(ic r1)]),(ic r2)])=>K r0 r1 r2 | _=>False) k,h K⟩
abbrev iP:Type:=Ls→Ls→(Int→Prop)→Prop
def Ei (a0:gM) (x0:Int→Prop) (x1:Ls→Ls→Ls→Int→Int→Bool→Prop):Nat→Ls→Ls→Ls→Int→Int→Prop
 | 0,_,_,_,_,_=>False
 | n+1,b,c,d,e,f=>
 (aD (decide (f<e)) (asr (decide (0≤f)) (asr (decide (f<(((length d):Nat):Int))) (asr (aG zK (getD d (f.toNat) .nils)) (a0 (aP (bZ (getD d (f.toNat) .nils) 0)) (gA (bZ (getD d (f.toNat) .nils) 1)) (gA (bZ (getD d (f.toNat) .nils) 2)) (fun g=>(aD (g !=0) (x0 g) (Ei a0 x0 x1 n b c d e (i64.wrap (f+1))))))))) (x1 b c d e f false))
def BG (a0:gM) (x0:Int→Prop) (x1:Ls→Ls→Ls→Int→Int→Bool→Prop):Nat→Ls→Ls→Ls→Int→Int→Prop
 | 0,_,_,_,_,_=>False
 | n+1,b,c,d,e,f=>
 (aD (decide (f<e)) (asr (decide (0≤f)) (asr (decide (f<(((length d):Nat):Int))) (asr (aG zK (getD d (f.toNat) .nils)) (asr (decide (0<(((length b):Nat):Int))) (asr (aG zK (getD b 0 .nils)) (aD ((aP (bZ (getD d (f.toNat) .nils) 0)) !=(aP (bZ (getD b 0 .nils) 0))) (x0 8) (BG a0 x0 x1 n b c d e (i64.wrap (f+1))))))))) (x1 b c d e f false))
def PF (a0:gM) (b c:Ls) (K:Int→Prop):Prop:=
 (aD (decide ((((length b):Nat):Int)>6)) (K 4) (aD (decide ((((length c):Nat):Int)>2000)) (K 4) (aD ((((length b):Nat):Int)==0) (K 8) (∃ m0:Nat,Ei a0 K (fun d e f g h i=>(∃ m1:Nat,BG a0 K (fun j k l m o p=>(K 0)) m1 d e d (((length d):Nat):Int) 0)) m0 b c b (((length b):Nat):Int) 0))))
def tV:iP:=PF jV
def BH:Sg:=⟨(lC (vA jW) lN),Int→Prop,fun K=>(fun r0=>K (ic r0))⟩
def il (Q:Qx):Int→Prop:=(fun b=>Q .ret [(2,.v (ic b))] [])
def im (Q:Qx):Ls→Ls→Ls→Int→Int→Bool→Prop:=(fun b c d e f g=>Q (.exit 0) [(1,.box (.agg [(.data b),(.data c)])),(23,.v (.data d)),(24,.v (ic e)),(25,.v (ic f)),(26,.v (.bool g))] [])
def io (Q:Qx):Int→Prop:=(fun b=>Q .ret [(2,.v (ic b))] [])
def ip (Q:Qx):Ls→Ls→Ls→Int→Int→Bool→Prop:=(fun b c d e f g=>Q (.exit 2) [(1,.box (.agg [(.data b),(.data c)])),(36,.v (.data d)),(37,.v (ic e)),(38,.v (ic f)),(39,.v (.bool g))] [])
def WL (a0:gM) (Q:Qx):List St:=[⟨(pS hN (fX 1 (vA jW) (fV 23 vD (fV 24 eI (fV 25 eI fN)))) fN),Ei a0 (il Q) (im Q)⟩]
def WM (a0:gM) (Q:Qx):List St:=[⟨(pS hN (fX 1 (vA jW) (fV 36 vD (fV 37 eI (fV 38 eI fN)))) fN),BG a0 (io Q) (ip Q)⟩]
def PG (a0:gM):LP:=iN [(12157600,WL a0),(12157601,WM a0)]
def Kd (e:Es) (a0:gM):SE:=sE (E e) [(tM,wN.pw a0)] (PG a0)
theorem PH (e:Es) (he:EG e):SEOk (bM (E e)) (Kd e jV):=bN (aJ.uni _) ⟨(GW e he),trivial⟩ trivial he.ok
theorem iq (e:Es) (a0):gQ (Kd e a0) 5 a Jw false (WL a0):=fun _=>⟨fun _=>by kernel_rfl,fun _ _=>by kernel_rfl,trivial⟩
theorem ir (e:Es) (he:EG e):gR (bM (E e)) (PG jV) [] 12157600 (.loop 12157600 Jw):=fun _ _ _=>bU.st (aJ.uni _) (eF (PH e he) 5) (dB.no _ _) (bC (by kernel_rfl)) (iq e _ _)
theorem it (e:Es) (a0):gQ (Kd e a0) 5 a Jx false (WM a0):=fun _=>⟨fun _=>by kernel_rfl,fun _ _=>by kernel_rfl,trivial⟩
theorem iu (e:Es) (he:EG e):gR (bM (E e)) (PG jV) [] 12157601 (.loop 12157601 Jx):=fun _ _ _=>bU.st (aJ.uni _) (eF (PH e he) 5) (dB.no _ _) (bC (by kernel_rfl)) (it e _ _)
theorem iv (e:Es) (a0):bQ (Kd e a0) 6 Nb BH (PF a0):=fun _ _=>by kernel_rfl
theorem PI (e:Es) (he:EG e):bG (E e) (BH.pw tV) Dm:=bS he (iv e _) (PH e he) bF.flat (fI (l:=[(12157600,.loop 12157600 Jw),(12157601,.loop 12157601 Jx)]) ⟨ir e he,iu e he,trivial⟩ (by kernel_rfl))
set_option linter.unusedVariables false
theorem iw (p0 p1:Ls) (r0:Int) (h:∀ K:Int→Prop,K r0→tV p0 p1 K) (K:Int→Prop):tV p0 p1 K=K r0:=
 Aac ⟨fun k=>cJ (PI [] gK) (as:=[(.agg [(.data p0),(.data p1)])]) (x:=(ic r0)) (fun K' k'=>h (fun r0=>K' (ic r0)) k') (K:=fun x=>match x with | (ic r0)=>K r0 | _=>False) k,h K⟩
def PJ (b:Int) (K:Int→Prop):Prop:=
 (aD (decide (b<0)) (K (u64.wrap ((u64.wrap (i64.wrap (0-(i64.wrap (b+1)))))+1))) (K (u64.wrap b)))
def GY:gL:=PJ
def ix (e:Es):SE:=sE (E e) [] dC
theorem iy (e:Es):bQ (ix e) 6 MU tR PJ:=fun _ _=>by kernel_rfl
theorem WN (e:Es) (he:EG e):bG (E e) (tR.pw GY) yO:=bS he (iy e) (bN (aJ.uni _) trivial trivial he.ok) bF.flat (bC (by kernel_rfl))
def GZ (x0:Int→Int→Bool→Prop):Nat→Int→Int→Prop
 | 0,_,_=>False
 | n+1,b,c=>
 (aD (c !=0) (asr (!(decide (c=0))) (GZ x0 n c (Int.tmod b c))) (x0 b c false))
def PK (b c:Int) (K:Int→Prop):Prop:=
 (∃ n:Nat,GZ (fun d e f=>(K d)) n b c)
def Ej:dX:=PK
def iz (Q:Qx):Int→Int→Bool→Prop:=(fun b c d=>Q (.exit 0) [(0,.v (.int .u64 b)),(1,.v (.int .u64 c)),(6,.v (.bool d))] [])
def WO (Q:Qx):List St:=[⟨VW,GZ (iz Q)⟩]
def WQ:LP:=iN [(16774900,WO)]
def PL (e:Es):SE:=sE (E e) [] (WQ)
theorem WR (e:Es) (he:EG e):SEOk (bM (E e)) (PL e):=bN (aJ.uni _) trivial trivial he.ok
theorem ja (e:Es):gQ (PL e) 5 a Js false (WO):=fun _=>⟨fun _=>by kernel_rfl,fun _ _=>by kernel_rfl,trivial⟩
theorem jb (e:Es) (he:EG e):gR (bM (E e)) (WQ) [] 16774900 (.loop 16774900 Js):=fun _ _ _=>bU.st (aJ.uni _) (eF (WR e he) 5) (dB.no _ _) (bC (by kernel_rfl)) (ja e _)
theorem jc (e:Es):bQ (PL e) 6 MV zL PK:=fun _ _=>by kernel_rfl
theorem WS (e:Es) (he:EG e):bG (E e) (zL.pw Ej) FZ:=bS he (jc e) (WR e he) bF.flat (fI (l:=[(16774900,.loop 16774900 Js)]) ⟨jb e he,trivial⟩ (by kernel_rfl))
def PM (a0:gL) (a1:dX) (b c:Int) (K:Int→Prop):Prop:=
 (aD (decide (c<1)) (K 8) (aD (decide (c>1000000000000000000)) (K 8) (aD (decide (b<(-1000000000000000000))) (K 8) (aD (decide (b>1000000000000000000)) (K 8) (a0 b (fun d=>(a1 d (u64.wrap c) (fun e=>(aD (e !=1) (K 8) (K 0))))))))))
def Ke:dX:=PM GY Ej
def jd (e:Es) (a0:gL) (a1:dX):SE:=sE (E e) [(yO,tR.pw a0),(FZ,zL.pw a1)] dC
theorem je (e:Es) (a0 a1):bQ (jd e a0 a1) 6 MW tS (PM a0 a1):=fun _ _=>by kernel_rfl
theorem jf (e:Es) (he:EG e):bG (E e) (tS.pw Ke) Dk:=bS he (je e _ _) (bN (aJ.uni _) ⟨(WN e he),(WS e he),trivial⟩ trivial he.ok) bF.flat (bC (by kernel_rfl))
def WT (b:Int) (K:Int→Int→Prop):Prop:=
 (K b 1)
def WU:dZ:=WT
def jg (e:Es):SE:=sE (E e) [] dC
theorem jh (e:Es):bQ (jg e) 6 Og lJ WT:=fun _ _=>by kernel_rfl
theorem ji (e:Es) (he:EG e):bG (E e) (lJ.pw WU) Gk:=bS he (jh e) (bN (aJ.uni _) trivial trivial he.ok) bF.flat (bC (by kernel_rfl))
def PN (b c:Int) (K:Int→Int→Prop):Prop:=
 (K (u64.wrap ((u64.wrap ((u64.wrap ((Int.fdiv b 4294967296)*(Int.fdiv c 4294967296)))+(Int.fdiv (u64.wrap ((Int.fdiv b 4294967296)*(u64.wrap (BitVec.ofInt u64.bits c&&&BitVec.ofInt u64.bits 4294967295).toNat))) 4294967296)))+(Int.fdiv (u64.wrap ((u64.wrap ((u64.wrap (BitVec.ofInt u64.bits (u64.wrap ((Int.fdiv b 4294967296)*(u64.wrap (BitVec.ofInt u64.bits c&&&BitVec.ofInt u64.bits 4294967295).toNat)))&&&BitVec.ofInt u64.bits 4294967295).toNat)+(u64.wrap ((u64.wrap (BitVec.ofInt u64.bits b&&&BitVec.ofInt u64.bits 4294967295).toNat)*(Int.fdiv c 4294967296)))))+(Int.fdiv (u64.wrap ((u64.wrap (BitVec.ofInt u64.bits b&&&BitVec.ofInt u64.bits 4294967295).toNat)*(u64.wrap (BitVec.ofInt u64.bits c&&&BitVec.ofInt u64.bits 4294967295).toNat))) 4294967296))) 4294967296))) (u64.wrap (BitVec.ofInt u64.bits (u64.wrap ((u64.wrap ((u64.wrap ((u64.wrap (BitVec.ofInt u64.bits (u64.wrap ((Int.fdiv b 4294967296)*(u64.wrap (BitVec.ofInt u64.bits c&&&BitVec.ofInt u64.bits 4294967295).toNat)))&&&BitVec.ofInt u64.bits 4294967295).toNat)+(u64.wrap ((u64.wrap (BitVec.ofInt u64.bits b&&&BitVec.ofInt u64.bits 4294967295).toNat)*(Int.fdiv c 4294967296)))))+(Int.fdiv (u64.wrap ((u64.wrap (BitVec.ofInt u64.bits b&&&BitVec.ofInt u64.bits 4294967295).toNat)*(u64.wrap (BitVec.ofInt u64.bits c&&&BitVec.ofInt u64.bits 4294967295).toNat))) 4294967296)))*4294967296))|||BitVec.ofInt u64.bits (u64.wrap (BitVec.ofInt u64.bits (u64.wrap ((u64.wrap (BitVec.ofInt u64.bits b&&&BitVec.ofInt u64.bits 4294967295).toNat)*(u64.wrap (BitVec.ofInt u64.bits c&&&BitVec.ofInt u64.bits 4294967295).toNat)))&&&BitVec.ofInt u64.bits 4294967295).toNat)).toNat))
def Ha:tT:=PN
def PO:Sg:=⟨wJ,Int→Int→Prop,fun K=>(fun r0 r1=>K (.agg [(.int .u64 r0),(.int .u64 r1)]))⟩
def jj (e:Es):SE:=sE (E e) [] dC
theorem jk (e:Es):bQ (jj e) 6 Ol PO PN:=fun _ _=>by kernel_rfl
theorem jl (e:Es) (he:EG e):bG (E e) (PO.pw Ha) DB:=bS he (jk e) (bN (aJ.uni _) trivial trivial he.ok) bF.flat (bC (by kernel_rfl))
def PR (b c d e:Int) (K:Bool→Prop):Prop:=
 (aD (decide (b<d)) (K true) (aD (b==d) (K (decide (c<e))) (K false)))
def Kf:iE:=PR
def PS:Sg:=⟨(lC (vA wJ) (lC (vA wJ) lN)),Bool→Prop,fun K=>(fun r0=>K (.bool r0))⟩
def jm (e:Es):SE:=sE (E e) [] dC
theorem jo (e:Es):bQ (jm e) 6 Om PS PR:=fun _ _=>by kernel_rfl
theorem jp (e:Es) (he:EG e):bG (E e) (PS.pw Kf) DC:=bS he (jo e) (bN (aJ.uni _) trivial trivial he.ok) bF.flat (bC (by kernel_rfl))
def PU (a0:gL) (a1:tT) (a2:iE) (b c d e:Int) (K:Bool→Prop):Prop:=
 (aD ((decide (b<0)) !=(decide (d<0))) (K (decide (b<0))) (a0 b (fun f=>(a1 f (u64.wrap e) (fun g h=>(a0 d (fun i=>(a1 i (u64.wrap c) (fun j k=>(aD (decide (b<0)) (a2 j k g h K) (a2 g h j k K)))))))))))
def Hb:iE:=PU GY Ha Kf
def jq (e:Es) (a0:gL) (a1:tT) (a2:iE):SE:=sE (E e) [(yO,tR.pw a0),(DB,PO.pw a1),(DC,PS.pw a2)] dC
theorem jr (e:Es) (a0 a1 a2):bQ (jq e a0 a1 a2) 6 Oo sC (PU a0 a1 a2):=fun _ _=>by kernel_rfl
theorem js (e:Es) (he:EG e):bG (E e) (sC.pw Hb) DD:=bS he (jr e _ _ _) (bN (aJ.uni _) ⟨(WN e he),(jl e he),(jp e he),trivial⟩ trivial he.ok) bF.flat (bC (by kernel_rfl))
set_option linter.unusedVariables false
theorem jt (p0 p1 r0:Int) (h:∀ K:Int→Prop,K r0→Ej p0 p1 K) (K:Int→Prop):Ej p0 p1 K=K r0:=
 Aac ⟨fun k=>cJ (WS [] gK) (as:=[(.int .u64 p0),(.int .u64 p1)]) (x:=(.int .u64 r0)) (fun K' k'=>h (fun r0=>K' (.int .u64 r0)) k') (K:=fun x=>match x with | (.int .u64 r0)=>K r0 | _=>False) k,h K⟩
abbrev kZ:Type:=Int→Ls→Ls→(Bool→Prop)→Prop
def PW (b:Int) (c d:Ls) (K:Bool→Prop):Prop:=
 (aD (decide ((((length c):Nat):Int)>60)) (K true) (K (decide ((((length d):Nat):Int)>60))))
def BI:kZ:=PW
def tW:Sg:=⟨BC,Bool→Prop,fun K=>(fun r0=>K (.bool r0))⟩
def ju (e:Es):SE:=sE (E e) [] dC
theorem jv (e:Es):bQ (ju e) 6 MK tW PW:=fun _ _=>by kernel_rfl
theorem jw (e:Es) (he:EG e):bG (E e) (tW.pw BI) FQ:=bS he (jv e) (bN (aJ.uni _) trivial trivial he.ok) bF.flat (bC (by kernel_rfl))
def BJ (x0:Int→Prop) (x1:Int→Ls→Ls→Bool→Int→Bool→Prop):Nat→Int→Ls→Ls→Bool→Int→Prop
 | 0,_,_,_,_,_=>False
 | n+1,b,c,d,e,f=>
 (aD (decide (f<(((length d):Nat):Int))) (asr (decide (0≤(i64.wrap (f+1)))) (asr (decide ((i64.wrap (f+1))<(((length c):Nat):Int))) (asr (aG zI (getD c ((i64.wrap (f+1)).toNat) .nils)) (asr (decide (0≤f)) (asr (decide (f<(((length c):Nat):Int))) (asr (aG zI (getD c (f.toNat) .nils)) (aD (decide ((aP (getD c ((i64.wrap (f+1)).toNat) .nils))≤(aP (getD c (f.toNat) .nils)))) (x0 8) (asr (decide (0≤f)) (asr (decide (f<(((length d):Nat):Int))) (asr (aG zI (getD d (f.toNat) .nils)) (aD (decide ((aP (getD d (f.toNat) .nils))<0)) (x0 8) (asr (decide (0≤f)) (asr (decide (f<(((length d):Nat):Int))) (asr (aG zI (getD d (f.toNat) .nils)) (aD (decide ((aP (getD d (f.toNat) .nils))>12)) (x0 8) (aD e (BJ x0 x1 n b c d true (i64.wrap (f+1))) (asr (decide (0≤f)) (asr (decide (f<(((length d):Nat):Int))) (asr (aG zI (getD d (f.toNat) .nils)) (BJ x0 x1 n b c d (decide ((aP (getD d (f.toNat) .nils))>0)) (i64.wrap (f+1)))))))))))))))))))))) (x1 b c d e f false))
def PX (b:Int) (c d:Ls) (K:Int→Prop):Prop:=
 (aD (decide (b>1000)) (K 4) (aD (decide ((((length c):Nat):Int)>40)) (K 4) (aD (decide (b<1)) (K 8) (aD (decide ((((length c):Nat):Int)<2)) (K 8) (aD ((((length d):Nat):Int) !=(i64.wrap ((((length c):Nat):Int)-1))) (K 8) (asr (decide (0<(((length c):Nat):Int))) (asr (aG zI (getD c 0 .nils)) (aD ((aP (getD c 0 .nils)) !=0) (K 8) (asr (decide (0≤(i64.wrap ((((length c):Nat):Int)-1)))) (asr (decide ((i64.wrap ((((length c):Nat):Int)-1))<(((length c):Nat):Int))) (asr (aG zI (getD c ((i64.wrap ((((length c):Nat):Int)-1)).toNat) .nils)) (aD ((aP (getD c ((i64.wrap ((((length c):Nat):Int)-1)).toNat) .nils)) !=b) (K 8) (∃ n:Nat,BJ K (fun e f g h i j=>(aD (!h) (K 8) (K 0))) n b c d false 0)))))))))))))
def qO:gM:=PX
def jx (Q:Qx):Int→Prop:=(fun b=>Q .ret [(2,.v (ic b))] [])
def jy (Q:Qx):Int→Ls→Ls→Bool→Int→Bool→Prop:=(fun b c d e f g=>Q (.exit 0) [(1,.box (.agg [(ic b),(.data c),(.data d)])),(3,.v (.bool e)),(4,.v (ic f)),(57,.v (.bool g))] [])
def WV (Q:Qx):List St:=[⟨(pS hN (fX 1 lZ (fV 3 vB wM)) fN),BJ (jx Q) (jy Q)⟩]
def WW:LP:=iN [(94526800,WV)]
def PY (e:Es):SE:=sE (E e) [] (WW)
theorem WX (e:Es) (he:EG e):SEOk (bM (E e)) (PY e):=bN (aJ.uni _) trivial trivial he.ok
theorem jz (e:Es):gQ (PY e) 5 a Jl false (WV):=fun _=>⟨fun _=>by kernel_rfl,fun _ _=>by kernel_rfl,trivial⟩
theorem ka (e:Es) (he:EG e):gR (bM (E e)) (WW) [] 94526800 (.loop 94526800 Jl):=fun _ _ _=>bU.st (aJ.uni _) (eF (WX e he) 5) (dB.no _ _) (bC (by kernel_rfl)) (jz e _)
theorem kb (e:Es):bQ (PY e) 6 MN wN PX:=fun _ _=>by kernel_rfl
theorem WY (e:Es) (he:EG e):bG (E e) (wN.pw qO) Di:=bS he (kb e) (WX e he) bF.flat (fI (l:=[(94526800,.loop 94526800 Jl)]) ⟨ka e he,trivial⟩ (by kernel_rfl))
def Ek (x0:Int→Ls→Ls→Int→Bool→Prop) (x1:Bool→Prop):Nat→Int→Ls→Ls→Int→Prop
 | 0,_,_,_,_=>False
 | n+1,b,c,d,e=>
 (aD (decide (e<(((length d):Nat):Int))) (asr (decide (0≤e)) (asr (decide (e<(((length d):Nat):Int))) (lt (getD d (e.toNat) .nils) (fun f=>(asr (aG zI f) (aD ((aP f)==0) (x1 false) (lt (i64.wrap (e+1)) (Ek x0 x1 n b c d)))))))) (x0 b c d e false))
def PZ (b:Int) (c d:Ls) (K:Bool→Prop):Prop:=
 (∃ n:Nat,Ek (fun e f g h i=>(K true)) K n b c d 0)
def wQ:kZ:=PZ
def kc (Q:Qx):Int→Ls→Ls→Int→Bool→Prop:=(fun b c d e f=>Q (.exit 0) [(1,.box (.agg [(ic b),(.data c),(.data d)])),(3,.v (ic e)),(8,.v (.bool f))] [])
def kd (Q:Qx):Bool→Prop:=(fun b=>Q .ret [(2,.v (.bool b))] [])
def WZ (Q:Qx):List St:=[⟨(pS hN (fX 1 lZ (fV 3 eI fN)) fN),Ek (kc Q) (kd Q)⟩]
def Xa:LP:=iN [(42667800,WZ)]
def Qa (e:Es):SE:=sE (E e) [] (Xa)
theorem Xb (e:Es) (he:EG e):SEOk (bM (E e)) (Qa e):=bN (aJ.uni _) trivial trivial he.ok
theorem ke (e:Es):gQ (Qa e) 5 a Jp false (WZ):=fun _=>⟨fun _=>by kernel_rfl,fun _ _=>by kernel_rfl,trivial⟩
theorem kg (e:Es) (he:EG e):gR (bM (E e)) (Xa) [] 42667800 (.loop 42667800 Jp):=fun _ _ _=>bU.st (aJ.uni _) (eF (Xb e he) 5) (dB.no _ _) (bC (by kernel_rfl)) (ke e _)
theorem kh (e:Es):bQ (Qa e) 6 MP tW PZ:=fun _ _=>by kernel_rfl
theorem Xc (e:Es) (he:EG e):bG (E e) (tW.pw wQ) FU:=bS he (kh e) (Xb e he) bF.flat (fI (l:=[(42667800,.loop 42667800 Jp)]) ⟨kg e he,trivial⟩ (by kernel_rfl))
set_option linter.unusedVariables false
theorem ki (p0:Int) (p1 p2:Ls) (r0:Int) (h:∀ K:Int→Prop,K r0→qO p0 p1 p2 K) (K:Int→Prop):qO p0 p1 p2 K=K r0:=
 Aac ⟨fun k=>cJ (WY [] gK) (as:=[(.agg [(ic p0),(.data p1),(.data p2)])]) (x:=(ic r0)) (fun K' k'=>h (fun r0=>K' (ic r0)) k') (K:=fun x=>match x with | (ic r0)=>K r0 | _=>False) k,h K⟩
theorem kj (p0:Int) (p1 p2:Ls) (r0:Bool) (h:∀ K:Bool→Prop,K r0→wQ p0 p1 p2 K) (K:Bool→Prop):wQ p0 p1 p2 K=K r0:=
 Aac ⟨fun k=>cJ (Xc [] gK) (as:=[(.agg [(ic p0),(.data p1),(.data p2)])]) (x:=(.bool r0)) (fun K' k'=>h (fun r0=>K' (.bool r0)) k') (K:=fun x=>match x with | (.bool r0)=>K r0 | _=>False) k,h K⟩
abbrev wS:Type:=Ls→(Bool→Prop)→Prop
def El (a0:kZ) (x0:Bool→Prop) (x1:Ls→Int→Bool→Prop):Nat→Ls→Int→Prop
 | 0,_,_=>False
 | n+1,b,c=>
 (aD (decide (c<(((length b):Nat):Int))) (asr (decide (0≤c)) (asr (decide (c<(((length b):Nat):Int))) (asr (aG zK (getD b (c.toNat) .nils)) (a0 (aP (bZ (getD b (c.toNat) .nils) 0)) (gA (bZ (getD b (c.toNat) .nils) 1)) (gA (bZ (getD b (c.toNat) .nils) 2)) (fun d=>(aD d (x0 true) (El a0 x0 x1 n b (i64.wrap (c+1))))))))) (x1 b c false))
def Qb (a0:kZ) (b:Ls) (K:Bool→Prop):Prop:=
 (∃ n:Nat,El a0 K (fun c d e=>(K (decide ((((length c):Nat):Int)>10)))) n b 0)
def wU:wS:=Qb BI
def Em:Sg:=⟨GL,Bool→Prop,fun K=>(fun r0=>K (.bool r0))⟩
def km (Q:Qx):Bool→Prop:=(fun b=>Q .ret [(2,.v (.bool b))] [])
def ko (Q:Qx):Ls→Int→Bool→Prop:=(fun b c d=>Q (.exit 0) [(0,.v (.data b)),(3,.v (ic c)),(7,.v (.bool d))] [])
def Hc:Pat rP:=pS hN (fV 0 vD (fV 3 eI fN)) fN
def Xd (a0:kZ) (Q:Qx):List St:=[⟨Hc,El a0 (km Q) (ko Q)⟩]
def Xe (a0:kZ):LP:=iN [(4277600,Xd a0)]
def Qc (e:Es) (a0:kZ):SE:=sE (E e) [(FQ,tW.pw a0)] (Xe a0)
theorem Xf (e:Es) (he:EG e):SEOk (bM (E e)) (Qc e BI):=bN (aJ.uni _) ⟨(jw e he),trivial⟩ trivial he.ok
theorem kr (e:Es) (a0):gQ (Qc e a0) 5 a Jg false (Xd a0):=fun _=>⟨fun _=>by kernel_rfl,fun _ _=>by kernel_rfl,trivial⟩
theorem ks (e:Es) (he:EG e):gR (bM (E e)) (Xe BI) [] 4277600 (.loop 4277600 Jg):=fun _ _ _=>bU.st (aJ.uni _) (eF (Xf e he) 5) (dB.no _ _) (bC (by kernel_rfl)) (kr e _ _)
theorem ku (e:Es) (a0):bQ (Qc e a0) 6 ML Em (Qb a0):=fun _ _=>by kernel_rfl
theorem Xg (e:Es) (he:EG e):bG (E e) (Em.pw wU) FR:=bS he (ku e _) (Xf e he) bF.flat (fI (l:=[(4277600,.loop 4277600 Jg)]) ⟨ks e he,trivial⟩ (by kernel_rfl))
def En (a0:gM) (x0:Int→Prop) (x1:Ls→Ls→Int→Bool→Prop):Nat→Ls→Ls→Int→Prop
 | 0,_,_,_=>False
 | n+1,b,c,d=>
 (aD (decide (d<(((length b):Nat):Int))) (asr (decide (0≤d)) (asr (decide (d<(((length b):Nat):Int))) (asr (aG zK (getD b (d.toNat) .nils)) (a0 (aP (bZ (getD b (d.toNat) .nils) 0)) (gA (bZ (getD b (d.toNat) .nils) 1)) (gA (bZ (getD b (d.toNat) .nils) 2)) (fun e=>(aD (e !=0) (asr (decide (0≤d)) (asr (decide (d<(((length b):Nat):Int))) (asr (aG zK (getD b (d.toNat) .nils)) (a0 (aP (bZ (getD b (d.toNat) .nils) 0)) (gA (bZ (getD b (d.toNat) .nils) 1)) (gA (bZ (getD b (d.toNat) .nils) 2)) x0)))) (En a0 x0 x1 n b c (i64.wrap (d+1))))))))) (x1 b c d false))
def BK (a0:gM) (x0:Int→Prop) (x1:Ls→Ls→Int→Bool→Prop):Nat→Ls→Ls→Int→Prop
 | 0,_,_,_=>False
 | n+1,b,c,d=>
 (aD (decide (d<(((length b):Nat):Int))) (asr (decide (0≤d)) (asr (decide (d<(((length b):Nat):Int))) (asr (aG zK (getD b (d.toNat) .nils)) (asr (decide (0<(((length b):Nat):Int))) (asr (aG zK (getD b 0 .nils)) (aD ((aP (bZ (getD b (d.toNat) .nils) 0)) !=(aP (bZ (getD b 0 .nils) 0))) (x0 8) (BK a0 x0 x1 n b c (i64.wrap (d+1))))))))) (x1 b c d false))
def Qd (a0:gM) (b c:Ls) (K:Int→Prop):Prop:=
 (aD (decide ((((length b):Nat):Int)>6)) (K 4) (aD (decide ((((length c):Nat):Int)>2000)) (K 4) (aD ((((length b):Nat):Int)==0) (K 8) (∃ m0:Nat,En a0 K (fun d e f g=>(∃ m1:Nat,BK a0 K (fun h i j k=>(K 0)) m1 d e 0)) m0 b c 0))))
def wV:iP:=Qd qO
def kv (Q:Qx):Int→Prop:=(fun b=>Q .ret [(2,.v (ic b))] [])
def kw (Q:Qx):Ls→Ls→Int→Bool→Prop:=(fun b c d e=>Q (.exit 0) [(1,.box (.agg [(.data b),(.data c)])),(3,.v (ic d)),(23,.v (.bool e))] [])
def ky (Q:Qx):Int→Prop:=(fun b=>Q .ret [(2,.v (ic b))] [])
def kz (Q:Qx):Ls→Ls→Int→Bool→Prop:=(fun b c d e=>Q (.exit 2) [(1,.box (.agg [(.data b),(.data c)])),(4,.v (ic d)),(43,.v (.bool e))] [])
def Xh (a0:gM) (Q:Qx):List St:=[⟨(pS hN (fX 1 (vA jW) (fV 3 eI fN)) fN),En a0 (kv Q) (kw Q)⟩]
def Xi (a0:gM) (Q:Qx):List St:=[⟨(pS hN (fX 1 (vA jW) wM) fN),BK a0 (ky Q) (kz Q)⟩]
def Qe (a0:gM):LP:=iN [(6981300,Xh a0),(6981301,Xi a0)]
def Kg (e:Es) (a0:gM):SE:=sE (E e) [(Di,wN.pw a0)] (Qe a0)
theorem Qf (e:Es) (he:EG e):SEOk (bM (E e)) (Kg e qO):=bN (aJ.uni _) ⟨(WY e he),trivial⟩ trivial he.ok
theorem lc (e:Es) (a0):gQ (Kg e a0) 5 a Jn false (Xh a0):=fun _=>⟨fun _=>by kernel_rfl,fun _ _=>by kernel_rfl,trivial⟩
theorem ld (e:Es) (he:EG e):gR (bM (E e)) (Qe qO) [] 6981300 (.loop 6981300 Jn):=fun _ _ _=>bU.st (aJ.uni _) (eF (Qf e he) 5) (dB.no _ _) (bC (by kernel_rfl)) (lc e _ _)
theorem lf (e:Es) (a0):gQ (Kg e a0) 5 a Jo false (Xi a0):=fun _=>⟨fun _=>by kernel_rfl,fun _ _=>by kernel_rfl,trivial⟩
theorem lh (e:Es) (he:EG e):gR (bM (E e)) (Qe qO) [] 6981301 (.loop 6981301 Jo):=fun _ _ _=>bU.st (aJ.uni _) (eF (Qf e he) 5) (dB.no _ _) (bC (by kernel_rfl)) (lf e _ _)
theorem lj (e:Es) (a0):bQ (Kg e a0) 6 MO BH (Qd a0):=fun _ _=>by kernel_rfl
theorem Xj (e:Es) (he:EG e):bG (E e) (BH.pw wV) FT:=bS he (lj e _) (Qf e he) bF.flat (fI (l:=[(6981300,.loop 6981300 Jn),(6981301,.loop 6981301 Jo)]) ⟨ld e he,lh e he,trivial⟩ (by kernel_rfl))
set_option linter.unusedVariables false
theorem lk (p0:Ls) (r0:Bool) (h:∀ K:Bool→Prop,K r0→wU p0 K) (K:Bool→Prop):wU p0 K=K r0:=
 Aac ⟨fun k=>cJ (Xg [] gK) (as:=[(.data p0)]) (x:=(.bool r0)) (fun K' k'=>h (fun r0=>K' (.bool r0)) k') (K:=fun x=>match x with | (.bool r0)=>K r0 | _=>False) k,h K⟩
theorem lm (p0 p1:Ls) (r0:Int) (h:∀ K:Int→Prop,K r0→wV p0 p1 K) (K:Int→Prop):wV p0 p1 K=K r0:=
 Aac ⟨fun k=>cJ (Xj [] gK) (as:=[(.agg [(.data p0),(.data p1)])]) (x:=(ic r0)) (fun K' k'=>h (fun r0=>K' (ic r0)) k') (K:=fun x=>match x with | (ic r0)=>K r0 | _=>False) k,h K⟩
abbrev BL:Type:=Ls→Ls→(Bool→Prop)→Prop
def Qg (x0:Bool→Prop) (x1:Ls→Ls→Int→Bool→Prop):Nat→Ls→Ls→Int→Prop
 | 0,_,_,_=>False
 | n+1,b,c,d=>
 (aD (decide (d<(((length b):Nat):Int))) (asr (decide (0≤d)) (asr (decide (d<(((length b):Nat):Int))) (asr (aG zI (getD b (d.toNat) .nils)) (asr (decide (0≤d)) (asr (decide (d<(((length c):Nat):Int))) (asr (aG zI (getD c (d.toNat) .nils)) (aD ((aP (getD b (d.toNat) .nils)) !=(aP (getD c (d.toNat) .nils))) (x0 false) (Qg x0 x1 n b c (i64.wrap (d+1)))))))))) (x1 b c d false))
def Qh (b c:Ls) (K:Bool→Prop):Prop:=
 (aD ((((length b):Nat):Int) !=(((length c):Nat):Int)) (K false) (∃ n:Nat,Qg K (fun d e f g=>(K true)) n b c 0))
def Eo:BL:=Qh
def wW:Sg:=⟨jW,Bool→Prop,fun K=>(fun r0=>K (.bool r0))⟩
def ln (Q:Qx):Bool→Prop:=(fun b=>Q .ret [(4,.v (.bool b))] [])
def lq (Q:Qx):Ls→Ls→Int→Bool→Prop:=(fun b c d e=>Q (.exit 0) [(0,.v (.data b)),(1,.v (.data c)),(5,.v (ic d)),(14,.v (.bool e))] [])
def Hd:Pat rP:=pS hN (fV 0 vD (fV 1 vD (fV 5 eI fN))) fN
def Xk (Q:Qx):List St:=[⟨Hd,Qg (ln Q) (lq Q)⟩]
def Xl:LP:=iN [(14397100,Xk)]
def Qi (e:Es):SE:=sE (E e) [] (Xl)
theorem Xm (e:Es) (he:EG e):SEOk (bM (E e)) (Qi e):=bN (aJ.uni _) trivial trivial he.ok
theorem lr (e:Es):gQ (Qi e) 5 a JP false (Xk):=fun _=>⟨fun _=>by kernel_rfl,fun _ _=>by kernel_rfl,trivial⟩
theorem lu (e:Es) (he:EG e):gR (bM (E e)) (Xl) [] 14397100 (.loop 14397100 JP):=fun _ _ _=>bU.st (aJ.uni _) (eF (Xm e he) 5) (dB.no _ _) (bC (by kernel_rfl)) (lr e _)
theorem lv (e:Es):bQ (Qi e) 6 Oj wW Qh:=fun _ _=>by kernel_rfl
theorem Xn (e:Es) (he:EG e):bG (E e) (wW.pw Eo) Gl:=bS he (lv e) (Xm e he) bF.flat (fI (l:=[(14397100,.loop 14397100 JP)]) ⟨lu e he,trivial⟩ (by kernel_rfl))
set_option linter.unusedVariables false
theorem lw (p0 p1:Ls) (r0:Bool) (h:∀ K:Bool→Prop,K r0→Eo p0 p1 K) (K:Bool→Prop):Eo p0 p1 K=K r0:=
 Aac ⟨fun k=>cJ (Xn [] gK) (as:=[(.data p0),(.data p1)]) (x:=(.bool r0)) (fun K' k'=>h (fun r0=>K' (.bool r0)) k') (K:=fun x=>match x with | (.bool r0)=>K r0 | _=>False) k,h K⟩
def Qj (a0:Ps) (b:Int) (c d:Ls) (K:Bool→Prop):Prop:=
 (a0 d 0 K)
def tX:kZ:=Qj Pu
def lz (e:Es) (a0:Ps):SE:=sE (E e) [(Dn,Pv.pw a0)] dC
theorem ma (e:Es) (a0):bQ (lz e a0) 6 Ng tW (Qj a0):=fun _ _=>by kernel_rfl
theorem Qk (e:Es) (he:EG e):bG (E e) (tW.pw tX) yP:=bS he (ma e _) (bN (aJ.uni _) ⟨(gb e he),trivial⟩ trivial he.ok) bF.flat (bC (by kernel_rfl))
def Ep (a0:iP) (a1:kZ) (x0:Ls→Int→Int→Bool→Prop) (x1:Int→Prop):Nat→Ls→Int→Int→Prop
 | 0,_,_,_=>False
 | n+1,b,c,d=>
 (aD (decide (d<c)) (asr (decide (0≤d)) (asr (decide (d<(((length b):Nat):Int))) (lt (getD b (d.toNat) .nils) (fun e=>(asr (aG zK e) (a1 (aP (bZ e 0)) (gA (bZ e 1)) (gA (bZ e 2)) (fun f=>(aD f (x1 d) (lt (i64.wrap (d+1)) (Ep a0 a1 x0 x1 n b c)))))))))) (x0 b c d false))
def Ql (a0:iP) (a1:kZ) (b:Ls) (K:Int→Prop):Prop:=
 (a0 b ([]:Ls) (fun c=>(aD (c !=0) (K c) (aD (decide ((((length b):Nat):Int)>4)) (K 4) (jn (fun (a:Int→Prop)=>(∃ n:Nat,Ep a0 a1 (fun d e f g=>(a (-1))) a n b (((length b):Nat):Int) 0)) (fun d=>(aD (decide (d≥0)) (K 2) (K 0))))))))
def oB:kO:=Ql tV tX
def mb (Q:Qx):Ls→Int→Int→Bool→Prop:=(fun b c d e=>Q (.exit 0) [(0,.v (.data b)),(1,.v (.fn (.func yP) [] [])),(7,.v (ic c)),(8,.v (ic d)),(9,.v (.bool e))] [])
def mc (Q:Qx):Int→Prop:=(fun b=>Q .ret [(4,.v (ic b))] [])
def Xo (a0:iP) (a1:kZ) (Q:Qx):List St:=[⟨(pS hN (fV 0 vD (fV 1 (vF yP lN lN) Bz)) fN),Ep a0 a1 (mb Q) (mc Q)⟩]
def Qm (a0:iP) (a1:kZ):LP:=iN [(72162200,Xo a0 a1)]
def Xp (e:Es) (a0:iP) (a1:kZ):SE:=⟨(E e),yki [(Dm,BH.pw a0),(yP,tW.pw a1)],yhi [(Jb,Jz)],Qm a0 a1,fun _=>none⟩
def Xq (e:Es) (a0:iP) (a1:kZ):SE:=⟨(E e),yki [(Dm,BH.pw a0),(yP,tW.pw a1)],yhi [(Jb,Jz),(MC,Nc)],Qm a0 a1,fun _=>none⟩
theorem me (e:Es) (he:EG e):SEOk (bM (E e)) (Xp e tV tX):=bN (aJ.uni _) ⟨(PI e he),(Qk e he),trivial⟩ ⟨⟨by kernel_rfl,by kernel_rfl,rfl,fun as=>kW (by kernel_rfl) as,he.num _ (by kernel_rfl),by kernel_rfl,(bC (by kernel_rfl))⟩,trivial⟩ he.ok
theorem mf (e:Es) (a0 a1):gQ (Xp e a0 a1) 5 a Jy false (Xo a0 a1):=fun _=>⟨fun _=>by kernel_rfl,fun _ _=>by kernel_rfl,trivial⟩
theorem mg (e:Es) (he:EG e):gR (bM (E e)) (Qm tV tX) [] 72162200 (.loop 72162200 Jy):=fun _ _ _=>bU.st (aJ.uni _) (eF (me e he) 5) (dB.no _ _) (bC (by kernel_rfl)) (mf e _ _ _)
theorem mh (e:Es) (he:EG e):SEOk (bM (E e)) (Xq e tV tX):=bN (aJ.uni _) ⟨(PI e he),(Qk e he),trivial⟩ ⟨⟨by kernel_rfl,by kernel_rfl,rfl,fun as=>kW (by kernel_rfl) as,he.num _ (by kernel_rfl),by kernel_rfl,(bC (by kernel_rfl))⟩,⟨by kernel_rfl,by kernel_rfl,rfl,fun as=>kW (by kernel_rfl) as,he.num _ (by kernel_rfl),by kernel_rfl,(fI (l:=[(72162200,.loop 72162200 Jy)]) ⟨mg e he,trivial⟩ (by kernel_rfl))⟩,trivial⟩ he.ok
theorem mi (e:Es) (a0 a1):bQ (Xq e a0 a1) 6 Nh kY (Ql a0 a1):=fun _ _=>by kernel_rfl
theorem Qn (e:Es) (he:EG e):bG (E e) (kY.pw oB) AN:=bS he (mi e _ _) (mh e he) bF.flat (bC (by kernel_rfl))
def wX (p0 p1:Ls) (K:Int→Prop):Prop:=
 ∃ r0,K r0∧∀ e:Es,EG e→jR (E e) oY [(.data p0),(.data p1)] (.int .i64 r0)
def Er:Sg:=⟨jW,Int→Prop,fun K=>(fun r0=>K (ic r0))⟩
theorem Qo (e:Es) (he:EG e):yN (E e) (Er.pw wX) oY:=fun as K h=>by obtain ⟨a,e1,r0,hk,ha⟩:=Sg.inv h;subst e1;exact ⟨_,hk,ha e he⟩
def Xr (b:Int) (K:Int→Int→Prop):Prop:=
 (K b 1)
def kP:dZ:=Xr
def mj (e:Es):SE:=sE (E e) [] dC
theorem ml (e:Es):bQ (mj e) 6 Nl lJ Xr:=fun _ _=>by kernel_rfl
theorem Et (e:Es) (he:EG e):bG (E e) (lJ.pw kP) lI:=bS he (ml e) (bN (aJ.uni _) trivial trivial he.ok) bF.flat (bC (by kernel_rfl))
abbrev tY:Type:=Int→Ls→Ls→Ls→J4 (Int→Int→Int→(J4 (Prop))→Prop)
def Qp (a0:dZ) (a1 a2 a3 a4:iO) (b:Int) (c d e:Ls) (f g h i j k l:Int) (K:J4 (Prop)):Prop:=
 (asr (decide (0≤g)) (asr (decide (g<(((length d):Nat):Int))) (lt (getD d (g.toNat) .nils) (fun m=>(asr (aG zI m) (a0 (aP m) (fun o p=>(asr (decide (0≤h)) (asr (decide (h<(((length d):Nat):Int))) (lt (getD d (h.toNat) .nils) (fun q=>(asr (aG zI q) (a0 (aP q) (fun r s=>(asr (decide (0≤g)) (asr (decide (g<(((length c):Nat):Int))) (lt (getD c (g.toNat) .nils) (fun t=>(asr (aG zI t) (a0 (aP t) (fun u v=>(a1 i j u v (fun w z A=>(a2 w z o p (fun B C D=>(asr (decide (0≤g)) (asr (decide (g<(((length e):Nat):Int))) (lt (getD e (g.toNat) .nils) (fun E=>(asr (aG zI E) (asr (decide (0≤h)) (asr (decide (h<(((length e):Nat):Int))) (lt (getD e (h.toNat) .nils) (fun F=>(asr (aG zI F) (lt (i64.wrap ((aP E)-(aP F))) (fun G=>(a0 G (fun H I=>(a3 B C H I (fun J L M=>(a2 k l o p (fun N O P=>(a0 f (fun R S=>(a3 N O R S (fun T U V=>(a4 J L r s (fun W X Y=>(asr (decide (0≤h)) (asr (decide (h<(((length c):Nat):Int))) (lt (getD c (h.toNat) .nils) (fun Z=>(asr (aG zI Z) (a0 (aP Z) (fun y0 y1=>(a3 W X y0 y1 (fun y2 y3 y4=>(a4 T U r s (fun y5 y6 y7=>(K y2 y3 y5 y6)))))))))))))))))))))))))))))))))))))))))))))))))))))))))))))
def lA:tY:=Qp kP pJ lY pI pK
def Qq:Sg:=⟨(lC (vX 0 (vA (lC eI (lC vD (lC vD (lC vD (lC eI GI))))))) (lC (vA (lC eI (lC eI GI))) lN)),Int→Int→Int→Int→Prop,fun K=>(fun r0 r1 r2 r3=>K (.agg [(ic r0),(ic r1),(ic r2),(ic r3)]))⟩
def mn (e:Es) (a0:dZ) (a1 a2 a3 a4:iO):SE:=sE (E e) [(lI,lJ.pw a0),(rS,iD.pw a1),(nZ,iD.pw a2),(qI,iD.pw a3),(rT,iD.pw a4)] dC
theorem mo (e:Es) (a0 a1 a2 a3 a4):bQ (mn e a0 a1 a2 a3 a4) 6 NM Qq (Qp a0 a1 a2 a3 a4):=fun _ _=>by kernel_rfl
theorem Qr (e:Es) (he:EG e):bG (E e) (Qq.pw lA) Dq:=bS he (mo e _ _ _ _ _) (bN (aJ.uni _) ⟨(Et e he),(GS e he),(DY e he),(GR e he),(GT e he),trivial⟩ trivial he.ok) bF.flat (bC (by kernel_rfl))
abbrev qP:Type:=J4 (Int→(Int→Int→Prop)→Prop)
def Qs (a0:dZ) (a1 a2:iO) (b c d e f:Int) (K:Int→Int→Prop):Prop:=
 (a0 f (fun g h=>(a1 g h b c (fun i j k=>(a2 i j d e (fun l m o=>(K l m)))))))
def eW:qP:=Qs kP pJ pK
def Qt:Sg:=⟨(lC (vA (lC eI (lC eI GI))) Bx),Int→Int→Prop,fun K=>(fun r0 r1=>K (.agg [(ic r0),(ic r1)]))⟩
def mp (e:Es) (a0:dZ) (a1 a2:iO):SE:=sE (E e) [(lI,lJ.pw a0),(rS,iD.pw a1),(rT,iD.pw a2)] dC
theorem mq (e:Es) (a0 a1 a2):bQ (mp e a0 a1 a2) 6 NN Qt (Qs a0 a1 a2):=fun _ _=>by kernel_rfl
theorem Qu (e:Es) (he:EG e):bG (E e) (Qt.pw eW) AR:=bS he (mq e _ _ _) (bN (aJ.uni _) ⟨(Et e he),(GS e he),(GT e he),trivial⟩ trivial he.ok) bF.flat (bC (by kernel_rfl))
def Qv (a0:GU) (b c d e:Int) (K:Bool→Prop):Prop:=
 (a0 b c d e (fun f g=>(K (decide (f<0)))))
def jX:iE:=Qv zW
def mr (e:Es) (a0:GU):SE:=sE (E e) [(AS,Ka.pw a0)] dC
theorem ms (e:Es) (a0):bQ (mr e a0) 6 NU sC (Qv a0):=fun _ _=>by kernel_rfl
theorem Qw (e:Es) (he:EG e):bG (E e) (sC.pw jX) Dv:=bS he (ms e _) (bN (aJ.uni _) ⟨(Pg e he),trivial⟩ trivial he.ok) bF.flat (bC (by kernel_rfl))
abbrev Xs:Type:=Ls→Ls→(Int→Int→Prop)→Prop
def BM (p0 p1:Ls) (K:Int→Int→Prop):Prop:=
 ∃ r0 r1,K r0 r1∧∀ e:Es,EG e→oW (E e) rU [(.data p0),(.data p1)] (.agg [(.int .i64 r0),(.int .i64 r1)])
def Qy:Sg:=⟨jW,Int→Int→Prop,fun K=>(fun r0 r1=>K (.agg [(ic r0),(ic r1)]))⟩
theorem Kh (e:Es) (he:EG e):bG (E e) (Qy.pw BM) rU:=fun as K h=>by obtain ⟨a,e1,r0,r1,hk,ha⟩:=Sg.inv h;subst e1;exact ⟨_,hk,ha e he⟩
abbrev He:Type:=Ls→Ls→(Int→Int→Int→Prop)→Prop
def Hf (a0:iP) (a1:Xs) (b c:Ls) (K:Int→Int→Int→Prop):Prop:=
 (a0 b c (fun d=>(aD (d !=0) (K 0 0 d) (a1 b c (fun e f=>(K e f 0))))))
def ycf:He:=Hf wX BM
def Ki:Sg:=⟨jW,Int→Int→Int→Prop,fun K=>(fun r0 r1 r2=>K (.tup [(.agg [(ic r0),(ic r1)]),(ic r2)]))⟩
def mu (e:Es) (a0:iP) (a1:Xs):SE:=sE (E e) [(oY,Er.pw a0),(rU,Qy.pw a1)] dC
theorem mw (e:Es) (a0 a1):bQ (mu e a0 a1) 6 NY Ki (Hf a0 a1):=fun _ _=>by kernel_rfl
theorem Xt (e:Es) (he:EG e):yN (E e) (Ki.pw ycf) yQ:=bS he (mw e _ _) (bN (aJ.solo _) ⟨(Qo e he),(bG.solo (Kh e he)),trivial⟩ trivial he.ok) bF.flat (bC (by kernel_rfl))
abbrev Hg:Type:=Ls→Ls→Int→Int→(Ls→Int→Prop)→Prop
def Eu (a0:iP) (a1:dX) (a2:dZ) (a3:BD) (a4:iO) (a5:BF) (x2:Ls→Ls→J4 (Ls→Int→Int→Bool→Prop)) (x3:Ls→Int→Prop):Nat→Ls→Ls→J4 (Ls→Int→Int→Prop)
 | 0,_,_,_,_,_,_,_,_,_=>False
 | n+1,b,c,d,e,f,g,h,i,j=>
 (aD (decide (j<i)) (asr (decide (0≤j)) (asr (decide (j<(((length h):Nat):Int))) (lt (getD h (j.toNat) .nils) (fun k=>(asr (aG zI k) (asr (decide (0≤(aP k))) (asr (decide ((aP k)<(((length c):Nat):Int))) (lt (getD c ((aP k).toNat) .nils) (fun l=>(asr (aG zK l) (a3 (aP (bZ l 0)) (gA (bZ l 1)) (gA (bZ l 2)) (fun m o=>(a2 m (fun p q=>(a4 d e p q (fun r s t=>(jn (fun (a:Int→Int→Int→Prop)=>(aD (t==0) (asr (decide (0≤(aP k))) (asr (decide ((aP k)<(((length c):Nat):Int))) (lt (getD c ((aP k).toNat) .nils) (fun u=>(asr (aG zK u) (a5 (aP (bZ u 0)) (gA (bZ u 1)) (gA (bZ u 2)) f g r s a)))))) (a f g t))) (fun u v w=>(aD (w !=0) (x3 b w) (asr (decide ((length b)=(length b))) (asr (decide ((0+(length b))≤(length b))) (asr (!(decide (((0+(length b))+1)≤(length b)))) (asr (decide ((length b)=(length b))) (asr (decide ((((length b)+1)+64)*(16+1)≤room)) (lt (i64.wrap (j+1)) (fun z=>(asr (decide ((length (b++([(.agg [(ic u),(ic v)])]:Ls)))=length (b++([(.agg [(ic u),(ic v)])]:Ls)))&&decide ((length (b++([(.agg [(ic u),(ic v)])]:Ls)))=length (b++([(.agg [(ic u),(ic v)])]:Ls)))) (Eu a0 a1 a2 a3 a4 a5 x2 x3 n (b++([(.agg [(ic u),(ic v)])]:Ls)) c d e u v h i z)))))))))))))))))))))))))))) (x2 b c d e f g h i j false))
def Qz (a0:iP) (a1:dX) (a2:dZ) (a3:BD) (a4:iO) (a5:BF) (x0:Ls→J4 (Ls→Int→Int→Bool→Prop)) (x1:Int→Prop) (x2:Ls→Ls→J4 (Ls→Int→Int→Bool→Prop)) (x3:Ls→Int→Prop):Nat→Ls→J4 (Ls→Int→Int→Prop)
 | 0,_,_,_,_,_,_,_,_=>False
 | n+1,b,c,d,e,f,g,h,i=>
 (aD (decide (i<h)) (asr (decide (0≤i)) (asr (decide (i<(((length g):Nat):Int))) (lt (getD g (i.toNat) .nils) (fun j=>(asr (aG zI j) (asr (decide (0≤(aP j))) (asr (decide ((aP j)<(((length b):Nat):Int))) (lt (getD b ((aP j).toNat) .nils) (fun k=>(asr (aG zK k) (a3 (aP (bZ k 0)) (gA (bZ k 1)) (gA (bZ k 2)) (fun l m=>(a2 l (fun o p=>(a4 c d o p (fun q r s=>(jn (fun (a:Int→Int→Int→Prop)=>(aD (s==0) (asr (decide (0≤(aP j))) (asr (decide ((aP j)<(((length b):Nat):Int))) (lt (getD b ((aP j).toNat) .nils) (fun t=>(asr (aG zK t) (a5 (aP (bZ t 0)) (gA (bZ t 1)) (gA (bZ t 2)) e f q r a)))))) (a e f s))) (fun t u v=>(aD (v !=0) (x1 v) (lt (i64.wrap (i+1)) (fun w=>(asr (decide (1=length ([(.agg [(ic t),(ic u)])]:Ls))&&decide (1=length ([(.agg [(ic t),(ic u)])]:Ls))) (Eu a0 a1 a2 a3 a4 a5 x2 x3 n ([(.agg [(ic t),(ic u)])]:Ls) b c d t u g h w))))))))))))))))))))))) (x0 b c d e f g h i false))
def QC (a0:iP) (a1:dX) (a2:dZ) (a3:BD) (a4:iO) (a5:BF) (b c:Ls) (d e:Int) (K:Ls→Int→Prop):Prop:=
 (a0 b c (fun f=>(aD (f !=0) (K ([]:Ls) f) (jn (fun (a:Bool→Prop)=>(a1 d e (fun g=>(aD (g !=0) (a true) (a (decide (d<0))))))) (fun g=>(aD g (K ([]:Ls) 2) (a2 0 (fun h i=>(∃ n:Nat,Qz a0 a1 a2 a3 a4 a5 (fun j k l m o p q r s=>(K ([]:Ls) 0)) (fun j=>(K ([]:Ls) j)) (fun j k l m o p q r s t=>(asr (decide ((length j)=(length j))) (asr (decide ((0+(length j))≤(length j))) (K (take (length j) j) 0)))) (fun j k=>(K ([]:Ls) k)) n b d e h i c (((length c):Nat):Int) 0)))))))))
def ybx:Hg:=QC wX lX kP sB lY tU
def Kj:Sg:=⟨(lC vD (lC vD GK)),Ls→Int→Prop,fun K=>(fun r0 r1=>K (.tup [(.data r0),(ic r1)]))⟩
def mz (Q:Qx):Ls→J4 (Ls→Int→Int→Bool→Prop ):=(fun b c d e f g h i j=>Q (.exit 0) [(0,.v (.data b)),(5,.box (.agg [(ic c),(ic d)])),(9,.box (.agg [(ic e),(ic f)])),(10,.v .nils),(32,.v (.data g)),(33,.v (ic h)),(34,.v (ic i)),(35,.v (.bool j))] [])
def na (Q:Qx):Int→Prop:=(fun b=>Q .ret [(6,.v .nils),(7,.v (ic b))] [])
def Xu (Q:Qx):Ls→Ls→J4 (Ls→Int→Int→Bool→Prop ):=(fun b c d e f g h i j k=>Q (.exit 0) [(0,.v (.data c)),(5,.box (.agg [(ic d),(ic e)])),(9,.box (.agg [(ic f),(ic g)])),(10,.v (.own 0 0 (length b) (length b) none)),(32,.v (.data h)),(33,.v (ic i)),(34,.v (ic j)),(35,.v (.bool k))] [⟨false,true,2,b⟩])
def Xv (Q:Qx):Ls→Int→Prop:=(fun b c=>Q .ret [(6,.v .nils),(7,.v (ic c))] [⟨false,true,2,b⟩])
def Hj:Pat aB:=fV 32 vD (fV 33 eI (fV 34 eI fN))
def Xw (a0:iP) (a1:dX) (a2:dZ) (a3:BD) (a4:iO) (a5:BF) (Q:Qx):List St:=[⟨(pS hN (fV 0 vD (fX 5 wK (fX 9 wK (fV 10 V5 Hj)))) fN),Qz a0 a1 a2 a3 a4 a5 (mz Q) (na Q) (Xu Q) (Xv Q)⟩,⟨(pS (hB false true 2 rA hN) (fV 0 vD (fX 5 wK (fX 9 wK (fV 10 (vW 0 (nK 0) (nT 0) (nT 0)) Hj)))) fN),Eu a0 a1 a2 a3 a4 a5 (Xu Q) (Xv Q)⟩]
def Xx (a0:iP) (a1:dX) (a2:dZ) (a3:BD) (a4:iO) (a5:BF):LP:=iN [(60678000,Xw a0 a1 a2 a3 a4 a5)]
def QD (e:Es) (a0:iP) (a1:dX) (a2:dZ) (a3:BD) (a4:iO) (a5:BF):SE:=sE (E e) [(oY,Er.pw a0),(oZ,tS.pw a1),(lI,lJ.pw a2),(Gi,Pw.pw a3),(nZ,iD.pw a4),(Gj,PD.pw a5)] (Xx a0 a1 a2 a3 a4 a5)
theorem Xy (e:Es) (he:EG e):SEOk (gH (E e)) (QD e wX lX kP sB lY tU):=bN (aJ.solo _) ⟨(Qo e he),(bG.solo (DV e he)),(bG.solo (Et e he)),(bG.solo (WE e he)),(bG.solo (DY e he)),(bG.solo (WK e he)),trivial⟩ trivial he.ok
theorem nd (e:Es) (a0 a1 a2 a3 a4 a5):gQ (QD e a0 a1 a2 a3 a4 a5) 5 a JN false (Xw a0 a1 a2 a3 a4 a5):=fun _=>⟨fun _=>by kernel_rfl,fun _ _=>by kernel_rfl,fun _=>by kernel_rfl,fun _ _=>by kernel_rfl,trivial⟩
theorem nf (e:Es) (he:EG e):gR (gH (E e)) (Xx wX lX kP sB lY tU) [] 60678000 (.loop 60678000 JN):=fun _ _ _=>bU.st (aJ.solo _) (eF (Xy e he) 5) (dB.no _ _) (bC (by kernel_rfl)) (nd e _ _ _ _ _ _ _)
theorem ng (e:Es) (a0 a1 a2 a3 a4 a5):bQ (QD e a0 a1 a2 a3 a4 a5) 6 Of Kj (QC a0 a1 a2 a3 a4 a5):=fun _ _=>by kernel_rfl
theorem QE (e:Es) (he:EG e):yN (E e) (Kj.pw ybx) vR:=bS he (ng e _ _ _ _ _ _) (Xy e he) bF.flat (fI (l:=[(60678000,.loop 60678000 JN)]) ⟨nf e he,trivial⟩ (by kernel_rfl))
abbrev Xz:Type:=Ls→(Ls→Int→Int→Int→Prop)→Prop
def Hk (p0:Ls) (K:Ls→Int→Int→Int→Prop):Prop:=
 ∃ r0 r1 r2 r3,K r0 r1 r2 r3∧∀ e:Es,EG e→jR (E e) AT [(.data p0)] (.tup [(.data r0),(.agg [(.int .i64 r1),(.int .i64 r2)]),(.int .i64 r3)])
def XA:Sg:=⟨GL,Ls→Int→Int→Int→Prop,fun K=>(fun r0 r1 r2 r3=>K (.tup [(.data r0),(.agg [(ic r1),(ic r2)]),(ic r3)]))⟩
theorem XB (e:Es) (he:EG e):yN (E e) (XA.pw Hk) AT:=fun as K h=>by obtain ⟨a,e1,r0,r1,r2,r3,hk,ha⟩:=Sg.inv h;subst e1;exact ⟨_,hk,ha e he⟩
set_option linter.unusedVariables false
theorem nh (p0:Int) (p1 p2:Ls) (r0:Bool) (h:∀ K:Bool→Prop,K r0→tX p0 p1 p2 K) (K:Bool→Prop):tX p0 p1 p2 K=K r0:=
 Aac ⟨fun k=>cJ (Qk [] gK) (as:=[(.agg [(ic p0),(.data p1),(.data p2)])]) (x:=(.bool r0)) (fun K' k'=>h (fun r0=>K' (.bool r0)) k') (K:=fun x=>match x with | (.bool r0)=>K r0 | _=>False) k,h K⟩
theorem ni (p0:Ls) (r0:Int) (h:∀ K:Int→Prop,K r0→oB p0 K) (K:Int→Prop):oB p0 K=K r0:=
 Aac ⟨fun k=>cJ (Qn [] gK) (as:=[(.data p0)]) (x:=(ic r0)) (fun K' k'=>h (fun r0=>K' (ic r0)) k') (K:=fun x=>match x with | (ic r0)=>K r0 | _=>False) k,h K⟩
theorem nj (p0 p1:Ls) (r0:Int) (h:∀ K:Int→Prop,K r0→wX p0 p1 K) (K:Int→Prop):wX p0 p1 K=K r0:=
 Aac ⟨fun k=>vK (Qo [] gK) (as:=[(.data p0),(.data p1)]) (x:=(ic r0)) (fun K' k'=>h (fun r0=>K' (ic r0)) k') (K:=fun x=>match x with | (ic r0)=>K r0 | _=>False) k,h K⟩
theorem nk (p0 p1:Ls) (r0 r1:Int) (h:∀ K:Int→Int→Prop,K r0 r1→BM p0 p1 K) (K:Int→Int→Prop):BM p0 p1 K=K r0 r1:=
 Aac ⟨fun k=>cJ (Kh [] gK) (as:=[(.data p0),(.data p1)]) (x:=(.agg [(ic r0),(ic r1)])) (fun K' k'=>h (fun r0 r1=>K' (.agg [(ic r0),(ic r1)])) k') (K:=fun x=>match x with | (.agg [(ic r0),(ic r1)])=>K r0 r1 | _=>False) k,h K⟩
theorem XC (p0 p1:Ls) (p2 p3:Int) (r0:Ls) (r1:Int) (h:∀ K:Ls→Int→Prop,K r0 r1→ybx p0 p1 p2 p3 K) (K:Ls→Int→Prop):ybx p0 p1 p2 p3 K=K r0 r1:=
 Aac ⟨fun k=>vK (QE [] gK) (as:=[(.data p0),(.data p1),(.agg [(ic p2),(ic p3)])]) (x:=(.tup [(.data r0),(ic r1)])) (fun K' k'=>h (fun r0 r1=>K' (.tup [(.data r0),(ic r1)])) k') (K:=fun x=>match x with | (.tup [(.data r0),(ic r1)])=>K r0 r1 | _=>False) k,h K⟩
theorem nm (p0 r0:Ls) (r1 r2 r3:Int) (h:∀ K:Ls→Int→Int→Int→Prop,K r0 r1 r2 r3→Hk p0 K) (K:Ls→Int→Int→Int→Prop):Hk p0 K=K r0 r1 r2 r3:=
 Aac ⟨fun k=>vK (XB [] gK) (as:=[(.data p0)]) (x:=(.tup [(.data r0),(.agg [(ic r1),(ic r2)]),(ic r3)])) (fun K' k'=>h (fun r0 r1 r2 r3=>K' (.tup [(.data r0),(.agg [(ic r1),(ic r2)]),(ic r3)])) k') (K:=fun x=>match x with | (.tup [(.data r0),(.agg [(ic r1),(ic r2)]),(ic r3)])=>K r0 r1 r2 r3 | _=>False) k,h K⟩
def Ev (a0:wS) (x0:Ls→Int→Bool→Prop) (x1:Bool→Prop):Nat→Ls→Int→Prop
 | 0,_,_=>False
 | n+1,b,c=>
 (aD (decide (c<(((length b):Nat):Int))) (jn (fun (a:Bool→Prop)=>(asr (decide (0≤c)) (asr (decide (c<(((length b):Nat):Int))) (lt (getD b (c.toNat) .nils) (fun d=>(asr (aG zK d) (aD (decide ((((length (gA (bZ d 1))):Nat):Int)>14)) (asr (decide (0≤c)) (asr (decide (c<(((length b):Nat):Int))) (lt (getD b (c.toNat) .nils) (fun e=>(asr (aG zK e) (a (decide ((((length (gA (bZ e 1))):Nat):Int)≤40)))))))) (a false)))))))) (fun d=>(aD d (x1 true) (lt (i64.wrap (c+1)) (Ev a0 x0 x1 n b))))) (x0 b c false))
def QF (a0:wS) (b:Ls) (K:Bool→Prop):Prop:=
 (∃ n:Nat,Ev a0 (fun c d e=>(a0 c K)) K n b 0)
def Ew:wS:=QF wU
def nn (Q:Qx):Ls→Int→Bool→Prop:=(fun b c d=>Q (.exit 0) [(0,.v (.data b)),(3,.v (ic c)),(7,.v (.bool d))] [])
def nq (Q:Qx):Bool→Prop:=(fun b=>Q .ret [(2,.v (.bool b))] [])
def XD (a0:wS) (Q:Qx):List St:=[⟨Hc,Ev a0 (nn Q) (nq Q)⟩]
def XE (a0:wS):LP:=iN [(60274600,XD a0)]
def QH (e:Es) (a0:wS):SE:=sE (E e) [(FR,Em.pw a0)] (XE a0)
theorem XF (e:Es) (he:EG e):SEOk (bM (E e)) (QH e wU):=bN (aJ.uni _) ⟨(Xg e he),trivial⟩ trivial he.ok
theorem nr (e:Es) (a0):gQ (QH e a0) 5 a Jh false (XD a0):=fun _=>⟨fun _=>by kernel_rfl,fun _ _=>by kernel_rfl,trivial⟩
theorem ns (e:Es) (he:EG e):gR (bM (E e)) (XE wU) [] 60274600 (.loop 60274600 Jh):=fun _ _ _=>bU.st (aJ.uni _) (eF (XF e he) 5) (dB.no _ _) (bC (by kernel_rfl)) (nr e _ _)
theorem nu (e:Es) (a0):bQ (QH e a0) 6 MM Em (QF a0):=fun _ _=>by kernel_rfl
theorem XG (e:Es) (he:EG e):bG (E e) (Em.pw Ew) FS:=bS he (nu e _) (XF e he) bF.flat (fI (l:=[(60274600,.loop 60274600 Jh)]) ⟨ns e he,trivial⟩ (by kernel_rfl))
def Ey (a0:iP) (a1:kZ) (x0:Ls→Int→Bool→Prop) (x1:Int→Prop):Nat→Ls→Int→Prop
 | 0,_,_=>False
 | n+1,b,c=>
 (aD (decide (c<(((length b):Nat):Int))) (asr (decide (0≤c)) (asr (decide (c<(((length b):Nat):Int))) (lt (getD b (c.toNat) .nils) (fun d=>(asr (aG zK d) (a1 (aP (bZ d 0)) (gA (bZ d 1)) (gA (bZ d 2)) (fun e=>(aD (!e) (x1 2) (lt (i64.wrap (c+1)) (Ey a0 a1 x0 x1 n b)))))))))) (x0 b c false))
def QI (a0:iP) (a1:kZ) (b:Ls) (K:Int→Prop):Prop:=
 (a0 b ([]:Ls) (fun c=>(aD (c !=0) (K c) (aD (decide ((((length b):Nat):Int)>4)) (K 4) (∃ n:Nat,Ey a0 a1 (fun d e f=>(K 0)) K n b 0)))))
def Ez:kO:=QI wV wQ
def nv (Q:Qx):Ls→Int→Bool→Prop:=(fun b c d=>Q (.exit 0) [(0,.v (.data b)),(4,.v (ic c)),(17,.v (.bool d))] [])
def nw (Q:Qx):Int→Prop:=(fun b=>Q .ret [(2,.v (ic b))] [])
def XH (a0:iP) (a1:kZ) (Q:Qx):List St:=[⟨(pS hN (fV 0 vD wM) fN),Ey a0 a1 (nv Q) (nw Q)⟩]
def XI (a0:iP) (a1:kZ):LP:=iN [(10200500,XH a0 a1)]
def QJ (e:Es) (a0:iP) (a1:kZ):SE:=sE (E e) [(FT,BH.pw a0),(FU,tW.pw a1)] (XI a0 a1)
theorem XJ (e:Es) (he:EG e):SEOk (bM (E e)) (QJ e wV wQ):=bN (aJ.uni _) ⟨(Xj e he),(Xc e he),trivial⟩ trivial he.ok
theorem ny (e:Es) (a0 a1):gQ (QJ e a0 a1) 5 a Jq false (XH a0 a1):=fun _=>⟨fun _=>by kernel_rfl,fun _ _=>by kernel_rfl,trivial⟩
theorem nz (e:Es) (he:EG e):gR (bM (E e)) (XI wV wQ) [] 10200500 (.loop 10200500 Jq):=fun _ _ _=>bU.st (aJ.uni _) (eF (XJ e he) 5) (dB.no _ _) (bC (by kernel_rfl)) (ny e _ _ _)
theorem oa (e:Es) (a0 a1):bQ (QJ e a0 a1) 6 MQ kY (QI a0 a1):=fun _ _=>by kernel_rfl
theorem XK (e:Es) (he:EG e):bG (E e) (kY.pw Ez) Dj:=bS he (oa e _ _) (XJ e he) bF.flat (fI (l:=[(10200500,.loop 10200500 Jq)]) ⟨nz e he,trivial⟩ (by kernel_rfl))
abbrev QK:Type:=Int→Ls→(Bool→Prop)→Prop
def EA (x0:Ls→Int→Ls→Nat→Nat→Nat→Int→Bool→Prop) (x1:Ls→Bool→Prop):Nat→Ls→Int→Ls→Nat→Nat→Nat→Int→Prop
 | 0,_,_,_,_,_,_,_=>False
 | n+1,b,c,d,e,f,g,h=>
 (aD (decide (h<c)) (jn (fun (a:Bool→Prop)=>(asr (decide (0≤h)) (asr (decide (h<(((length d):Nat):Int))) (lt (getD d (h.toNat) .nils) (fun i=>(asr (aG zI i) (aD (decide ((aP i)<0)) (a true) (asr (decide (0≤h)) (asr (decide (h<(((length d):Nat):Int))) (lt (getD d (h.toNat) .nils) (fun j=>(asr (aG zI j) (aD (decide ((aP j)≥c)) (a true) (asr (decide (0≤h)) (asr (decide (h<(((length d):Nat):Int))) (lt (getD d (h.toNat) .nils) (fun k=>(asr (aG zI k) (asr (decide (0≤(aP k))) (asr (decide ((aP k)<((e:Nat):Int))) (asr (decide ((length b)=f)) (asr (decide ((0+((aP k).toNat))<(length b))) (lt (getD b (0+((aP k).toNat)) .nils) (fun l=>(asr (aG (.one (.b)) l) (a (Mf l))))))))))))))))))))))))))) (fun i=>(aD i (x1 b false) (asr (decide (0≤h)) (asr (decide (h<(((length d):Nat):Int))) (lt (getD d (h.toNat) .nils) (fun j=>(asr (aG zI j) (asr (decide (0≤(aP j))) (asr (decide ((aP j)<((e:Nat):Int))) (asr (decide ((length b)=f)) (asr (decide ((0+((aP j).toNat))<(length b))) (lt (getD b (0+((aP j).toNat)) .nils) (fun k=>(asr (aG (.one (.b)) k) (lt (i64.wrap (h+1)) (fun l=>(EA x0 x1 n (set b (0+((aP j).toNat)) (.bool true)) c d e f g l)))))))))))))))))) (x0 b c d e f g h false))
def QL (b:Int) (c:Ls) (K:Bool→Prop):Prop:=
 (aD ((((length c):Nat):Int) !=b) (K false) (asr (decide (0≤b)) (asr (decide (b≤b)) (asr (decide (((b.toNat)+64)*(1+1)≤room)) (∃ n:Nat,EA (fun d e f g h i j k=>(K true)) (fun d e=>(K e)) n (replicate (b.toNat) ((.bool false):PV)) b c (b.toNat) (b.toNat) (b.toNat) 0)))))
def Kk:QK:=QL
def QM:Sg:=⟨(lC eI GL),Bool→Prop,fun K=>(fun r0=>K (.bool r0))⟩
def od (Q:Qx):Ls→Int→Ls→Nat→Nat→Nat→Int→Bool→Prop:=(fun b c d e f g h i=>Q (.exit 0) [(0,.v (ic c)),(1,.v (.data d)),(5,.v (.own 0 0 e f (some g))),(6,.v (ic h)),(15,.v (.bool i))] [⟨false,true,1,b⟩])
def oe (Q:Qx):Ls→Bool→Prop:=(fun b c=>Q .ret [(4,.v (.bool c))] [⟨false,true,1,b⟩])
def XL (Q:Qx):List St:=[⟨(pS (hB false true 1 rA hN) (fV 0 eI (fV 1 vD (fV 5 (vO 0 (nK 0) nV nV nV) (fV 6 eI fN)))) fN),EA (od Q) (oe Q)⟩]
def XM:LP:=iN [(62552700,XL)]
def QN (e:Es):SE:=sE (E e) [] (XM)
theorem XN (e:Es) (he:EG e):SEOk (bM (E e)) (QN e):=bN (aJ.uni _) trivial trivial he.ok
theorem og (e:Es):gQ (QN e) 5 a Jr false (XL):=fun _=>⟨fun _=>by kernel_rfl,fun _ _=>by kernel_rfl,trivial⟩
theorem oi (e:Es) (he:EG e):gR (bM (E e)) (XM) [] 62552700 (.loop 62552700 Jr):=fun _ _ _=>bU.st (aJ.uni _) (eF (XN e he) 5) (dB.no _ _) (bC (by kernel_rfl)) (og e _)
theorem oj (e:Es):bQ (QN e) 6 MR QM QL:=fun _ _=>by kernel_rfl
theorem oq (e:Es) (he:EG e):bG (E e) (QM.pw Kk) FW:=bS he (oj e) (XN e he) bF.flat (fI (l:=[(62552700,.loop 62552700 Jr)]) ⟨oi e he,trivial⟩ (by kernel_rfl))
def QO (a0:kO) (a1:QK) (b c:Ls) (K:Int→Prop):Prop:=
 (a0 b (fun d=>(aD (d !=0) (a0 b K) (a1 (((length b):Nat):Int) c (fun e=>(aD (!e) (K 8) (K 0)))))))
def QP:iP:=QO Ez Kk
def ot (e:Es) (a0:kO) (a1:QK):SE:=sE (E e) [(Dj,kY.pw a0),(FW,QM.pw a1)] dC
theorem ou (e:Es) (a0 a1):bQ (ot e a0 a1) 6 MS Er (QO a0 a1):=fun _ _=>by kernel_rfl
theorem ov (e:Es) (he:EG e):bG (E e) (Er.pw QP) FX:=bS he (ou e _ _) (bN (aJ.uni _) ⟨(XK e he),(oq e he),trivial⟩ trivial he.ok) bF.flat (bC (by kernel_rfl))
def QQ (x0:Ls→Ls→Int→Bool→Prop) (x1:Bool→Prop):Nat→Ls→Ls→Int→Prop
 | 0,_,_,_=>False
 | n+1,b,c,d=>
 (aD (decide (d<(((length b):Nat):Int))) (asr (decide (0≤d)) (asr (decide (d<(((length b):Nat):Int))) (lt (getD b (d.toNat) .nils) (fun e=>(asr (aG z2 e) (asr (decide (0≤d)) (asr (decide (d<(((length c):Nat):Int))) (lt (getD c (d.toNat) .nils) (fun f=>(asr (aG z2 f) (aD (!(((aP (bZ e 0)) ==(aP (bZ f 0)))&&(((aP (bZ e 1)) ==(aP (bZ f 1)))&&true))) (x1 false) (lt (i64.wrap (d+1)) (QQ x0 x1 n b c))))))))))))) (x0 b c d false))
def QR (b c:Ls) (K:Bool→Prop):Prop:=
 (aD ((((length b):Nat):Int) !=(((length c):Nat):Int)) (K false) (∃ n:Nat,QQ (fun d e f g=>(K true)) K n b c 0))
def ycA:BL:=QR
def ow (Q:Qx):Ls→Ls→Int→Bool→Prop:=(fun b c d e=>Q (.exit 0) [(0,.v (.data b)),(1,.v (.data c)),(5,.v (ic d)),(14,.v (.bool e))] [])
def oz (Q:Qx):Bool→Prop:=(fun b=>Q .ret [(4,.v (.bool b))] [])
def XO (Q:Qx):List St:=[⟨Hd,QQ (ow Q) (oz Q)⟩]
def XP:LP:=iN [(13861700,XO)]
def QS (e:Es):SE:=sE (E e) [] (XP)
theorem XQ (e:Es) (he:EG e):SEOk (bM (E e)) (QS e):=bN (aJ.uni _) trivial trivial he.ok
theorem pd (e:Es):gQ (QS e) 5 a JO false (XO):=fun _=>⟨fun _=>by kernel_rfl,fun _ _=>by kernel_rfl,trivial⟩
theorem pe (e:Es) (he:EG e):gR (bM (E e)) (XP) [] 13861700 (.loop 13861700 JO):=fun _ _ _=>bU.st (aJ.uni _) (eF (XQ e he) 5) (dB.no _ _) (bC (by kernel_rfl)) (pd e _)
theorem pf (e:Es):bQ (QS e) 6 Oi wW QR:=fun _ _=>by kernel_rfl
theorem XS (e:Es) (he:EG e):bG (E e) (wW.pw ycA) DA:=bS he (pf e) (XQ e he) bF.flat (fI (l:=[(13861700,.loop 13861700 JO)]) ⟨pe e he,trivial⟩ (by kernel_rfl))
set_option linter.unusedVariables false
theorem pg (p0:Ls) (r0:Bool) (h:∀ K:Bool→Prop,K r0→Ew p0 K) (K:Bool→Prop):Ew p0 K=K r0:=
 Aac ⟨fun k=>cJ (XG [] gK) (as:=[(.data p0)]) (x:=(.bool r0)) (fun K' k'=>h (fun r0=>K' (.bool r0)) k') (K:=fun x=>match x with | (.bool r0)=>K r0 | _=>False) k,h K⟩
theorem ph (p0:Ls) (r0:Int) (h:∀ K:Int→Prop,K r0→Ez p0 K) (K:Int→Prop):Ez p0 K=K r0:=
 Aac ⟨fun k=>cJ (XK [] gK) (as:=[(.data p0)]) (x:=(ic r0)) (fun K' k'=>h (fun r0=>K' (ic r0)) k') (K:=fun x=>match x with | (ic r0)=>K r0 | _=>False) k,h K⟩
theorem pi (p0 p1:Ls) (r0:Bool) (h:∀ K:Bool→Prop,K r0→ycA p0 p1 K) (K:Bool→Prop):ycA p0 p1 K=K r0:=
 Aac ⟨fun k=>cJ (XS [] gK) (as:=[(.data p0),(.data p1)]) (x:=(.bool r0)) (fun K' k'=>h (fun r0=>K' (.bool r0)) k') (K:=fun x=>match x with | (.bool r0)=>K r0 | _=>False) k,h K⟩
def QT (a0:wS) (a1:iP) (b c:Ls) (K:Bool→Prop):Prop:=
 (jn (fun (a:Bool→Prop)=>(a0 b (fun d=>(aD (!d) (aD (decide ((((length c):Nat):Int)≤20)) (a1 b c (fun e=>(a (e==0)))) (a false)) (a false))))) K)
def EB:BL:=QT Ew QP
def pj (e:Es) (a0:wS) (a1:iP):SE:=sE (E e) [(FS,Em.pw a0),(FX,Er.pw a1)] dC
theorem pk (e:Es) (a0 a1):bQ (pj e a0 a1) 6 MT wW (QT a0 a1):=fun _ _=>by kernel_rfl
theorem XT (e:Es) (he:EG e):bG (E e) (wW.pw EB) FY:=bS he (pk e _ _) (bN (aJ.uni _) ⟨(XG e he),(ov e he),trivial⟩ trivial he.ok) bF.flat (bC (by kernel_rfl))
abbrev QU:Type:=(Ls→Prop)→Prop
def XU (K:Ls→Prop):Prop:=
 (K ([(.agg [(ic 4),(.data ([(ic 0),(ic 4)]:Ls)),(.data ([(ic 1)]:Ls))]),(.agg [(ic 4),(.data ([(ic 0),(ic 1),(ic 4)]:Ls)),(.data ([(ic 3),(ic 1)]:Ls))])]:Ls))
def yqM:QU:=XU
end Go.Pf.Vc
