/- The functions that the statement BoundsNames runs, in the small code (part 3); each is what the framework makes of the program. -/
import Derived.Test.YtlooeiaiafmikaaGreatDoorBnW3
import Derived.Test.YtlooeiaiafmikaaGreatDoorRows
namespace Go.Proofs.YtlooeiaiafmikaaGreatDoor.Bn
open Go Go.Pf
-- slices.pdqsortCmpFunc[parcener/api.Span]
def yku:AFn:=⟨5,[],
 (.seq
 (.ops [⟨some 10,(.mv (.c (.bool true))),none⟩]
 [] [])
 (.seq
 (.ops [⟨some 11,(.mv (.c (.bool true))),none⟩]
 [] [])
 (.block 0
 (.loop
 (.block 1
 (.seq
 (.ops [⟨some 21,(.mv (.t 2)),none⟩,
 ⟨some 22,(.mv (.t 1)),none⟩,
 ⟨some 23,(.bin .sub (.t 21) (.t 22)),none⟩,
 ⟨some 12,(.mv (.t 23)),none⟩]
 [] [21,22,23])
 (.seq
 (.seq
 (.ops [⟨some 24,(.mv (.t 12)),none⟩,
 ⟨some 25,(.bin .leq (.t 24) (.c (.int .i64 (12)))),none⟩]
 [] [24])
 (.cond (.t 25)
 (.seq
 (.ops [⟨some 26,(.mv (.t 0)),none⟩,
 ⟨some 27,(.mv (.t 1)),none⟩,
 ⟨some 28,(.mv (.t 2)),none⟩,
 ⟨some 29,(.mv (.t 4)),none⟩,
 ⟨some 30,(.call (.f 169) [(.t 26),(.t 27),(.t 28),(.t 29)]),none⟩]
 [] [0,1,2,3,4,10,11,12,25,26,27,28,29,30])
 .ret)
 .skip))
 (.seq
 (.seq
 (.ops [⟨some 31,(.mv (.t 3)),none⟩,
 ⟨some 32,(.bin .eql (.t 31) (.c (.int .i64 (0)))),none⟩]
 [] [25,31])
 (.cond (.t 32)
 (.seq
 (.ops [⟨some 33,(.mv (.t 0)),none⟩,
 ⟨some 34,(.mv (.t 1)),none⟩,
 ⟨some 35,(.mv (.t 2)),none⟩,
 ⟨some 36,(.mv (.t 4)),none⟩,
 ⟨some 37,(.call (.f 170) [(.t 33),(.t 34),(.t 35),(.t 36)]),none⟩]
 [] [0,1,2,3,4,10,11,12,32,33,34,35,36,37])
 .ret)
 .skip))
 (.seq
 (.seq
 (.ops [⟨some 38,(.mv (.t 10)),none⟩,
 ⟨some 39,(.un .not (.t 38)),none⟩]
 [] [32,38])
 (.cond (.t 39)
 (.seq
 (.ops [⟨some 40,(.mv (.t 0)),none⟩,
 ⟨some 41,(.mv (.t 1)),none⟩,
 ⟨some 42,(.mv (.t 2)),none⟩,
 ⟨some 43,(.mv (.t 4)),none⟩,
 ⟨some 44,(.call (.f 171) [(.t 40),(.t 41),(.t 42),(.t 43)]),none⟩]
 [] [39,40,41,42,43,44])
 (.ops [⟨some 45,(.mv (.t 3)),none⟩,
 ⟨some 46,(.bin .sub (.t 45) (.c (.int .i64 (1)))),none⟩,
 ⟨some 3,(.mv (.t 46)),none⟩]
 [] [45,46]))
 .skip))
 (.seq
 (.ops [⟨some 48,(.mv (.t 0)),none⟩,
 ⟨some 49,(.mv (.t 1)),none⟩,
 ⟨some 50,(.mv (.t 2)),none⟩,
 ⟨some 51,(.mv (.t 4)),none⟩,
 ⟨some 52,(.call (.f 172) [(.t 48),(.t 49),(.t 50),(.t 51)]),none⟩,
 ⟨some 47,(.mv (.t 52)),none⟩,
 ⟨some 53,(.ext (.t 47) 0),none⟩,
 ⟨some 54,(.ext (.t 47) 1),none⟩,
 ⟨some 13,(.mv (.t 53)),none⟩,
 ⟨some 14,(.mv (.t 54)),none⟩]
 [] [39,47,48,49,50,51,52,53,54])
 (.seq
 (.seq
 (.ops [⟨some 55,(.mv (.t 14)),none⟩,
 ⟨some 56,(.bin .eql (.t 55) (.c (.int .i64 (2)))),none⟩]
 [] [55])
 (.cond (.t 56)
 (.seq
 (.ops [⟨some 57,(.mv (.t 0)),none⟩,
 ⟨some 58,(.mv (.t 1)),none⟩,
 ⟨some 59,(.mv (.t 2)),none⟩,
 ⟨some 60,(.mv (.t 4)),none⟩,
 ⟨some 61,(.call (.f 173) [(.t 57),(.t 58),(.t 59),(.t 60)]),none⟩]
 [] [14,56,57,58,59,60,61])
 (.seq
 (.ops [⟨some 62,(.mv (.t 2)),none⟩,
 ⟨some 63,(.bin .sub (.t 62) (.c (.int .i64 (1)))),none⟩,
 ⟨some 64,(.mv (.t 13)),none⟩,
 ⟨some 65,(.mv (.t 1)),none⟩,
 ⟨some 66,(.bin .sub (.t 64) (.t 65)),none⟩,
 ⟨some 67,(.bin .sub (.t 63) (.t 66)),none⟩,
 ⟨some 13,(.mv (.t 67)),none⟩]
 [] [62,63,64,65,66,67])
 (.ops [⟨some 14,(.mv (.c (.int .i64 (1)))),none⟩]
 [] [])))
 .skip))
 (.seq
 (.seq
 (.ops [⟨some 68,(.mv (.t 10)),none⟩,
 ⟨some 69,(.mv (.t 68)),none⟩,
 ⟨some 70,(.mv (.t 11)),some (69,true)⟩,
 ⟨some 71,(.pick (.t 69) (.t 70) (.c (.bool false))),none⟩,
 ⟨some 72,(.mv (.t 71)),none⟩,
 ⟨some 73,(.mv (.t 14)),some (72,true)⟩,
 ⟨some 74,(.bin .eql (.t 73) (.c (.int .i64 (1)))),some (72,true)⟩,
 ⟨some 75,(.pick (.t 72) (.t 74) (.c (.bool false))),none⟩]
 [] [14,56,68,69,70,71,72,73,74])
 (.cond (.t 75)
 (.seq
 (.ops [⟨some 76,(.mv (.t 0)),none⟩,
 ⟨some 77,(.mv (.t 1)),none⟩,
 ⟨some 78,(.mv (.t 2)),none⟩,
 ⟨some 79,(.mv (.t 4)),none⟩,
 ⟨some 80,(.call (.f 174) [(.t 76),(.t 77),(.t 78),(.t 79)]),none⟩]
 [] [75,76,77,78,79])
 (.cond (.t 80)
 .ret
 .skip))
 .skip))
 (.seq
 (.seq
 (.ops [⟨some 81,(.mv (.t 1)),none⟩,
 ⟨some 82,(.bin .gtr (.t 81) (.c (.int .i64 (0)))),none⟩,
 ⟨some 83,(.mv (.t 82)),none⟩,
 ⟨some 84,(.mv (.t 4)),some (83,true)⟩,
 ⟨some 85,(.mv (.t 0)),some (83,true)⟩,
 ⟨some 86,(.mv (.t 1)),some (83,true)⟩,
 ⟨some 87,(.bin .sub (.t 86) (.c (.int .i64 (1)))),some (83,true)⟩,
 ⟨some 88,(.iad 4 (.t 85) (.t 87)),some (83,true)⟩,
 ⟨some 89,(.load true 4 (.t 88)),some (83,true)⟩,
 ⟨some 90,(.mv (.t 0)),some (83,true)⟩,
 ⟨some 91,(.mv (.t 13)),some (83,true)⟩,
 ⟨some 92,(.iad 4 (.t 90) (.t 91)),some (83,true)⟩,
 ⟨some 93,(.load true 4 (.t 92)),some (83,true)⟩,
 ⟨some 94,(.call (.t 84) [(.t 89),(.t 93)]),some (83,true)⟩,
 ⟨some 95,(.bin .lss (.t 94) (.c (.int .i64 (0)))),some (83,true)⟩,
 ⟨some 96,(.un .not (.t 95)),some (83,true)⟩,
 ⟨some 97,(.pick (.t 83) (.t 96) (.c (.bool false))),none⟩]
 [(3,4),(3,5),(4,5),(3,6),(4,6),(3,7),(3,8),(3,9),(4,9),(5,9),(6,9),(7,9),(8,9),(3,10),(4,10),(5,10),(6,10),(7,10),(8,10),(9,10),(3,11),(4,11),(5,11),(6,11),(7,11),(8,11),(3,12),(4,12),(5,12),(6,12),(7,12),(8,12)] [75,80,81,82,83,84,85,86,87,88,89,90,91,92,93,94,95,96])
 (.cond (.t 97)
 (.seq
 (.ops [⟨some 98,(.mv (.t 0)),none⟩,
 ⟨some 99,(.mv (.t 1)),none⟩,
 ⟨some 100,(.mv (.t 2)),none⟩,
 ⟨some 101,(.mv (.t 13)),none⟩,
 ⟨some 102,(.mv (.t 4)),none⟩,
 ⟨some 103,(.call (.f 175) [(.t 98),(.t 99),(.t 100),(.t 101),(.t 102)]),none⟩,
 ⟨some 15,(.mv (.t 103)),none⟩]
 [] [1,12,13,97,98,99,100,101,102,103])
 (.seq
 (.ops [⟨some 104,(.mv (.t 15)),none⟩,
 ⟨some 1,(.mv (.t 104)),none⟩]
 [] [15,104])
 (.exit 1)))
 .skip))
 (.seq
 (.ops [⟨some 106,(.mv (.t 0)),none⟩,
 ⟨some 107,(.mv (.t 1)),none⟩,
 ⟨some 108,(.mv (.t 2)),none⟩,
 ⟨some 109,(.mv (.t 13)),none⟩,
 ⟨some 110,(.mv (.t 4)),none⟩,
 ⟨some 111,(.call (.f 176) [(.t 106),(.t 107),(.t 108),(.t 109),(.t 110)]),none⟩,
 ⟨some 105,(.mv (.t 111)),none⟩,
 ⟨some 112,(.ext (.t 105) 0),none⟩,
 ⟨some 113,(.ext (.t 105) 1),none⟩,
 ⟨some 16,(.mv (.t 112)),none⟩,
 ⟨some 17,(.mv (.t 113)),none⟩]
 [] [10,11,13,97,105,106,107,108,109,110,111,112,113])
 (.seq
 (.ops [⟨some 114,(.mv (.t 17)),none⟩,
 ⟨some 11,(.mv (.t 114)),none⟩]
 [] [17,114])
 (.seq
 (.ops [⟨some 115,(.mv (.t 16)),none⟩,
 ⟨some 116,(.mv (.t 1)),none⟩,
 ⟨some 117,(.bin .sub (.t 115) (.t 116)),none⟩,
 ⟨some 118,(.mv (.t 2)),none⟩,
 ⟨some 119,(.mv (.t 16)),none⟩,
 ⟨some 120,(.bin .sub (.t 118) (.t 119)),none⟩,
 ⟨some 18,(.mv (.t 117)),none⟩,
 ⟨some 19,(.mv (.t 120)),none⟩]
 [] [115,116,117,118,119,120])
 (.seq
 (.ops [⟨some 121,(.mv (.t 12)),none⟩,
 ⟨some 122,(.bin .quo (.t 121) (.c (.int .i64 (8)))),none⟩,
 ⟨some 20,(.mv (.t 122)),none⟩]
 [] [12,121,122])
 (.seq
 (.ops [⟨some 123,(.mv (.t 18)),none⟩,
 ⟨some 124,(.mv (.t 19)),none⟩,
 ⟨some 125,(.bin .lss (.t 123) (.t 124)),none⟩]
 [] [123,124])
 (.cond (.t 125)
 (.seq
 (.ops [⟨some 126,(.mv (.t 18)),none⟩,
 ⟨some 127,(.mv (.t 20)),none⟩,
 ⟨some 128,(.bin .geq (.t 126) (.t 127)),none⟩,
 ⟨some 10,(.mv (.t 128)),none⟩]
 [] [18,19,20,125,126,127,128])
 (.seq
 (.ops [⟨some 129,(.mv (.t 0)),none⟩,
 ⟨some 130,(.mv (.t 1)),none⟩,
 ⟨some 131,(.mv (.t 16)),none⟩,
 ⟨some 132,(.mv (.t 3)),none⟩,
 ⟨some 133,(.mv (.t 4)),none⟩,
 ⟨some 134,(.call (.f 159) [(.t 129),(.t 130),(.t 131),(.t 132),(.t 133)]),none⟩]
 [] [1,129,130,131,132,133,134])
 (.ops [⟨some 135,(.mv (.t 16)),none⟩,
 ⟨some 136,(.bin .add (.t 135) (.c (.int .i64 (1)))),none⟩,
 ⟨some 1,(.mv (.t 136)),none⟩]
 [] [16,135,136])))
 (.seq
 (.ops [⟨some 137,(.mv (.t 19)),none⟩,
 ⟨some 138,(.mv (.t 20)),none⟩,
 ⟨some 139,(.bin .geq (.t 137) (.t 138)),none⟩,
 ⟨some 10,(.mv (.t 139)),none⟩]
 [] [18,19,20,125,137,138,139])
 (.seq
 (.ops [⟨some 140,(.mv (.t 0)),none⟩,
 ⟨some 141,(.mv (.t 16)),none⟩,
 ⟨some 142,(.bin .add (.t 141) (.c (.int .i64 (1)))),none⟩,
 ⟨some 143,(.mv (.t 2)),none⟩,
 ⟨some 144,(.mv (.t 3)),none⟩,
 ⟨some 145,(.mv (.t 4)),none⟩,
 ⟨some 146,(.call (.f 159) [(.t 140),(.t 142),(.t 143),(.t 144),(.t 145)]),none⟩]
 [] [2,140,141,142,143,144,145,146])
 (.ops [⟨some 147,(.mv (.t 16)),none⟩,
 ⟨some 2,(.mv (.t 147)),none⟩]
 [] [16,147]))))))))))))))))))))))⟩
def ypN:List Nat:=[]
def ysh:List (Nat×List Nat):=[(30,[16,147]),(29,[2,140,141,142,143,144,145,146]),(28,[18,19,20,125,137,138,139]),(27,[16,135,136]),(26,[1,129,130,131,132,133,134]),(25,[18,19,20,125,126,127,128]),(24,[123,124]),(23,[12,121,122]),(22,[115,116,117,118,119,120]),(21,[17,114]),(20,[10,11,13,97,105,106,107,108,109,110,111,112,113]),(19,[15,104]),(18,[1,12,13,97,98,99,100,101,102,103]),(17,[75,80,81,82,83,84,85,86,87,88,89,90,91,92,93,94,95,96]),(16,[75,76,77,78,79]),(15,[14,56,68,69,70,71,72,73,74]),(13,[62,63,64,65,66,67]),(12,[14,56,57,58,59,60,61]),(11,[55]),(10,[39,47,48,49,50,51,52,53,54]),(9,[45,46]),(8,[39,40,41,42,43,44]),(7,[32,38]),(6,[0,1,2,3,4,10,11,12,32,33,34,35,36,37]),(5,[25,31]),(4,[0,1,2,3,4,10,11,12,25,26,27,28,29,30]),(3,[24]),(2,[21,22,23])]
theorem ylK:yaa Tryz.prog ypN (fun i=>(ysh.lookup i).getD []) Tryz.f159=some yku:=by kernel_rfl

-- slices.AppendSeq[[]int,int]
def ykv:AFn:=⟨2,[.tmp 4],
 (.seq
 (.ops [⟨some 2,(.boxH false 1 (.t 0)),none⟩,
 ⟨some 4,(.mv (.c .nils)),none⟩]
 [] [0])
 (.seq
 (.seq
 (.ops [⟨some 6,(.mv (.t 1)),none⟩]
 [] [1])
 (.block 0
 (.rangeF (.t 6) [7]
 (.ops [⟨some 5,(.mv (.t 7)),none⟩]
 [] [4,6,7])
 (.block 1
 (.ops [⟨some 8,(.load false 1 (.t 2)),none⟩,
 ⟨some 9,(.mv (.t 5)),none⟩,
 ⟨some 10,(.buildD 1 (.int .i64 (0)) 1 [(0,(.t 9))]),none⟩,
 ⟨some 11,(.app true 1 8 (.t 8) (.t 10)),none⟩,
 ⟨none,(.store 1 (.t 2) (.t 11)),none⟩]
 [] [2,5,8,9,10,11])))))
 (.seq
 (.ops [⟨some 12,(.load false 1 (.t 2)),none⟩,
 ⟨some 4,(.mv (.t 12)),none⟩]
 [] [2,6,12])
 .ret)))⟩
def ypO:List Nat:=[10,1000002]
def ysi:List (Nat×List Nat):=[(4,[2,6,12]),(3,[2,5,8,9,10,11]),(2,[4,6,7]),(1,[1]),(0,[0])]
theorem ylL:yaa Tryz.prog ypO (fun i=>(ysi.lookup i).getD []) Tryz.f160=some ykv:=by kernel_rfl

-- cmp.isNaN[int]
def ykw:AFn:=⟨1,[.tmp 2],
 (.seq
 (.ops [⟨some 2,(.mv (.c (.bool false))),none⟩]
 [] [2])
 (.seq
 (.ops [⟨some 3,(.mv (.t 0)),none⟩,
 ⟨some 4,(.mv (.t 0)),none⟩,
 ⟨some 5,(.bin .neq (.t 3) (.t 4)),none⟩,
 ⟨some 2,(.mv (.t 5)),none⟩]
 [] [0,3,4,5])
 .ret))⟩
def ypP:List Nat:=[]
def ysj:List (Nat×List Nat):=[(1,[0,3,4,5]),(0,[2])]
theorem ylM:yaa Tryz.prog ypP (fun i=>(ysj.lookup i).getD []) Tryz.f167=some ykw:=by kernel_rfl

-- slices.insertionSortCmpFunc[parcener/api.Span]
def ykx:AFn:=⟨4,[],
 (.seq
 (.ops [⟨some 10,(.mv (.t 1)),none⟩,
 ⟨some 11,(.bin .add (.t 10) (.c (.int .i64 (1)))),none⟩,
 ⟨some 8,(.mv (.t 11)),none⟩]
 [] [10,11])
 (.block 0
 (.loop
 (.seq
 (.seq
 (.ops [⟨some 12,(.mv (.t 8)),none⟩,
 ⟨some 13,(.mv (.t 2)),none⟩,
 ⟨some 14,(.bin .lss (.t 12) (.t 13)),none⟩]
 [] [12,13])
 (.cond (.t 14)
 .skip
 (.exit 0)))
 (.seq
 (.block 1
 (.seq
 (.ops [⟨some 17,(.mv (.t 8)),none⟩,
 ⟨some 9,(.mv (.t 17)),none⟩]
 [] [14,17])
 (.block 2
 (.loop
 (.seq
 (.seq
 (.ops [⟨some 18,(.mv (.t 9)),none⟩,
 ⟨some 19,(.mv (.t 1)),none⟩,
 ⟨some 20,(.bin .gtr (.t 18) (.t 19)),none⟩,
 ⟨some 21,(.mv (.t 20)),none⟩,
 ⟨some 22,(.mv (.t 3)),some (21,true)⟩,
 ⟨some 23,(.mv (.t 0)),some (21,true)⟩,
 ⟨some 24,(.mv (.t 9)),some (21,true)⟩,
 ⟨some 25,(.iad 4 (.t 23) (.t 24)),some (21,true)⟩,
 ⟨some 26,(.load true 4 (.t 25)),some (21,true)⟩,
 ⟨some 27,(.mv (.t 0)),some (21,true)⟩,
 ⟨some 28,(.mv (.t 9)),some (21,true)⟩,
 ⟨some 29,(.bin .sub (.t 28) (.c (.int .i64 (1)))),some (21,true)⟩,
 ⟨some 30,(.iad 4 (.t 27) (.t 29)),some (21,true)⟩,
 ⟨some 31,(.load true 4 (.t 30)),some (21,true)⟩,
 ⟨some 32,(.call (.t 22) [(.t 26),(.t 31)]),some (21,true)⟩,
 ⟨some 33,(.bin .lss (.t 32) (.c (.int .i64 (0)))),some (21,true)⟩,
 ⟨some 34,(.pick (.t 21) (.t 33) (.c (.bool false))),none⟩]
 [(0,1),(4,5),(4,6),(5,6),(4,7),(4,8),(4,9),(5,9),(6,9),(7,9),(8,9),(4,10),(5,10),(6,10),(7,10),(8,10),(9,10),(4,11),(5,11),(6,11),(7,11),(8,11),(9,11),(4,12),(5,12),(6,12),(7,12),(8,12),(4,13),(5,13),(6,13),(7,13),(8,13)] [18,19,20,21,22,23,24,25,26,27,28,29,30,31,32,33])
 (.cond (.t 34)
 .skip
 (.exit 2)))
 (.seq
 (.block 3
 (.ops [⟨some 37,(.mv (.t 0)),none⟩,
 ⟨some 38,(.mv (.t 9)),none⟩,
 ⟨some 39,(.mv (.t 0)),none⟩,
 ⟨some 40,(.mv (.t 9)),none⟩,
 ⟨some 41,(.bin .sub (.t 40) (.c (.int .i64 (1)))),none⟩,
 ⟨some 42,(.mv (.t 0)),none⟩,
 ⟨some 43,(.mv (.t 9)),none⟩,
 ⟨some 44,(.bin .sub (.t 43) (.c (.int .i64 (1)))),none⟩,
 ⟨some 45,(.iad 4 (.t 42) (.t 44)),none⟩,
 ⟨some 46,(.load true 4 (.t 45)),none⟩,
 ⟨some 47,(.mv (.t 0)),none⟩,
 ⟨some 48,(.mv (.t 9)),none⟩,
 ⟨some 49,(.iad 4 (.t 47) (.t 48)),none⟩,
 ⟨some 50,(.load true 4 (.t 49)),none⟩,
 ⟨some 51,(.iad 4 (.t 37) (.t 38)),none⟩,
 ⟨none,(.store 4 (.t 51) (.t 46)),none⟩,
 ⟨some 52,(.iad 4 (.t 39) (.t 41)),none⟩,
 ⟨none,(.store 4 (.t 52) (.t 50)),none⟩]
 [(0,1),(0,2),(1,2),(0,3),(1,3),(2,3),(0,4),(1,4),(2,4),(0,5),(1,5),(2,5),(3,5),(4,5),(0,6),(1,6),(2,6),(3,6),(4,6),(5,6),(0,7),(1,7),(2,7),(3,7),(4,7),(5,7),(0,8),(1,8),(2,8),(3,8),(4,8),(0,9),(1,9),(2,9),(3,9),(4,9),(0,10),(1,10),(2,10),(3,10),(4,10),(5,10),(6,10),(7,10),(8,10),(9,10),(0,11),(1,11),(2,11),(3,11),(4,11),(5,11),(6,11),(7,11),(8,11),(9,11),(10,11),(0,12),(1,12),(2,12),(3,12),(4,12),(5,12),(6,12),(7,12),(8,12),(9,12),(0,13),(1,13),(2,13),(3,13),(4,13),(5,13),(6,13),(7,13),(8,13),(9,13),(2,14),(3,14),(4,14),(2,15),(3,15),(4,15)] [34,37,38,39,40,41,42,43,44,45,46,47,48,49,50,51,52]))
 (.ops [⟨some 35,(.mv (.t 9)),none⟩,
 ⟨some 36,(.bin .sub (.t 35) (.c (.int .i64 (1)))),none⟩,
 ⟨some 9,(.mv (.t 36)),none⟩]
 [] [35,36])))))))
 (.ops [⟨some 15,(.mv (.t 8)),none⟩,
 ⟨some 16,(.bin .add (.t 15) (.c (.int .i64 (1)))),none⟩,
 ⟨some 8,(.mv (.t 16)),none⟩]
 [] [9,15,16,34]))))))⟩
def ypQ:List Nat:=[]
def ysk:List (Nat×List Nat):=[(2,[9,15,16,34]),(5,[35,36]),(6,[34,37,38,39,40,41,42,43,44,45,46,47,48,49,50,51,52]),(4,[18,19,20,21,22,23,24,25,26,27,28,29,30,31,32,33]),(3,[14,17]),(1,[12,13]),(0,[10,11])]
theorem ylN:yaa Tryz.prog ypQ (fun i=>(ysk.lookup i).getD []) Tryz.f169=some ykx:=by kernel_rfl

def tab3:List (Nat×AFn):=[(159,yku),(160,ykv),(167,ykw),(169,ykx)]
theorem ypR:yc1 Tryz.prog tab3:=⟨⟨_,_,_,Tryz.func159,ylK⟩,⟨_,_,_,Tryz.func160,ylL⟩,⟨_,_,_,Tryz.func167,ylM⟩,⟨_,_,_,Tryz.func169,ylN⟩,trivial⟩
end Go.Proofs.YtlooeiaiafmikaaGreatDoor.Bn
