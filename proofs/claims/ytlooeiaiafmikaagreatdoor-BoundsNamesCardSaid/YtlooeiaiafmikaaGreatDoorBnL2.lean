/- The functions that the statement BoundsNames runs, in the small code (part 2); each is what the framework makes of the program. -/
import Derived.Test.YtlooeiaiafmikaaGreatDoorBnW3
import Derived.Test.YtlooeiaiafmikaaGreatDoorRows
namespace Go.Proofs.YtlooeiaiafmikaaGreatDoor.Bn
open Go Go.Pf
-- (*parcener/equal.seat).end
def ynb:AFn:=⟨2,[.cell 4 true 4],
 (.seq
 (.ops [⟨some 3,(.boxL (.t 1)),none⟩,
 ⟨some 4,(.allocL (.agg [(.int .i64 (0)),(.int .i64 (0)),(.int .i64 (0)),(.int .i64 (0))])),none⟩]
 [] [1])
 (.seq
 (.ops [⟨some 11,(.mv (.t 0)),none⟩,
 ⟨some 12,(.nilchk (.t 11)),none⟩,
 ⟨some 13,(.fad 0 (.t 12)),none⟩,
 ⟨some 14,(.fad 2 (.t 13)),none⟩,
 ⟨some 15,(.load false 1 (.t 14)),none⟩,
 ⟨some 16,(.mv (.t 0)),none⟩,
 ⟨some 17,(.nilchk (.t 16)),none⟩,
 ⟨some 18,(.fad 5 (.t 17)),none⟩,
 ⟨some 19,(.load false 1 (.t 18)),none⟩,
 ⟨some 20,(.iad 1 (.t 15) (.t 19)),none⟩,
 ⟨some 21,(.load false 1 (.t 20)),none⟩,
 ⟨some 22,(.call (.f 53) [(.t 21)]),none⟩,
 ⟨some 23,(.mv (.t 0)),none⟩,
 ⟨some 24,(.nilchk (.t 23)),none⟩,
 ⟨some 25,(.fad 0 (.t 24)),none⟩,
 ⟨some 26,(.fad 2 (.t 25)),none⟩,
 ⟨some 27,(.load false 1 (.t 26)),none⟩,
 ⟨some 28,(.mv (.t 0)),none⟩,
 ⟨some 29,(.nilchk (.t 28)),none⟩,
 ⟨some 30,(.fad 6 (.t 29)),none⟩,
 ⟨some 31,(.load false 1 (.t 30)),none⟩,
 ⟨some 32,(.iad 1 (.t 27) (.t 31)),none⟩,
 ⟨some 33,(.load false 1 (.t 32)),none⟩,
 ⟨some 34,(.call (.f 53) [(.t 33)]),none⟩,
 ⟨some 5,(.allocL (.agg [(.int .i64 (0)),(.int .i64 (0))])),none⟩,
 ⟨some 6,(.allocL (.agg [(.int .i64 (0)),(.int .i64 (0))])),none⟩,
 ⟨none,(.store 2 (.t 5) (.t 22)),none⟩,
 ⟨none,(.store 2 (.t 6) (.t 34)),none⟩]
 [(0,5),(1,5),(2,5),(3,5),(4,5),(0,6),(1,6),(2,6),(3,6),(4,6),(0,7),(1,7),(2,7),(3,7),(4,7),(0,8),(1,8),(2,8),(3,8),(4,8),(0,12),(1,12),(2,12),(3,12),(4,12),(5,12),(6,12),(7,12),(8,12),(9,12),(10,12),(11,12),(0,13),(1,13),(2,13),(3,13),(4,13),(5,13),(6,13),(7,13),(8,13),(9,13),(10,13),(11,13),(0,14),(1,14),(2,14),(3,14),(4,14),(5,14),(6,14),(7,14),(8,14),(9,14),(10,14),(11,14),(0,15),(1,15),(2,15),(3,15),(4,15),(5,15),(6,15),(7,15),(8,15),(9,15),(10,15),(11,15),(0,16),(1,16),(2,16),(3,16),(4,16),(5,16),(6,16),(7,16),(8,16),(9,16),(10,16),(11,16),(0,17),(1,17),(2,17),(3,17),(4,17),(5,17),(6,17),(7,17),(8,17),(9,17),(10,17),(11,17),(12,17),(13,17),(14,17),(15,17),(16,17),(0,18),(1,18),(2,18),(3,18),(4,18),(5,18),(6,18),(7,18),(8,18),(9,18),(10,18),(11,18),(12,18),(13,18),(14,18),(15,18),(16,18),(0,19),(1,19),(2,19),(3,19),(4,19),(5,19),(6,19),(7,19),(8,19),(9,19),(10,19),(11,19),(12,19),(13,19),(14,19),(15,19),(16,19),(0,20),(1,20),(2,20),(3,20),(4,20),(5,20),(6,20),(7,20),(8,20),(9,20),(10,20),(11,20),(12,20),(13,20),(14,20),(15,20),(16,20),(0,21),(1,21),(2,21),(3,21),(4,21),(5,21),(6,21),(7,21),(8,21),(9,21),(10,21),(11,21),(0,22),(1,22),(2,22),(3,22),(4,22),(5,22),(6,22),(7,22),(8,22),(9,22),(10,22),(11,22),(0,24),(1,24),(2,24),(3,24),(4,24),(5,24),(6,24),(7,24),(8,24),(9,24),(10,24),(11,24),(12,24),(13,24),(14,24),(15,24),(16,24),(17,24),(18,24),(19,24),(20,24),(21,24),(22,24),(23,24),(0,25),(1,25),(2,25),(3,25),(4,25),(5,25),(6,25),(7,25),(8,25),(9,25),(10,25),(11,25),(12,25),(13,25),(14,25),(15,25),(16,25),(17,25),(18,25),(19,25),(20,25),(21,25),(22,25),(23,25),(24,25)] [11,12,13,14,15,16,17,18,19,20,21,22,23,24,25,26,27,28,29,30,31,32,33,34])
 (.seq
 (.ops [⟨some 36,(.fad 0 (.t 3)),none⟩,
 ⟨some 37,(.load true 2 (.t 36)),none⟩,
 ⟨some 38,(.mv (.t 0)),none⟩,
 ⟨some 39,(.nilchk (.t 38)),none⟩,
 ⟨some 40,(.fad 0 (.t 39)),none⟩,
 ⟨some 41,(.fad 1 (.t 40)),none⟩,
 ⟨some 42,(.load false 1 (.t 41)),none⟩,
 ⟨some 43,(.mv (.t 0)),none⟩,
 ⟨some 44,(.nilchk (.t 43)),none⟩,
 ⟨some 45,(.fad 5 (.t 44)),none⟩,
 ⟨some 46,(.load false 1 (.t 45)),none⟩,
 ⟨some 47,(.iad 1 (.t 42) (.t 46)),none⟩,
 ⟨some 48,(.load false 1 (.t 47)),none⟩,
 ⟨some 49,(.call (.f 53) [(.t 48)]),none⟩,
 ⟨some 50,(.call (.f 79) [(.t 37),(.t 49)]),none⟩,
 ⟨some 35,(.mv (.t 50)),none⟩,
 ⟨some 51,(.ext (.t 35) 0),none⟩,
 ⟨some 52,(.ext (.t 35) 1),none⟩,
 ⟨some 7,(.allocL (.agg [(.int .i64 (0)),(.int .i64 (0))])),none⟩,
 ⟨none,(.store 2 (.t 7) (.t 51)),none⟩,
 ⟨some 8,(.mv (.t 52)),none⟩]
 [(0,2),(1,2),(0,3),(1,3),(0,4),(1,4),(0,5),(1,5),(0,6),(1,6),(0,7),(1,7),(2,7),(3,7),(4,7),(5,7),(6,7),(0,8),(1,8),(2,8),(3,8),(4,8),(5,8),(6,8),(0,9),(1,9),(2,9),(3,9),(4,9),(5,9),(6,9),(0,10),(1,10),(2,10),(3,10),(4,10),(5,10),(6,10),(0,11),(1,11),(0,12),(1,12),(0,13),(1,13),(16,17),(0,18),(1,18),(2,18),(3,18),(4,18),(5,18),(6,18),(7,18),(8,18),(9,18),(10,18),(11,18),(12,18),(13,18),(14,18),(15,18),(16,18),(17,18),(17,19)] [8,35,36,37,38,39,40,41,42,43,44,45,46,47,48,49,50,51,52])
 (.seq
 (.ops [⟨some 54,(.load true 2 (.t 7)),none⟩,
 ⟨some 55,(.load true 2 (.t 5)),none⟩,
 ⟨some 56,(.call (.f 101) [(.t 54),(.t 55)]),none⟩,
 ⟨some 53,(.mv (.t 56)),none⟩,
 ⟨some 57,(.ext (.t 53) 0),none⟩,
 ⟨some 58,(.ext (.t 53) 1),none⟩,
 ⟨none,(.store 2 (.t 7) (.t 57)),none⟩]
 [] [53,54,55,56,57,58])
 (.seq
 (.ops [⟨some 60,(.load true 2 (.t 7)),none⟩,
 ⟨some 61,(.mv (.t 0)),none⟩,
 ⟨some 62,(.nilchk (.t 61)),none⟩,
 ⟨some 63,(.fad 3 (.t 62)),none⟩,
 ⟨some 64,(.load false 1 (.t 63)),none⟩,
 ⟨some 65,(.mv (.t 0)),none⟩,
 ⟨some 66,(.nilchk (.t 65)),none⟩,
 ⟨some 67,(.fad 5 (.t 66)),none⟩,
 ⟨some 68,(.load false 1 (.t 67)),none⟩,
 ⟨some 69,(.iad 1 (.t 64) (.t 68)),none⟩,
 ⟨some 70,(.load false 1 (.t 69)),none⟩,
 ⟨some 71,(.mv (.t 0)),none⟩,
 ⟨some 72,(.nilchk (.t 71)),none⟩,
 ⟨some 73,(.fad 3 (.t 72)),none⟩,
 ⟨some 74,(.load false 1 (.t 73)),none⟩,
 ⟨some 75,(.mv (.t 0)),none⟩,
 ⟨some 76,(.nilchk (.t 75)),none⟩,
 ⟨some 77,(.fad 6 (.t 76)),none⟩,
 ⟨some 78,(.load false 1 (.t 77)),none⟩,
 ⟨some 79,(.iad 1 (.t 74) (.t 78)),none⟩,
 ⟨some 80,(.load false 1 (.t 79)),none⟩,
 ⟨some 81,(.bin .sub (.t 70) (.t 80)),none⟩,
 ⟨some 82,(.call (.f 53) [(.t 81)]),none⟩,
 ⟨some 83,(.call (.f 122) [(.t 60),(.t 82)]),none⟩,
 ⟨some 59,(.mv (.t 83)),none⟩,
 ⟨some 84,(.ext (.t 59) 0),none⟩,
 ⟨some 85,(.ext (.t 59) 1),none⟩,
 ⟨none,(.store 2 (.t 7) (.t 84)),none⟩]
 [(0,1),(0,2),(0,3),(0,4),(0,5),(1,5),(2,5),(3,5),(4,5),(0,6),(1,6),(2,6),(3,6),(4,6),(0,7),(1,7),(2,7),(3,7),(4,7),(0,8),(1,8),(2,8),(3,8),(4,8),(0,9),(0,10),(0,11),(1,11),(2,11),(3,11),(4,11),(5,11),(6,11),(7,11),(8,11),(9,11),(10,11),(0,12),(1,12),(2,12),(3,12),(4,12),(5,12),(6,12),(7,12),(8,12),(9,12),(10,12),(0,13),(1,13),(2,13),(3,13),(4,13),(5,13),(6,13),(7,13),(8,13),(9,13),(10,13),(0,14),(1,14),(2,14),(3,14),(4,14),(5,14),(6,14),(7,14),(8,14),(9,14),(10,14),(0,15),(1,15),(2,15),(3,15),(4,15),(5,15),(6,15),(7,15),(8,15),(9,15),(10,15),(11,15),(12,15),(13,15),(14,15),(0,16),(1,16),(2,16),(3,16),(4,16),(5,16),(6,16),(7,16),(8,16),(9,16),(10,16),(11,16),(12,16),(13,16),(14,16),(0,17),(1,17),(2,17),(3,17),(4,17),(5,17),(6,17),(7,17),(8,17),(9,17),(10,17),(11,17),(12,17),(13,17),(14,17),(0,18),(1,18),(2,18),(3,18),(4,18),(5,18),(6,18),(7,18),(8,18),(9,18),(10,18),(11,18),(12,18),(13,18),(14,18),(0,19),(1,19),(2,19),(3,19),(4,19),(5,19),(6,19),(7,19),(8,19),(9,19),(10,19),(0,20),(1,20),(2,20),(3,20),(4,20),(5,20),(6,20),(7,20),(8,20),(9,20),(10,20),(0,21),(0,22),(25,26),(26,27)] [59,60,61,62,63,64,65,66,67,68,69,70,71,72,73,74,75,76,77,78,79,80,81,82,83,84,85])
 (.seq
 (.ops [⟨some 87,(.fad 2 (.t 3)),none⟩,
 ⟨some 88,(.load true 2 (.t 87)),none⟩,
 ⟨some 89,(.load true 2 (.t 5)),none⟩,
 ⟨some 90,(.call (.f 101) [(.t 88),(.t 89)]),none⟩,
 ⟨some 86,(.mv (.t 90)),none⟩,
 ⟨some 91,(.ext (.t 86) 0),none⟩,
 ⟨some 92,(.ext (.t 86) 1),none⟩,
 ⟨some 9,(.allocL (.agg [(.int .i64 (0)),(.int .i64 (0))])),none⟩,
 ⟨none,(.store 2 (.t 9) (.t 91)),none⟩,
 ⟨some 10,(.mv (.t 92)),none⟩]
 [] [3,5,10,86,87,88,89,90,91,92])
 (.seq
 (.ops [⟨some 94,(.load true 2 (.t 9)),none⟩,
 ⟨some 95,(.mv (.t 0)),none⟩,
 ⟨some 96,(.nilchk (.t 95)),none⟩,
 ⟨some 97,(.fad 4 (.t 96)),none⟩,
 ⟨some 98,(.load false 1 (.t 97)),none⟩,
 ⟨some 99,(.call (.f 53) [(.t 98)]),none⟩,
 ⟨some 100,(.call (.f 122) [(.t 94),(.t 99)]),none⟩,
 ⟨some 93,(.mv (.t 100)),none⟩,
 ⟨some 101,(.ext (.t 93) 0),none⟩,
 ⟨some 102,(.ext (.t 93) 1),none⟩,
 ⟨none,(.store 2 (.t 9) (.t 101)),none⟩]
 [(0,1),(0,2),(0,3),(0,4),(0,5),(8,9),(9,10)] [93,94,95,96,97,98,99,100,101,102])
 (.seq
 (.ops [⟨some 104,(.load true 2 (.t 7)),none⟩,
 ⟨some 105,(.load true 2 (.t 6)),none⟩,
 ⟨some 106,(.call (.f 132) [(.t 104),(.t 105)]),none⟩,
 ⟨some 103,(.mv (.t 106)),none⟩,
 ⟨some 107,(.ext (.t 103) 0),none⟩,
 ⟨some 108,(.ext (.t 103) 1),none⟩,
 ⟨none,(.store 2 (.t 7) (.t 107)),none⟩]
 [] [103,104,105,106,107,108])
 (.seq
 (.ops [⟨some 110,(.load true 2 (.t 7)),none⟩,
 ⟨some 111,(.mv (.t 0)),none⟩,
 ⟨some 112,(.nilchk (.t 111)),none⟩,
 ⟨some 113,(.fad 0 (.t 112)),none⟩,
 ⟨some 114,(.fad 1 (.t 113)),none⟩,
 ⟨some 115,(.load false 1 (.t 114)),none⟩,
 ⟨some 116,(.mv (.t 0)),none⟩,
 ⟨some 117,(.nilchk (.t 116)),none⟩,
 ⟨some 118,(.fad 6 (.t 117)),none⟩,
 ⟨some 119,(.load false 1 (.t 118)),none⟩,
 ⟨some 120,(.iad 1 (.t 115) (.t 119)),none⟩,
 ⟨some 121,(.load false 1 (.t 120)),none⟩,
 ⟨some 122,(.call (.f 53) [(.t 121)]),none⟩,
 ⟨some 123,(.call (.f 122) [(.t 110),(.t 122)]),none⟩,
 ⟨some 109,(.mv (.t 123)),none⟩,
 ⟨some 124,(.ext (.t 109) 0),none⟩,
 ⟨some 125,(.ext (.t 109) 1),none⟩,
 ⟨none,(.store 2 (.t 7) (.t 124)),none⟩]
 [(0,1),(0,2),(0,3),(0,4),(0,5),(0,6),(1,6),(2,6),(3,6),(4,6),(5,6),(0,7),(1,7),(2,7),(3,7),(4,7),(5,7),(0,8),(1,8),(2,8),(3,8),(4,8),(5,8),(0,9),(1,9),(2,9),(3,9),(4,9),(5,9),(0,10),(0,11),(0,12),(15,16),(16,17)] [0,109,110,111,112,113,114,115,116,117,118,119,120,121,122,123,124,125])
 (.seq
 (.ops [⟨some 127,(.load true 2 (.t 9)),none⟩,
 ⟨some 128,(.load true 2 (.t 6)),none⟩,
 ⟨some 129,(.call (.f 132) [(.t 127),(.t 128)]),none⟩,
 ⟨some 126,(.mv (.t 129)),none⟩,
 ⟨some 130,(.ext (.t 126) 0),none⟩,
 ⟨some 131,(.ext (.t 126) 1),none⟩,
 ⟨none,(.store 2 (.t 9) (.t 130)),none⟩]
 [] [6,126,127,128,129,130,131])
 (.seq
 (.ops [⟨some 132,(.load true 2 (.t 7)),none⟩,
 ⟨some 133,(.load true 2 (.t 9)),none⟩,
 ⟨some 134,(.build [(.int .i64 (0)),(.int .i64 (0)),(.int .i64 (0)),(.int .i64 (0))] [(0,2,(.t 132)),(2,2,(.t 133))]),none⟩,
 ⟨none,(.store 4 (.t 4) (.t 134)),none⟩]
 [] [7,9,132,133,134])
 .ret)))))))))))⟩
def yrm:List Nat:=[3,4,5,6,7,9]
def fg93:List (Nat×List Nat):=[(10,[7,9,132,133,134]),(9,[6,126,127,128,129,130,131]),(8,[0,109,110,111,112,113,114,115,116,117,118,119,120,121,122,123,124,125]),(7,[103,104,105,106,107,108]),(6,[93,94,95,96,97,98,99,100,101,102]),(5,[3,5,10,86,87,88,89,90,91,92]),(4,[59,60,61,62,63,64,65,66,67,68,69,70,71,72,73,74,75,76,77,78,79,80,81,82,83,84,85]),(3,[53,54,55,56,57,58]),(2,[8,35,36,37,38,39,40,41,42,43,44,45,46,47,48,49,50,51,52]),(1,[11,12,13,14,15,16,17,18,19,20,21,22,23,24,25,26,27,28,29,30,31,32,33,34]),(0,[1])]
theorem yoU:yaa Tryz.prog yrm (fun i=>(fg93.lookup i).getD []) Tryz.f93=some ynb:=by kernel_rfl

-- (parcener/equal.line).when
def ync:AFn:=⟨2,[.cell 4 true 2],
 (.seq
 (.ops [⟨some 2,(.boxL (.t 0)),none⟩,
 ⟨some 4,(.allocL (.agg [(.int .i64 (0)),(.int .i64 (0))])),none⟩]
 [] [0])
 (.seq
 (.ops [⟨some 10,(.mv (.t 1)),none⟩,
 ⟨some 11,(.call (.f 53) [(.t 10)]),none⟩,
 ⟨some 12,(.fad 0 (.t 2)),none⟩,
 ⟨some 13,(.load true 2 (.t 12)),none⟩,
 ⟨some 14,(.call (.f 79) [(.t 11),(.t 13)]),none⟩,
 ⟨some 9,(.mv (.t 14)),none⟩,
 ⟨some 15,(.ext (.t 9) 0),none⟩,
 ⟨some 16,(.ext (.t 9) 1),none⟩,
 ⟨some 5,(.allocL (.agg [(.int .i64 (0)),(.int .i64 (0))])),none⟩,
 ⟨none,(.store 2 (.t 5) (.t 15)),none⟩,
 ⟨some 6,(.mv (.t 16)),none⟩]
 [(0,2),(1,2),(0,3),(1,3),(6,7),(0,8),(1,8),(2,8),(3,8),(4,8),(5,8),(6,8),(7,8),(7,9)] [1,6,9,10,11,12,13,14,15,16])
 (.seq
 (.ops [⟨some 18,(.load true 2 (.t 5)),none⟩,
 ⟨some 19,(.fad 2 (.t 2)),none⟩,
 ⟨some 20,(.load true 2 (.t 19)),none⟩,
 ⟨some 21,(.call (.f 132) [(.t 18),(.t 20)]),none⟩,
 ⟨some 17,(.mv (.t 21)),none⟩,
 ⟨some 22,(.ext (.t 17) 0),none⟩,
 ⟨some 23,(.ext (.t 17) 1),none⟩,
 ⟨some 7,(.allocL (.agg [(.int .i64 (0)),(.int .i64 (0))])),none⟩,
 ⟨none,(.store 2 (.t 7) (.t 22)),none⟩,
 ⟨some 8,(.mv (.t 23)),none⟩]
 [] [2,5,8,17,18,19,20,21,22,23])
 (.seq
 (.ops [⟨some 24,(.load true 2 (.t 7)),none⟩,
 ⟨none,(.store 2 (.t 4) (.t 24)),none⟩]
 [] [7,24])
 .ret))))⟩
def yrn:List Nat:=[2,4,5,7]
def fg94:List (Nat×List Nat):=[(3,[7,24]),(2,[2,5,8,17,18,19,20,21,22,23]),(1,[1,6,9,10,11,12,13,14,15,16]),(0,[0])]
theorem yoV:yaa Tryz.prog yrn (fun i=>(fg94.lookup i).getD []) Tryz.f94=some ync:=by kernel_rfl

-- parcener/equal.part$1
def ynd:AFn:=⟨4,[],
 (.seq
 (.ops [⟨some 8,(.load false 1 (.t 1)),none⟩,
 ⟨some 9,(.len (.t 8)),none⟩,
 ⟨some 10,(.mv (.c (.int .i64 (0)))),none⟩]
 [] [])
 (.block 0
 (.loop
 (.seq
 (.ops [⟨some 11,(.bin .lss (.t 10) (.t 9)),none⟩]
 [] [])
 (.seq
 (.cond (.t 11)
 .skip
 (.exit 0))
 (.seq
 (.block 1
 (.seq
 (.ops [⟨some 12,(.mv (.t 10)),none⟩,
 ⟨some 13,(.iad 1 (.t 8) (.t 10)),none⟩,
 ⟨some 14,(.load false 1 (.t 13)),none⟩,
 ⟨some 5,(.mv (.t 12)),none⟩,
 ⟨some 6,(.mv (.t 14)),none⟩]
 [] [11,12,13,14])
 (.seq
 (.ops [⟨some 15,(.mv (.t 0)),none⟩,
 ⟨some 16,(.load false 1 (.t 2)),none⟩,
 ⟨some 17,(.mv (.t 5)),none⟩,
 ⟨some 18,(.iad 4 (.t 16) (.t 17)),none⟩,
 ⟨some 19,(.load true 4 (.t 18)),none⟩,
 ⟨some 20,(.mv (.t 6)),none⟩,
 ⟨some 21,(.nilchk (.t 20)),none⟩,
 ⟨some 22,(.fad 0 (.t 21)),none⟩,
 ⟨some 23,(.fad 1 (.t 22)),none⟩,
 ⟨some 24,(.load false 1 (.t 23)),none⟩,
 ⟨some 25,(.mv (.t 6)),none⟩,
 ⟨some 26,(.nilchk (.t 25)),none⟩,
 ⟨some 27,(.fad 6 (.t 26)),none⟩,
 ⟨some 28,(.load false 1 (.t 27)),none⟩,
 ⟨some 29,(.bin .add (.t 28) (.c (.int .i64 (1)))),none⟩,
 ⟨some 30,(.iad 1 (.t 24) (.t 29)),none⟩,
 ⟨some 31,(.load false 1 (.t 30)),none⟩,
 ⟨some 32,(.call (.f 94) [(.t 19),(.t 31)]),none⟩,
 ⟨some 33,(.mv (.t 6)),none⟩,
 ⟨some 34,(.nilchk (.t 33)),none⟩,
 ⟨some 35,(.fad 6 (.t 34)),none⟩,
 ⟨some 36,(.call (.t 15) [(.t 32),(.t 35)]),none⟩]
 [(0,1),(0,2),(1,2),(0,3),(0,4),(0,5),(1,5),(2,5),(3,5),(4,5),(0,6),(1,6),(2,6),(3,6),(4,6),(0,7),(1,7),(2,7),(3,7),(4,7),(0,8),(1,8),(2,8),(3,8),(4,8),(0,9),(1,9),(2,9),(3,9),(4,9),(0,10),(1,10),(2,10),(3,10),(4,10),(5,10),(6,10),(7,10),(8,10),(9,10),(0,11),(1,11),(2,11),(3,11),(4,11),(5,11),(6,11),(7,11),(8,11),(9,11),(0,12),(1,12),(2,12),(3,12),(4,12),(5,12),(6,12),(7,12),(8,12),(9,12),(0,13),(1,13),(2,13),(3,13),(4,13),(5,13),(6,13),(7,13),(8,13),(9,13),(0,14),(1,14),(2,14),(3,14),(4,14),(5,14),(6,14),(7,14),(8,14),(9,14),(0,15),(1,15),(2,15),(3,15),(4,15),(0,16),(1,16),(2,16),(3,16),(4,16),(0,17),(0,18),(1,18),(2,18),(3,18),(4,18),(5,18),(6,18),(7,18),(8,18),(9,18),(10,18),(11,18),(12,18),(13,18),(14,18),(15,18),(16,18),(17,18),(0,19),(1,19),(2,19),(3,19),(4,19),(5,19),(6,19),(7,19),(8,19),(9,19),(10,19),(11,19),(12,19),(13,19),(14,19),(15,19),(16,19),(17,19),(0,20),(1,20),(2,20),(3,20),(4,20),(5,20),(6,20),(7,20),(8,20),(9,20),(10,20),(11,20),(12,20),(13,20),(14,20),(15,20),(16,20),(17,20)] [6,15,16,17,18,19,20,21,22,23,24,25,26,27,28,29,30,31,32,33,34,35,36])
 (.seq
 (.ops [⟨some 37,(.mv (.t 5)),none⟩,
 ⟨some 38,(.load false 1 (.t 3)),none⟩,
 ⟨some 39,(.bin .lss (.t 37) (.t 38)),none⟩]
 [] [37,38])
 (.cond (.t 39)
 (.seq
 (.ops [⟨some 40,(.load false 1 (.t 1)),none⟩,
 ⟨some 41,(.mv (.t 5)),none⟩,
 ⟨some 42,(.bin .add (.t 41) (.c (.int .i64 (1)))),none⟩,
 ⟨some 43,(.iad 1 (.t 40) (.t 42)),none⟩,
 ⟨some 44,(.load false 1 (.t 43)),none⟩,
 ⟨some 7,(.mv (.t 44)),none⟩]
 [] [39,40,41,42,43,44])
 (.ops [⟨some 45,(.mv (.t 0)),none⟩,
 ⟨some 46,(.load false 1 (.t 2)),none⟩,
 ⟨some 47,(.mv (.t 5)),none⟩,
 ⟨some 48,(.iad 4 (.t 46) (.t 47)),none⟩,
 ⟨some 49,(.load true 4 (.t 48)),none⟩,
 ⟨some 50,(.mv (.t 7)),none⟩,
 ⟨some 51,(.nilchk (.t 50)),none⟩,
 ⟨some 52,(.fad 0 (.t 51)),none⟩,
 ⟨some 53,(.fad 1 (.t 52)),none⟩,
 ⟨some 54,(.load false 1 (.t 53)),none⟩,
 ⟨some 55,(.mv (.t 7)),none⟩,
 ⟨some 56,(.nilchk (.t 55)),none⟩,
 ⟨some 57,(.fad 5 (.t 56)),none⟩,
 ⟨some 58,(.load false 1 (.t 57)),none⟩,
 ⟨some 59,(.bin .add (.t 58) (.c (.int .i64 (1)))),none⟩,
 ⟨some 60,(.iad 1 (.t 54) (.t 59)),none⟩,
 ⟨some 61,(.load false 1 (.t 60)),none⟩,
 ⟨some 62,(.call (.f 94) [(.t 49),(.t 61)]),none⟩,
 ⟨some 63,(.mv (.t 7)),none⟩,
 ⟨some 64,(.nilchk (.t 63)),none⟩,
 ⟨some 65,(.fad 5 (.t 64)),none⟩,
 ⟨some 66,(.call (.t 45) [(.t 62),(.t 65)]),none⟩]
 [(0,1),(0,2),(1,2),(0,3),(0,4),(0,5),(1,5),(2,5),(3,5),(4,5),(0,6),(1,6),(2,6),(3,6),(4,6),(0,7),(1,7),(2,7),(3,7),(4,7),(0,8),(1,8),(2,8),(3,8),(4,8),(0,9),(1,9),(2,9),(3,9),(4,9),(0,10),(1,10),(2,10),(3,10),(4,10),(5,10),(6,10),(7,10),(8,10),(9,10),(0,11),(1,11),(2,11),(3,11),(4,11),(5,11),(6,11),(7,11),(8,11),(9,11),(0,12),(1,12),(2,12),(3,12),(4,12),(5,12),(6,12),(7,12),(8,12),(9,12),(0,13),(1,13),(2,13),(3,13),(4,13),(5,13),(6,13),(7,13),(8,13),(9,13),(0,14),(1,14),(2,14),(3,14),(4,14),(5,14),(6,14),(7,14),(8,14),(9,14),(0,15),(1,15),(2,15),(3,15),(4,15),(0,16),(1,16),(2,16),(3,16),(4,16),(0,17),(0,18),(1,18),(2,18),(3,18),(4,18),(5,18),(6,18),(7,18),(8,18),(9,18),(10,18),(11,18),(12,18),(13,18),(14,18),(15,18),(16,18),(17,18),(0,19),(1,19),(2,19),(3,19),(4,19),(5,19),(6,19),(7,19),(8,19),(9,19),(10,19),(11,19),(12,19),(13,19),(14,19),(15,19),(16,19),(17,19),(0,20),(1,20),(2,20),(3,20),(4,20),(5,20),(6,20),(7,20),(8,20),(9,20),(10,20),(11,20),(12,20),(13,20),(14,20),(15,20),(16,20),(17,20)] [5,7,45,46,47,48,49,50,51,52,53,54,55,56,57,58,59,60,61,62,63,64,65,66]))
 .skip)))))
 (.ops [⟨some 67,(.bin .add (.t 10) (.c (.int .i64 (1)))),none⟩,
 ⟨some 10,(.mv (.t 67)),none⟩]
 [] [5,39,67])))))))⟩
def yro:List Nat:=[]
def fg95:List (Nat×List Nat):=[(7,[5,39,67]),(6,[5,7,45,46,47,48,49,50,51,52,53,54,55,56,57,58,59,60,61,62,63,64,65,66]),(5,[39,40,41,42,43,44]),(4,[37,38]),(3,[6,15,16,17,18,19,20,21,22,23,24,25,26,27,28,29,30,31,32,33,34,35,36]),(2,[11,12,13,14])]
theorem yoW:yaa Tryz.prog yro (fun i=>(fg95.lookup i).getD []) Tryz.f95=some ynd:=by kernel_rfl

-- parcener/equal.part$2
def yne:AFn:=⟨3,[],
 (.seq
 (.ops [⟨some 3,(.boxL (.t 0)),none⟩]
 [] [0,1])
 (.seq
 (.ops [⟨some 5,(.load true 2 (.t 3)),none⟩,
 ⟨some 6,(.load true 2 (.t 2)),none⟩,
 ⟨some 7,(.call (.f 50) [(.t 5),(.t 6)]),none⟩]
 [] [5,6])
 (.cond (.t 7)
 (.ops [⟨some 8,(.load true 2 (.t 3)),none⟩,
 ⟨none,(.store 2 (.t 2) (.t 8)),none⟩]
 [] [2,3,7,8])
 .skip)))⟩
def yrp:List Nat:=[3,1000003]
def fg96:List (Nat×List Nat):=[(2,[2,3,7,8]),(1,[5,6]),(0,[0,1])]
theorem yoX:yaa Tryz.prog yrp (fun i=>(fg96.lookup i).getD []) Tryz.f96=some yne:=by kernel_rfl

-- parcener/equal.part$3
def ynf:AFn:=⟨4,[],
 (.seq
 (.ops [⟨some 4,(.boxL (.t 0)),none⟩]
 [] [0])
 (.seq
 (.ops [⟨some 6,(.load true 2 (.t 4)),none⟩,
 ⟨some 7,(.load true 2 (.t 2)),none⟩,
 ⟨some 8,(.eqA false 2 [(0,(some .i64)),(1,(some .i64))] (.t 6) (.t 7)),none⟩]
 [] [2,4,6,7])
 (.cond (.t 8)
 (.ops [⟨some 9,(.load false 1 (.t 3)),none⟩,
 ⟨some 10,(.mv (.t 1)),none⟩,
 ⟨some 11,(.buildSl false 1 .nilp 1 [(0,(.t 10))]),none⟩,
 ⟨some 12,(.app false 1 8 (.t 9) (.t 11)),none⟩,
 ⟨none,(.store 1 (.t 3) (.t 12)),none⟩]
 [] [1,3,8,9,10,11,12])
 .skip)))⟩
def yrq:List Nat:=[11,4,1000004]
def fg97:List (Nat×List Nat):=[(2,[1,3,8,9,10,11,12]),(1,[2,4,6,7]),(0,[0])]
theorem yoY:yaa Tryz.prog yrq (fun i=>(fg97.lookup i).getD []) Tryz.f97=some ynf:=by kernel_rfl

-- slices.Sorted[int]
def yng:AFn:=⟨1,[.tmp 2],
 (.seq
 (.ops [⟨some 2,(.mv (.c .nils)),none⟩]
 [] [2])
 (.seq
 (.ops [⟨some 4,(.mv (.t 0)),none⟩,
 ⟨some 5,(.call (.f 133) [(.t 4)]),none⟩,
 ⟨some 3,(.mv (.t 5)),none⟩]
 [] [0,4,5])
 (.seq
 (.ops [⟨some 6,(.mv (.t 3)),none⟩,
 ⟨some 7,(.call (.f 73) [(.t 6)]),none⟩]
 [] [6,7])
 (.seq
 (.ops [⟨some 8,(.mv (.t 3)),none⟩,
 ⟨some 2,(.mv (.t 8)),none⟩]
 [] [3,8])
 .ret))))⟩
def yrr:List Nat:=[]
def fg98:List (Nat×List Nat):=[(3,[3,8]),(2,[6,7]),(1,[0,4,5]),(0,[2])]
theorem yoZ:yaa Tryz.prog yrr (fun i=>(fg98.lookup i).getD []) Tryz.f98=some yng:=by kernel_rfl

-- slices.Values[[]int,int]
def ynh:AFn:=⟨1,[.tmp 2],
 (.seq
 (.ops [⟨some 1,(.boxH true 1 (.t 0)),none⟩,
 ⟨some 2,(.mv (.c .nilf)),none⟩]
 [] [0,2])
 (.seq
 (.ops [⟨some 3,(.mkFn (.func 134) [] [(.t 1)]),none⟩,
 ⟨some 2,(.mv (.t 3)),none⟩]
 [] [1,3])
 .ret))⟩
def yrs:List Nat:=[]
def fg99:List (Nat×List Nat):=[(1,[1,3]),(0,[0,2])]
theorem yo0:yaa Tryz.prog yrs (fun i=>(fg99.lookup i).getD []) Tryz.f99=some ynh:=by kernel_rfl

-- parcener/ratio.Check
def yjJ:AFn:=⟨1,[.tmp 2],
 (.seq
 (.ops [⟨some 1,(.boxL (.t 0)),none⟩,
 ⟨some 2,(.mv (.c (.int .i64 (0)))),none⟩]
 [] [0,2])
 (.seq
 (.seq
 (.ops [⟨some 3,(.fad 1 (.t 1)),none⟩,
 ⟨some 4,(.load false 1 (.t 3)),none⟩,
 ⟨some 5,(.bin .lss (.t 4) (.c (.int .i64 (1)))),none⟩,
 ⟨some 6,(.mv (.t 5)),none⟩,
 ⟨some 7,(.fad 0 (.t 1)),some (6,false)⟩,
 ⟨some 8,(.load false 1 (.t 7)),some (6,false)⟩,
 ⟨some 9,(.call (.f 107) [(.t 8)]),some (6,false)⟩,
 ⟨some 10,(.fad 1 (.t 1)),some (6,false)⟩,
 ⟨some 11,(.load false 1 (.t 10)),some (6,false)⟩,
 ⟨some 12,(.conv .u64 (.t 11)),some (6,false)⟩,
 ⟨some 13,(.minmax true [(.t 9),(.t 12)]),some (6,false)⟩,
 ⟨some 14,(.bin .gtr (.t 13) (.c (.int .u64 (1000000000000000000)))),some (6,false)⟩,
 ⟨some 15,(.pick (.t 6) (.c (.bool true)) (.t 14)),none⟩,
 ⟨some 16,(.mv (.t 15)),none⟩,
 ⟨some 17,(.fad 0 (.t 1)),some (16,false)⟩,
 ⟨some 18,(.load false 1 (.t 17)),some (16,false)⟩,
 ⟨some 19,(.call (.f 107) [(.t 18)]),some (16,false)⟩,
 ⟨some 20,(.fad 1 (.t 1)),some (16,false)⟩,
 ⟨some 21,(.load false 1 (.t 20)),some (16,false)⟩,
 ⟨some 22,(.conv .u64 (.t 21)),some (16,false)⟩,
 ⟨some 23,(.call (.f 116) [(.t 19),(.t 22)]),some (16,false)⟩,
 ⟨some 24,(.bin .gtr (.t 23) (.c (.int .u64 (1)))),some (16,false)⟩,
 ⟨some 25,(.pick (.t 16) (.c (.bool true)) (.t 24)),none⟩]
 [(4,7),(5,7),(6,7),(4,8),(5,8),(6,8),(4,9),(5,9),(6,9),(14,17),(15,17),(16,17),(14,18),(15,18),(16,18),(14,19),(15,19),(16,19)] [1,3,4,5,6,7,8,9,10,11,12,13,14,15,16,17,18,19,20,21,22,23,24])
 (.cond (.t 25)
 (.seq
 (.ops [⟨some 2,(.mv (.c (.int .i64 (8)))),none⟩]
 [] [25])
 .ret)
 .skip))
 (.seq
 (.ops [⟨some 2,(.mv (.c (.int .i64 (0)))),none⟩]
 [] [25])
 .ret)))⟩
def yo1:List Nat:=[1]
def yrw:List (Nat×List Nat):=[(3,[25]),(2,[25]),(1,[1,3,4,5,6,7,8,9,10,11,12,13,14,15,16,17,18,19,20,21,22,23,24]),(0,[0,2])]
theorem ykZ:yaa Tryz.prog yo1 (fun i=>(yrw.lookup i).getD []) Tryz.f100=some yjJ:=by kernel_rfl

-- parcener/ratio.Mul
def yjK:AFn:=⟨2,[.cell 4 true 2,.tmp 5],
 (.seq
 (.ops [⟨some 2,(.boxL (.t 0)),none⟩,
 ⟨some 3,(.boxL (.t 1)),none⟩,
 ⟨some 4,(.allocL (.agg [(.int .i64 (0)),(.int .i64 (0))])),none⟩,
 ⟨some 5,(.mv (.c (.int .i64 (0)))),none⟩]
 [] [0,1,5])
 (.seq
 (.seq
 (.ops [⟨some 17,(.load true 2 (.t 2)),none⟩,
 ⟨some 18,(.load true 2 (.t 3)),none⟩,
 ⟨some 19,(.call (.f 104) [(.t 17),(.t 18)]),none⟩,
 ⟨some 6,(.mv (.t 19)),none⟩]
 [] [17,18,19])
 (.seq
 (.ops [⟨some 20,(.mv (.t 6)),none⟩,
 ⟨some 21,(.bin .neq (.t 20) (.c (.int .i64 (0)))),none⟩]
 [] [20])
 (.cond (.t 21)
 (.seq
 (.ops [⟨some 22,(.build [(.int .i64 (0)),(.int .i64 (0))] []),none⟩,
 ⟨some 23,(.mv (.t 6)),none⟩,
 ⟨none,(.store 2 (.t 4) (.t 22)),none⟩,
 ⟨some 5,(.mv (.t 23)),none⟩]
 [] [2,3,6,21,22,23])
 .ret)
 .skip)))
 (.seq
 (.ops [⟨some 24,(.fad 0 (.t 2)),none⟩,
 ⟨some 25,(.load false 1 (.t 24)),none⟩,
 ⟨some 26,(.call (.f 107) [(.t 25)]),none⟩,
 ⟨some 27,(.fad 1 (.t 2)),none⟩,
 ⟨some 28,(.load false 1 (.t 27)),none⟩,
 ⟨some 29,(.conv .u64 (.t 28)),none⟩,
 ⟨some 30,(.fad 0 (.t 3)),none⟩,
 ⟨some 31,(.load false 1 (.t 30)),none⟩,
 ⟨some 32,(.call (.f 107) [(.t 31)]),none⟩,
 ⟨some 33,(.fad 1 (.t 3)),none⟩,
 ⟨some 34,(.load false 1 (.t 33)),none⟩,
 ⟨some 35,(.conv .u64 (.t 34)),none⟩,
 ⟨some 7,(.mv (.t 26)),none⟩,
 ⟨some 8,(.mv (.t 29)),none⟩,
 ⟨some 9,(.mv (.t 32)),none⟩,
 ⟨some 10,(.mv (.t 35)),none⟩]
 [(0,3),(1,3),(2,3),(0,4),(1,4),(2,4),(0,5),(1,5),(2,5),(0,6),(1,6),(2,6),(3,6),(4,6),(5,6),(0,7),(1,7),(2,7),(3,7),(4,7),(5,7),(3,8),(4,8),(5,8),(0,9),(1,9),(2,9),(3,9),(4,9),(5,9),(6,9),(7,9),(8,9),(0,10),(1,10),(2,10),(3,10),(4,10),(5,10),(6,10),(7,10),(8,10),(0,11),(1,11),(2,11),(3,11),(4,11),(5,11),(6,11),(7,11),(8,11),(3,12),(4,12),(5,12),(9,12),(10,12),(11,12),(9,13),(10,13),(11,13),(9,14),(10,14),(11,14)] [6,21,24,25,26,27,28,29,30,31,32,33,34,35])
 (.seq
 (.ops [⟨some 36,(.mv (.t 7)),none⟩,
 ⟨some 37,(.mv (.t 10)),none⟩,
 ⟨some 38,(.call (.f 116) [(.t 36),(.t 37)]),none⟩,
 ⟨some 39,(.mv (.t 9)),none⟩,
 ⟨some 40,(.mv (.t 8)),none⟩,
 ⟨some 41,(.call (.f 116) [(.t 39),(.t 40)]),none⟩,
 ⟨some 11,(.mv (.t 38)),none⟩,
 ⟨some 12,(.mv (.t 41)),none⟩]
 [] [36,37,38,39,40,41])
 (.seq
 (.ops [⟨some 43,(.mv (.t 7)),none⟩,
 ⟨some 44,(.mv (.t 11)),none⟩,
 ⟨some 45,(.bin .quo (.t 43) (.t 44)),none⟩,
 ⟨some 46,(.mv (.t 9)),none⟩,
 ⟨some 47,(.mv (.t 12)),none⟩,
 ⟨some 48,(.bin .quo (.t 46) (.t 47)),none⟩,
 ⟨some 49,(.call (.f 106) [(.t 45),(.t 48)]),none⟩,
 ⟨some 42,(.mv (.t 49)),none⟩,
 ⟨some 50,(.ext (.t 42) 0),none⟩,
 ⟨some 51,(.ext (.t 42) 1),none⟩,
 ⟨some 13,(.mv (.t 50)),none⟩,
 ⟨some 14,(.mv (.t 51)),none⟩]
 [(0,1),(0,3),(1,3),(2,3),(0,4),(1,4),(2,4),(3,4),(0,5),(1,5),(2,5),(8,9),(9,10)] [7,9,42,43,44,45,46,47,48,49,50,51])
 (.seq
 (.ops [⟨some 53,(.mv (.t 8)),none⟩,
 ⟨some 54,(.mv (.t 12)),none⟩,
 ⟨some 55,(.bin .quo (.t 53) (.t 54)),none⟩,
 ⟨some 56,(.mv (.t 10)),none⟩,
 ⟨some 57,(.mv (.t 11)),none⟩,
 ⟨some 58,(.bin .quo (.t 56) (.t 57)),none⟩,
 ⟨some 59,(.call (.f 106) [(.t 55),(.t 58)]),none⟩,
 ⟨some 52,(.mv (.t 59)),none⟩,
 ⟨some 60,(.ext (.t 52) 0),none⟩,
 ⟨some 61,(.ext (.t 52) 1),none⟩,
 ⟨some 15,(.mv (.t 60)),none⟩,
 ⟨some 16,(.mv (.t 61)),none⟩]
 [(0,1),(0,3),(1,3),(2,3),(0,4),(1,4),(2,4),(3,4),(0,5),(1,5),(2,5),(8,9),(9,10)] [8,10,11,12,52,53,54,55,56,57,58,59,60,61])
 (.seq
 (.seq
 (.ops [⟨some 62,(.mv (.t 13)),none⟩,
 ⟨some 63,(.mv (.t 15)),none⟩,
 ⟨some 64,(.bin .add (.t 62) (.t 63)),none⟩,
 ⟨some 65,(.bin .gtr (.t 64) (.c (.int .u64 (0)))),none⟩]
 [] [13,15,62,63,64])
 (.cond (.t 65)
 (.seq
 (.ops [⟨some 66,(.build [(.int .i64 (0)),(.int .i64 (0))] []),none⟩,
 ⟨none,(.store 2 (.t 4) (.t 66)),none⟩,
 ⟨some 5,(.mv (.c (.int .i64 (16)))),none⟩]
 [] [2,3,14,16,65,66])
 .ret)
 .skip))
 (.seq
 (.ops [⟨some 67,(.mv (.t 14)),none⟩,
 ⟨some 68,(.bin .gtr (.t 67) (.c (.int .u64 (0)))),none⟩,
 ⟨some 69,(.mv (.t 68)),none⟩,
 ⟨some 70,(.fad 0 (.t 2)),some (69,true)⟩,
 ⟨some 71,(.load false 1 (.t 70)),some (69,true)⟩,
 ⟨some 72,(.bin .lss (.t 71) (.c (.int .i64 (0)))),some (69,true)⟩,
 ⟨some 73,(.fad 0 (.t 3)),some (69,true)⟩,
 ⟨some 74,(.load false 1 (.t 73)),some (69,true)⟩,
 ⟨some 75,(.bin .lss (.t 74) (.c (.int .i64 (0)))),some (69,true)⟩,
 ⟨some 76,(.eqB true (.t 72) (.t 75)),some (69,true)⟩,
 ⟨some 77,(.pick (.t 69) (.t 76) (.c (.bool false))),none⟩,
 ⟨some 78,(.mv (.t 14)),none⟩,
 ⟨some 79,(.mv (.t 16)),none⟩,
 ⟨some 80,(.call (.f 117) [(.t 77),(.t 78),(.t 79)]),none⟩,
 ⟨some 81,(.ext (.t 80) 0),none⟩,
 ⟨some 82,(.ext (.t 80) 1),none⟩,
 ⟨none,(.store 2 (.t 4) (.t 81)),none⟩,
 ⟨some 5,(.mv (.t 82)),none⟩]
 [] [2,3,14,16,65,67,68,69,70,71,72,73,74,75,76,77,78,79,80,81,82])
 .ret))))))))⟩
def yo2:List Nat:=[2,3,4]
def yrx:List (Nat×List Nat):=[(10,[2,3,14,16,65,67,68,69,70,71,72,73,74,75,76,77,78,79,80,81,82]),(9,[2,3,14,16,65,66]),(8,[13,15,62,63,64]),(7,[8,10,11,12,52,53,54,55,56,57,58,59,60,61]),(6,[7,9,42,43,44,45,46,47,48,49,50,51]),(5,[36,37,38,39,40,41]),(4,[6,21,24,25,26,27,28,29,30,31,32,33,34,35]),(3,[2,3,6,21,22,23]),(2,[20]),(1,[17,18,19]),(0,[0,1,5])]
theorem yk0:yaa Tryz.prog yo2 (fun i=>(yrx.lookup i).getD []) Tryz.f101=some yjK:=by kernel_rfl

-- parcener/cake.Mark
def yjL:AFn:=⟨3,[.cell 6 true 2,.tmp 7],
 (.seq
 (.ops [⟨some 3,(.boxL (.t 0)),none⟩,
 ⟨some 4,(.boxL (.t 1)),none⟩,
 ⟨some 5,(.boxH true 2 (.t 2)),none⟩,
 ⟨some 6,(.allocL (.agg [(.int .i64 (0)),(.int .i64 (0))])),none⟩,
 ⟨some 7,(.mv (.c (.int .i64 (0)))),none⟩]
 [] [0,1,2,7])
 (.seq
 (.seq
 (.ops [⟨some 12,(.load true 3 (.t 3)),none⟩,
 ⟨some 13,(.call (.f 26) [(.t 12)]),none⟩,
 ⟨some 8,(.mv (.t 13)),none⟩]
 [] [12,13])
 (.seq
 (.ops [⟨some 14,(.mv (.t 8)),none⟩,
 ⟨some 15,(.bin .neq (.t 14) (.c (.int .i64 (0)))),none⟩]
 [] [14])
 (.cond (.t 15)
 (.seq
 (.ops [⟨some 16,(.build [(.int .i64 (0)),(.int .i64 (0))] []),none⟩,
 ⟨some 17,(.mv (.t 8)),none⟩,
 ⟨none,(.store 2 (.t 6) (.t 16)),none⟩,
 ⟨some 7,(.mv (.t 17)),none⟩]
 [] [3,4,5,8,15,16,17])
 .ret)
 .skip)))
 (.seq
 (.seq
 (.ops [⟨some 18,(.load true 3 (.t 3)),none⟩,
 ⟨some 19,(.load true 2 (.t 4)),none⟩,
 ⟨some 20,(.call (.f 135) [(.t 18),(.t 19)]),none⟩,
 ⟨some 21,(.un .not (.t 20)),none⟩,
 ⟨some 22,(.mv (.t 21)),none⟩,
 ⟨some 23,(.load true 2 (.t 5)),some (22,false)⟩,
 ⟨some 24,(.call (.f 100) [(.t 23)]),some (22,false)⟩,
 ⟨some 25,(.bin .neq (.t 24) (.c (.int .i64 (0)))),some (22,false)⟩,
 ⟨some 26,(.pick (.t 22) (.c (.bool true)) (.t 25)),none⟩,
 ⟨some 27,(.mv (.t 26)),none⟩,
 ⟨some 28,(.fad 0 (.t 5)),some (27,false)⟩,
 ⟨some 29,(.load false 1 (.t 28)),some (27,false)⟩,
 ⟨some 30,(.bin .lss (.t 29) (.c (.int .i64 (0)))),some (27,false)⟩,
 ⟨some 31,(.pick (.t 27) (.c (.bool true)) (.t 30)),none⟩]
 [] [8,15,18,19,20,21,22,23,24,25,26,27,28,29,30])
 (.cond (.t 31)
 (.seq
 (.ops [⟨some 32,(.build [(.int .i64 (0)),(.int .i64 (0))] []),none⟩,
 ⟨none,(.store 2 (.t 6) (.t 32)),none⟩,
 ⟨some 7,(.mv (.c (.int .i64 (2)))),none⟩]
 [] [3,4,5,31,32])
 .ret)
 .skip))
 (.seq
 (.seq
 (.ops [⟨some 33,(.fad 0 (.t 5)),none⟩,
 ⟨some 34,(.load false 1 (.t 33)),none⟩,
 ⟨some 35,(.bin .eql (.t 34) (.c (.int .i64 (0)))),none⟩]
 [] [31,33,34])
 (.cond (.t 35)
 (.seq
 (.ops [⟨some 36,(.load true 2 (.t 4)),none⟩,
 ⟨none,(.store 2 (.t 6) (.t 36)),none⟩,
 ⟨some 7,(.mv (.c (.int .i64 (0)))),none⟩]
 [] [3,4,5,35,36])
 .ret)
 .skip))
 (.seq
 (.ops [⟨some 9,(.allocH true 2 (.agg [(.int .i64 (0)),(.int .i64 (0))])),none⟩]
 [] [35])
 (.seq
 (.ops [⟨some 10,(.allocH true 1 (.int .i64 (0))),none⟩,
 ⟨none,(.store 1 (.t 10) (.c (.int .i64 (6)))),none⟩]
 [] [])
 (.seq
 (.ops [⟨some 37,(.load true 3 (.t 3)),none⟩,
 ⟨some 38,(.load true 2 (.t 4)),none⟩,
 ⟨some 39,(.mkFn (.func 137) [] [(.t 5),(.t 10),(.t 9)]),none⟩,
 ⟨some 40,(.call (.f 136) [(.t 37),(.t 38),(.t 39)]),none⟩,
 ⟨some 11,(.mv (.t 40)),none⟩]
 [] [3,4,5,37,38,39,40])
 (.seq
 (.seq
 (.ops [⟨some 41,(.mv (.t 11)),none⟩,
 ⟨some 42,(.bin .neq (.t 41) (.c (.int .i64 (0)))),none⟩]
 [] [41])
 (.cond (.t 42)
 (.ops [⟨some 43,(.mv (.t 11)),none⟩,
 ⟨none,(.store 1 (.t 10) (.t 43)),none⟩]
 [] [11,42,43])
 .skip))
 (.seq
 (.seq
 (.ops [⟨some 44,(.load false 1 (.t 10)),none⟩,
 ⟨some 45,(.bin .neq (.t 44) (.c (.int .i64 (0)))),none⟩]
 [] [11,42,44])
 (.cond (.t 45)
 (.seq
 (.ops [⟨some 46,(.build [(.int .i64 (0)),(.int .i64 (0))] []),none⟩,
 ⟨some 47,(.load false 1 (.t 10)),none⟩,
 ⟨none,(.store 2 (.t 6) (.t 46)),none⟩,
 ⟨some 7,(.mv (.t 47)),none⟩]
 [(0,1),(1,2)] [9,10,45,46,47])
 .ret)
 .skip))
 (.seq
 (.ops [⟨some 48,(.load true 2 (.t 9)),none⟩,
 ⟨none,(.store 2 (.t 6) (.t 48)),none⟩,
 ⟨some 7,(.mv (.c (.int .i64 (0)))),none⟩]
 [] [9,10,45,48])
 .ret))))))))))⟩
def yo3:List Nat:=[3,4,6]
def yry:List (Nat×List Nat):=[(15,[9,10,45,48]),(14,[9,10,45,46,47]),(13,[11,42,44]),(12,[11,42,43]),(11,[41]),(10,[3,4,5,37,38,39,40]),(8,[35]),(7,[3,4,5,35,36]),(6,[31,33,34]),(5,[3,4,5,31,32]),(4,[8,15,18,19,20,21,22,23,24,25,26,27,28,29,30]),(3,[3,4,5,8,15,16,17]),(2,[14]),(1,[12,13]),(0,[0,1,2,7])]
theorem yk1:yaa Tryz.prog yo3 (fun i=>(yry.lookup i).getD []) Tryz.f102=some yjL:=by kernel_rfl

-- (parcener/ask.office).value
def yjM:AFn:=⟨4,[.cell 8 true 2,.tmp 9],
 (.seq
 (.ops [⟨some 4,(.boxL (.t 0)),none⟩,
 ⟨some 6,(.boxL (.t 2)),none⟩,
 ⟨some 7,(.boxL (.t 3)),none⟩,
 ⟨some 8,(.allocL (.agg [(.int .i64 (0)),(.int .i64 (0))])),none⟩,
 ⟨some 9,(.mv (.c (.int .i64 (0)))),none⟩]
 [] [0,2,3,9])
 (.seq
 (.ops [⟨some 10,(.fad 0 (.t 4)),none⟩,
 ⟨some 11,(.fad 0 (.t 10)),none⟩,
 ⟨some 12,(.load false 1 (.t 11)),none⟩,
 ⟨some 13,(.mv (.t 1)),none⟩,
 ⟨some 14,(.iad 3 (.t 12) (.t 13)),none⟩,
 ⟨some 15,(.load true 3 (.t 14)),none⟩,
 ⟨some 16,(.load true 2 (.t 6)),none⟩,
 ⟨some 17,(.load true 2 (.t 7)),none⟩,
 ⟨some 18,(.call (.f 140) [(.t 15),(.t 16),(.t 17)]),none⟩,
 ⟨some 19,(.ext (.t 18) 0),none⟩,
 ⟨some 20,(.ext (.t 18) 1),none⟩,
 ⟨none,(.store 2 (.t 8) (.t 19)),none⟩,
 ⟨some 9,(.mv (.t 20)),none⟩]
 [(0,3),(1,3),(2,3),(0,6),(1,6),(2,6),(3,6),(4,6),(5,6),(0,7),(1,7),(2,7),(3,7),(4,7),(5,7),(6,7),(9,10)] [1,4,6,7,10,11,12,13,14,15,16,17,18,19,20])
 .ret))⟩
def yo4:List Nat:=[4,6,7,8]
def yrz:List (Nat×List Nat):=[(1,[1,4,6,7,10,11,12,13,14,15,16,17,18,19,20]),(0,[0,2,3,9])]
theorem yk2:yaa Tryz.prog yo4 (fun i=>(yrz.lookup i).getD []) Tryz.f103=some yjM:=by kernel_rfl

-- parcener/ratio.check
def yjN:AFn:=⟨2,[.tmp 4],
 (.seq
 (.ops [⟨some 2,(.boxL (.t 0)),none⟩,
 ⟨some 3,(.boxL (.t 1)),none⟩,
 ⟨some 4,(.mv (.c (.int .i64 (0)))),none⟩]
 [] [0,1,4])
 (.seq
 (.ops [⟨some 5,(.load true 2 (.t 2)),none⟩,
 ⟨some 6,(.call (.f 100) [(.t 5)]),none⟩,
 ⟨some 7,(.load true 2 (.t 3)),none⟩,
 ⟨some 8,(.call (.f 100) [(.t 7)]),none⟩,
 ⟨some 9,(.buildD 1 (.int .i64 (0)) 2 [(0,(.t 6)),(1,(.t 8))]),none⟩,
 ⟨some 10,(.call (.f 141) [(.t 9)]),none⟩,
 ⟨some 4,(.mv (.t 10)),none⟩]
 [(0,2),(1,2)] [2,3,5,6,7,8,9,10])
 .ret))⟩
def yo5:List Nat:=[9,2,3]
def yrA:List (Nat×List Nat):=[(1,[2,3,5,6,7,8,9,10]),(0,[0,1,4])]
theorem yk3:yaa Tryz.prog yo5 (fun i=>(yrA.lookup i).getD []) Tryz.f104=some yjN:=by kernel_rfl

-- math/bits.Mul64
def yjO:AFn:=⟨2,[.tmp 4,.tmp 5],
 (.seq
 (.ops [⟨some 4,(.mv (.c (.int .u64 (0)))),none⟩,
 ⟨some 5,(.mv (.c (.int .u64 (0)))),none⟩]
 [] [4,5])
 (.seq
 (.ops [⟨some 14,(.mv (.t 0)),none⟩,
 ⟨some 15,(.bin .and (.t 14) (.c (.int .u64 (4294967295)))),none⟩,
 ⟨some 6,(.mv (.t 15)),none⟩]
 [] [14,15])
 (.seq
 (.ops [⟨some 16,(.mv (.t 0)),none⟩,
 ⟨some 17,(.bin .shr (.t 16) (.c (.int .u64 (32)))),none⟩,
 ⟨some 7,(.mv (.t 17)),none⟩]
 [] [16,17])
 (.seq
 (.ops [⟨some 18,(.mv (.t 1)),none⟩,
 ⟨some 19,(.bin .and (.t 18) (.c (.int .u64 (4294967295)))),none⟩,
 ⟨some 8,(.mv (.t 19)),none⟩]
 [] [18,19])
 (.seq
 (.ops [⟨some 20,(.mv (.t 1)),none⟩,
 ⟨some 21,(.bin .shr (.t 20) (.c (.int .u64 (32)))),none⟩,
 ⟨some 9,(.mv (.t 21)),none⟩]
 [] [20,21])
 (.seq
 (.ops [⟨some 22,(.mv (.t 6)),none⟩,
 ⟨some 23,(.mv (.t 8)),none⟩,
 ⟨some 24,(.bin .mul (.t 22) (.t 23)),none⟩,
 ⟨some 10,(.mv (.t 24)),none⟩]
 [] [22,23,24])
 (.seq
 (.ops [⟨some 25,(.mv (.t 7)),none⟩,
 ⟨some 26,(.mv (.t 8)),none⟩,
 ⟨some 27,(.bin .mul (.t 25) (.t 26)),none⟩,
 ⟨some 28,(.mv (.t 10)),none⟩,
 ⟨some 29,(.bin .shr (.t 28) (.c (.int .u64 (32)))),none⟩,
 ⟨some 30,(.bin .add (.t 27) (.t 29)),none⟩,
 ⟨some 11,(.mv (.t 30)),none⟩]
 [] [8,10,25,26,27,28,29,30])
 (.seq
 (.ops [⟨some 31,(.mv (.t 11)),none⟩,
 ⟨some 32,(.bin .and (.t 31) (.c (.int .u64 (4294967295)))),none⟩,
 ⟨some 12,(.mv (.t 32)),none⟩]
 [] [31,32])
 (.seq
 (.ops [⟨some 33,(.mv (.t 11)),none⟩,
 ⟨some 34,(.bin .shr (.t 33) (.c (.int .u64 (32)))),none⟩,
 ⟨some 13,(.mv (.t 34)),none⟩]
 [] [11,33,34])
 (.seq
 (.ops [⟨some 35,(.mv (.t 12)),none⟩,
 ⟨some 36,(.mv (.t 6)),none⟩,
 ⟨some 37,(.mv (.t 9)),none⟩,
 ⟨some 38,(.bin .mul (.t 36) (.t 37)),none⟩,
 ⟨some 39,(.bin .add (.t 35) (.t 38)),none⟩,
 ⟨some 12,(.mv (.t 39)),none⟩]
 [] [6,35,36,37,38,39])
 (.seq
 (.ops [⟨some 40,(.mv (.t 7)),none⟩,
 ⟨some 41,(.mv (.t 9)),none⟩,
 ⟨some 42,(.bin .mul (.t 40) (.t 41)),none⟩,
 ⟨some 43,(.mv (.t 13)),none⟩,
 ⟨some 44,(.bin .add (.t 42) (.t 43)),none⟩,
 ⟨some 45,(.mv (.t 12)),none⟩,
 ⟨some 46,(.bin .shr (.t 45) (.c (.int .u64 (32)))),none⟩,
 ⟨some 47,(.bin .add (.t 44) (.t 46)),none⟩,
 ⟨some 4,(.mv (.t 47)),none⟩]
 [] [7,9,12,13,40,41,42,43,44,45,46,47])
 (.seq
 (.ops [⟨some 48,(.mv (.t 0)),none⟩,
 ⟨some 49,(.mv (.t 1)),none⟩,
 ⟨some 50,(.bin .mul (.t 48) (.t 49)),none⟩,
 ⟨some 5,(.mv (.t 50)),none⟩]
 [] [0,1,48,49,50])
 .ret))))))))))))⟩
def yo6:List Nat:=[]
def yrB:List (Nat×List Nat):=[(11,[0,1,48,49,50]),(10,[7,9,12,13,40,41,42,43,44,45,46,47]),(9,[6,35,36,37,38,39]),(8,[11,33,34]),(7,[31,32]),(6,[8,10,25,26,27,28,29,30]),(5,[22,23,24]),(4,[20,21]),(3,[18,19]),(2,[16,17]),(1,[14,15]),(0,[4,5])]
theorem yk4:yaa Tryz.prog yo6 (fun i=>(yrB.lookup i).getD []) Tryz.f106=some yjO:=by kernel_rfl

-- parcener/ratio.size
def yjP:AFn:=⟨1,[.tmp 2],
 (.seq
 (.ops [⟨some 2,(.mv (.c (.int .u64 (0)))),none⟩]
 [] [2])
 (.seq
 (.seq
 (.ops [⟨some 3,(.mv (.t 0)),none⟩,
 ⟨some 4,(.bin .lss (.t 3) (.c (.int .i64 (0)))),none⟩]
 [] [3])
 (.cond (.t 4)
 (.seq
 (.ops [⟨some 5,(.mv (.t 0)),none⟩,
 ⟨some 6,(.conv .u64 (.t 5)),none⟩,
 ⟨some 7,(.un .neg (.t 6)),none⟩,
 ⟨some 2,(.mv (.t 7)),none⟩]
 [] [0,4,5,6,7])
 .ret)
 .skip))
 (.seq
 (.ops [⟨some 8,(.mv (.t 0)),none⟩,
 ⟨some 9,(.conv .u64 (.t 8)),none⟩,
 ⟨some 2,(.mv (.t 9)),none⟩]
 [] [0,4,8,9])
 .ret)))⟩
def yo7:List Nat:=[]
def yrC:List (Nat×List Nat):=[(3,[0,4,8,9]),(2,[0,4,5,6,7]),(1,[3]),(0,[2])]
theorem yk5:yaa Tryz.prog yo7 (fun i=>(yrC.lookup i).getD []) Tryz.f107=some yjP:=by kernel_rfl

-- cmp.Or[int]
def yjQ:AFn:=⟨1,[.tmp 2],
 (.seq
 (.ops [⟨some 2,(.mv (.c (.int .i64 (0)))),none⟩]
 [] [2])
 (.seq
 (.ops [⟨some 3,(.mv (.c (.int .i64 (0)))),none⟩]
 [] [])
 (.seq
 (.seq
 (.ops [⟨some 6,(.mv (.t 0)),none⟩,
 ⟨some 7,(.len (.t 6)),none⟩,
 ⟨some 8,(.mv (.c (.int .i64 (0)))),none⟩]
 [] [0])
 (.block 0
 (.loop
 (.seq
 (.ops [⟨some 9,(.bin .lss (.t 8) (.t 7)),none⟩]
 [] [])
 (.seq
 (.cond (.t 9)
 .skip
 (.exit 0))
 (.seq
 (.block 1
 (.seq
 (.ops [⟨some 10,(.iad 1 (.t 6) (.t 8)),none⟩,
 ⟨some 11,(.load false 1 (.t 10)),none⟩,
 ⟨some 5,(.mv (.t 11)),none⟩]
 [] [9,10,11])
 (.seq
 (.ops [⟨some 12,(.mv (.t 5)),none⟩,
 ⟨some 13,(.mv (.t 3)),none⟩,
 ⟨some 14,(.bin .neq (.t 12) (.t 13)),none⟩]
 [] [12,13])
 (.cond (.t 14)
 (.seq
 (.ops [⟨some 15,(.mv (.t 5)),none⟩,
 ⟨some 2,(.mv (.t 15)),none⟩]
 [] [3,5,6,7,8,14,15])
 .ret)
 .skip))))
 (.ops [⟨some 16,(.bin .add (.t 8) (.c (.int .i64 (1)))),none⟩,
 ⟨some 8,(.mv (.t 16)),none⟩]
 [] [5,14,16])))))))
 (.seq
 (.ops [⟨some 17,(.mv (.t 3)),none⟩,
 ⟨some 2,(.mv (.t 17)),none⟩]
 [] [3,6,7,8,9,17])
 .ret))))⟩
def yo8:List Nat:=[]
def yrD:List (Nat×List Nat):=[(8,[3,6,7,8,9,17]),(7,[5,14,16]),(6,[3,5,6,7,8,14,15]),(5,[12,13]),(4,[9,10,11]),(2,[0]),(0,[2])]
theorem yk6:yaa Tryz.prog yo8 (fun i=>(yrD.lookup i).getD []) Tryz.f108=some yjQ:=by kernel_rfl

-- cmp.Compare[uint64]
def yjR:AFn:=⟨2,[.tmp 4],
 (.seq
 (.ops [⟨some 4,(.mv (.c (.int .i64 (0)))),none⟩]
 [] [4])
 (.seq
 (.ops [⟨some 7,(.mv (.t 0)),none⟩,
 ⟨some 8,(.call (.f 143) [(.t 7)]),none⟩,
 ⟨some 5,(.mv (.t 8)),none⟩]
 [] [7,8])
 (.seq
 (.ops [⟨some 9,(.mv (.t 1)),none⟩,
 ⟨some 10,(.call (.f 143) [(.t 9)]),none⟩,
 ⟨some 6,(.mv (.t 10)),none⟩]
 [] [9,10])
 (.seq
 (.seq
 (.ops [⟨some 11,(.mv (.t 5)),none⟩]
 [] [5])
 (.cond (.t 11)
 (.seq
 (.seq
 (.ops [⟨some 12,(.mv (.t 6)),none⟩]
 [] [0,1,6,11])
 (.cond (.t 12)
 (.seq
 (.ops [⟨some 4,(.mv (.c (.int .i64 (0)))),none⟩]
 [] [12])
 .ret)
 .skip))
 (.seq
 (.ops [⟨some 4,(.mv (.c (.int .i64 (-1)))),none⟩]
 [] [12])
 .ret))
 .skip))
 (.seq
 (.seq
 (.ops [⟨some 13,(.mv (.t 6)),none⟩]
 [] [6,11])
 (.cond (.t 13)
 (.seq
 (.ops [⟨some 4,(.mv (.c (.int .i64 (1)))),none⟩]
 [] [0,1,13])
 .ret)
 .skip))
 (.seq
 (.seq
 (.ops [⟨some 14,(.mv (.t 0)),none⟩,
 ⟨some 15,(.mv (.t 1)),none⟩,
 ⟨some 16,(.bin .lss (.t 14) (.t 15)),none⟩]
 [] [13,14,15])
 (.cond (.t 16)
 (.seq
 (.ops [⟨some 4,(.mv (.c (.int .i64 (-1)))),none⟩]
 [] [0,1,16])
 .ret)
 .skip))
 (.seq
 (.seq
 (.ops [⟨some 17,(.mv (.t 0)),none⟩,
 ⟨some 18,(.mv (.t 1)),none⟩,
 ⟨some 19,(.bin .gtr (.t 17) (.t 18)),none⟩]
 [] [0,1,16,17,18])
 (.cond (.t 19)
 (.seq
 (.ops [⟨some 4,(.mv (.c (.int .i64 (1)))),none⟩]
 [] [19])
 .ret)
 .skip))
 (.seq
 (.ops [⟨some 4,(.mv (.c (.int .i64 (0)))),none⟩]
 [] [19])
 .ret))))))))⟩
def yo9:List Nat:=[]
def yrE:List (Nat×List Nat):=[(13,[19]),(12,[19]),(11,[0,1,16,17,18]),(10,[0,1,16]),(9,[13,14,15]),(8,[0,1,13]),(7,[6,11]),(6,[12]),(5,[12]),(4,[0,1,6,11]),(3,[5]),(2,[9,10]),(1,[7,8]),(0,[4])]
theorem yk7:yaa Tryz.prog yo9 (fun i=>(yrE.lookup i).getD []) Tryz.f109=some yjR:=by kernel_rfl

-- slices.Equal[[]parcener/api.Query,parcener/api.Query]
def yjS:AFn:=⟨2,[.tmp 4],
 (.seq
 (.ops [⟨some 4,(.mv (.c (.bool false))),none⟩]
 [] [4])
 (.seq
 (.seq
 (.ops [⟨some 6,(.mv (.t 0)),none⟩,
 ⟨some 7,(.len (.t 6)),none⟩,
 ⟨some 8,(.mv (.t 1)),none⟩,
 ⟨some 9,(.len (.t 8)),none⟩,
 ⟨some 10,(.bin .neq (.t 7) (.t 9)),none⟩]
 [] [6,7,8,9])
 (.cond (.t 10)
 (.seq
 (.ops [⟨some 4,(.mv (.c (.bool false))),none⟩]
 [] [0,1,10])
 .ret)
 .skip))
 (.seq
 (.seq
 (.ops [⟨some 11,(.mv (.t 0)),none⟩,
 ⟨some 12,(.len (.t 11)),none⟩,
 ⟨some 13,(.mv (.c (.int .i64 (0)))),none⟩]
 [] [10,11])
 (.block 0
 (.loop
 (.seq
 (.ops [⟨some 14,(.bin .lss (.t 13) (.t 12)),none⟩]
 [] [])
 (.seq
 (.cond (.t 14)
 .skip
 (.exit 0))
 (.seq
 (.block 1
 (.seq
 (.ops [⟨some 15,(.mv (.t 13)),none⟩,
 ⟨some 5,(.mv (.t 15)),none⟩]
 [] [14,15])
 (.seq
 (.ops [⟨some 16,(.mv (.t 0)),none⟩,
 ⟨some 17,(.mv (.t 5)),none⟩,
 ⟨some 18,(.iad 8 (.t 16) (.t 17)),none⟩,
 ⟨some 19,(.load true 8 (.t 18)),none⟩,
 ⟨some 20,(.mv (.t 1)),none⟩,
 ⟨some 21,(.mv (.t 5)),none⟩,
 ⟨some 22,(.iad 8 (.t 20) (.t 21)),none⟩,
 ⟨some 23,(.load true 8 (.t 22)),none⟩,
 ⟨some 24,(.eqA true 8 [(0,(some .i64)),(1,(some .u8)),(2,(some .i64)),(3,(some .i64)),(4,(some .i64)),(5,(some .i64)),(6,(some .i64)),(7,(some .i64))] (.t 19) (.t 23)),none⟩]
 [(0,1),(0,4),(1,4),(2,4),(3,4),(0,5),(1,5),(2,5),(3,5),(4,5),(0,6),(1,6),(2,6),(3,6),(0,7),(1,7),(2,7),(3,7)] [5,16,17,18,19,20,21,22,23])
 (.cond (.t 24)
 (.seq
 (.ops [⟨some 4,(.mv (.c (.bool false))),none⟩]
 [] [0,1,12,13,24])
 .ret)
 .skip))))
 (.ops [⟨some 25,(.bin .add (.t 13) (.c (.int .i64 (1)))),none⟩,
 ⟨some 13,(.mv (.t 25)),none⟩]
 [] [24,25])))))))
 (.seq
 (.ops [⟨some 4,(.mv (.c (.bool true))),none⟩]
 [] [0,1,12,13,14])
 .ret))))⟩
def ypa:List Nat:=[]
def yrF:List (Nat×List Nat):=[(9,[0,1,12,13,14]),(8,[24,25]),(7,[0,1,12,13,24]),(6,[5,16,17,18,19,20,21,22,23]),(5,[14,15]),(3,[10,11]),(2,[0,1,10]),(1,[6,7,8,9]),(0,[4])]
theorem yk8:yaa Tryz.prog ypa (fun i=>(yrF.lookup i).getD []) Tryz.f110=some yjS:=by kernel_rfl

-- slices.Clone[[]int,int]
def yjT:AFn:=⟨1,[.tmp 2],
 (.seq
 (.ops [⟨some 2,(.mv (.c .nils)),none⟩]
 [] [2])
 (.seq
 (.seq
 (.ops [⟨some 3,(.mv (.t 0)),none⟩,
 ⟨some 4,(.eqN false (.t 3)),none⟩]
 [] [3])
 (.cond (.t 4)
 (.seq
 (.ops [⟨some 2,(.mv (.c .nils)),none⟩]
 [] [0,4])
 .ret)
 .skip))
 (.seq
 (.ops [⟨some 5,(.buildSl true 1 (.int .i64 (0)) 0 []),none⟩,
 ⟨some 6,(.mv (.t 0)),none⟩,
 ⟨some 7,(.app true 1 8 (.t 5) (.t 6)),none⟩,
 ⟨some 2,(.mv (.t 7)),none⟩]
 [] [0,4,5,6,7])
 .ret)))⟩
def ypb:List Nat:=[]
def yrG:List (Nat×List Nat):=[(3,[0,4,5,6,7]),(2,[0,4]),(1,[3]),(0,[2])]
theorem yk9:yaa Tryz.prog ypb (fun i=>(yrG.lookup i).getD []) Tryz.f111=some yjT:=by kernel_rfl

-- parcener/trim.round$1
def yjU:AFn:=⟨4,[.tmp 5],
 (.seq
 (.ops [⟨some 5,(.mv (.c (.int .i64 (0)))),none⟩]
 [] [5])
 (.seq
 (.ops [⟨some 10,(.load true 2 (.t 1)),none⟩,
 ⟨some 11,(.mv (.t 0)),none⟩,
 ⟨some 12,(.load true 2 (.t 2)),none⟩,
 ⟨some 13,(.load true 2 (.t 1)),none⟩,
 ⟨some 14,(.mv (.t 0)),none⟩,
 ⟨some 15,(.call (.f 113) [(.t 13),(.t 14)]),none⟩,
 ⟨some 16,(.call (.f 44) [(.t 10),(.t 11),(.t 12),(.t 15)]),none⟩,
 ⟨some 9,(.mv (.t 16)),none⟩,
 ⟨some 17,(.ext (.t 9) 0),none⟩,
 ⟨some 18,(.ext (.t 9) 1),none⟩,
 ⟨some 19,(.ext (.t 9) 2),none⟩,
 ⟨some 6,(.allocL (.agg [.nils,.nils])),none⟩,
 ⟨some 7,(.allocL (.agg [(.int .i64 (0)),(.int .i64 (0))])),none⟩,
 ⟨none,(.store 2 (.t 6) (.t 17)),none⟩,
 ⟨none,(.store 2 (.t 7) (.t 18)),none⟩,
 ⟨some 8,(.mv (.t 19)),none⟩]
 [(0,1),(0,2),(1,2),(0,3),(1,3),(2,3),(0,4),(1,4),(2,4),(3,4),(0,5),(1,5),(2,5),(8,9),(8,10),(9,10),(0,11),(1,11),(2,11),(3,11),(4,11),(5,11),(6,11),(7,11),(8,11),(9,11),(10,11),(0,12),(1,12),(2,12),(3,12),(4,12),(5,12),(6,12),(7,12),(8,12),(9,12),(10,12),(11,12),(9,13),(10,13),(10,14)] [2,9,10,11,12,13,14,15,16,17,18,19])
 (.seq
 (.seq
 (.ops [⟨some 20,(.mv (.t 8)),none⟩,
 ⟨some 21,(.bin .eql (.t 20) (.c (.int .i64 (0)))),none⟩]
 [] [20])
 (.cond (.t 21)
 (.ops [⟨some 22,(.load true 2 (.t 6)),none⟩,
 ⟨some 23,(.load true 2 (.t 7)),none⟩,
 ⟨some 24,(.mv (.t 0)),none⟩,
 ⟨none,(.store 2 (.t 1) (.t 22)),none⟩,
 ⟨some 25,(.fad 3 (.t 3)),none⟩,
 ⟨none,(.store 2 (.t 25) (.t 23)),none⟩,
 ⟨some 26,(.fad 0 (.t 3)),none⟩,
 ⟨none,(.store 1 (.t 26) (.t 24)),none⟩]
 [(0,1),(0,2),(1,2),(1,3),(2,3),(2,4),(2,5)] [0,1,3,6,7,21,22,23,24,25,26])
 .skip))
 (.seq
 (.ops [⟨some 27,(.mv (.t 8)),none⟩,
 ⟨some 5,(.mv (.t 27)),none⟩]
 [] [0,1,3,6,7,8,21,27])
 .ret))))⟩
def ypc:List Nat:=[6,7]
def yrH:List (Nat×List Nat):=[(4,[0,1,3,6,7,8,21,27]),(3,[0,1,3,6,7,21,22,23,24,25,26]),(2,[20]),(1,[2,9,10,11,12,13,14,15,16,17,18,19]),(0,[5])]
theorem yla:yaa Tryz.prog ypc (fun i=>(yrH.lookup i).getD []) Tryz.f112=some yjU:=by kernel_rfl

-- parcener/trim.share
def yjV:AFn:=⟨2,[.cell 4 true 2],
 (.seq
 (.ops [⟨some 2,(.boxL (.t 0)),none⟩,
 ⟨some 4,(.allocL (.agg [(.int .i64 (0)),(.int .i64 (0))])),none⟩]
 [] [0])
 (.seq
 (.ops [⟨some 10,(.load true 2 (.t 2)),none⟩,
 ⟨some 11,(.mv (.t 1)),none⟩,
 ⟨some 12,(.call (.f 118) [(.t 10),(.t 11)]),none⟩,
 ⟨some 9,(.mv (.t 12)),none⟩,
 ⟨some 13,(.ext (.t 9) 0),none⟩,
 ⟨some 14,(.ext (.t 9) 1),none⟩,
 ⟨some 5,(.mv (.t 13)),none⟩,
 ⟨some 6,(.mv (.t 14)),none⟩]
 [] [1,6,9,10,11,12,13,14])
 (.seq
 (.ops [⟨some 16,(.mv (.t 5)),none⟩,
 ⟨some 17,(.fad 0 (.t 2)),none⟩,
 ⟨some 18,(.load false 1 (.t 17)),none⟩,
 ⟨some 19,(.len (.t 18)),none⟩,
 ⟨some 20,(.call (.f 69) [(.t 16),(.t 19)]),none⟩,
 ⟨some 15,(.mv (.t 20)),none⟩,
 ⟨some 21,(.ext (.t 15) 0),none⟩,
 ⟨some 22,(.ext (.t 15) 1),none⟩,
 ⟨some 7,(.allocL (.agg [(.int .i64 (0)),(.int .i64 (0))])),none⟩,
 ⟨none,(.store 2 (.t 7) (.t 21)),none⟩,
 ⟨some 8,(.mv (.t 22)),none⟩]
 [] [2,5,8,15,16,17,18,19,20,21,22])
 (.seq
 (.ops [⟨some 23,(.load true 2 (.t 7)),none⟩,
 ⟨none,(.store 2 (.t 4) (.t 23)),none⟩]
 [] [7,23])
 .ret))))⟩
def ypd:List Nat:=[2,4,7]
def yrI:List (Nat×List Nat):=[(3,[7,23]),(2,[2,5,8,15,16,17,18,19,20,21,22]),(1,[1,6,9,10,11,12,13,14]),(0,[0])]
theorem ylb:yaa Tryz.prog ypd (fun i=>(yrI.lookup i).getD []) Tryz.f113=some yjV:=by kernel_rfl

-- parcener/trim.more
def yjW:AFn:=⟨2,[.tmp 4],
 (.seq
 (.ops [⟨some 2,(.boxL (.t 0)),none⟩,
 ⟨some 3,(.boxL (.t 1)),none⟩,
 ⟨some 4,(.mv (.c (.bool false))),none⟩]
 [] [0,1,4])
 (.seq
 (.ops [⟨some 8,(.load true 2 (.t 2)),none⟩,
 ⟨some 9,(.load true 2 (.t 3)),none⟩,
 ⟨some 10,(.call (.f 60) [(.t 8),(.t 9)]),none⟩,
 ⟨some 7,(.mv (.t 10)),none⟩,
 ⟨some 11,(.ext (.t 7) 0),none⟩,
 ⟨some 12,(.ext (.t 7) 1),none⟩,
 ⟨some 5,(.mv (.t 11)),none⟩,
 ⟨some 6,(.mv (.t 12)),none⟩]
 [] [2,3,6,7,8,9,10,11,12])
 (.seq
 (.ops [⟨some 13,(.mv (.t 5)),none⟩,
 ⟨some 14,(.bin .gtr (.t 13) (.c (.int .i64 (0)))),none⟩,
 ⟨some 4,(.mv (.t 14)),none⟩]
 [] [5,13,14])
 .ret)))⟩
def ype:List Nat:=[2,3]
def yrJ:List (Nat×List Nat):=[(2,[5,13,14]),(1,[2,3,6,7,8,9,10,11,12]),(0,[0,1,4])]
theorem ylc:yaa Tryz.prog ype (fun i=>(yrJ.lookup i).getD []) Tryz.f114=some yjW:=by kernel_rfl

-- slices.IndexFunc[[]int,int]
def yjX:AFn:=⟨2,[.tmp 4],
 (.seq
 (.ops [⟨some 4,(.mv (.c (.int .i64 (0)))),none⟩]
 [] [4])
 (.seq
 (.seq
 (.ops [⟨some 6,(.mv (.t 0)),none⟩,
 ⟨some 7,(.len (.t 6)),none⟩,
 ⟨some 8,(.mv (.c (.int .i64 (0)))),none⟩]
 [] [6])
 (.block 0
 (.loop
 (.seq
 (.ops [⟨some 9,(.bin .lss (.t 8) (.t 7)),none⟩]
 [] [])
 (.seq
 (.cond (.t 9)
 .skip
 (.exit 0))
 (.seq
 (.block 1
 (.seq
 (.ops [⟨some 10,(.mv (.t 8)),none⟩,
 ⟨some 5,(.mv (.t 10)),none⟩]
 [] [9,10])
 (.seq
 (.ops [⟨some 11,(.mv (.t 1)),none⟩,
 ⟨some 12,(.mv (.t 0)),none⟩,
 ⟨some 13,(.mv (.t 5)),none⟩,
 ⟨some 14,(.iad 1 (.t 12) (.t 13)),none⟩,
 ⟨some 15,(.load false 1 (.t 14)),none⟩,
 ⟨some 16,(.call (.t 11) [(.t 15)]),none⟩]
 [] [11,12,13,14,15])
 (.cond (.t 16)
 (.seq
 (.ops [⟨some 17,(.mv (.t 5)),none⟩,
 ⟨some 4,(.mv (.t 17)),none⟩]
 [] [0,1,5,7,8,16,17])
 .ret)
 .skip))))
 (.ops [⟨some 18,(.bin .add (.t 8) (.c (.int .i64 (1)))),none⟩,
 ⟨some 8,(.mv (.t 18)),none⟩]
 [] [5,16,18])))))))
 (.seq
 (.ops [⟨some 4,(.mv (.c (.int .i64 (-1)))),none⟩]
 [] [0,1,7,8,9])
 .ret)))⟩
def ypf:List Nat:=[]
def yrK:List (Nat×List Nat):=[(7,[0,1,7,8,9]),(6,[5,16,18]),(5,[0,1,5,7,8,16,17]),(4,[11,12,13,14,15]),(3,[9,10]),(1,[6]),(0,[4])]
theorem yld:yaa Tryz.prog ypf (fun i=>(yrK.lookup i).getD []) Tryz.f115=some yjX:=by kernel_rfl

-- parcener/ratio.gcd
def yjY:AFn:=⟨2,[.tmp 4],
 (.seq
 (.ops [⟨some 4,(.mv (.c (.int .u64 (0)))),none⟩]
 [] [4])
 (.seq
 (.block 0
 (.loop
 (.seq
 (.seq
 (.ops [⟨some 5,(.mv (.t 1)),none⟩,
 ⟨some 6,(.bin .gtr (.t 5) (.c (.int .u64 (0)))),none⟩]
 [] [5])
 (.cond (.t 6)
 .skip
 (.exit 0)))
 (.block 1
 (.ops [⟨some 7,(.mv (.t 1)),none⟩,
 ⟨some 8,(.mv (.t 0)),none⟩,
 ⟨some 9,(.mv (.t 1)),none⟩,
 ⟨some 10,(.bin .rem (.t 8) (.t 9)),none⟩,
 ⟨some 0,(.mv (.t 7)),none⟩,
 ⟨some 1,(.mv (.t 10)),none⟩]
 [(0,1),(0,2),(1,2),(0,3),(2,4),(3,4)] [6,7,8,9,10])))))
 (.seq
 (.ops [⟨some 11,(.mv (.t 0)),none⟩,
 ⟨some 4,(.mv (.t 11)),none⟩]
 [] [0,1,6,11])
 .ret)))⟩
def ypg:List Nat:=[]
def yrL:List (Nat×List Nat):=[(3,[0,1,6,11]),(2,[6,7,8,9,10]),(1,[5]),(0,[4])]
theorem yle:yaa Tryz.prog ypg (fun i=>(yrL.lookup i).getD []) Tryz.f116=some yjY:=by kernel_rfl

-- parcener/ratio.signed
def yjZ:AFn:=⟨3,[.cell 6 true 2,.tmp 7],
 (.seq
 (.ops [⟨some 6,(.allocL (.agg [(.int .i64 (0)),(.int .i64 (0))])),none⟩,
 ⟨some 7,(.mv (.c (.int .i64 (0)))),none⟩]
 [] [7])
 (.seq
 (.seq
 (.ops [⟨some 8,(.mv (.t 1)),none⟩,
 ⟨some 9,(.mv (.t 2)),none⟩,
 ⟨some 10,(.minmax true [(.t 8),(.t 9)]),none⟩,
 ⟨some 11,(.bin .gtr (.t 10) (.c (.int .u64 (1000000000000000000)))),none⟩]
 [] [8,9,10])
 (.cond (.t 11)
 (.seq
 (.ops [⟨some 12,(.build [(.int .i64 (0)),(.int .i64 (0))] []),none⟩,
 ⟨none,(.store 2 (.t 6) (.t 12)),none⟩,
 ⟨some 7,(.mv (.c (.int .i64 (16)))),none⟩]
 [] [0,1,2,11,12])
 .ret)
 .skip))
 (.seq
 (.seq
 (.ops [⟨some 13,(.mv (.t 0)),none⟩]
 [] [0,11])
 (.cond (.t 13)
 (.seq
 (.ops [⟨some 14,(.mv (.t 1)),none⟩,
 ⟨some 15,(.conv .i64 (.t 14)),none⟩,
 ⟨some 16,(.un .neg (.t 15)),none⟩,
 ⟨some 17,(.mv (.t 2)),none⟩,
 ⟨some 18,(.conv .i64 (.t 17)),none⟩,
 ⟨some 19,(.build [(.int .i64 (0)),(.int .i64 (0))] [(0,1,(.t 16)),(1,1,(.t 18))]),none⟩,
 ⟨none,(.store 2 (.t 6) (.t 19)),none⟩,
 ⟨some 7,(.mv (.c (.int .i64 (0)))),none⟩]
 [] [1,2,13,14,15,16,17,18,19])
 .ret)
 .skip))
 (.seq
 (.ops [⟨some 20,(.mv (.t 1)),none⟩,
 ⟨some 21,(.conv .i64 (.t 20)),none⟩,
 ⟨some 22,(.mv (.t 2)),none⟩,
 ⟨some 23,(.conv .i64 (.t 22)),none⟩,
 ⟨some 24,(.build [(.int .i64 (0)),(.int .i64 (0))] [(0,1,(.t 21)),(1,1,(.t 23))]),none⟩,
 ⟨none,(.store 2 (.t 6) (.t 24)),none⟩,
 ⟨some 7,(.mv (.c (.int .i64 (0)))),none⟩]
 [] [1,2,13,20,21,22,23,24])
 .ret))))⟩
def yph:List Nat:=[6]
def yrM:List (Nat×List Nat):=[(5,[1,2,13,20,21,22,23,24]),(4,[1,2,13,14,15,16,17,18,19]),(3,[0,11]),(2,[0,1,2,11,12]),(1,[8,9,10]),(0,[7])]
theorem ylf:yaa Tryz.prog yph (fun i=>(yrM.lookup i).getD []) Tryz.f117=some yjZ:=by kernel_rfl

-- parcener/ask.Total
def yj0:AFn:=⟨2,[.tmp 4,.tmp 5],
 (.seq
 (.ops [⟨some 2,(.boxL (.t 0)),none⟩,
 ⟨some 4,(.mv (.c (.int .i64 (0)))),none⟩,
 ⟨some 5,(.mv (.c (.int .i64 (0)))),none⟩]
 [] [0,4,5])
 (.seq
 (.seq
 (.ops [⟨some 7,(.load true 2 (.t 2)),none⟩,
 ⟨some 8,(.call (.f 13) [(.t 7)]),none⟩,
 ⟨some 6,(.mv (.t 8)),none⟩]
 [] [7,8])
 (.seq
 (.ops [⟨some 9,(.mv (.t 6)),none⟩,
 ⟨some 10,(.bin .neq (.t 9) (.c (.int .i64 (0)))),none⟩]
 [] [9])
 (.cond (.t 10)
 (.seq
 (.ops [⟨some 11,(.mv (.t 6)),none⟩,
 ⟨some 4,(.mv (.c (.int .i64 (0)))),none⟩,
 ⟨some 5,(.mv (.t 11)),none⟩]
 [] [1,2,6,10,11])
 .ret)
 .skip)))
 (.seq
 (.seq
 (.ops [⟨some 12,(.load true 2 (.t 2)),none⟩,
 ⟨some 13,(.build [.nils,.nils] [(0,2,(.t 12))]),none⟩,
 ⟨some 14,(.mv (.t 1)),none⟩,
 ⟨some 15,(.call (.f 129) [(.t 13),(.t 14)]),none⟩,
 ⟨some 16,(.un .not (.t 15)),none⟩]
 [] [6,10,12,13,14,15])
 (.cond (.t 16)
 (.seq
 (.ops [⟨some 4,(.mv (.c (.int .i64 (0)))),none⟩,
 ⟨some 5,(.mv (.c (.int .i64 (2)))),none⟩]
 [] [1,2,16])
 .ret)
 .skip))
 (.seq
 (.ops [⟨some 17,(.fad 0 (.t 2)),none⟩,
 ⟨some 18,(.load false 1 (.t 17)),none⟩,
 ⟨some 19,(.mv (.t 1)),none⟩,
 ⟨some 20,(.iad 3 (.t 18) (.t 19)),none⟩,
 ⟨some 21,(.load true 3 (.t 20)),none⟩,
 ⟨some 22,(.call (.f 87) [(.t 21)]),none⟩,
 ⟨some 23,(.ext (.t 22) 0),none⟩,
 ⟨some 24,(.ext (.t 22) 1),none⟩,
 ⟨some 4,(.mv (.t 23)),none⟩,
 ⟨some 5,(.mv (.t 24)),none⟩]
 [] [1,2,16,17,18,19,20,21,22,23,24])
 .ret))))⟩
def ypi:List Nat:=[2]
def yrN:List (Nat×List Nat):=[(6,[1,2,16,17,18,19,20,21,22,23,24]),(5,[1,2,16]),(4,[6,10,12,13,14,15]),(3,[1,2,6,10,11]),(2,[9]),(1,[7,8]),(0,[0,4,5])]
theorem ylg:yaa Tryz.prog ypi (fun i=>(yrN.lookup i).getD []) Tryz.f118=some yj0:=by kernel_rfl

-- slices.stableCmpFunc[parcener/halve.half]
def yj1:AFn:=⟨3,[],
 (.seq
 (.ops [⟨some 6,(.mv (.c (.int .i64 (20)))),none⟩]
 [] [])
 (.seq
 (.ops [⟨some 10,(.mv (.t 6)),none⟩,
 ⟨some 7,(.mv (.c (.int .i64 (0)))),none⟩,
 ⟨some 8,(.mv (.t 10)),none⟩]
 [] [10])
 (.seq
 (.block 0
 (.loop
 (.seq
 (.seq
 (.ops [⟨some 11,(.mv (.t 8)),none⟩,
 ⟨some 12,(.mv (.t 1)),none⟩,
 ⟨some 13,(.bin .leq (.t 11) (.t 12)),none⟩]
 [] [11,12])
 (.cond (.t 13)
 .skip
 (.exit 0)))
 (.block 1
 (.seq
 (.ops [⟨some 14,(.mv (.t 0)),none⟩,
 ⟨some 15,(.mv (.t 7)),none⟩,
 ⟨some 16,(.mv (.t 8)),none⟩,
 ⟨some 17,(.mv (.t 2)),none⟩,
 ⟨some 18,(.call (.f 144) [(.t 14),(.t 15),(.t 16),(.t 17)]),none⟩]
 [] [7,13,14,15,16,17,18])
 (.seq
 (.ops [⟨some 19,(.mv (.t 8)),none⟩,
 ⟨some 7,(.mv (.t 19)),none⟩]
 [] [19])
 (.ops [⟨some 20,(.mv (.t 8)),none⟩,
 ⟨some 21,(.mv (.t 6)),none⟩,
 ⟨some 22,(.bin .add (.t 20) (.t 21)),none⟩,
 ⟨some 8,(.mv (.t 22)),none⟩]
 [] [20,21,22])))))))
 (.seq
 (.ops [⟨some 23,(.mv (.t 0)),none⟩,
 ⟨some 24,(.mv (.t 7)),none⟩,
 ⟨some 25,(.mv (.t 1)),none⟩,
 ⟨some 26,(.mv (.t 2)),none⟩,
 ⟨some 27,(.call (.f 144) [(.t 23),(.t 24),(.t 25),(.t 26)]),none⟩]
 [] [7,8,13,23,24,25,26,27])
 (.block 2
 (.loop
 (.seq
 (.seq
 (.ops [⟨some 28,(.mv (.t 6)),none⟩,
 ⟨some 29,(.mv (.t 1)),none⟩,
 ⟨some 30,(.bin .lss (.t 28) (.t 29)),none⟩]
 [] [28,29])
 (.cond (.t 30)
 .skip
 (.exit 2)))
 (.block 3
 (.seq
 (.ops [⟨some 31,(.mv (.t 6)),none⟩,
 ⟨some 32,(.bin .mul (.c (.int .i64 (2))) (.t 31)),none⟩,
 ⟨some 7,(.mv (.c (.int .i64 (0)))),none⟩,
 ⟨some 8,(.mv (.t 32)),none⟩]
 [] [30,31,32])
 (.seq
 (.block 4
 (.loop
 (.seq
 (.seq
 (.ops [⟨some 33,(.mv (.t 8)),none⟩,
 ⟨some 34,(.mv (.t 1)),none⟩,
 ⟨some 35,(.bin .leq (.t 33) (.t 34)),none⟩]
 [] [33,34])
 (.cond (.t 35)
 .skip
 (.exit 4)))
 (.block 5
 (.seq
 (.ops [⟨some 36,(.mv (.t 0)),none⟩,
 ⟨some 37,(.mv (.t 7)),none⟩,
 ⟨some 38,(.mv (.t 7)),none⟩,
 ⟨some 39,(.mv (.t 6)),none⟩,
 ⟨some 40,(.bin .add (.t 38) (.t 39)),none⟩,
 ⟨some 41,(.mv (.t 8)),none⟩,
 ⟨some 42,(.mv (.t 2)),none⟩,
 ⟨some 43,(.call (.f 145) [(.t 36),(.t 37),(.t 40),(.t 41),(.t 42)]),none⟩]
 [] [7,35,36,37,38,39,40,41,42,43])
 (.seq
 (.ops [⟨some 44,(.mv (.t 8)),none⟩,
 ⟨some 7,(.mv (.t 44)),none⟩]
 [] [44])
 (.ops [⟨some 45,(.mv (.t 8)),none⟩,
 ⟨some 46,(.mv (.t 6)),none⟩,
 ⟨some 47,(.bin .mul (.c (.int .i64 (2))) (.t 46)),none⟩,
 ⟨some 48,(.bin .add (.t 45) (.t 47)),none⟩,
 ⟨some 8,(.mv (.t 48)),none⟩]
 [] [45,46,47,48])))))))
 (.seq
 (.seq
 (.ops [⟨some 49,(.mv (.t 7)),none⟩,
 ⟨some 50,(.mv (.t 6)),none⟩,
 ⟨some 51,(.bin .add (.t 49) (.t 50)),none⟩,
 ⟨some 9,(.mv (.t 51)),none⟩]
 [] [8,35,49,50,51])
 (.seq
 (.ops [⟨some 52,(.mv (.t 9)),none⟩,
 ⟨some 53,(.mv (.t 1)),none⟩,
 ⟨some 54,(.bin .lss (.t 52) (.t 53)),none⟩]
 [] [52,53])
 (.cond (.t 54)
 (.ops [⟨some 55,(.mv (.t 0)),none⟩,
 ⟨some 56,(.mv (.t 7)),none⟩,
 ⟨some 57,(.mv (.t 9)),none⟩,
 ⟨some 58,(.mv (.t 1)),none⟩,
 ⟨some 59,(.mv (.t 2)),none⟩,
 ⟨some 60,(.call (.f 145) [(.t 55),(.t 56),(.t 57),(.t 58),(.t 59)]),none⟩]
 [] [7,9,54,55,56,57,58,59,60])
 .skip)))
 (.ops [⟨some 61,(.mv (.t 6)),none⟩,
 ⟨some 62,(.bin .mul (.t 61) (.c (.int .i64 (2)))),none⟩,
 ⟨some 6,(.mv (.t 62)),none⟩]
 [] [7,9,54,61,62]))))))))))))⟩
def ypj:List Nat:=[]
def yrO:List (Nat×List Nat):=[(16,[7,9,54,61,62]),(15,[7,9,54,55,56,57,58,59,60]),(14,[52,53]),(13,[8,35,49,50,51]),(12,[45,46,47,48]),(11,[44]),(10,[7,35,36,37,38,39,40,41,42,43]),(9,[33,34]),(8,[30,31,32]),(7,[28,29]),(6,[7,8,13,23,24,25,26,27]),(5,[20,21,22]),(4,[19]),(3,[7,13,14,15,16,17,18]),(2,[11,12]),(1,[10])]
theorem ylh:yaa Tryz.prog ypj (fun i=>(yrO.lookup i).getD []) Tryz.f119=some yj1:=by kernel_rfl

-- slices.pdqsortOrdered[int]
def yj2:AFn:=⟨4,[],
 (.seq
 (.ops [⟨some 8,(.mv (.c (.bool true))),none⟩]
 [] [])
 (.seq
 (.ops [⟨some 9,(.mv (.c (.bool true))),none⟩]
 [] [])
 (.block 0
 (.loop
 (.block 1
 (.seq
 (.ops [⟨some 19,(.mv (.t 2)),none⟩,
 ⟨some 20,(.mv (.t 1)),none⟩,
 ⟨some 21,(.bin .sub (.t 19) (.t 20)),none⟩,
 ⟨some 10,(.mv (.t 21)),none⟩]
 [] [19,20,21])
 (.seq
 (.seq
 (.ops [⟨some 22,(.mv (.t 10)),none⟩,
 ⟨some 23,(.bin .leq (.t 22) (.c (.int .i64 (12)))),none⟩]
 [] [22])
 (.cond (.t 23)
 (.seq
 (.ops [⟨some 24,(.mv (.t 0)),none⟩,
 ⟨some 25,(.mv (.t 1)),none⟩,
 ⟨some 26,(.mv (.t 2)),none⟩,
 ⟨some 27,(.call (.f 146) [(.t 24),(.t 25),(.t 26)]),none⟩]
 [] [0,1,2,3,8,9,10,23,24,25,26,27])
 .ret)
 .skip))
 (.seq
 (.seq
 (.ops [⟨some 28,(.mv (.t 3)),none⟩,
 ⟨some 29,(.bin .eql (.t 28) (.c (.int .i64 (0)))),none⟩]
 [] [23,28])
 (.cond (.t 29)
 (.seq
 (.ops [⟨some 30,(.mv (.t 0)),none⟩,
 ⟨some 31,(.mv (.t 1)),none⟩,
 ⟨some 32,(.mv (.t 2)),none⟩,
 ⟨some 33,(.call (.f 147) [(.t 30),(.t 31),(.t 32)]),none⟩]
 [] [0,1,2,3,8,9,10,29,30,31,32,33])
 .ret)
 .skip))
 (.seq
 (.seq
 (.ops [⟨some 34,(.mv (.t 8)),none⟩,
 ⟨some 35,(.un .not (.t 34)),none⟩]
 [] [29,34])
 (.cond (.t 35)
 (.seq
 (.ops [⟨some 36,(.mv (.t 0)),none⟩,
 ⟨some 37,(.mv (.t 1)),none⟩,
 ⟨some 38,(.mv (.t 2)),none⟩,
 ⟨some 39,(.call (.f 148) [(.t 36),(.t 37),(.t 38)]),none⟩]
 [] [35,36,37,38,39])
 (.ops [⟨some 40,(.mv (.t 3)),none⟩,
 ⟨some 41,(.bin .sub (.t 40) (.c (.int .i64 (1)))),none⟩,
 ⟨some 3,(.mv (.t 41)),none⟩]
 [] [40,41]))
 .skip))
 (.seq
 (.ops [⟨some 43,(.mv (.t 0)),none⟩,
 ⟨some 44,(.mv (.t 1)),none⟩,
 ⟨some 45,(.mv (.t 2)),none⟩,
 ⟨some 46,(.call (.f 149) [(.t 43),(.t 44),(.t 45)]),none⟩,
 ⟨some 42,(.mv (.t 46)),none⟩,
 ⟨some 47,(.ext (.t 42) 0),none⟩,
 ⟨some 48,(.ext (.t 42) 1),none⟩,
 ⟨some 11,(.mv (.t 47)),none⟩,
 ⟨some 12,(.mv (.t 48)),none⟩]
 [] [35,42,43,44,45,46,47,48])
 (.seq
 (.seq
 (.ops [⟨some 49,(.mv (.t 12)),none⟩,
 ⟨some 50,(.bin .eql (.t 49) (.c (.int .i64 (2)))),none⟩]
 [] [49])
 (.cond (.t 50)
 (.seq
 (.ops [⟨some 51,(.mv (.t 0)),none⟩,
 ⟨some 52,(.mv (.t 1)),none⟩,
 ⟨some 53,(.mv (.t 2)),none⟩,
 ⟨some 54,(.call (.f 150) [(.t 51),(.t 52),(.t 53)]),none⟩]
 [] [12,50,51,52,53,54])
 (.seq
 (.ops [⟨some 55,(.mv (.t 2)),none⟩,
 ⟨some 56,(.bin .sub (.t 55) (.c (.int .i64 (1)))),none⟩,
 ⟨some 57,(.mv (.t 11)),none⟩,
 ⟨some 58,(.mv (.t 1)),none⟩,
 ⟨some 59,(.bin .sub (.t 57) (.t 58)),none⟩,
 ⟨some 60,(.bin .sub (.t 56) (.t 59)),none⟩,
 ⟨some 11,(.mv (.t 60)),none⟩]
 [] [55,56,57,58,59,60])
 (.ops [⟨some 12,(.mv (.c (.int .i64 (1)))),none⟩]
 [] [])))
 .skip))
 (.seq
 (.seq
 (.ops [⟨some 61,(.mv (.t 8)),none⟩,
 ⟨some 62,(.mv (.t 61)),none⟩,
 ⟨some 63,(.mv (.t 9)),some (62,true)⟩,
 ⟨some 64,(.pick (.t 62) (.t 63) (.c (.bool false))),none⟩,
 ⟨some 65,(.mv (.t 64)),none⟩,
 ⟨some 66,(.mv (.t 12)),some (65,true)⟩,
 ⟨some 67,(.bin .eql (.t 66) (.c (.int .i64 (1)))),some (65,true)⟩,
 ⟨some 68,(.pick (.t 65) (.t 67) (.c (.bool false))),none⟩]
 [] [12,50,61,62,63,64,65,66,67])
 (.cond (.t 68)
 (.seq
 (.ops [⟨some 69,(.mv (.t 0)),none⟩,
 ⟨some 70,(.mv (.t 1)),none⟩,
 ⟨some 71,(.mv (.t 2)),none⟩,
 ⟨some 72,(.call (.f 151) [(.t 69),(.t 70),(.t 71)]),none⟩]
 [] [68,69,70,71])
 (.cond (.t 72)
 .ret
 .skip))
 .skip))
 (.seq
 (.seq
 (.ops [⟨some 73,(.mv (.t 1)),none⟩,
 ⟨some 74,(.bin .gtr (.t 73) (.c (.int .i64 (0)))),none⟩,
 ⟨some 75,(.mv (.t 74)),none⟩,
 ⟨some 76,(.mv (.t 0)),some (75,true)⟩,
 ⟨some 77,(.mv (.t 1)),some (75,true)⟩,
 ⟨some 78,(.bin .sub (.t 77) (.c (.int .i64 (1)))),some (75,true)⟩,
 ⟨some 79,(.iad 1 (.t 76) (.t 78)),some (75,true)⟩,
 ⟨some 80,(.load false 1 (.t 79)),some (75,true)⟩,
 ⟨some 81,(.mv (.t 0)),some (75,true)⟩,
 ⟨some 82,(.mv (.t 11)),some (75,true)⟩,
 ⟨some 83,(.iad 1 (.t 81) (.t 82)),some (75,true)⟩,
 ⟨some 84,(.load false 1 (.t 83)),some (75,true)⟩,
 ⟨some 85,(.call (.f 152) [(.t 80),(.t 84)]),some (75,true)⟩,
 ⟨some 86,(.un .not (.t 85)),some (75,true)⟩,
 ⟨some 87,(.pick (.t 75) (.t 86) (.c (.bool false))),none⟩]
 [(3,4),(3,5),(3,8),(4,8),(5,8),(6,8),(7,8),(3,9),(4,9),(5,9),(6,9),(7,9),(8,9),(3,10),(4,10),(5,10),(6,10),(7,10),(3,11),(4,11),(5,11),(6,11),(7,11)] [68,72,73,74,75,76,77,78,79,80,81,82,83,84,85,86])
 (.cond (.t 87)
 (.seq
 (.ops [⟨some 88,(.mv (.t 0)),none⟩,
 ⟨some 89,(.mv (.t 1)),none⟩,
 ⟨some 90,(.mv (.t 2)),none⟩,
 ⟨some 91,(.mv (.t 11)),none⟩,
 ⟨some 92,(.call (.f 153) [(.t 88),(.t 89),(.t 90),(.t 91)]),none⟩,
 ⟨some 13,(.mv (.t 92)),none⟩]
 [] [1,10,11,87,88,89,90,91,92])
 (.seq
 (.ops [⟨some 93,(.mv (.t 13)),none⟩,
 ⟨some 1,(.mv (.t 93)),none⟩]
 [] [13,93])
 (.exit 1)))
 .skip))
 (.seq
 (.ops [⟨some 95,(.mv (.t 0)),none⟩,
 ⟨some 96,(.mv (.t 1)),none⟩,
 ⟨some 97,(.mv (.t 2)),none⟩,
 ⟨some 98,(.mv (.t 11)),none⟩,
 ⟨some 99,(.call (.f 154) [(.t 95),(.t 96),(.t 97),(.t 98)]),none⟩,
 ⟨some 94,(.mv (.t 99)),none⟩,
 ⟨some 100,(.ext (.t 94) 0),none⟩,
 ⟨some 101,(.ext (.t 94) 1),none⟩,
 ⟨some 14,(.mv (.t 100)),none⟩,
 ⟨some 15,(.mv (.t 101)),none⟩]
 [] [8,9,11,87,94,95,96,97,98,99,100,101])
 (.seq
 (.ops [⟨some 102,(.mv (.t 15)),none⟩,
 ⟨some 9,(.mv (.t 102)),none⟩]
 [] [15,102])
 (.seq
 (.ops [⟨some 103,(.mv (.t 14)),none⟩,
 ⟨some 104,(.mv (.t 1)),none⟩,
 ⟨some 105,(.bin .sub (.t 103) (.t 104)),none⟩,
 ⟨some 106,(.mv (.t 2)),none⟩,
 ⟨some 107,(.mv (.t 14)),none⟩,
 ⟨some 108,(.bin .sub (.t 106) (.t 107)),none⟩,
 ⟨some 16,(.mv (.t 105)),none⟩,
 ⟨some 17,(.mv (.t 108)),none⟩]
 [] [103,104,105,106,107,108])
 (.seq
 (.ops [⟨some 109,(.mv (.t 10)),none⟩,
 ⟨some 110,(.bin .quo (.t 109) (.c (.int .i64 (8)))),none⟩,
 ⟨some 18,(.mv (.t 110)),none⟩]
 [] [10,109,110])
 (.seq
 (.ops [⟨some 111,(.mv (.t 16)),none⟩,
 ⟨some 112,(.mv (.t 17)),none⟩,
 ⟨some 113,(.bin .lss (.t 111) (.t 112)),none⟩]
 [] [111,112])
 (.cond (.t 113)
 (.seq
 (.ops [⟨some 114,(.mv (.t 16)),none⟩,
 ⟨some 115,(.mv (.t 18)),none⟩,
 ⟨some 116,(.bin .geq (.t 114) (.t 115)),none⟩,
 ⟨some 8,(.mv (.t 116)),none⟩]
 [] [16,17,18,113,114,115,116])
 (.seq
 (.ops [⟨some 117,(.mv (.t 0)),none⟩,
 ⟨some 118,(.mv (.t 1)),none⟩,
 ⟨some 119,(.mv (.t 14)),none⟩,
 ⟨some 120,(.mv (.t 3)),none⟩,
 ⟨some 121,(.call (.f 120) [(.t 117),(.t 118),(.t 119),(.t 120)]),none⟩]
 [] [1,117,118,119,120,121])
 (.ops [⟨some 122,(.mv (.t 14)),none⟩,
 ⟨some 123,(.bin .add (.t 122) (.c (.int .i64 (1)))),none⟩,
 ⟨some 1,(.mv (.t 123)),none⟩]
 [] [14,122,123])))
 (.seq
 (.ops [⟨some 124,(.mv (.t 17)),none⟩,
 ⟨some 125,(.mv (.t 18)),none⟩,
 ⟨some 126,(.bin .geq (.t 124) (.t 125)),none⟩,
 ⟨some 8,(.mv (.t 126)),none⟩]
 [] [16,17,18,113,124,125,126])
 (.seq
 (.ops [⟨some 127,(.mv (.t 0)),none⟩,
 ⟨some 128,(.mv (.t 14)),none⟩,
 ⟨some 129,(.bin .add (.t 128) (.c (.int .i64 (1)))),none⟩,
 ⟨some 130,(.mv (.t 2)),none⟩,
 ⟨some 131,(.mv (.t 3)),none⟩,
 ⟨some 132,(.call (.f 120) [(.t 127),(.t 129),(.t 130),(.t 131)]),none⟩]
 [] [2,127,128,129,130,131,132])
 (.ops [⟨some 133,(.mv (.t 14)),none⟩,
 ⟨some 2,(.mv (.t 133)),none⟩]
 [] [14,133]))))))))))))))))))))))⟩
def ypk:List Nat:=[]
def yrP:List (Nat×List Nat):=[(30,[14,133]),(29,[2,127,128,129,130,131,132]),(28,[16,17,18,113,124,125,126]),(27,[14,122,123]),(26,[1,117,118,119,120,121]),(25,[16,17,18,113,114,115,116]),(24,[111,112]),(23,[10,109,110]),(22,[103,104,105,106,107,108]),(21,[15,102]),(20,[8,9,11,87,94,95,96,97,98,99,100,101]),(19,[13,93]),(18,[1,10,11,87,88,89,90,91,92]),(17,[68,72,73,74,75,76,77,78,79,80,81,82,83,84,85,86]),(16,[68,69,70,71]),(15,[12,50,61,62,63,64,65,66,67]),(13,[55,56,57,58,59,60]),(12,[12,50,51,52,53,54]),(11,[49]),(10,[35,42,43,44,45,46,47,48]),(9,[40,41]),(8,[35,36,37,38,39]),(7,[29,34]),(6,[0,1,2,3,8,9,10,29,30,31,32,33]),(5,[23,28]),(4,[0,1,2,3,8,9,10,23,24,25,26,27]),(3,[22]),(2,[19,20,21])]
theorem yli:yaa Tryz.prog ypk (fun i=>(yrP.lookup i).getD []) Tryz.f120=some yj2:=by kernel_rfl

-- parcener/triple.must[int]
def yj3:AFn:=⟨2,[.tmp 4],
 (.seq
 (.ops [⟨some 4,(.mv (.c (.int .i64 (0)))),none⟩]
 [] [4])
 (.seq
 (.seq
 (.ops [⟨some 5,(.mv (.t 1)),none⟩,
 ⟨some 6,(.bin .neq (.t 5) (.c (.int .i64 (0)))),none⟩]
 [] [5])
 (.cond (.t 6)
 (.ops [⟨some 7,(.mv (.t 1)),none⟩,
 ⟨some 8,.bad,none⟩,
 ⟨none,.bad,none⟩]
 [] [1,6,7,8])
 .skip))
 (.seq
 (.ops [⟨some 9,(.mv (.t 0)),none⟩,
 ⟨some 4,(.mv (.t 9)),none⟩]
 [] [0,1,6,9])
 .ret)))⟩
def ypl:List Nat:=[]
def yrQ:List (Nat×List Nat):=[(3,[0,1,6,9]),(2,[1,6,7,8]),(1,[5]),(0,[4])]
theorem ylj:yaa Tryz.prog ypl (fun i=>(yrQ.lookup i).getD []) Tryz.f121=some yj3:=by kernel_rfl

-- parcener/ratio.Add
def yj4:AFn:=⟨2,[.cell 4 true 2,.tmp 5],
 (.seq
 (.ops [⟨some 2,(.boxL (.t 0)),none⟩,
 ⟨some 3,(.boxL (.t 1)),none⟩,
 ⟨some 4,(.allocL (.agg [(.int .i64 (0)),(.int .i64 (0))])),none⟩,
 ⟨some 5,(.mv (.c (.int .i64 (0)))),none⟩]
 [] [0,1,5])
 (.seq
 (.seq
 (.ops [⟨some 21,(.load true 2 (.t 2)),none⟩,
 ⟨some 22,(.load true 2 (.t 3)),none⟩,
 ⟨some 23,(.call (.f 104) [(.t 21),(.t 22)]),none⟩,
 ⟨some 6,(.mv (.t 23)),none⟩]
 [] [21,22,23])
 (.seq
 (.ops [⟨some 24,(.mv (.t 6)),none⟩,
 ⟨some 25,(.bin .neq (.t 24) (.c (.int .i64 (0)))),none⟩]
 [] [24])
 (.cond (.t 25)
 (.seq
 (.ops [⟨some 26,(.build [(.int .i64 (0)),(.int .i64 (0))] []),none⟩,
 ⟨some 27,(.mv (.t 6)),none⟩,
 ⟨none,(.store 2 (.t 4) (.t 26)),none⟩,
 ⟨some 5,(.mv (.t 27)),none⟩]
 [] [2,3,6,25,26,27])
 .ret)
 .skip)))
 (.seq
 (.ops [⟨some 28,(.fad 1 (.t 2)),none⟩,
 ⟨some 29,(.load false 1 (.t 28)),none⟩,
 ⟨some 30,(.conv .u64 (.t 29)),none⟩,
 ⟨some 31,(.fad 1 (.t 3)),none⟩,
 ⟨some 32,(.load false 1 (.t 31)),none⟩,
 ⟨some 33,(.conv .u64 (.t 32)),none⟩,
 ⟨some 34,(.call (.f 116) [(.t 30),(.t 33)]),none⟩,
 ⟨some 7,(.mv (.t 34)),none⟩]
 [] [6,25,28,29,30,31,32,33,34])
 (.seq
 (.ops [⟨some 36,(.fad 0 (.t 2)),none⟩,
 ⟨some 37,(.load false 1 (.t 36)),none⟩,
 ⟨some 38,(.call (.f 107) [(.t 37)]),none⟩,
 ⟨some 39,(.fad 1 (.t 3)),none⟩,
 ⟨some 40,(.load false 1 (.t 39)),none⟩,
 ⟨some 41,(.conv .u64 (.t 40)),none⟩,
 ⟨some 42,(.mv (.t 7)),none⟩,
 ⟨some 43,(.bin .quo (.t 41) (.t 42)),none⟩,
 ⟨some 44,(.call (.f 106) [(.t 38),(.t 43)]),none⟩,
 ⟨some 35,(.mv (.t 44)),none⟩,
 ⟨some 45,(.ext (.t 35) 0),none⟩,
 ⟨some 46,(.ext (.t 35) 1),none⟩,
 ⟨some 8,(.mv (.t 45)),none⟩,
 ⟨some 9,(.mv (.t 46)),none⟩]
 [(0,3),(1,3),(2,3),(0,4),(1,4),(2,4),(0,5),(1,5),(2,5),(0,6),(1,6),(2,6),(3,6),(4,6),(5,6),(0,7),(1,7),(2,7),(10,11),(11,12)] [35,36,37,38,39,40,41,42,43,44,45,46])
 (.seq
 (.ops [⟨some 48,(.fad 0 (.t 3)),none⟩,
 ⟨some 49,(.load false 1 (.t 48)),none⟩,
 ⟨some 50,(.call (.f 107) [(.t 49)]),none⟩,
 ⟨some 51,(.fad 1 (.t 2)),none⟩,
 ⟨some 52,(.load false 1 (.t 51)),none⟩,
 ⟨some 53,(.conv .u64 (.t 52)),none⟩,
 ⟨some 54,(.mv (.t 7)),none⟩,
 ⟨some 55,(.bin .quo (.t 53) (.t 54)),none⟩,
 ⟨some 56,(.call (.f 106) [(.t 50),(.t 55)]),none⟩,
 ⟨some 47,(.mv (.t 56)),none⟩,
 ⟨some 57,(.ext (.t 47) 0),none⟩,
 ⟨some 58,(.ext (.t 47) 1),none⟩,
 ⟨some 10,(.mv (.t 57)),none⟩,
 ⟨some 11,(.mv (.t 58)),none⟩]
 [(0,3),(1,3),(2,3),(0,4),(1,4),(2,4),(0,5),(1,5),(2,5),(0,6),(1,6),(2,6),(3,6),(4,6),(5,6),(0,7),(1,7),(2,7),(10,11),(11,12)] [47,48,49,50,51,52,53,54,55,56,57,58])
 (.seq
 (.ops [⟨some 59,(.fad 0 (.t 2)),none⟩,
 ⟨some 60,(.load false 1 (.t 59)),none⟩,
 ⟨some 61,(.bin .lss (.t 60) (.c (.int .i64 (0)))),none⟩,
 ⟨some 12,(.mv (.t 61)),none⟩]
 [] [59,60,61])
 (.seq
 (.ops [⟨some 13,(.mv (.c (.int .u64 (0)))),none⟩,
 ⟨some 14,(.mv (.c (.int .u64 (0)))),none⟩,
 ⟨some 15,(.mv (.c (.int .u64 (0)))),none⟩]
 [] [13,14,15])
 (.seq
 (.seq
 (.ops [⟨some 62,(.fad 0 (.t 2)),none⟩,
 ⟨some 63,(.load false 1 (.t 62)),none⟩,
 ⟨some 64,(.bin .lss (.t 63) (.c (.int .i64 (0)))),none⟩,
 ⟨some 65,(.fad 0 (.t 3)),none⟩,
 ⟨some 66,(.load false 1 (.t 65)),none⟩,
 ⟨some 67,(.bin .lss (.t 66) (.c (.int .i64 (0)))),none⟩,
 ⟨some 68,(.eqB false (.t 64) (.t 67)),none⟩]
 [] [62,63,64,65,66,67])
 (.cond (.t 68)
 (.seq
 (.ops [⟨some 70,(.mv (.t 9)),none⟩,
 ⟨some 71,(.mv (.t 11)),none⟩,
 ⟨some 72,(.call (.f 155) [(.t 70),(.t 71),(.c (.int .u64 (0)))]),none⟩,
 ⟨some 69,(.mv (.t 72)),none⟩,
 ⟨some 73,(.ext (.t 69) 0),none⟩,
 ⟨some 74,(.ext (.t 69) 1),none⟩,
 ⟨some 14,(.mv (.t 73)),none⟩,
 ⟨some 15,(.mv (.t 74)),none⟩]
 [] [9,11,68,69,70,71,72,73,74])
 (.ops [⟨some 76,(.mv (.t 8)),none⟩,
 ⟨some 77,(.mv (.t 10)),none⟩,
 ⟨some 78,(.mv (.t 15)),none⟩,
 ⟨some 79,(.call (.f 155) [(.t 76),(.t 77),(.t 78)]),none⟩,
 ⟨some 75,(.mv (.t 79)),none⟩,
 ⟨some 80,(.ext (.t 75) 0),none⟩,
 ⟨some 81,(.ext (.t 75) 1),none⟩,
 ⟨some 13,(.mv (.t 80)),none⟩]
 [] [8,10,15,75,76,77,78,79,80,81]))
 (.seq
 (.seq
 (.ops [⟨some 82,(.mv (.t 8)),none⟩,
 ⟨some 83,(.mv (.t 10)),none⟩,
 ⟨some 84,(.bin .lss (.t 82) (.t 83)),none⟩,
 ⟨some 85,(.mv (.t 84)),none⟩,
 ⟨some 86,(.mv (.t 8)),some (85,false)⟩,
 ⟨some 87,(.mv (.t 10)),some (85,false)⟩,
 ⟨some 88,(.bin .eql (.t 86) (.t 87)),some (85,false)⟩,
 ⟨some 89,(.mv (.t 88)),some (85,false)⟩,
 ⟨some 90,(.mv (.t 9)),some (89,true)⟩,
 ⟨some 91,(.mv (.t 11)),some (89,true)⟩,
 ⟨some 92,(.bin .lss (.t 90) (.t 91)),some (89,true)⟩,
 ⟨some 93,(.pick (.t 89) (.t 92) (.c (.bool false))),some (85,false)⟩,
 ⟨some 94,(.pick (.t 85) (.c (.bool true)) (.t 93)),none⟩]
 [] [68,82,83,84,85,86,87,88,89,90,91,92,93])
 (.cond (.t 94)
 (.seq
 (.ops [⟨some 95,(.mv (.t 10)),none⟩,
 ⟨some 96,(.mv (.t 11)),none⟩,
 ⟨some 97,(.mv (.t 8)),none⟩,
 ⟨some 98,(.mv (.t 9)),none⟩,
 ⟨some 8,(.mv (.t 95)),none⟩,
 ⟨some 9,(.mv (.t 96)),none⟩,
 ⟨some 10,(.mv (.t 97)),none⟩,
 ⟨some 11,(.mv (.t 98)),none⟩]
 [] [94,95,96,97,98])
 (.ops [⟨some 99,(.mv (.t 12)),none⟩,
 ⟨some 100,(.un .not (.t 99)),none⟩,
 ⟨some 12,(.mv (.t 100)),none⟩]
 [] [99,100]))
 .skip))
 (.seq
 (.ops [⟨some 102,(.mv (.t 9)),none⟩,
 ⟨some 103,(.mv (.t 11)),none⟩,
 ⟨some 104,(.call (.f 156) [(.t 102),(.t 103),(.c (.int .u64 (0)))]),none⟩,
 ⟨some 101,(.mv (.t 104)),none⟩,
 ⟨some 105,(.ext (.t 101) 0),none⟩,
 ⟨some 106,(.ext (.t 101) 1),none⟩,
 ⟨some 14,(.mv (.t 105)),none⟩,
 ⟨some 15,(.mv (.t 106)),none⟩]
 [] [9,11,94,101,102,103,104,105,106])
 (.ops [⟨some 108,(.mv (.t 8)),none⟩,
 ⟨some 109,(.mv (.t 10)),none⟩,
 ⟨some 110,(.mv (.t 15)),none⟩,
 ⟨some 111,(.call (.f 156) [(.t 108),(.t 109),(.t 110)]),none⟩,
 ⟨some 107,(.mv (.t 111)),none⟩,
 ⟨some 112,(.ext (.t 107) 0),none⟩,
 ⟨some 113,(.ext (.t 107) 1),none⟩,
 ⟨some 13,(.mv (.t 112)),none⟩]
 [] [8,10,15,107,108,109,110,111,112,113])))))
 (.seq
 (.seq
 (.ops [⟨some 114,(.mv (.t 13)),none⟩,
 ⟨some 115,(.bin .eql (.t 114) (.c (.int .u64 (0)))),none⟩,
 ⟨some 116,(.mv (.t 115)),none⟩,
 ⟨some 117,(.mv (.t 14)),some (116,true)⟩,
 ⟨some 118,(.bin .eql (.t 117) (.c (.int .u64 (0)))),some (116,true)⟩,
 ⟨some 119,(.pick (.t 116) (.t 118) (.c (.bool false))),none⟩]
 [] [114,115,116,117,118])
 (.cond (.t 119)
 (.seq
 (.ops [⟨some 120,(.build [(.int .i64 (0)),(.int .i64 (0))] [(1,1,(.c (.int .i64 (1))))]),none⟩,
 ⟨none,(.store 2 (.t 4) (.t 120)),none⟩,
 ⟨some 5,(.mv (.c (.int .i64 (0)))),none⟩]
 [] [2,3,7,12,13,14,119,120])
 .ret)
 .skip))
 (.seq
 (.ops [⟨some 121,(.mv (.t 13)),none⟩,
 ⟨some 122,(.mv (.t 14)),none⟩,
 ⟨some 123,(.mv (.t 7)),none⟩,
 ⟨some 124,(.call (.f 157) [(.t 121),(.t 122),(.t 123)]),none⟩,
 ⟨some 125,(.mv (.t 7)),none⟩,
 ⟨some 126,(.call (.f 116) [(.t 124),(.t 125)]),none⟩,
 ⟨some 16,(.mv (.t 126)),none⟩]
 [] [119,121,122,123,124,125,126])
 (.seq
 (.seq
 (.ops [⟨some 127,(.mv (.t 13)),none⟩,
 ⟨some 128,(.mv (.t 16)),none⟩,
 ⟨some 129,(.bin .geq (.t 127) (.t 128)),none⟩]
 [] [127,128])
 (.cond (.t 129)
 (.seq
 (.ops [⟨some 130,(.build [(.int .i64 (0)),(.int .i64 (0))] []),none⟩,
 ⟨none,(.store 2 (.t 4) (.t 130)),none⟩,
 ⟨some 5,(.mv (.c (.int .i64 (16)))),none⟩]
 [] [2,3,7,12,13,14,16,129,130])
 .ret)
 .skip))
 (.seq
 (.ops [⟨some 132,(.mv (.t 13)),none⟩,
 ⟨some 133,(.mv (.t 14)),none⟩,
 ⟨some 134,(.mv (.t 16)),none⟩,
 ⟨some 135,(.call (.f 158) [(.t 132),(.t 133),(.t 134)]),none⟩,
 ⟨some 131,(.mv (.t 135)),none⟩,
 ⟨some 136,(.ext (.t 131) 0),none⟩,
 ⟨some 137,(.ext (.t 131) 1),none⟩,
 ⟨some 17,(.mv (.t 136)),none⟩,
 ⟨some 18,(.mv (.t 137)),none⟩]
 [] [13,14,18,129,131,132,133,134,135,136,137])
 (.seq
 (.ops [⟨some 139,(.fad 1 (.t 2)),none⟩,
 ⟨some 140,(.load false 1 (.t 139)),none⟩,
 ⟨some 141,(.conv .u64 (.t 140)),none⟩,
 ⟨some 142,(.mv (.t 7)),none⟩,
 ⟨some 143,(.bin .quo (.t 141) (.t 142)),none⟩,
 ⟨some 144,(.fad 1 (.t 3)),none⟩,
 ⟨some 145,(.load false 1 (.t 144)),none⟩,
 ⟨some 146,(.conv .u64 (.t 145)),none⟩,
 ⟨some 147,(.mv (.t 16)),none⟩,
 ⟨some 148,(.bin .quo (.t 146) (.t 147)),none⟩,
 ⟨some 149,(.call (.f 106) [(.t 143),(.t 148)]),none⟩,
 ⟨some 138,(.mv (.t 149)),none⟩,
 ⟨some 150,(.ext (.t 138) 0),none⟩,
 ⟨some 151,(.ext (.t 138) 1),none⟩,
 ⟨some 19,(.mv (.t 150)),none⟩,
 ⟨some 20,(.mv (.t 151)),none⟩]
 [(0,3),(1,3),(2,3),(0,5),(1,5),(2,5),(3,5),(4,5),(0,6),(1,6),(2,6),(3,6),(4,6),(0,7),(1,7),(2,7),(3,7),(4,7),(0,8),(1,8),(2,8),(3,8),(4,8),(5,8),(6,8),(7,8),(0,9),(1,9),(2,9),(3,9),(4,9),(12,13),(13,14)] [2,3,7,16,138,139,140,141,142,143,144,145,146,147,148,149,150,151])
 (.seq
 (.seq
 (.ops [⟨some 152,(.mv (.t 19)),none⟩,
 ⟨some 153,(.bin .gtr (.t 152) (.c (.int .u64 (0)))),none⟩]
 [] [19,152])
 (.cond (.t 153)
 (.seq
 (.ops [⟨some 154,(.build [(.int .i64 (0)),(.int .i64 (0))] []),none⟩,
 ⟨none,(.store 2 (.t 4) (.t 154)),none⟩,
 ⟨some 5,(.mv (.c (.int .i64 (16)))),none⟩]
 [] [12,17,20,153,154])
 .ret)
 .skip))
 (.seq
 (.ops [⟨some 155,(.mv (.t 12)),none⟩,
 ⟨some 156,(.mv (.t 17)),none⟩,
 ⟨some 157,(.mv (.t 20)),none⟩,
 ⟨some 158,(.call (.f 117) [(.t 155),(.t 156),(.t 157)]),none⟩,
 ⟨some 159,(.ext (.t 158) 0),none⟩,
 ⟨some 160,(.ext (.t 158) 1),none⟩,
 ⟨none,(.store 2 (.t 4) (.t 159)),none⟩,
 ⟨some 5,(.mv (.t 160)),none⟩]
 [] [12,17,20,153,155,156,157,158,159,160])
 .ret)))))))))))))))⟩
def ypm:List Nat:=[2,3,4]
def yrR:List (Nat×List Nat):=[(26,[12,17,20,153,155,156,157,158,159,160]),(25,[12,17,20,153,154]),(24,[19,152]),(23,[2,3,7,16,138,139,140,141,142,143,144,145,146,147,148,149,150,151]),(22,[13,14,18,129,131,132,133,134,135,136,137]),(21,[2,3,7,12,13,14,16,129,130]),(20,[127,128]),(19,[119,121,122,123,124,125,126]),(18,[2,3,7,12,13,14,119,120]),(17,[114,115,116,117,118]),(16,[8,10,15,107,108,109,110,111,112,113]),(15,[9,11,94,101,102,103,104,105,106]),(14,[99,100]),(13,[94,95,96,97,98]),(12,[68,82,83,84,85,86,87,88,89,90,91,92,93]),(11,[8,10,15,75,76,77,78,79,80,81]),(10,[9,11,68,69,70,71,72,73,74]),(9,[62,63,64,65,66,67]),(8,[13,14,15]),(7,[59,60,61]),(6,[47,48,49,50,51,52,53,54,55,56,57,58]),(5,[35,36,37,38,39,40,41,42,43,44,45,46]),(4,[6,25,28,29,30,31,32,33,34]),(3,[2,3,6,25,26,27]),(2,[24]),(1,[21,22,23]),(0,[0,1,5])]
theorem ylk:yaa Tryz.prog ypm (fun i=>(yrR.lookup i).getD []) Tryz.f122=some yj4:=by kernel_rfl

-- parcener/triple.others$1
def yj5:AFn:=⟨2,[.tmp 2],
 (.seq
 (.ops [⟨some 2,(.mv (.c (.bool false))),none⟩]
 [] [2])
 (.seq
 (.seq
 (.ops [⟨some 5,(.load false 1 (.t 0)),none⟩,
 ⟨some 6,(.len (.t 5)),none⟩,
 ⟨some 7,(.mv (.c (.int .i64 (0)))),none⟩]
 [] [0])
 (.block 0
 (.loop
 (.seq
 (.ops [⟨some 8,(.bin .lss (.t 7) (.t 6)),none⟩]
 [] [])
 (.seq
 (.cond (.t 8)
 .skip
 (.exit 0))
 (.seq
 (.block 1
 (.seq
 (.ops [⟨some 9,(.iad 1 (.t 5) (.t 7)),none⟩,
 ⟨some 10,(.load false 1 (.t 9)),none⟩,
 ⟨some 4,(.mv (.t 10)),none⟩]
 [] [8,9,10])
 (.seq
 (.ops [⟨some 11,(.mv (.t 4)),none⟩,
 ⟨some 12,(.load false 1 (.t 1)),none⟩,
 ⟨some 13,(.bin .eql (.t 11) (.t 12)),none⟩]
 [] [4,11,12])
 (.cond (.t 13)
 (.seq
 (.ops [⟨some 2,(.mv (.c (.bool true))),none⟩]
 [] [1,5,6,7,13])
 .ret)
 .skip))))
 (.ops [⟨some 14,(.bin .add (.t 7) (.c (.int .i64 (1)))),none⟩,
 ⟨some 7,(.mv (.t 14)),none⟩]
 [] [13,14])))))))
 (.seq
 (.ops [⟨some 2,(.mv (.c (.bool false))),none⟩]
 [] [1,5,6,7,8])
 .ret)))⟩
def ypn:List Nat:=[]
def yrS:List (Nat×List Nat):=[(7,[1,5,6,7,8]),(6,[13,14]),(5,[1,5,6,7,13]),(4,[4,11,12]),(3,[8,9,10]),(1,[0]),(0,[2])]
theorem yll:yaa Tryz.prog ypn (fun i=>(yrS.lookup i).getD []) Tryz.f123=some yj5:=by kernel_rfl

-- parcener/piece.valid
def yj6:AFn:=⟨1,[.tmp 2],
 (.seq
 (.ops [⟨some 1,(.boxL (.t 0)),none⟩,
 ⟨some 2,(.mv (.c (.bool false))),none⟩]
 [] [0,2])
 (.seq
 (.ops [⟨some 6,(.fad 0 (.t 1)),none⟩,
 ⟨some 7,(.load true 2 (.t 6)),none⟩,
 ⟨some 8,(.fad 2 (.t 1)),none⟩,
 ⟨some 9,(.load true 2 (.t 8)),none⟩,
 ⟨some 10,(.call (.f 60) [(.t 7),(.t 9)]),none⟩,
 ⟨some 5,(.mv (.t 10)),none⟩,
 ⟨some 11,(.ext (.t 5) 0),none⟩,
 ⟨some 12,(.ext (.t 5) 1),none⟩,
 ⟨some 3,(.mv (.t 11)),none⟩,
 ⟨some 4,(.mv (.t 12)),none⟩]
 [] [1,5,6,7,8,9,10,11,12])
 (.seq
 (.ops [⟨some 13,(.mv (.t 4)),none⟩,
 ⟨some 14,(.bin .eql (.t 13) (.c (.int .i64 (0)))),none⟩,
 ⟨some 15,(.mv (.t 14)),none⟩,
 ⟨some 16,(.mv (.t 3)),some (15,true)⟩,
 ⟨some 17,(.bin .lss (.t 16) (.c (.int .i64 (0)))),some (15,true)⟩,
 ⟨some 18,(.pick (.t 15) (.t 17) (.c (.bool false))),none⟩,
 ⟨some 2,(.mv (.t 18)),none⟩]
 [] [3,4,13,14,15,16,17,18])
 .ret)))⟩
def ypo:List Nat:=[1]
def yrT:List (Nat×List Nat):=[(2,[3,4,13,14,15,16,17,18]),(1,[1,5,6,7,8,9,10,11,12]),(0,[0,2])]
theorem ylm:yaa Tryz.prog ypo (fun i=>(yrT.lookup i).getD []) Tryz.f124=some yj6:=by kernel_rfl

-- slices.Clone[[]parcener/api.Span,parcener/api.Span]
def yj7:AFn:=⟨1,[.tmp 2],
 (.seq
 (.ops [⟨some 2,(.mv (.c .nils)),none⟩]
 [] [2])
 (.seq
 (.seq
 (.ops [⟨some 3,(.mv (.t 0)),none⟩,
 ⟨some 4,(.eqN false (.t 3)),none⟩]
 [] [3])
 (.cond (.t 4)
 (.seq
 (.ops [⟨some 2,(.mv (.c .nils)),none⟩]
 [] [0,4])
 .ret)
 .skip))
 (.seq
 (.ops [⟨some 5,(.buildSl true 4 (.agg [(.int .i64 (0)),(.int .i64 (0)),(.int .i64 (0)),(.int .i64 (0))]) 0 []),none⟩,
 ⟨some 6,(.mv (.t 0)),none⟩,
 ⟨some 7,(.app true 4 32 (.t 5) (.t 6)),none⟩,
 ⟨some 2,(.mv (.t 7)),none⟩]
 [] [0,4,5,6,7])
 .ret)))⟩
def ypp:List Nat:=[]
def yrU:List (Nat×List Nat):=[(3,[0,4,5,6,7]),(2,[0,4]),(1,[3]),(0,[2])]
theorem yln:yaa Tryz.prog ypp (fun i=>(yrU.lookup i).getD []) Tryz.f125=some yj7:=by kernel_rfl

-- slices.SortFunc[[]parcener/api.Span,parcener/api.Span]
def yj8:AFn:=⟨2,[],
 (.seq
 (.ops [⟨some 5,(.mv (.t 0)),none⟩,
 ⟨some 6,(.len (.t 5)),none⟩,
 ⟨some 4,(.mv (.t 6)),none⟩]
 [] [5,6])
 (.ops [⟨some 7,(.mv (.t 0)),none⟩,
 ⟨some 8,(.mv (.t 4)),none⟩,
 ⟨some 9,(.mv (.t 4)),none⟩,
 ⟨some 10,(.conv .u64 (.t 9)),none⟩,
 ⟨some 11,(.call (.f 27) [(.t 10)]),none⟩,
 ⟨some 12,(.mv (.t 1)),none⟩,
 ⟨some 13,(.call (.f 159) [(.t 7),(.c (.int .i64 (0))),(.t 8),(.t 11),(.t 12)]),none⟩]
 [] [0,1,4,7,8,9,10,11,12,13]))⟩
def ypq:List Nat:=[]
def yrV:List (Nat×List Nat):=[(1,[0,1,4,7,8,9,10,11,12,13]),(0,[5,6])]
theorem ylo:yaa Tryz.prog ypq (fun i=>(yrV.lookup i).getD []) Tryz.f126=some yj8:=by kernel_rfl

-- parcener/piece.merged$1
def yj9:AFn:=⟨2,[.tmp 4],
 (.seq
 (.ops [⟨some 2,(.boxL (.t 0)),none⟩,
 ⟨some 3,(.boxL (.t 1)),none⟩,
 ⟨some 4,(.mv (.c (.int .i64 (0)))),none⟩]
 [] [0,1,4])
 (.seq
 (.ops [⟨some 5,(.fad 0 (.t 2)),none⟩,
 ⟨some 6,(.load true 2 (.t 5)),none⟩,
 ⟨some 7,(.fad 0 (.t 3)),none⟩,
 ⟨some 8,(.load true 2 (.t 7)),none⟩,
 ⟨some 9,(.call (.f 128) [(.t 6),(.t 8)]),none⟩,
 ⟨some 4,(.mv (.t 9)),none⟩]
 [] [2,3,5,6,7,8,9])
 .ret))⟩
def ypr:List Nat:=[2,3]
def yrW:List (Nat×List Nat):=[(1,[2,3,5,6,7,8,9]),(0,[0,1,4])]
theorem ylp:yaa Tryz.prog ypr (fun i=>(yrW.lookup i).getD []) Tryz.f127=some yj9:=by kernel_rfl

-- parcener/piece.order
def yka:AFn:=⟨2,[.tmp 4],
 (.seq
 (.ops [⟨some 2,(.boxL (.t 0)),none⟩,
 ⟨some 3,(.boxL (.t 1)),none⟩,
 ⟨some 4,(.mv (.c (.int .i64 (0)))),none⟩]
 [] [0,1,4])
 (.seq
 (.ops [⟨some 8,(.load true 2 (.t 2)),none⟩,
 ⟨some 9,(.load true 2 (.t 3)),none⟩,
 ⟨some 10,(.call (.f 60) [(.t 8),(.t 9)]),none⟩,
 ⟨some 7,(.mv (.t 10)),none⟩,
 ⟨some 11,(.ext (.t 7) 0),none⟩,
 ⟨some 12,(.ext (.t 7) 1),none⟩,
 ⟨some 5,(.mv (.t 11)),none⟩,
 ⟨some 6,(.mv (.t 12)),none⟩]
 [] [2,3,6,7,8,9,10,11,12])
 (.seq
 (.ops [⟨some 13,(.mv (.t 5)),none⟩,
 ⟨some 4,(.mv (.t 13)),none⟩]
 [] [5,13])
 .ret)))⟩
def yps:List Nat:=[2,3]
def yrX:List (Nat×List Nat):=[(2,[5,13]),(1,[2,3,6,7,8,9,10,11,12]),(0,[0,1,4])]
theorem ylq:yaa Tryz.prog yps (fun i=>(yrX.lookup i).getD []) Tryz.f128=some yka:=by kernel_rfl

-- (parcener/ask.office).has
def ykb:AFn:=⟨2,[.tmp 4],
 (.seq
 (.ops [⟨some 2,(.boxL (.t 0)),none⟩,
 ⟨some 4,(.mv (.c (.bool false))),none⟩]
 [] [0,4])
 (.seq
 (.ops [⟨some 5,(.mv (.t 1)),none⟩,
 ⟨some 6,(.bin .geq (.t 5) (.c (.int .i64 (0)))),none⟩,
 ⟨some 7,(.mv (.t 6)),none⟩,
 ⟨some 8,(.mv (.t 1)),some (7,true)⟩,
 ⟨some 9,(.fad 0 (.t 2)),some (7,true)⟩,
 ⟨some 10,(.fad 0 (.t 9)),some (7,true)⟩,
 ⟨some 11,(.load false 1 (.t 10)),some (7,true)⟩,
 ⟨some 12,(.len (.t 11)),some (7,true)⟩,
 ⟨some 13,(.bin .lss (.t 8) (.t 12)),some (7,true)⟩,
 ⟨some 14,(.pick (.t 7) (.t 13) (.c (.bool false))),none⟩,
 ⟨some 4,(.mv (.t 14)),none⟩]
 [] [1,2,5,6,7,8,9,10,11,12,13,14])
 .ret))⟩
def ypt:List Nat:=[2]
def yrY:List (Nat×List Nat):=[(1,[1,2,5,6,7,8,9,10,11,12,13,14]),(0,[0,4])]
theorem ylr:yaa Tryz.prog ypt (fun i=>(yrY.lookup i).getD []) Tryz.f129=some ykb:=by kernel_rfl

-- slices.IndexFunc[[]parcener/api.Cake,parcener/api.Cake]
def ykc:AFn:=⟨2,[.tmp 4],
 (.seq
 (.ops [⟨some 4,(.mv (.c (.int .i64 (0)))),none⟩]
 [] [4])
 (.seq
 (.seq
 (.ops [⟨some 6,(.mv (.t 0)),none⟩,
 ⟨some 7,(.len (.t 6)),none⟩,
 ⟨some 8,(.mv (.c (.int .i64 (0)))),none⟩]
 [] [6])
 (.block 0
 (.loop
 (.seq
 (.ops [⟨some 9,(.bin .lss (.t 8) (.t 7)),none⟩]
 [] [])
 (.seq
 (.cond (.t 9)
 .skip
 (.exit 0))
 (.seq
 (.block 1
 (.seq
 (.ops [⟨some 10,(.mv (.t 8)),none⟩,
 ⟨some 5,(.mv (.t 10)),none⟩]
 [] [9,10])
 (.seq
 (.ops [⟨some 11,(.mv (.t 1)),none⟩,
 ⟨some 12,(.mv (.t 0)),none⟩,
 ⟨some 13,(.mv (.t 5)),none⟩,
 ⟨some 14,(.iad 3 (.t 12) (.t 13)),none⟩,
 ⟨some 15,(.load true 3 (.t 14)),none⟩,
 ⟨some 16,(.call (.t 11) [(.t 15)]),none⟩]
 [] [11,12,13,14,15])
 (.cond (.t 16)
 (.seq
 (.ops [⟨some 17,(.mv (.t 5)),none⟩,
 ⟨some 4,(.mv (.t 17)),none⟩]
 [] [0,1,5,7,8,16,17])
 .ret)
 .skip))))
 (.ops [⟨some 18,(.bin .add (.t 8) (.c (.int .i64 (1)))),none⟩,
 ⟨some 8,(.mv (.t 18)),none⟩]
 [] [5,16,18])))))))
 (.seq
 (.ops [⟨some 4,(.mv (.c (.int .i64 (-1)))),none⟩]
 [] [0,1,7,8,9])
 .ret)))⟩
def ypu:List Nat:=[]
def yrZ:List (Nat×List Nat):=[(7,[0,1,7,8,9]),(6,[5,16,18]),(5,[0,1,5,7,8,16,17]),(4,[11,12,13,14,15]),(3,[9,10]),(1,[6]),(0,[4])]
theorem yls:yaa Tryz.prog ypu (fun i=>(yrZ.lookup i).getD []) Tryz.f130=some ykc:=by kernel_rfl

-- slices.Index[[]int,int]
def ykd:AFn:=⟨2,[.tmp 4],
 (.seq
 (.ops [⟨some 4,(.mv (.c (.int .i64 (0)))),none⟩]
 [] [4])
 (.seq
 (.seq
 (.ops [⟨some 6,(.mv (.t 0)),none⟩,
 ⟨some 7,(.len (.t 6)),none⟩,
 ⟨some 8,(.mv (.c (.int .i64 (0)))),none⟩]
 [] [6])
 (.block 0
 (.loop
 (.seq
 (.ops [⟨some 9,(.bin .lss (.t 8) (.t 7)),none⟩]
 [] [])
 (.seq
 (.cond (.t 9)
 .skip
 (.exit 0))
 (.seq
 (.block 1
 (.seq
 (.ops [⟨some 10,(.mv (.t 8)),none⟩,
 ⟨some 5,(.mv (.t 10)),none⟩]
 [] [9,10])
 (.seq
 (.ops [⟨some 11,(.mv (.t 1)),none⟩,
 ⟨some 12,(.mv (.t 0)),none⟩,
 ⟨some 13,(.mv (.t 5)),none⟩,
 ⟨some 14,(.iad 1 (.t 12) (.t 13)),none⟩,
 ⟨some 15,(.load false 1 (.t 14)),none⟩,
 ⟨some 16,(.bin .eql (.t 11) (.t 15)),none⟩]
 [] [11,12,13,14,15])
 (.cond (.t 16)
 (.seq
 (.ops [⟨some 17,(.mv (.t 5)),none⟩,
 ⟨some 4,(.mv (.t 17)),none⟩]
 [] [0,1,5,7,8,16,17])
 .ret)
 .skip))))
 (.ops [⟨some 18,(.bin .add (.t 8) (.c (.int .i64 (1)))),none⟩,
 ⟨some 8,(.mv (.t 18)),none⟩]
 [] [5,16,18])))))))
 (.seq
 (.ops [⟨some 4,(.mv (.c (.int .i64 (-1)))),none⟩]
 [] [0,1,7,8,9])
 .ret)))⟩
def ypv:List Nat:=[]
def yr0:List (Nat×List Nat):=[(7,[0,1,7,8,9]),(6,[5,16,18]),(5,[0,1,5,7,8,16,17]),(4,[11,12,13,14,15]),(3,[9,10]),(1,[6]),(0,[4])]
theorem ylt:yaa Tryz.prog ypv (fun i=>(yr0.lookup i).getD []) Tryz.f131=some ykd:=by kernel_rfl

-- parcener/ratio.Div
def yke:AFn:=⟨2,[.cell 4 true 2,.tmp 5],
 (.seq
 (.ops [⟨some 2,(.boxL (.t 0)),none⟩,
 ⟨some 3,(.boxL (.t 1)),none⟩,
 ⟨some 4,(.allocL (.agg [(.int .i64 (0)),(.int .i64 (0))])),none⟩,
 ⟨some 5,(.mv (.c (.int .i64 (0)))),none⟩]
 [] [0,1,5])
 (.seq
 (.seq
 (.ops [⟨some 7,(.load true 2 (.t 2)),none⟩,
 ⟨some 8,(.load true 2 (.t 3)),none⟩,
 ⟨some 9,(.call (.f 104) [(.t 7),(.t 8)]),none⟩,
 ⟨some 6,(.mv (.t 9)),none⟩]
 [] [7,8,9])
 (.seq
 (.ops [⟨some 10,(.mv (.t 6)),none⟩,
 ⟨some 11,(.bin .neq (.t 10) (.c (.int .i64 (0)))),none⟩]
 [] [10])
 (.cond (.t 11)
 (.seq
 (.ops [⟨some 12,(.build [(.int .i64 (0)),(.int .i64 (0))] []),none⟩,
 ⟨some 13,(.mv (.t 6)),none⟩,
 ⟨none,(.store 2 (.t 4) (.t 12)),none⟩,
 ⟨some 5,(.mv (.t 13)),none⟩]
 [] [2,3,6,11,12,13])
 .ret)
 .skip)))
 (.seq
 (.block 0
 (.seq
 (.ops [⟨some 15,(.fad 0 (.t 3)),none⟩,
 ⟨some 16,(.load false 1 (.t 15)),none⟩,
 ⟨some 17,(.bin .eql (.t 16) (.c (.int .i64 (0)))),none⟩,
 ⟨some 14,(.mv (.t 17)),none⟩]
 [] [6,11,15,16,17])
 (.cond (.t 14)
 (.seq
 (.ops [⟨some 18,(.build [(.int .i64 (0)),(.int .i64 (0))] []),none⟩,
 ⟨none,(.store 2 (.t 4) (.t 18)),none⟩,
 ⟨some 5,(.mv (.c (.int .i64 (18)))),none⟩]
 [] [2,3,14,18])
 .ret)
 (.seq
 (.ops [⟨some 20,(.fad 0 (.t 3)),none⟩,
 ⟨some 21,(.load false 1 (.t 20)),none⟩,
 ⟨some 22,(.bin .lss (.t 21) (.c (.int .i64 (0)))),none⟩,
 ⟨some 19,(.mv (.t 22)),none⟩]
 [] [14,20,21,22])
 (.cond (.t 19)
 (.seq
 (.ops [⟨some 23,(.load true 2 (.t 2)),none⟩,
 ⟨some 24,(.fad 1 (.t 3)),none⟩,
 ⟨some 25,(.load false 1 (.t 24)),none⟩,
 ⟨some 26,(.un .neg (.t 25)),none⟩,
 ⟨some 27,(.fad 0 (.t 3)),none⟩,
 ⟨some 28,(.load false 1 (.t 27)),none⟩,
 ⟨some 29,(.un .neg (.t 28)),none⟩,
 ⟨some 30,(.build [(.int .i64 (0)),(.int .i64 (0))] [(0,1,(.t 26)),(1,1,(.t 29))]),none⟩,
 ⟨some 31,(.call (.f 101) [(.t 23),(.t 30)]),none⟩,
 ⟨some 32,(.ext (.t 31) 0),none⟩,
 ⟨some 33,(.ext (.t 31) 1),none⟩,
 ⟨none,(.store 2 (.t 4) (.t 32)),none⟩,
 ⟨some 5,(.mv (.t 33)),none⟩]
 [] [2,3,19,23,24,25,26,27,28,29,30,31,32,33])
 .ret)
 .skip)))))
 (.seq
 (.ops [⟨some 34,(.load true 2 (.t 2)),none⟩,
 ⟨some 35,(.fad 1 (.t 3)),none⟩,
 ⟨some 36,(.load false 1 (.t 35)),none⟩,
 ⟨some 37,(.fad 0 (.t 3)),none⟩,
 ⟨some 38,(.load false 1 (.t 37)),none⟩,
 ⟨some 39,(.build [(.int .i64 (0)),(.int .i64 (0))] [(0,1,(.t 36)),(1,1,(.t 38))]),none⟩,
 ⟨some 40,(.call (.f 101) [(.t 34),(.t 39)]),none⟩,
 ⟨some 41,(.ext (.t 40) 0),none⟩,
 ⟨some 42,(.ext (.t 40) 1),none⟩,
 ⟨none,(.store 2 (.t 4) (.t 41)),none⟩,
 ⟨some 5,(.mv (.t 42)),none⟩]
 [] [2,3,19,34,35,36,37,38,39,40,41,42])
 .ret))))⟩
def ypw:List Nat:=[2,3,4]
def yr1:List (Nat×List Nat):=[(8,[2,3,19,34,35,36,37,38,39,40,41,42]),(7,[2,3,19,23,24,25,26,27,28,29,30,31,32,33]),(6,[14,20,21,22]),(5,[2,3,14,18]),(4,[6,11,15,16,17]),(3,[2,3,6,11,12,13]),(2,[10]),(1,[7,8,9]),(0,[0,1,5])]
theorem ylu:yaa Tryz.prog ypw (fun i=>(yr1.lookup i).getD []) Tryz.f132=some yke:=by kernel_rfl

-- slices.Collect[int]
def ykf:AFn:=⟨1,[.tmp 2],
 (.seq
 (.ops [⟨some 2,(.mv (.c .nils)),none⟩]
 [] [2])
 (.seq
 (.ops [⟨some 3,(.mv (.t 0)),none⟩,
 ⟨some 4,(.call (.f 160) [(.c .nils),(.t 3)]),none⟩,
 ⟨some 2,(.mv (.t 4)),none⟩]
 [] [0,3,4])
 .ret))⟩
def ypx:List Nat:=[]
def yr2:List (Nat×List Nat):=[(1,[0,3,4]),(0,[2])]
theorem ylv:yaa Tryz.prog ypx (fun i=>(yr2.lookup i).getD []) Tryz.f133=some ykf:=by kernel_rfl

-- slices.Values[[]int,int]$1
def ykg:AFn:=⟨2,[],
 (.seq
 (.ops [⟨some 5,(.load false 1 (.t 1)),none⟩,
 ⟨some 6,(.len (.t 5)),none⟩,
 ⟨some 7,(.mv (.c (.int .i64 (0)))),none⟩]
 [] [1])
 (.block 0
 (.loop
 (.seq
 (.ops [⟨some 8,(.bin .lss (.t 7) (.t 6)),none⟩]
 [] [])
 (.seq
 (.cond (.t 8)
 .skip
 (.exit 0))
 (.seq
 (.block 1
 (.seq
 (.ops [⟨some 9,(.iad 1 (.t 5) (.t 7)),none⟩,
 ⟨some 10,(.load false 1 (.t 9)),none⟩,
 ⟨some 4,(.mv (.t 10)),none⟩]
 [] [8,9,10])
 (.yret
 (.seq
 (.ops [⟨some 11,(.mv (.t 0)),none⟩,
 ⟨some 12,(.mv (.t 4)),none⟩,
 ⟨some 13,(.call (.t 11) [(.t 12)]),none⟩,
 ⟨some 14,(.un .not (.t 13)),none⟩]
 [] [4,11,12,13])
 (.cond (.t 14)
 .ret
 .skip))
 [⟨some 11,(.mv (.t 0)),none⟩,
 ⟨some 12,(.mv (.t 4)),none⟩]
 13 (.t 11) [(.t 12)] 14 [4,11,12,13])))
 (.ops [⟨some 15,(.bin .add (.t 7) (.c (.int .i64 (1)))),none⟩,
 ⟨some 7,(.mv (.t 15)),none⟩]
 [] [14,15])))))))⟩
def ypy:List Nat:=[]
def yr3:List (Nat×List Nat):=[(4,[14,15]),(3,[4,11,12,13]),(2,[8,9,10]),(0,[1])]
theorem ylw:yaa Tryz.prog ypy (fun i=>(yr3.lookup i).getD []) Tryz.f134=some ykg:=by kernel_rfl

-- parcener/cake.point
def ykh:AFn:=⟨2,[.tmp 4],
 (.seq
 (.ops [⟨some 2,(.boxL (.t 0)),none⟩,
 ⟨some 3,(.boxL (.t 1)),none⟩,
 ⟨some 4,(.mv (.c (.bool false))),none⟩]
 [] [0,1,4])
 (.seq
 (.ops [⟨some 5,(.load true 2 (.t 3)),none⟩,
 ⟨some 6,(.call (.f 100) [(.t 5)]),none⟩,
 ⟨some 7,(.bin .eql (.t 6) (.c (.int .i64 (0)))),none⟩,
 ⟨some 8,(.mv (.t 7)),none⟩,
 ⟨some 9,(.fad 0 (.t 3)),some (8,true)⟩,
 ⟨some 10,(.load false 1 (.t 9)),some (8,true)⟩,
 ⟨some 11,(.bin .geq (.t 10) (.c (.int .i64 (0)))),some (8,true)⟩,
 ⟨some 12,(.pick (.t 8) (.t 11) (.c (.bool false))),none⟩,
 ⟨some 13,(.mv (.t 12)),none⟩,
 ⟨some 14,(.fad 0 (.t 2)),some (13,true)⟩,
 ⟨some 15,(.load false 1 (.t 14)),some (13,true)⟩,
 ⟨some 16,(.call (.f 139) [(.t 15)]),some (13,true)⟩,
 ⟨some 17,(.load true 2 (.t 3)),some (13,true)⟩,
 ⟨some 18,(.call (.f 138) [(.t 16),(.t 17)]),some (13,true)⟩,
 ⟨some 19,(.un .not (.t 18)),some (13,true)⟩,
 ⟨some 20,(.pick (.t 13) (.t 19) (.c (.bool false))),none⟩,
 ⟨some 4,(.mv (.t 20)),none⟩]
 [(9,12),(10,12),(11,12)] [2,3,5,6,7,8,9,10,11,12,13,14,15,16,17,18,19,20])
 .ret))⟩
def ypz:List Nat:=[2,3]
def yr4:List (Nat×List Nat):=[(1,[2,3,5,6,7,8,9,10,11,12,13,14,15,16,17,18,19,20]),(0,[0,1,4])]
theorem ylx:yaa Tryz.prog ypz (fun i=>(yr4.lookup i).getD []) Tryz.f135=some ykh:=by kernel_rfl

-- parcener/cake.walk
def yki:AFn:=⟨3,[.tmp 6],
 (.seq
 (.ops [⟨some 3,(.boxL (.t 0)),none⟩,
 ⟨some 4,(.boxL (.t 1)),none⟩,
 ⟨some 6,(.mv (.c (.int .i64 (0)))),none⟩]
 [] [0,1,6])
 (.seq
 (.seq
 (.ops [⟨some 13,(.fad 2 (.t 3)),none⟩,
 ⟨some 14,(.load false 1 (.t 13)),none⟩,
 ⟨some 15,(.len (.t 14)),none⟩,
 ⟨some 16,(.mv (.c (.int .i64 (0)))),none⟩]
 [] [13])
 (.block 0
 (.loop
 (.seq
 (.ops [⟨some 17,(.bin .lss (.t 16) (.t 15)),none⟩]
 [] [])
 (.seq
 (.cond (.t 17)
 .skip
 (.exit 0))
 (.seq
 (.block 1
 (.seq
 (.ops [⟨some 18,(.mv (.t 16)),none⟩,
 ⟨some 19,(.iad 1 (.t 14) (.t 16)),none⟩,
 ⟨some 20,(.load false 1 (.t 19)),none⟩,
 ⟨some 7,(.mv (.t 18)),none⟩,
 ⟨some 8,(.mv (.t 20)),none⟩]
 [] [17,18,19,20])
 (.seq
 (.ops [⟨some 21,(.fad 1 (.t 3)),none⟩,
 ⟨some 22,(.load false 1 (.t 21)),none⟩,
 ⟨some 23,(.mv (.t 7)),none⟩,
 ⟨some 24,(.bin .add (.t 23) (.c (.int .i64 (1)))),none⟩,
 ⟨some 25,(.iad 1 (.t 22) (.t 24)),none⟩,
 ⟨some 26,(.load false 1 (.t 25)),none⟩,
 ⟨some 27,(.call (.f 139) [(.t 26)]),none⟩,
 ⟨some 9,(.allocL (.agg [(.int .i64 (0)),(.int .i64 (0))])),none⟩,
 ⟨none,(.store 2 (.t 9) (.t 27)),none⟩]
 [] [7,21,22,23,24,25,26,27])
 (.seq
 (.seq
 (.ops [⟨some 28,(.load true 2 (.t 4)),none⟩,
 ⟨some 29,(.load true 2 (.t 9)),none⟩,
 ⟨some 30,(.call (.f 138) [(.t 28),(.t 29)]),none⟩,
 ⟨some 31,(.un .not (.t 30)),none⟩]
 [] [28,29,30])
 (.cond (.t 31)
 (.exit 1)
 .skip))
 (.seq
 (.ops [⟨some 32,(.call (.f 139) [(.c (.int .i64 (0)))]),none⟩,
 ⟨some 10,(.allocL (.agg [(.int .i64 (0)),(.int .i64 (0))])),none⟩,
 ⟨none,(.store 2 (.t 10) (.t 32)),none⟩]
 [] [31,32])
 (.seq
 (.seq
 (.ops [⟨some 33,(.mv (.t 8)),none⟩,
 ⟨some 34,(.bin .gtr (.t 33) (.c (.int .i64 (0)))),none⟩]
 [] [33])
 (.cond (.t 34)
 (.seq
 (.ops [⟨some 36,(.load true 2 (.t 9)),none⟩,
 ⟨some 37,(.load true 2 (.t 4)),none⟩,
 ⟨some 38,(.call (.f 79) [(.t 36),(.t 37)]),none⟩,
 ⟨some 35,(.mv (.t 38)),none⟩,
 ⟨some 39,(.ext (.t 35) 0),none⟩,
 ⟨some 40,(.ext (.t 35) 1),none⟩,
 ⟨some 11,(.allocL (.agg [(.int .i64 (0)),(.int .i64 (0))])),none⟩,
 ⟨none,(.store 2 (.t 11) (.t 39)),none⟩,
 ⟨some 12,(.mv (.t 40)),none⟩]
 [] [34,35,36,37,38,39,40])
 (.seq
 (.seq
 (.ops [⟨some 41,(.mv (.t 12)),none⟩,
 ⟨some 42,(.bin .neq (.t 41) (.c (.int .i64 (0)))),none⟩]
 [] [41])
 (.cond (.t 42)
 (.seq
 (.ops [⟨some 43,(.mv (.t 12)),none⟩,
 ⟨some 6,(.mv (.t 43)),none⟩]
 [] [2,3,4,8,9,10,11,12,14,15,16,42,43])
 .ret)
 .skip))
 (.seq
 (.ops [⟨some 45,(.load true 2 (.t 11)),none⟩,
 ⟨some 46,(.mv (.t 8)),none⟩,
 ⟨some 47,(.call (.f 139) [(.t 46)]),none⟩,
 ⟨some 48,(.call (.f 101) [(.t 45),(.t 47)]),none⟩,
 ⟨some 44,(.mv (.t 48)),none⟩,
 ⟨some 49,(.ext (.t 44) 0),none⟩,
 ⟨some 50,(.ext (.t 44) 1),none⟩,
 ⟨none,(.store 2 (.t 10) (.t 49)),none⟩,
 ⟨some 12,(.mv (.t 50)),none⟩]
 [(0,1),(0,2),(5,6),(6,7)] [11,42,44,45,46,47,48,49,50])
 (.seq
 (.ops [⟨some 51,(.mv (.t 12)),none⟩,
 ⟨some 52,(.bin .neq (.t 51) (.c (.int .i64 (0)))),none⟩]
 [] [51])
 (.cond (.t 52)
 (.seq
 (.ops [⟨some 53,(.mv (.t 12)),none⟩,
 ⟨some 6,(.mv (.t 53)),none⟩]
 [] [2,3,4,8,9,10,12,14,15,16,52,53])
 .ret)
 .skip)))))
 .skip))
 (.seq
 (.seq
 (.ops [⟨some 54,(.mv (.t 2)),none⟩,
 ⟨some 55,(.load true 2 (.t 4)),none⟩,
 ⟨some 56,(.load true 2 (.t 9)),none⟩,
 ⟨some 57,(.load true 2 (.t 10)),none⟩,
 ⟨some 58,(.mv (.t 8)),none⟩,
 ⟨some 59,(.call (.t 54) [(.t 55),(.t 56),(.t 57),(.t 58)]),none⟩]
 [] [8,10,12,34,52,54,55,56,57,58])
 (.cond (.t 59)
 (.seq
 (.ops [⟨some 6,(.mv (.c (.int .i64 (0)))),none⟩]
 [] [2,3,4,9,14,15,16,59])
 .ret)
 .skip))
 (.ops [⟨some 60,(.load true 2 (.t 9)),none⟩,
 ⟨none,(.store 2 (.t 4) (.t 60)),none⟩]
 [] [9,59,60]))))))))
 (.ops [⟨some 61,(.bin .add (.t 16) (.c (.int .i64 (1)))),none⟩,
 ⟨some 16,(.mv (.t 61)),none⟩]
 [] [8,9,31,61])))))))
 (.seq
 (.ops [⟨some 6,(.mv (.c (.int .i64 (0)))),none⟩]
 [] [2,3,4,14,15,16,17])
 .ret)))⟩
def ypA:List Nat:=[3,4,9,10,11]
def yr5:List (Nat×List Nat):=[(18,[2,3,4,14,15,16,17]),(17,[8,9,31,61]),(16,[9,59,60]),(15,[2,3,4,9,14,15,16,59]),(14,[8,10,12,34,52,54,55,56,57,58]),(13,[2,3,4,8,9,10,12,14,15,16,52,53]),(12,[51]),(11,[11,42,44,45,46,47,48,49,50]),(10,[2,3,4,8,9,10,11,12,14,15,16,42,43]),(9,[41]),(8,[34,35,36,37,38,39,40]),(7,[33]),(6,[31,32]),(5,[28,29,30]),(4,[7,21,22,23,24,25,26,27]),(3,[17,18,19,20]),(1,[13]),(0,[0,1,6])]
theorem yly:yaa Tryz.prog ypA (fun i=>(yr5.lookup i).getD []) Tryz.f136=some yki:=by kernel_rfl

-- parcener/cake.Mark$1
def ykj:AFn:=⟨7,[.tmp 11],
 (.seq
 (.ops [⟨some 7,(.boxL (.t 0)),none⟩,
 ⟨some 8,(.boxL (.t 1)),none⟩,
 ⟨some 9,(.boxL (.t 2)),none⟩,
 ⟨some 11,(.mv (.c (.bool false))),none⟩]
 [] [0,1,2,8,11])
 (.seq
 (.seq
 (.ops [⟨some 16,(.mv (.t 3)),none⟩,
 ⟨some 17,(.bin .eql (.t 16) (.c (.int .i64 (0)))),none⟩]
 [] [16])
 (.cond (.t 17)
 (.seq
 (.ops [⟨some 11,(.mv (.c (.bool false))),none⟩]
 [] [3,4,5,6,7,9,17])
 .ret)
 .skip))
 (.seq
 (.seq
 (.ops [⟨some 18,(.load true 2 (.t 9)),none⟩,
 ⟨some 19,(.load true 2 (.t 4)),none⟩,
 ⟨some 20,(.call (.f 138) [(.t 18),(.t 19)]),none⟩]
 [] [17,18,19])
 (.cond (.t 20)
 (.seq
 (.ops [⟨some 22,(.load true 2 (.t 4)),none⟩,
 ⟨some 23,(.load true 2 (.t 9)),none⟩,
 ⟨some 24,(.call (.f 79) [(.t 22),(.t 23)]),none⟩,
 ⟨some 21,(.mv (.t 24)),none⟩,
 ⟨some 25,(.ext (.t 21) 0),none⟩,
 ⟨some 26,(.ext (.t 21) 1),none⟩,
 ⟨some 12,(.allocL (.agg [(.int .i64 (0)),(.int .i64 (0))])),none⟩,
 ⟨none,(.store 2 (.t 12) (.t 25)),none⟩,
 ⟨some 13,(.mv (.t 26)),none⟩]
 [] [3,6,7,9,20,21,22,23,24,25,26])
 (.seq
 (.ops [⟨some 27,(.load true 2 (.t 12)),none⟩,
 ⟨none,(.store 2 (.t 4) (.t 27)),none⟩,
 ⟨none,(.store 1 (.t 5) (.c (.int .i64 (6)))),none⟩]
 [] [4,12,27])
 (.seq
 (.seq
 (.ops [⟨some 28,(.mv (.t 13)),none⟩,
 ⟨some 29,(.bin .neq (.t 28) (.c (.int .i64 (0)))),none⟩]
 [] [28])
 (.cond (.t 29)
 (.ops [⟨some 30,(.mv (.t 13)),none⟩,
 ⟨none,(.store 1 (.t 5) (.t 30)),none⟩]
 [] [5,29,30])
 .skip))
 (.seq
 (.ops [⟨some 31,(.mv (.t 13)),none⟩,
 ⟨some 32,(.bin .neq (.t 31) (.c (.int .i64 (0)))),none⟩,
 ⟨some 11,(.mv (.t 32)),none⟩]
 [] [5,13,29,31,32])
 .ret))))
 .skip))
 (.seq
 (.ops [⟨some 34,(.load true 2 (.t 4)),none⟩,
 ⟨some 35,(.mv (.t 3)),none⟩,
 ⟨some 36,(.call (.f 139) [(.t 35)]),none⟩,
 ⟨some 37,(.call (.f 132) [(.t 34),(.t 36)]),none⟩,
 ⟨some 33,(.mv (.t 37)),none⟩,
 ⟨some 38,(.ext (.t 33) 0),none⟩,
 ⟨some 39,(.ext (.t 33) 1),none⟩,
 ⟨some 14,(.allocL (.agg [(.int .i64 (0)),(.int .i64 (0))])),none⟩,
 ⟨none,(.store 2 (.t 14) (.t 38)),none⟩,
 ⟨some 15,(.mv (.t 39)),none⟩]
 [(0,1),(0,2),(5,6),(0,7),(1,7),(2,7),(3,7),(4,7),(5,7),(6,7),(6,8)] [3,4,9,20,33,34,35,36,37,38,39])
 (.seq
 (.seq
 (.ops [⟨some 40,(.mv (.t 15)),none⟩,
 ⟨some 41,(.bin .eql (.t 40) (.c (.int .i64 (0)))),none⟩]
 [] [40])
 (.cond (.t 41)
 (.ops [⟨some 43,(.load true 2 (.t 7)),none⟩,
 ⟨some 44,(.load true 2 (.t 14)),none⟩,
 ⟨some 45,(.call (.f 122) [(.t 43),(.t 44)]),none⟩,
 ⟨some 42,(.mv (.t 45)),none⟩,
 ⟨some 46,(.ext (.t 42) 0),none⟩,
 ⟨some 47,(.ext (.t 42) 1),none⟩,
 ⟨none,(.store 2 (.t 6) (.t 46)),none⟩,
 ⟨some 15,(.mv (.t 47)),none⟩]
 [] [6,7,14,41,42,43,44,45,46,47])
 .skip))
 (.seq
 (.ops [⟨some 48,(.mv (.t 15)),none⟩,
 ⟨none,(.store 1 (.t 5) (.t 48)),none⟩]
 [] [5,6,7,14,15,41,48])
 (.seq
 (.ops [⟨some 11,(.mv (.c (.bool true))),none⟩]
 [] [])
 .ret)))))))⟩
def ypB:List Nat:=[7,8,9,12,14]
def yr6:List (Nat×List Nat):=[(12,[5,6,7,14,15,41,48]),(11,[6,7,14,41,42,43,44,45,46,47]),(10,[40]),(9,[3,4,9,20,33,34,35,36,37,38,39]),(8,[5,13,29,31,32]),(7,[5,29,30]),(6,[28]),(5,[4,12,27]),(4,[3,6,7,9,20,21,22,23,24,25,26]),(3,[17,18,19]),(2,[3,4,5,6,7,9,17]),(1,[16]),(0,[0,1,2,8,11])]
theorem ylz:yaa Tryz.prog ypB (fun i=>(yr6.lookup i).getD []) Tryz.f137=some ykj:=by kernel_rfl

-- parcener/cake.less
def ykk:AFn:=⟨2,[.tmp 4],
 (.seq
 (.ops [⟨some 2,(.boxL (.t 0)),none⟩,
 ⟨some 3,(.boxL (.t 1)),none⟩,
 ⟨some 4,(.mv (.c (.bool false))),none⟩]
 [] [0,1,4])
 (.seq
 (.ops [⟨some 8,(.load true 2 (.t 2)),none⟩,
 ⟨some 9,(.load true 2 (.t 3)),none⟩,
 ⟨some 10,(.call (.f 60) [(.t 8),(.t 9)]),none⟩,
 ⟨some 7,(.mv (.t 10)),none⟩,
 ⟨some 11,(.ext (.t 7) 0),none⟩,
 ⟨some 12,(.ext (.t 7) 1),none⟩,
 ⟨some 5,(.mv (.t 11)),none⟩,
 ⟨some 6,(.mv (.t 12)),none⟩]
 [] [2,3,6,7,8,9,10,11,12])
 (.seq
 (.ops [⟨some 13,(.mv (.t 5)),none⟩,
 ⟨some 14,(.bin .lss (.t 13) (.c (.int .i64 (0)))),none⟩,
 ⟨some 4,(.mv (.t 14)),none⟩]
 [] [5,13,14])
 .ret)))⟩
def ypC:List Nat:=[2,3]
def yr7:List (Nat×List Nat):=[(2,[5,13,14]),(1,[2,3,6,7,8,9,10,11,12]),(0,[0,1,4])]
theorem ylA:yaa Tryz.prog ypC (fun i=>(yr7.lookup i).getD []) Tryz.f138=some ykk:=by kernel_rfl

-- parcener/cake.whole
def ykl:AFn:=⟨1,[.cell 2 true 2],
 (.seq
 (.ops [⟨some 2,(.allocL (.agg [(.int .i64 (0)),(.int .i64 (0))])),none⟩]
 [] [])
 (.seq
 (.ops [⟨some 3,(.mv (.t 0)),none⟩,
 ⟨some 4,(.build [(.int .i64 (0)),(.int .i64 (0))] [(0,1,(.t 3)),(1,1,(.c (.int .i64 (1))))]),none⟩,
 ⟨none,(.store 2 (.t 2) (.t 4)),none⟩]
 [] [0,3,4])
 .ret))⟩
def ypD:List Nat:=[2]
def yr8:List (Nat×List Nat):=[(1,[0,3,4])]
theorem ylB:yaa Tryz.prog ypD (fun i=>(yr8.lookup i).getD []) Tryz.f139=some ykl:=by kernel_rfl

-- parcener/cake.Value
def ykm:AFn:=⟨3,[.cell 6 true 2,.tmp 7],
 (.seq
 (.ops [⟨some 3,(.boxL (.t 0)),none⟩,
 ⟨some 4,(.boxL (.t 1)),none⟩,
 ⟨some 5,(.boxL (.t 2)),none⟩,
 ⟨some 6,(.allocL (.agg [(.int .i64 (0)),(.int .i64 (0))])),none⟩,
 ⟨some 7,(.mv (.c (.int .i64 (0)))),none⟩]
 [] [0,1,2,7])
 (.seq
 (.seq
 (.ops [⟨some 17,(.load true 3 (.t 3)),none⟩,
 ⟨some 18,(.call (.f 26) [(.t 17)]),none⟩,
 ⟨some 8,(.mv (.t 18)),none⟩]
 [] [17,18])
 (.seq
 (.ops [⟨some 19,(.mv (.t 8)),none⟩,
 ⟨some 20,(.bin .neq (.t 19) (.c (.int .i64 (0)))),none⟩]
 [] [19])
 (.cond (.t 20)
 (.seq
 (.ops [⟨some 21,(.build [(.int .i64 (0)),(.int .i64 (0))] []),none⟩,
 ⟨some 22,(.mv (.t 8)),none⟩,
 ⟨none,(.store 2 (.t 6) (.t 21)),none⟩,
 ⟨some 7,(.mv (.t 22)),none⟩]
 [] [3,4,5,8,20,21,22])
 .ret)
 .skip)))
 (.seq
 (.seq
 (.ops [⟨some 23,(.load true 3 (.t 3)),none⟩,
 ⟨some 24,(.load true 2 (.t 4)),none⟩,
 ⟨some 25,(.call (.f 135) [(.t 23),(.t 24)]),none⟩,
 ⟨some 26,(.un .not (.t 25)),none⟩,
 ⟨some 27,(.mv (.t 26)),none⟩,
 ⟨some 28,(.load true 3 (.t 3)),some (27,false)⟩,
 ⟨some 29,(.load true 2 (.t 5)),some (27,false)⟩,
 ⟨some 30,(.call (.f 135) [(.t 28),(.t 29)]),some (27,false)⟩,
 ⟨some 31,(.un .not (.t 30)),some (27,false)⟩,
 ⟨some 32,(.pick (.t 27) (.c (.bool true)) (.t 31)),none⟩,
 ⟨some 33,(.mv (.t 32)),none⟩,
 ⟨some 34,(.load true 2 (.t 5)),some (33,false)⟩,
 ⟨some 35,(.load true 2 (.t 4)),some (33,false)⟩,
 ⟨some 36,(.call (.f 138) [(.t 34),(.t 35)]),some (33,false)⟩,
 ⟨some 37,(.pick (.t 33) (.c (.bool true)) (.t 36)),none⟩]
 [] [8,20,23,24,25,26,27,28,29,30,31,32,33,34,35,36])
 (.cond (.t 37)
 (.seq
 (.ops [⟨some 38,(.build [(.int .i64 (0)),(.int .i64 (0))] []),none⟩,
 ⟨none,(.store 2 (.t 6) (.t 38)),none⟩,
 ⟨some 7,(.mv (.c (.int .i64 (2)))),none⟩]
 [] [3,4,5,37,38])
 .ret)
 .skip))
 (.seq
 (.ops [⟨some 39,(.call (.f 139) [(.c (.int .i64 (0)))]),none⟩,
 ⟨some 9,(.allocL (.agg [(.int .i64 (0)),(.int .i64 (0))])),none⟩,
 ⟨none,(.store 2 (.t 9) (.t 39)),none⟩]
 [] [37,39])
 (.seq
 (.ops [⟨some 40,(.load true 2 (.t 4)),none⟩,
 ⟨some 10,(.allocL (.agg [(.int .i64 (0)),(.int .i64 (0))])),none⟩,
 ⟨none,(.store 2 (.t 10) (.t 40)),none⟩]
 [] [4,40])
 (.seq
 (.seq
 (.ops [⟨some 41,(.fad 2 (.t 3)),none⟩,
 ⟨some 42,(.load false 1 (.t 41)),none⟩,
 ⟨some 43,(.len (.t 42)),none⟩,
 ⟨some 44,(.mv (.c (.int .i64 (0)))),none⟩]
 [] [41])
 (.block 0
 (.loop
 (.seq
 (.ops [⟨some 45,(.bin .lss (.t 44) (.t 43)),none⟩]
 [] [])
 (.seq
 (.cond (.t 45)
 .skip
 (.exit 0))
 (.seq
 (.block 1
 (.seq
 (.ops [⟨some 46,(.mv (.t 44)),none⟩,
 ⟨some 47,(.iad 1 (.t 42) (.t 44)),none⟩,
 ⟨some 48,(.load false 1 (.t 47)),none⟩,
 ⟨some 11,(.mv (.t 46)),none⟩,
 ⟨some 12,(.mv (.t 48)),none⟩]
 [] [45,46,47,48])
 (.seq
 (.ops [⟨some 49,(.fad 1 (.t 3)),none⟩,
 ⟨some 50,(.load false 1 (.t 49)),none⟩,
 ⟨some 51,(.mv (.t 11)),none⟩,
 ⟨some 52,(.bin .add (.t 51) (.c (.int .i64 (1)))),none⟩,
 ⟨some 53,(.iad 1 (.t 50) (.t 52)),none⟩,
 ⟨some 54,(.load false 1 (.t 53)),none⟩,
 ⟨some 55,(.call (.f 139) [(.t 54)]),none⟩,
 ⟨some 13,(.allocL (.agg [(.int .i64 (0)),(.int .i64 (0))])),none⟩,
 ⟨none,(.store 2 (.t 13) (.t 55)),none⟩]
 [] [11,49,50,51,52,53,54,55])
 (.seq
 (.seq
 (.ops [⟨some 56,(.load true 2 (.t 5)),none⟩,
 ⟨some 57,(.load true 2 (.t 13)),none⟩,
 ⟨some 58,(.call (.f 138) [(.t 56),(.t 57)]),none⟩]
 [] [56,57])
 (.cond (.t 58)
 (.ops [⟨some 59,(.load true 2 (.t 5)),none⟩,
 ⟨none,(.store 2 (.t 13) (.t 59)),none⟩]
 [] [58,59])
 .skip))
 (.seq
 (.seq
 (.ops [⟨some 60,(.mv (.t 12)),none⟩,
 ⟨some 61,(.bin .eql (.t 60) (.c (.int .i64 (0)))),none⟩,
 ⟨some 62,(.mv (.t 61)),none⟩,
 ⟨some 63,(.load true 2 (.t 10)),some (62,false)⟩,
 ⟨some 64,(.load true 2 (.t 13)),some (62,false)⟩,
 ⟨some 65,(.call (.f 138) [(.t 63),(.t 64)]),some (62,false)⟩,
 ⟨some 66,(.un .not (.t 65)),some (62,false)⟩,
 ⟨some 67,(.pick (.t 62) (.c (.bool true)) (.t 66)),none⟩]
 [] [58,60,61,62,63,64,65,66])
 (.cond (.t 67)
 (.seq
 (.seq
 (.ops [⟨some 68,(.load true 2 (.t 10)),none⟩,
 ⟨some 69,(.load true 2 (.t 13)),none⟩,
 ⟨some 70,(.call (.f 138) [(.t 68),(.t 69)]),none⟩]
 [] [12,67,68,69])
 (.cond (.t 70)
 (.ops [⟨some 71,(.load true 2 (.t 13)),none⟩,
 ⟨none,(.store 2 (.t 10) (.t 71)),none⟩]
 [] [13,70,71])
 .skip))
 (.exit 1))
 .skip))
 (.seq
 (.ops [⟨some 73,(.load true 2 (.t 13)),none⟩,
 ⟨some 74,(.load true 2 (.t 10)),none⟩,
 ⟨some 75,(.call (.f 79) [(.t 73),(.t 74)]),none⟩,
 ⟨some 72,(.mv (.t 75)),none⟩,
 ⟨some 76,(.ext (.t 72) 0),none⟩,
 ⟨some 77,(.ext (.t 72) 1),none⟩,
 ⟨some 14,(.allocL (.agg [(.int .i64 (0)),(.int .i64 (0))])),none⟩,
 ⟨none,(.store 2 (.t 14) (.t 76)),none⟩,
 ⟨some 15,(.mv (.t 77)),none⟩]
 [] [67,72,73,74,75,76,77])
 (.seq
 (.seq
 (.ops [⟨some 78,(.mv (.t 15)),none⟩,
 ⟨some 79,(.bin .neq (.t 78) (.c (.int .i64 (0)))),none⟩]
 [] [78])
 (.cond (.t 79)
 (.seq
 (.ops [⟨some 80,(.build [(.int .i64 (0)),(.int .i64 (0))] []),none⟩,
 ⟨some 81,(.mv (.t 15)),none⟩,
 ⟨none,(.store 2 (.t 6) (.t 80)),none⟩,
 ⟨some 7,(.mv (.t 81)),none⟩]
 [] [3,5,9,10,12,13,14,15,42,43,44,79,80,81])
 .ret)
 .skip))
 (.seq
 (.ops [⟨some 83,(.load true 2 (.t 14)),none⟩,
 ⟨some 84,(.mv (.t 12)),none⟩,
 ⟨some 85,(.call (.f 139) [(.t 84)]),none⟩,
 ⟨some 86,(.call (.f 101) [(.t 83),(.t 85)]),none⟩,
 ⟨some 82,(.mv (.t 86)),none⟩,
 ⟨some 87,(.ext (.t 82) 0),none⟩,
 ⟨some 88,(.ext (.t 82) 1),none⟩,
 ⟨some 16,(.allocL (.agg [(.int .i64 (0)),(.int .i64 (0))])),none⟩,
 ⟨none,(.store 2 (.t 16) (.t 87)),none⟩,
 ⟨some 15,(.mv (.t 88)),none⟩]
 [(0,1),(0,2),(5,6),(0,7),(1,7),(2,7),(3,7),(4,7),(5,7),(6,7),(6,8)] [12,14,79,82,83,84,85,86,87,88])
 (.seq
 (.seq
 (.ops [⟨some 89,(.mv (.t 15)),none⟩,
 ⟨some 90,(.bin .neq (.t 89) (.c (.int .i64 (0)))),none⟩]
 [] [89])
 (.cond (.t 90)
 (.seq
 (.ops [⟨some 91,(.build [(.int .i64 (0)),(.int .i64 (0))] []),none⟩,
 ⟨some 92,(.mv (.t 15)),none⟩,
 ⟨none,(.store 2 (.t 6) (.t 91)),none⟩,
 ⟨some 7,(.mv (.t 92)),none⟩]
 [] [3,5,9,10,13,15,16,42,43,44,90,91,92])
 .ret)
 .skip))
 (.seq
 (.seq
 (.ops [⟨some 94,(.load true 2 (.t 9)),none⟩,
 ⟨some 95,(.load true 2 (.t 16)),none⟩,
 ⟨some 96,(.call (.f 122) [(.t 94),(.t 95)]),none⟩,
 ⟨some 93,(.mv (.t 96)),none⟩,
 ⟨some 97,(.ext (.t 93) 0),none⟩,
 ⟨some 98,(.ext (.t 93) 1),none⟩,
 ⟨none,(.store 2 (.t 9) (.t 97)),none⟩,
 ⟨some 15,(.mv (.t 98)),none⟩]
 [] [16,90,93,94,95,96,97,98])
 (.seq
 (.ops [⟨some 99,(.mv (.t 15)),none⟩,
 ⟨some 100,(.bin .neq (.t 99) (.c (.int .i64 (0)))),none⟩]
 [] [99])
 (.cond (.t 100)
 (.seq
 (.ops [⟨some 101,(.build [(.int .i64 (0)),(.int .i64 (0))] []),none⟩,
 ⟨some 102,(.mv (.t 15)),none⟩,
 ⟨none,(.store 2 (.t 6) (.t 101)),none⟩,
 ⟨some 7,(.mv (.t 102)),none⟩]
 [] [3,5,9,10,13,15,42,43,44,100,101,102])
 .ret)
 .skip)))
 (.ops [⟨some 103,(.load true 2 (.t 13)),none⟩,
 ⟨none,(.store 2 (.t 10) (.t 103)),none⟩]
 [] [13,15,100,103])))))))))))
 (.ops [⟨some 104,(.bin .add (.t 44) (.c (.int .i64 (1)))),none⟩,
 ⟨some 44,(.mv (.t 104)),none⟩]
 [] [13,70,104])))))))
 (.seq
 (.ops [⟨some 105,(.load true 2 (.t 9)),none⟩,
 ⟨none,(.store 2 (.t 6) (.t 105)),none⟩,
 ⟨some 7,(.mv (.c (.int .i64 (0)))),none⟩]
 [] [3,5,9,10,42,43,44,45,105])
 .ret)))))))⟩
def ypE:List Nat:=[3,4,5,6,9,10,13,14,16]
def yr9:List (Nat×List Nat):=[(28,[3,5,9,10,42,43,44,45,105]),(27,[13,70,104]),(26,[13,15,100,103]),(25,[3,5,9,10,13,15,42,43,44,100,101,102]),(24,[99]),(23,[16,90,93,94,95,96,97,98]),(22,[3,5,9,10,13,15,16,42,43,44,90,91,92]),(21,[89]),(20,[12,14,79,82,83,84,85,86,87,88]),(19,[3,5,9,10,12,13,14,15,42,43,44,79,80,81]),(18,[78]),(17,[67,72,73,74,75,76,77]),(16,[13,70,71]),(15,[12,67,68,69]),(14,[58,60,61,62,63,64,65,66]),(13,[58,59]),(12,[56,57]),(11,[11,49,50,51,52,53,54,55]),(10,[45,46,47,48]),(8,[41]),(7,[4,40]),(6,[37,39]),(5,[3,4,5,37,38]),(4,[8,20,23,24,25,26,27,28,29,30,31,32,33,34,35,36]),(3,[3,4,5,8,20,21,22]),(2,[19]),(1,[17,18]),(0,[0,1,2,7])]
theorem ylC:yaa Tryz.prog ypE (fun i=>(yr9.lookup i).getD []) Tryz.f140=some ykm:=by kernel_rfl

-- cmp.Or[parcener/api.Errno]
def ykn:AFn:=⟨1,[.tmp 2],
 (.seq
 (.ops [⟨some 2,(.mv (.c (.int .i64 (0)))),none⟩]
 [] [2])
 (.seq
 (.ops [⟨some 3,(.mv (.c (.int .i64 (0)))),none⟩]
 [] [])
 (.seq
 (.seq
 (.ops [⟨some 6,(.mv (.t 0)),none⟩,
 ⟨some 7,(.len (.t 6)),none⟩,
 ⟨some 8,(.mv (.c (.int .i64 (0)))),none⟩]
 [] [0])
 (.block 0
 (.loop
 (.seq
 (.ops [⟨some 9,(.bin .lss (.t 8) (.t 7)),none⟩]
 [] [])
 (.seq
 (.cond (.t 9)
 .skip
 (.exit 0))
 (.seq
 (.block 1
 (.seq
 (.ops [⟨some 10,(.iad 1 (.t 6) (.t 8)),none⟩,
 ⟨some 11,(.load false 1 (.t 10)),none⟩,
 ⟨some 5,(.mv (.t 11)),none⟩]
 [] [9,10,11])
 (.seq
 (.ops [⟨some 12,(.mv (.t 5)),none⟩,
 ⟨some 13,(.mv (.t 3)),none⟩,
 ⟨some 14,(.bin .neq (.t 12) (.t 13)),none⟩]
 [] [12,13])
 (.cond (.t 14)
 (.seq
 (.ops [⟨some 15,(.mv (.t 5)),none⟩,
 ⟨some 2,(.mv (.t 15)),none⟩]
 [] [3,5,6,7,8,14,15])
 .ret)
 .skip))))
 (.ops [⟨some 16,(.bin .add (.t 8) (.c (.int .i64 (1)))),none⟩,
 ⟨some 8,(.mv (.t 16)),none⟩]
 [] [5,14,16])))))))
 (.seq
 (.ops [⟨some 17,(.mv (.t 3)),none⟩,
 ⟨some 2,(.mv (.t 17)),none⟩]
 [] [3,6,7,8,9,17])
 .ret))))⟩
def ypF:List Nat:=[]
def ysa:List (Nat×List Nat):=[(8,[3,6,7,8,9,17]),(7,[5,14,16]),(6,[3,5,6,7,8,14,15]),(5,[12,13]),(4,[9,10,11]),(2,[0]),(0,[2])]
theorem ylD:yaa Tryz.prog ypF (fun i=>(ysa.lookup i).getD []) Tryz.f141=some ykn:=by kernel_rfl

-- cmp.isNaN[uint64]
def yko:AFn:=⟨1,[.tmp 2],
 (.seq
 (.ops [⟨some 2,(.mv (.c (.bool false))),none⟩]
 [] [2])
 (.seq
 (.ops [⟨some 3,(.mv (.t 0)),none⟩,
 ⟨some 4,(.mv (.t 0)),none⟩,
 ⟨some 5,(.bin .neq (.t 3) (.t 4)),none⟩,
 ⟨some 2,(.mv (.t 5)),none⟩]
 [] [0,3,4,5])
 .ret))⟩
def ypG:List Nat:=[]
def ysb:List (Nat×List Nat):=[(1,[0,3,4,5]),(0,[2])]
theorem ylE:yaa Tryz.prog ypG (fun i=>(ysb.lookup i).getD []) Tryz.f143=some yko:=by kernel_rfl

-- slices.insertionSortCmpFunc[parcener/halve.half]
def ykp:AFn:=⟨4,[],
 (.seq
 (.ops [⟨some 10,(.mv (.t 1)),none⟩,
 ⟨some 11,(.bin .add (.t 10) (.c (.int .i64 (1)))),none⟩,
 ⟨some 8,(.mv (.t 11)),none⟩]
 [] [10,11])
 (.block 0
 (.loop
 (.seq
 (.seq
 (.ops [⟨some 12,(.mv (.t 8)),none⟩,
 ⟨some 13,(.mv (.t 2)),none⟩,
 ⟨some 14,(.bin .lss (.t 12) (.t 13)),none⟩]
 [] [12,13])
 (.cond (.t 14)
 .skip
 (.exit 0)))
 (.seq
 (.block 1
 (.seq
 (.ops [⟨some 17,(.mv (.t 8)),none⟩,
 ⟨some 9,(.mv (.t 17)),none⟩]
 [] [14,17])
 (.block 2
 (.loop
 (.seq
 (.seq
 (.ops [⟨some 18,(.mv (.t 9)),none⟩,
 ⟨some 19,(.mv (.t 1)),none⟩,
 ⟨some 20,(.bin .gtr (.t 18) (.t 19)),none⟩,
 ⟨some 21,(.mv (.t 20)),none⟩,
 ⟨some 22,(.mv (.t 3)),some (21,true)⟩,
 ⟨some 23,(.mv (.t 0)),some (21,true)⟩,
 ⟨some 24,(.mv (.t 9)),some (21,true)⟩,
 ⟨some 25,(.iad 3 (.t 23) (.t 24)),some (21,true)⟩,
 ⟨some 26,(.load true 3 (.t 25)),some (21,true)⟩,
 ⟨some 27,(.mv (.t 0)),some (21,true)⟩,
 ⟨some 28,(.mv (.t 9)),some (21,true)⟩,
 ⟨some 29,(.bin .sub (.t 28) (.c (.int .i64 (1)))),some (21,true)⟩,
 ⟨some 30,(.iad 3 (.t 27) (.t 29)),some (21,true)⟩,
 ⟨some 31,(.load true 3 (.t 30)),some (21,true)⟩,
 ⟨some 32,(.call (.t 22) [(.t 26),(.t 31)]),some (21,true)⟩,
 ⟨some 33,(.bin .lss (.t 32) (.c (.int .i64 (0)))),some (21,true)⟩,
 ⟨some 34,(.pick (.t 21) (.t 33) (.c (.bool false))),none⟩]
 [(0,1),(4,5),(4,6),(5,6),(4,7),(4,8),(4,9),(5,9),(6,9),(7,9),(8,9),(4,10),(5,10),(6,10),(7,10),(8,10),(9,10),(4,11),(5,11),(6,11),(7,11),(8,11),(9,11),(4,12),(5,12),(6,12),(7,12),(8,12),(4,13),(5,13),(6,13),(7,13),(8,13)] [18,19,20,21,22,23,24,25,26,27,28,29,30,31,32,33])
 (.cond (.t 34)
 .skip
 (.exit 2)))
 (.seq
 (.block 3
 (.ops [⟨some 37,(.mv (.t 0)),none⟩,
 ⟨some 38,(.mv (.t 9)),none⟩,
 ⟨some 39,(.mv (.t 0)),none⟩,
 ⟨some 40,(.mv (.t 9)),none⟩,
 ⟨some 41,(.bin .sub (.t 40) (.c (.int .i64 (1)))),none⟩,
 ⟨some 42,(.mv (.t 0)),none⟩,
 ⟨some 43,(.mv (.t 9)),none⟩,
 ⟨some 44,(.bin .sub (.t 43) (.c (.int .i64 (1)))),none⟩,
 ⟨some 45,(.iad 3 (.t 42) (.t 44)),none⟩,
 ⟨some 46,(.load true 3 (.t 45)),none⟩,
 ⟨some 47,(.mv (.t 0)),none⟩,
 ⟨some 48,(.mv (.t 9)),none⟩,
 ⟨some 49,(.iad 3 (.t 47) (.t 48)),none⟩,
 ⟨some 50,(.load true 3 (.t 49)),none⟩,
 ⟨some 51,(.iad 3 (.t 37) (.t 38)),none⟩,
 ⟨none,(.store 3 (.t 51) (.t 46)),none⟩,
 ⟨some 52,(.iad 3 (.t 39) (.t 41)),none⟩,
 ⟨none,(.store 3 (.t 52) (.t 50)),none⟩]
 [(0,1),(0,2),(1,2),(0,3),(1,3),(2,3),(0,4),(1,4),(2,4),(0,5),(1,5),(2,5),(3,5),(4,5),(0,6),(1,6),(2,6),(3,6),(4,6),(5,6),(0,7),(1,7),(2,7),(3,7),(4,7),(5,7),(0,8),(1,8),(2,8),(3,8),(4,8),(0,9),(1,9),(2,9),(3,9),(4,9),(0,10),(1,10),(2,10),(3,10),(4,10),(5,10),(6,10),(7,10),(8,10),(9,10),(0,11),(1,11),(2,11),(3,11),(4,11),(5,11),(6,11),(7,11),(8,11),(9,11),(10,11),(0,12),(1,12),(2,12),(3,12),(4,12),(5,12),(6,12),(7,12),(8,12),(9,12),(0,13),(1,13),(2,13),(3,13),(4,13),(5,13),(6,13),(7,13),(8,13),(9,13),(2,14),(3,14),(4,14),(2,15),(3,15),(4,15)] [34,37,38,39,40,41,42,43,44,45,46,47,48,49,50,51,52]))
 (.ops [⟨some 35,(.mv (.t 9)),none⟩,
 ⟨some 36,(.bin .sub (.t 35) (.c (.int .i64 (1)))),none⟩,
 ⟨some 9,(.mv (.t 36)),none⟩]
 [] [35,36])))))))
 (.ops [⟨some 15,(.mv (.t 8)),none⟩,
 ⟨some 16,(.bin .add (.t 15) (.c (.int .i64 (1)))),none⟩,
 ⟨some 8,(.mv (.t 16)),none⟩]
 [] [9,15,16,34]))))))⟩
def ypH:List Nat:=[]
def ysc:List (Nat×List Nat):=[(2,[9,15,16,34]),(5,[35,36]),(6,[34,37,38,39,40,41,42,43,44,45,46,47,48,49,50,51,52]),(4,[18,19,20,21,22,23,24,25,26,27,28,29,30,31,32,33]),(3,[14,17]),(1,[12,13]),(0,[10,11])]
theorem ylF:yaa Tryz.prog ypH (fun i=>(ysc.lookup i).getD []) Tryz.f144=some ykp:=by kernel_rfl

-- slices.insertionSortOrdered[int]
def ykq:AFn:=⟨3,[],
 (.seq
 (.ops [⟨some 8,(.mv (.t 1)),none⟩,
 ⟨some 9,(.bin .add (.t 8) (.c (.int .i64 (1)))),none⟩,
 ⟨some 6,(.mv (.t 9)),none⟩]
 [] [8,9])
 (.block 0
 (.loop
 (.seq
 (.seq
 (.ops [⟨some 10,(.mv (.t 6)),none⟩,
 ⟨some 11,(.mv (.t 2)),none⟩,
 ⟨some 12,(.bin .lss (.t 10) (.t 11)),none⟩]
 [] [10,11])
 (.cond (.t 12)
 .skip
 (.exit 0)))
 (.seq
 (.block 1
 (.seq
 (.ops [⟨some 15,(.mv (.t 6)),none⟩,
 ⟨some 7,(.mv (.t 15)),none⟩]
 [] [12,15])
 (.block 2
 (.loop
 (.seq
 (.seq
 (.ops [⟨some 16,(.mv (.t 7)),none⟩,
 ⟨some 17,(.mv (.t 1)),none⟩,
 ⟨some 18,(.bin .gtr (.t 16) (.t 17)),none⟩,
 ⟨some 19,(.mv (.t 18)),none⟩,
 ⟨some 20,(.mv (.t 0)),some (19,true)⟩,
 ⟨some 21,(.mv (.t 7)),some (19,true)⟩,
 ⟨some 22,(.iad 1 (.t 20) (.t 21)),some (19,true)⟩,
 ⟨some 23,(.load false 1 (.t 22)),some (19,true)⟩,
 ⟨some 24,(.mv (.t 0)),some (19,true)⟩,
 ⟨some 25,(.mv (.t 7)),some (19,true)⟩,
 ⟨some 26,(.bin .sub (.t 25) (.c (.int .i64 (1)))),some (19,true)⟩,
 ⟨some 27,(.iad 1 (.t 24) (.t 26)),some (19,true)⟩,
 ⟨some 28,(.load false 1 (.t 27)),some (19,true)⟩,
 ⟨some 29,(.call (.f 152) [(.t 23),(.t 28)]),some (19,true)⟩,
 ⟨some 30,(.pick (.t 19) (.t 29) (.c (.bool false))),none⟩]
 [(0,1),(4,5),(4,8),(5,8),(6,8),(7,8),(4,9),(5,9),(6,9),(7,9),(8,9),(4,10),(5,10),(6,10),(7,10),(8,10),(4,11),(5,11),(6,11),(7,11),(4,12),(5,12),(6,12),(7,12)] [16,17,18,19,20,21,22,23,24,25,26,27,28,29])
 (.cond (.t 30)
 .skip
 (.exit 2)))
 (.seq
 (.block 3
 (.ops [⟨some 33,(.mv (.t 0)),none⟩,
 ⟨some 34,(.mv (.t 7)),none⟩,
 ⟨some 35,(.mv (.t 0)),none⟩,
 ⟨some 36,(.mv (.t 7)),none⟩,
 ⟨some 37,(.bin .sub (.t 36) (.c (.int .i64 (1)))),none⟩,
 ⟨some 38,(.mv (.t 0)),none⟩,
 ⟨some 39,(.mv (.t 7)),none⟩,
 ⟨some 40,(.bin .sub (.t 39) (.c (.int .i64 (1)))),none⟩,
 ⟨some 41,(.iad 1 (.t 38) (.t 40)),none⟩,
 ⟨some 42,(.load false 1 (.t 41)),none⟩,
 ⟨some 43,(.mv (.t 0)),none⟩,
 ⟨some 44,(.mv (.t 7)),none⟩,
 ⟨some 45,(.iad 1 (.t 43) (.t 44)),none⟩,
 ⟨some 46,(.load false 1 (.t 45)),none⟩,
 ⟨some 47,(.iad 1 (.t 33) (.t 34)),none⟩,
 ⟨none,(.store 1 (.t 47) (.t 42)),none⟩,
 ⟨some 48,(.iad 1 (.t 35) (.t 37)),none⟩,
 ⟨none,(.store 1 (.t 48) (.t 46)),none⟩]
 [(0,1),(0,2),(1,2),(0,3),(1,3),(2,3),(0,4),(1,4),(2,4),(0,5),(1,5),(2,5),(3,5),(4,5),(0,6),(1,6),(2,6),(3,6),(4,6),(5,6),(0,7),(1,7),(2,7),(3,7),(4,7),(5,7),(0,8),(1,8),(2,8),(3,8),(4,8),(0,9),(1,9),(2,9),(3,9),(4,9),(0,10),(1,10),(2,10),(3,10),(4,10),(5,10),(6,10),(7,10),(8,10),(9,10),(0,11),(1,11),(2,11),(3,11),(4,11),(5,11),(6,11),(7,11),(8,11),(9,11),(10,11),(0,12),(1,12),(2,12),(3,12),(4,12),(5,12),(6,12),(7,12),(8,12),(9,12),(0,13),(1,13),(2,13),(3,13),(4,13),(5,13),(6,13),(7,13),(8,13),(9,13),(2,14),(3,14),(4,14),(2,15),(3,15),(4,15)] [30,33,34,35,36,37,38,39,40,41,42,43,44,45,46,47,48]))
 (.ops [⟨some 31,(.mv (.t 7)),none⟩,
 ⟨some 32,(.bin .sub (.t 31) (.c (.int .i64 (1)))),none⟩,
 ⟨some 7,(.mv (.t 32)),none⟩]
 [] [31,32])))))))
 (.ops [⟨some 13,(.mv (.t 6)),none⟩,
 ⟨some 14,(.bin .add (.t 13) (.c (.int .i64 (1)))),none⟩,
 ⟨some 6,(.mv (.t 14)),none⟩]
 [] [7,13,14,30]))))))⟩
def ypI:List Nat:=[]
def ysd:List (Nat×List Nat):=[(2,[7,13,14,30]),(5,[31,32]),(6,[30,33,34,35,36,37,38,39,40,41,42,43,44,45,46,47,48]),(4,[16,17,18,19,20,21,22,23,24,25,26,27,28,29]),(3,[12,15]),(1,[10,11]),(0,[8,9])]
theorem ylG:yaa Tryz.prog ypI (fun i=>(ysd.lookup i).getD []) Tryz.f146=some ykq:=by kernel_rfl

-- cmp.Less[int]
def ykr:AFn:=⟨2,[.tmp 4],
 (.seq
 (.ops [⟨some 4,(.mv (.c (.bool false))),none⟩]
 [] [4])
 (.seq
 (.ops [⟨some 5,(.mv (.t 0)),none⟩,
 ⟨some 6,(.call (.f 167) [(.t 5)]),none⟩,
 ⟨some 7,(.mv (.t 6)),none⟩,
 ⟨some 8,(.mv (.t 1)),some (7,true)⟩,
 ⟨some 9,(.call (.f 167) [(.t 8)]),some (7,true)⟩,
 ⟨some 10,(.un .not (.t 9)),some (7,true)⟩,
 ⟨some 11,(.pick (.t 7) (.t 10) (.c (.bool false))),none⟩,
 ⟨some 12,(.mv (.t 11)),none⟩,
 ⟨some 13,(.mv (.t 0)),some (12,false)⟩,
 ⟨some 14,(.mv (.t 1)),some (12,false)⟩,
 ⟨some 15,(.bin .lss (.t 13) (.t 14)),some (12,false)⟩,
 ⟨some 16,(.pick (.t 12) (.c (.bool true)) (.t 15)),none⟩,
 ⟨some 4,(.mv (.t 16)),none⟩]
 [] [0,1,5,6,7,8,9,10,11,12,13,14,15,16])
 .ret))⟩
def ypJ:List Nat:=[]
def yse:List (Nat×List Nat):=[(1,[0,1,5,6,7,8,9,10,11,12,13,14,15,16]),(0,[4])]
theorem ylH:yaa Tryz.prog ypJ (fun i=>(yse.lookup i).getD []) Tryz.f152=some ykr:=by kernel_rfl

-- math/bits.Rem64
def yks:AFn:=⟨3,[.tmp 6],
 (.seq
 (.ops [⟨some 6,(.mv (.c (.int .u64 (0)))),none⟩]
 [] [6])
 (.seq
 (.ops [⟨some 10,(.mv (.t 0)),none⟩,
 ⟨some 11,(.mv (.t 2)),none⟩,
 ⟨some 12,(.bin .rem (.t 10) (.t 11)),none⟩,
 ⟨some 13,(.mv (.t 1)),none⟩,
 ⟨some 14,(.mv (.t 2)),none⟩,
 ⟨some 15,(.call (.f 158) [(.t 12),(.t 13),(.t 14)]),none⟩,
 ⟨some 9,(.mv (.t 15)),none⟩,
 ⟨some 16,(.ext (.t 9) 0),none⟩,
 ⟨some 17,(.ext (.t 9) 1),none⟩,
 ⟨some 7,(.mv (.t 16)),none⟩,
 ⟨some 8,(.mv (.t 17)),none⟩]
 [] [0,1,2,7,9,10,11,12,13,14,15,16,17])
 (.seq
 (.ops [⟨some 18,(.mv (.t 8)),none⟩,
 ⟨some 6,(.mv (.t 18)),none⟩]
 [] [8,18])
 .ret)))⟩
def ypK:List Nat:=[]
def ysf:List (Nat×List Nat):=[(2,[8,18]),(1,[0,1,2,7,9,10,11,12,13,14,15,16,17]),(0,[6])]
theorem ylI:yaa Tryz.prog ypK (fun i=>(ysf.lookup i).getD []) Tryz.f157=some yks:=by kernel_rfl

-- math/bits.Div64
def ykt:AFn:=⟨3,[.tmp 6,.tmp 7],
 (.seq
 (.ops [⟨some 6,(.mv (.c (.int .u64 (0)))),none⟩,
 ⟨some 7,(.mv (.c (.int .u64 (0)))),none⟩]
 [] [6,7])
 (.seq
 (.seq
 (.ops [⟨some 19,(.mv (.t 2)),none⟩,
 ⟨some 20,(.bin .eql (.t 19) (.c (.int .u64 (0)))),none⟩]
 [] [19])
 (.cond (.t 20)
 (.ops [⟨some 21,(.load false 1 (.g 1)),none⟩,
 ⟨none,.bad,none⟩]
 [] [20,21])
 .skip))
 (.seq
 (.seq
 (.ops [⟨some 22,(.mv (.t 2)),none⟩,
 ⟨some 23,(.mv (.t 0)),none⟩,
 ⟨some 24,(.bin .leq (.t 22) (.t 23)),none⟩]
 [] [20,22,23])
 (.cond (.t 24)
 (.ops [⟨some 25,(.load false 1 (.g 2)),none⟩,
 ⟨none,.bad,none⟩]
 [] [24,25])
 .skip))
 (.seq
 (.seq
 (.ops [⟨some 26,(.mv (.t 0)),none⟩,
 ⟨some 27,(.bin .eql (.t 26) (.c (.int .u64 (0)))),none⟩]
 [] [24,26])
 (.cond (.t 27)
 (.seq
 (.ops [⟨some 28,(.mv (.t 1)),none⟩,
 ⟨some 29,(.mv (.t 2)),none⟩,
 ⟨some 30,(.bin .quo (.t 28) (.t 29)),none⟩,
 ⟨some 31,(.mv (.t 1)),none⟩,
 ⟨some 32,(.mv (.t 2)),none⟩,
 ⟨some 33,(.bin .rem (.t 31) (.t 32)),none⟩,
 ⟨some 6,(.mv (.t 30)),none⟩,
 ⟨some 7,(.mv (.t 33)),none⟩]
 [(0,1),(0,3),(1,3),(2,3),(0,4),(1,4),(2,4),(3,4),(0,5),(1,5),(2,5),(3,6),(4,6),(5,6)] [0,1,2,27,28,29,30,31,32,33])
 .ret)
 .skip))
 (.seq
 (.ops [⟨some 34,(.mv (.t 2)),none⟩,
 ⟨some 35,(.call (.f 168) [(.t 34)]),none⟩,
 ⟨some 36,(.conv .u64 (.t 35)),none⟩,
 ⟨some 8,(.mv (.t 36)),none⟩]
 [] [27,34,35,36])
 (.seq
 (.ops [⟨some 37,(.mv (.t 2)),none⟩,
 ⟨some 38,(.mv (.t 8)),none⟩,
 ⟨some 39,(.bin .shl (.t 37) (.t 38)),none⟩,
 ⟨some 2,(.mv (.t 39)),none⟩]
 [] [37,38,39])
 (.seq
 (.ops [⟨some 40,(.mv (.t 2)),none⟩,
 ⟨some 41,(.bin .shr (.t 40) (.c (.int .u64 (32)))),none⟩,
 ⟨some 9,(.mv (.t 41)),none⟩]
 [] [40,41])
 (.seq
 (.ops [⟨some 42,(.mv (.t 2)),none⟩,
 ⟨some 43,(.bin .and (.t 42) (.c (.int .u64 (4294967295)))),none⟩,
 ⟨some 10,(.mv (.t 43)),none⟩]
 [] [42,43])
 (.seq
 (.ops [⟨some 44,(.mv (.t 0)),none⟩,
 ⟨some 45,(.mv (.t 8)),none⟩,
 ⟨some 46,(.bin .shl (.t 44) (.t 45)),none⟩,
 ⟨some 47,(.mv (.t 1)),none⟩,
 ⟨some 48,(.mv (.t 8)),none⟩,
 ⟨some 49,(.bin .sub (.c (.int .u64 (64))) (.t 48)),none⟩,
 ⟨some 50,(.bin .shr (.t 47) (.t 49)),none⟩,
 ⟨some 51,(.bin .or (.t 46) (.t 50)),none⟩,
 ⟨some 11,(.mv (.t 51)),none⟩]
 [] [0,44,45,46,47,48,49,50,51])
 (.seq
 (.ops [⟨some 52,(.mv (.t 1)),none⟩,
 ⟨some 53,(.mv (.t 8)),none⟩,
 ⟨some 54,(.bin .shl (.t 52) (.t 53)),none⟩,
 ⟨some 12,(.mv (.t 54)),none⟩]
 [] [1,52,53,54])
 (.seq
 (.ops [⟨some 55,(.mv (.t 12)),none⟩,
 ⟨some 56,(.bin .shr (.t 55) (.c (.int .u64 (32)))),none⟩,
 ⟨some 13,(.mv (.t 56)),none⟩]
 [] [55,56])
 (.seq
 (.ops [⟨some 57,(.mv (.t 12)),none⟩,
 ⟨some 58,(.bin .and (.t 57) (.c (.int .u64 (4294967295)))),none⟩,
 ⟨some 14,(.mv (.t 58)),none⟩]
 [] [12,57,58])
 (.seq
 (.ops [⟨some 59,(.mv (.t 11)),none⟩,
 ⟨some 60,(.mv (.t 9)),none⟩,
 ⟨some 61,(.bin .quo (.t 59) (.t 60)),none⟩,
 ⟨some 15,(.mv (.t 61)),none⟩]
 [] [59,60,61])
 (.seq
 (.ops [⟨some 62,(.mv (.t 11)),none⟩,
 ⟨some 63,(.mv (.t 15)),none⟩,
 ⟨some 64,(.mv (.t 9)),none⟩,
 ⟨some 65,(.bin .mul (.t 63) (.t 64)),none⟩,
 ⟨some 66,(.bin .sub (.t 62) (.t 65)),none⟩,
 ⟨some 16,(.mv (.t 66)),none⟩]
 [] [62,63,64,65,66])
 (.seq
 (.block 0
 (.loop
 (.seq
 (.seq
 (.ops [⟨some 67,(.mv (.t 15)),none⟩,
 ⟨some 68,(.bin .geq (.t 67) (.c (.int .u64 (4294967296)))),none⟩,
 ⟨some 69,(.mv (.t 68)),none⟩,
 ⟨some 70,(.mv (.t 15)),some (69,false)⟩,
 ⟨some 71,(.mv (.t 10)),some (69,false)⟩,
 ⟨some 72,(.bin .mul (.t 70) (.t 71)),some (69,false)⟩,
 ⟨some 73,(.mv (.t 16)),some (69,false)⟩,
 ⟨some 74,(.bin .mul (.c (.int .u64 (4294967296))) (.t 73)),some (69,false)⟩,
 ⟨some 75,(.mv (.t 13)),some (69,false)⟩,
 ⟨some 76,(.bin .add (.t 74) (.t 75)),some (69,false)⟩,
 ⟨some 77,(.bin .gtr (.t 72) (.t 76)),some (69,false)⟩,
 ⟨some 78,(.pick (.t 69) (.c (.bool true)) (.t 77)),none⟩]
 [] [67,68,69,70,71,72,73,74,75,76,77,85])
 (.cond (.t 78)
 .skip
 (.exit 0)))
 (.block 1
 (.seq
 (.ops [⟨some 79,(.mv (.t 15)),none⟩,
 ⟨some 80,(.bin .sub (.t 79) (.c (.int .u64 (1)))),none⟩,
 ⟨some 15,(.mv (.t 80)),none⟩]
 [] [78,79,80])
 (.seq
 (.ops [⟨some 81,(.mv (.t 16)),none⟩,
 ⟨some 82,(.mv (.t 9)),none⟩,
 ⟨some 83,(.bin .add (.t 81) (.t 82)),none⟩,
 ⟨some 16,(.mv (.t 83)),none⟩]
 [] [81,82,83])
 (.seq
 (.ops [⟨some 84,(.mv (.t 16)),none⟩,
 ⟨some 85,(.bin .geq (.t 84) (.c (.int .u64 (4294967296)))),none⟩]
 [] [84])
 (.cond (.t 85)
 (.exit 0)
 .skip))))))))
 (.seq
 (.ops [⟨some 86,(.mv (.t 11)),none⟩,
 ⟨some 87,(.bin .mul (.t 86) (.c (.int .u64 (4294967296)))),none⟩,
 ⟨some 88,(.mv (.t 13)),none⟩,
 ⟨some 89,(.bin .add (.t 87) (.t 88)),none⟩,
 ⟨some 90,(.mv (.t 15)),none⟩,
 ⟨some 91,(.mv (.t 2)),none⟩,
 ⟨some 92,(.bin .mul (.t 90) (.t 91)),none⟩,
 ⟨some 93,(.bin .sub (.t 89) (.t 92)),none⟩,
 ⟨some 17,(.mv (.t 93)),none⟩]
 [] [11,13,16,78,85,86,87,88,89,90,91,92,93])
 (.seq
 (.ops [⟨some 94,(.mv (.t 17)),none⟩,
 ⟨some 95,(.mv (.t 9)),none⟩,
 ⟨some 96,(.bin .quo (.t 94) (.t 95)),none⟩,
 ⟨some 18,(.mv (.t 96)),none⟩]
 [] [94,95,96])
 (.seq
 (.ops [⟨some 97,(.mv (.t 17)),none⟩,
 ⟨some 98,(.mv (.t 18)),none⟩,
 ⟨some 99,(.mv (.t 9)),none⟩,
 ⟨some 100,(.bin .mul (.t 98) (.t 99)),none⟩,
 ⟨some 101,(.bin .sub (.t 97) (.t 100)),none⟩,
 ⟨some 16,(.mv (.t 101)),none⟩]
 [] [97,98,99,100,101])
 (.seq
 (.block 2
 (.loop
 (.seq
 (.seq
 (.ops [⟨some 102,(.mv (.t 18)),none⟩,
 ⟨some 103,(.bin .geq (.t 102) (.c (.int .u64 (4294967296)))),none⟩,
 ⟨some 104,(.mv (.t 103)),none⟩,
 ⟨some 105,(.mv (.t 18)),some (104,false)⟩,
 ⟨some 106,(.mv (.t 10)),some (104,false)⟩,
 ⟨some 107,(.bin .mul (.t 105) (.t 106)),some (104,false)⟩,
 ⟨some 108,(.mv (.t 16)),some (104,false)⟩,
 ⟨some 109,(.bin .mul (.c (.int .u64 (4294967296))) (.t 108)),some (104,false)⟩,
 ⟨some 110,(.mv (.t 14)),some (104,false)⟩,
 ⟨some 111,(.bin .add (.t 109) (.t 110)),some (104,false)⟩,
 ⟨some 112,(.bin .gtr (.t 107) (.t 111)),some (104,false)⟩,
 ⟨some 113,(.pick (.t 104) (.c (.bool true)) (.t 112)),none⟩]
 [] [102,103,104,105,106,107,108,109,110,111,112,120])
 (.cond (.t 113)
 .skip
 (.exit 2)))
 (.block 3
 (.seq
 (.ops [⟨some 114,(.mv (.t 18)),none⟩,
 ⟨some 115,(.bin .sub (.t 114) (.c (.int .u64 (1)))),none⟩,
 ⟨some 18,(.mv (.t 115)),none⟩]
 [] [113,114,115])
 (.seq
 (.ops [⟨some 116,(.mv (.t 16)),none⟩,
 ⟨some 117,(.mv (.t 9)),none⟩,
 ⟨some 118,(.bin .add (.t 116) (.t 117)),none⟩,
 ⟨some 16,(.mv (.t 118)),none⟩]
 [] [116,117,118])
 (.seq
 (.ops [⟨some 119,(.mv (.t 16)),none⟩,
 ⟨some 120,(.bin .geq (.t 119) (.c (.int .u64 (4294967296)))),none⟩]
 [] [119])
 (.cond (.t 120)
 (.exit 2)
 .skip))))))))
 (.seq
 (.ops [⟨some 121,(.mv (.t 15)),none⟩,
 ⟨some 122,(.bin .mul (.t 121) (.c (.int .u64 (4294967296)))),none⟩,
 ⟨some 123,(.mv (.t 18)),none⟩,
 ⟨some 124,(.bin .add (.t 122) (.t 123)),none⟩,
 ⟨some 125,(.mv (.t 17)),none⟩,
 ⟨some 126,(.bin .mul (.t 125) (.c (.int .u64 (4294967296)))),none⟩,
 ⟨some 127,(.mv (.t 14)),none⟩,
 ⟨some 128,(.bin .add (.t 126) (.t 127)),none⟩,
 ⟨some 129,(.mv (.t 18)),none⟩,
 ⟨some 130,(.mv (.t 2)),none⟩,
 ⟨some 131,(.bin .mul (.t 129) (.t 130)),none⟩,
 ⟨some 132,(.bin .sub (.t 128) (.t 131)),none⟩,
 ⟨some 133,(.mv (.t 8)),none⟩,
 ⟨some 134,(.bin .shr (.t 132) (.t 133)),none⟩,
 ⟨some 6,(.mv (.t 124)),none⟩,
 ⟨some 7,(.mv (.t 134)),none⟩]
 [] [2,8,9,10,14,15,16,17,18,113,120,121,122,123,124,125,126,127,128,129,130,131,132,133,134])
 .ret))))))))))))))))))))⟩
def ypL:List Nat:=[]
def ysg:List (Nat×List Nat):=[(28,[2,8,9,10,14,15,16,17,18,113,120,121,122,123,124,125,126,127,128,129,130,131,132,133,134]),(27,[119]),(26,[116,117,118]),(25,[113,114,115]),(24,[102,103,104,105,106,107,108,109,110,111,112,120]),(23,[97,98,99,100,101]),(22,[94,95,96]),(21,[11,13,16,78,85,86,87,88,89,90,91,92,93]),(20,[84]),(19,[81,82,83]),(18,[78,79,80]),(17,[67,68,69,70,71,72,73,74,75,76,77,85]),(16,[62,63,64,65,66]),(15,[59,60,61]),(14,[12,57,58]),(13,[55,56]),(12,[1,52,53,54]),(11,[0,44,45,46,47,48,49,50,51]),(10,[42,43]),(9,[40,41]),(8,[37,38,39]),(7,[27,34,35,36]),(6,[0,1,2,27,28,29,30,31,32,33]),(5,[24,26]),(4,[24,25]),(3,[20,22,23]),(2,[20,21]),(1,[19]),(0,[6,7])]
theorem ylJ:yaa Tryz.prog ypL (fun i=>(ysg.lookup i).getD []) Tryz.f158=some ykt:=by kernel_rfl

def tab2:List (Nat×AFn):=[(93,ynb),(94,ync),(95,ynd),(96,yne),(97,ynf),(98,yng),(99,ynh),(100,yjJ),(101,yjK),(102,yjL),(103,yjM),(104,yjN),(106,yjO),(107,yjP),(108,yjQ),(109,yjR),(110,yjS),(111,yjT),(112,yjU),(113,yjV),(114,yjW),(115,yjX),(116,yjY),(117,yjZ),(118,yj0),(119,yj1),(120,yj2),(121,yj3),(122,yj4),(123,yj5),(124,yj6),(125,yj7),(126,yj8),(127,yj9),(128,yka),(129,ykb),(130,ykc),(131,ykd),(132,yke),(133,ykf),(134,ykg),(135,ykh),(136,yki),(137,ykj),(138,ykk),(139,ykl),(140,ykm),(141,ykn),(143,yko),(144,ykp),(146,ykq),(152,ykr),(157,yks),(158,ykt)]
theorem ypM:yc1 Tryz.prog tab2:=⟨⟨_,_,_,Tryz.func93,yoU⟩,⟨_,_,_,Tryz.func94,yoV⟩,⟨_,_,_,Tryz.func95,yoW⟩,⟨_,_,_,Tryz.func96,yoX⟩,⟨_,_,_,Tryz.func97,yoY⟩,⟨_,_,_,Tryz.func98,yoZ⟩,⟨_,_,_,Tryz.func99,yo0⟩,⟨_,_,_,Tryz.func100,ykZ⟩,⟨_,_,_,Tryz.func101,yk0⟩,⟨_,_,_,Tryz.func102,yk1⟩,⟨_,_,_,Tryz.func103,yk2⟩,⟨_,_,_,Tryz.func104,yk3⟩,⟨_,_,_,Tryz.func106,yk4⟩,⟨_,_,_,Tryz.func107,yk5⟩,⟨_,_,_,Tryz.func108,yk6⟩,⟨_,_,_,Tryz.func109,yk7⟩,⟨_,_,_,Tryz.func110,yk8⟩,⟨_,_,_,Tryz.func111,yk9⟩,⟨_,_,_,Tryz.func112,yla⟩,⟨_,_,_,Tryz.func113,ylb⟩,⟨_,_,_,Tryz.func114,ylc⟩,⟨_,_,_,Tryz.func115,yld⟩,⟨_,_,_,Tryz.func116,yle⟩,⟨_,_,_,Tryz.func117,ylf⟩,⟨_,_,_,Tryz.func118,ylg⟩,⟨_,_,_,Tryz.func119,ylh⟩,⟨_,_,_,Tryz.func120,yli⟩,⟨_,_,_,Tryz.func121,ylj⟩,⟨_,_,_,Tryz.func122,ylk⟩,⟨_,_,_,Tryz.func123,yll⟩,⟨_,_,_,Tryz.func124,ylm⟩,⟨_,_,_,Tryz.func125,yln⟩,⟨_,_,_,Tryz.func126,ylo⟩,⟨_,_,_,Tryz.func127,ylp⟩,⟨_,_,_,Tryz.func128,ylq⟩,⟨_,_,_,Tryz.func129,ylr⟩,⟨_,_,_,Tryz.func130,yls⟩,⟨_,_,_,Tryz.func131,ylt⟩,⟨_,_,_,Tryz.func132,ylu⟩,⟨_,_,_,Tryz.func133,ylv⟩,⟨_,_,_,Tryz.func134,ylw⟩,⟨_,_,_,Tryz.func135,ylx⟩,⟨_,_,_,Tryz.func136,yly⟩,⟨_,_,_,Tryz.func137,ylz⟩,⟨_,_,_,Tryz.func138,ylA⟩,⟨_,_,_,Tryz.func139,ylB⟩,⟨_,_,_,Tryz.func140,ylC⟩,⟨_,_,_,Tryz.func141,ylD⟩,⟨_,_,_,Tryz.func143,ylE⟩,⟨_,_,_,Tryz.func144,ylF⟩,⟨_,_,_,Tryz.func146,ylG⟩,⟨_,_,_,Tryz.func152,ylH⟩,⟨_,_,_,Tryz.func157,ylI⟩,⟨_,_,_,Tryz.func158,ylJ⟩,trivial⟩
end Go.Proofs.YtlooeiaiafmikaaGreatDoor.Bn
