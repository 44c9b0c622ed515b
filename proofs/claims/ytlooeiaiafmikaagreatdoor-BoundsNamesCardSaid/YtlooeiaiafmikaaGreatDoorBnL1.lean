/- The functions that the statement BoundsNames runs, in the small code (part 1); each is what the framework makes of the program. -/
import Derived.Test.YtlooeiaiafmikaaGreatDoorBnW3
import Derived.Test.YtlooeiaiafmikaaGreatDoorRows
namespace Go.Proofs.YtlooeiaiafmikaaGreatDoor.Bn
open Go Go.Pf
-- (*parcener/triple.table).first
def ymk:AFn:=⟨1,[.cell 2 true 20],
 (.seq
 (.ops [⟨some 2,(.allocL (.agg [(.int .i64 (0)),(.int .i64 (0)),(.int .i64 (0)),(.int .i64 (0)),(.int .i64 (0)),(.int .i64 (0)),(.int .i64 (0)),(.int .i64 (0)),(.int .i64 (0)),(.int .i64 (0)),(.int .i64 (0)),(.int .i64 (0)),(.int .i64 (0)),(.int .i64 (0)),(.int .i64 (0)),(.int .i64 (0)),(.int .i64 (0)),(.int .i64 (0)),(.int .i64 (0)),(.int .i64 (0))])),none⟩]
 [] [])
 (.seq
 (.ops [⟨some 12,(.call (.f 74) [(.c (.int .i64 (0)))]),none⟩,
 ⟨some 13,(.mv (.t 0)),none⟩,
 ⟨some 14,(.nilchk (.t 13)),none⟩,
 ⟨some 15,(.fad 0 (.t 14)),none⟩,
 ⟨some 16,(.fad 0 (.t 15)),none⟩,
 ⟨some 17,(.load false 1 (.t 16)),none⟩,
 ⟨some 18,(.iad 3 (.t 17) (.c (.int .i64 (0)))),none⟩,
 ⟨some 19,(.fad 0 (.t 18)),none⟩,
 ⟨some 20,(.load false 1 (.t 19)),none⟩,
 ⟨some 21,(.call (.f 74) [(.t 20)]),none⟩,
 ⟨some 3,(.allocL (.agg [(.int .i64 (0)),(.int .i64 (0))])),none⟩,
 ⟨some 4,(.allocL (.agg [(.int .i64 (0)),(.int .i64 (0))])),none⟩,
 ⟨none,(.store 2 (.t 3) (.t 12)),none⟩,
 ⟨none,(.store 2 (.t 4) (.t 21)),none⟩]
 [(0,1),(0,2),(0,3),(0,4),(0,5),(0,6),(0,7),(0,8),(0,10),(1,10),(2,10),(3,10),(4,10),(5,10),(6,10),(7,10),(8,10),(9,10),(0,11),(1,11),(2,11),(3,11),(4,11),(5,11),(6,11),(7,11),(8,11),(9,11),(10,11)] [12,13,14,15,16,17,18,19,20,21])
 (.seq
 (.ops [⟨some 23,(.mv (.t 0)),none⟩,
 ⟨some 24,(.load true 2 (.t 3)),none⟩,
 ⟨some 25,(.mv (.t 0)),none⟩,
 ⟨some 26,(.call (.f 76) [(.t 25),(.c (.int .i64 (0)))]),none⟩,
 ⟨some 27,(.call (.f 75) [(.t 23),(.c (.int .i64 (0))),(.t 24),(.t 26)]),none⟩,
 ⟨some 22,(.mv (.t 27)),none⟩,
 ⟨some 28,(.ext (.t 22) 0),none⟩,
 ⟨some 29,(.ext (.t 22) 1),none⟩,
 ⟨some 5,(.allocL (.agg [(.int .i64 (0)),(.int .i64 (0))])),none⟩,
 ⟨some 6,(.allocL (.agg [(.int .i64 (0)),(.int .i64 (0))])),none⟩,
 ⟨none,(.store 2 (.t 5) (.t 28)),none⟩,
 ⟨none,(.store 2 (.t 6) (.t 29)),none⟩]
 [(0,1),(0,2),(1,2),(0,3),(1,3),(6,7),(0,8),(1,8),(2,8),(3,8),(4,8),(5,8),(6,8),(7,8),(0,9),(1,9),(2,9),(3,9),(4,9),(5,9),(6,9),(7,9),(8,9),(7,10)] [22,23,24,25,26,27,28,29])
 (.seq
 (.ops [⟨some 30,(.load true 2 (.t 3)),none⟩,
 ⟨some 31,(.load true 2 (.t 5)),none⟩,
 ⟨some 32,(.build [(.int .i64 (0)),(.int .i64 (0)),(.int .i64 (0)),(.int .i64 (0))] [(0,2,(.t 30)),(2,2,(.t 31))]),none⟩,
 ⟨some 33,(.load true 2 (.t 5)),none⟩,
 ⟨some 34,(.load true 2 (.t 6)),none⟩,
 ⟨some 35,(.build [(.int .i64 (0)),(.int .i64 (0)),(.int .i64 (0)),(.int .i64 (0))] [(0,2,(.t 33)),(2,2,(.t 34))]),none⟩,
 ⟨some 36,(.load true 2 (.t 6)),none⟩,
 ⟨some 37,(.load true 2 (.t 4)),none⟩,
 ⟨some 38,(.build [(.int .i64 (0)),(.int .i64 (0)),(.int .i64 (0)),(.int .i64 (0))] [(0,2,(.t 36)),(2,2,(.t 37))]),none⟩,
 ⟨some 39,(.build [(.int .i64 (0)),(.int .i64 (0)),(.int .i64 (0)),(.int .i64 (0)),(.int .i64 (0)),(.int .i64 (0)),(.int .i64 (0)),(.int .i64 (0)),(.int .i64 (0)),(.int .i64 (0)),(.int .i64 (0)),(.int .i64 (0))] [(0,4,(.t 32)),(4,4,(.t 35)),(8,4,(.t 38))]),none⟩,
 ⟨some 40,(.build [(.int .i64 (0)),(.int .i64 (0)),(.int .i64 (0)),(.int .i64 (0)),(.int .i64 (0)),(.int .i64 (0)),(.int .i64 (0)),(.int .i64 (0)),(.int .i64 (0)),(.int .i64 (0)),(.int .i64 (0)),(.int .i64 (0)),(.int .i64 (0)),(.int .i64 (0)),(.int .i64 (0)),(.int .i64 (0)),(.int .i64 (0)),(.int .i64 (0)),(.int .i64 (0)),(.int .i64 (0))] [(0,12,(.t 39)),(12,1,(.c (.int .i64 (-1))))]),none⟩,
 ⟨some 7,(.allocH true 20 (.agg [(.int .i64 (0)),(.int .i64 (0)),(.int .i64 (0)),(.int .i64 (0)),(.int .i64 (0)),(.int .i64 (0)),(.int .i64 (0)),(.int .i64 (0)),(.int .i64 (0)),(.int .i64 (0)),(.int .i64 (0)),(.int .i64 (0)),(.int .i64 (0)),(.int .i64 (0)),(.int .i64 (0)),(.int .i64 (0)),(.int .i64 (0)),(.int .i64 (0)),(.int .i64 (0)),(.int .i64 (0))])),none⟩,
 ⟨none,(.store 20 (.t 7) (.t 40)),none⟩]
 [] [3,4,5,6,30,31,32,33,34,35,36,37,38,39,40])
 (.seq
 (.ops [⟨some 41,(.mv (.t 0)),none⟩,
 ⟨some 42,(.fad 0 (.t 7)),none⟩,
 ⟨some 43,(.iadA 3 4 (.t 42) (.c (.int .i64 (0)))),none⟩,
 ⟨some 44,(.load true 4 (.t 43)),none⟩,
 ⟨some 45,(.fad 0 (.t 7)),none⟩,
 ⟨some 46,(.iadA 3 4 (.t 45) (.c (.int .i64 (1)))),none⟩,
 ⟨some 47,(.load true 4 (.t 46)),none⟩,
 ⟨some 48,(.buildD 4 (.agg [(.int .i64 (0)),(.int .i64 (0)),(.int .i64 (0)),(.int .i64 (0))]) 2 [(0,(.t 44)),(1,(.t 47))]),none⟩,
 ⟨some 49,(.call (.f 77) [(.t 41),(.c (.int .i64 (1))),(.t 48)]),none⟩,
 ⟨some 8,(.mv (.t 49)),none⟩]
 [] [41,42,43,44,45,46,47,48,49])
 (.seq
 (.ops [⟨some 50,(.mv (.t 8)),none⟩,
 ⟨some 51,(.mv (.t 0)),none⟩,
 ⟨some 52,(.call (.f 76) [(.t 51),(.c (.int .i64 (1)))]),none⟩,
 ⟨some 53,(.mv (.t 8)),none⟩,
 ⟨some 54,(.iad 2 (.t 53) (.c (.int .i64 (0)))),none⟩,
 ⟨some 55,(.load true 2 (.t 54)),none⟩,
 ⟨some 56,(.call (.f 79) [(.t 52),(.t 55)]),none⟩,
 ⟨some 57,(.ext (.t 56) 0),none⟩,
 ⟨some 58,(.ext (.t 56) 1),none⟩,
 ⟨some 59,(.call (.f 78) [(.t 57),(.t 58)]),none⟩,
 ⟨some 60,(.mv (.t 8)),none⟩,
 ⟨some 61,(.iad 2 (.t 60) (.c (.int .i64 (1)))),none⟩,
 ⟨some 62,(.load true 2 (.t 61)),none⟩,
 ⟨some 63,(.call (.f 79) [(.t 59),(.t 62)]),none⟩,
 ⟨some 64,(.ext (.t 63) 0),none⟩,
 ⟨some 65,(.ext (.t 63) 1),none⟩,
 ⟨some 66,(.call (.f 78) [(.t 64),(.t 65)]),none⟩,
 ⟨some 67,(.buildD 2 (.agg [(.int .i64 (0)),(.int .i64 (0))]) 1 [(0,(.t 66))]),none⟩,
 ⟨some 68,(.app true 2 16 (.t 50) (.t 67)),none⟩,
 ⟨some 8,(.mv (.t 68)),none⟩]
 [(0,1),(0,2),(0,3),(1,3),(2,3),(0,4),(1,4),(2,4),(0,5),(1,5),(2,5),(0,6),(0,7),(0,8),(7,8),(0,9),(0,10),(1,10),(2,10),(3,10),(4,10),(5,10),(6,10),(7,10),(8,10),(9,10),(0,11),(1,11),(2,11),(3,11),(4,11),(5,11),(6,11),(7,11),(8,11),(9,11),(0,12),(1,12),(2,12),(3,12),(4,12),(5,12),(6,12),(7,12),(8,12),(9,12),(0,13),(0,14),(0,15),(14,15),(0,16),(0,17)] [50,51,52,53,54,55,56,57,58,59,60,61,62,63,64,65,66,67,68])
 (.seq
 (.ops [⟨some 69,(.mv (.t 8)),none⟩,
 ⟨some 70,(.buildD 1 (.int .i64 (0)) 3 [(0,(.c (.int .i64 (0)))),(1,(.c (.int .i64 (1)))),(2,(.c (.int .i64 (2))))]),none⟩,
 ⟨some 71,(.call (.f 80) [(.t 69),(.t 70)]),none⟩,
 ⟨some 9,(.mv (.t 71)),none⟩]
 [] [69,70,71])
 (.seq
 (.ops [⟨some 72,(.mv (.t 8)),none⟩,
 ⟨some 73,(.mv (.t 9)),none⟩,
 ⟨some 74,(.buildD 1 (.int .i64 (0)) 1 [(0,(.t 73))]),none⟩,
 ⟨some 75,(.call (.f 81) [(.t 74)]),none⟩,
 ⟨some 76,(.call (.f 80) [(.t 72),(.t 75)]),none⟩,
 ⟨some 10,(.mv (.t 76)),none⟩]
 [] [72,73,74,75,76])
 (.seq
 (.seq
 (.ops [⟨some 77,(.mv (.t 8)),none⟩,
 ⟨some 78,(.mv (.t 9)),none⟩,
 ⟨some 79,(.iad 2 (.t 77) (.t 78)),none⟩,
 ⟨some 80,(.load true 2 (.t 79)),none⟩,
 ⟨some 81,(.mv (.t 8)),none⟩,
 ⟨some 82,(.mv (.t 10)),none⟩,
 ⟨some 83,(.iad 2 (.t 81) (.t 82)),none⟩,
 ⟨some 84,(.load true 2 (.t 83)),none⟩,
 ⟨some 85,(.eqA true 2 [(0,(some .i64)),(1,(some .i64))] (.t 80) (.t 84)),none⟩]
 [(0,1),(0,4),(1,4),(2,4),(3,4),(0,5),(1,5),(2,5),(3,5),(4,5),(0,6),(1,6),(2,6),(3,6),(0,7),(1,7),(2,7),(3,7)] [77,78,79,80,81,82,83,84])
 (.cond (.t 85)
 (.seq
 (.ops [⟨some 86,(.mv (.t 8)),none⟩,
 ⟨some 87,(.mv (.t 9)),none⟩,
 ⟨some 88,(.iad 2 (.t 86) (.t 87)),none⟩,
 ⟨some 89,(.load true 2 (.t 88)),none⟩,
 ⟨some 90,(.mv (.t 8)),none⟩,
 ⟨some 91,(.mv (.t 10)),none⟩,
 ⟨some 92,(.iad 2 (.t 90) (.t 91)),none⟩,
 ⟨some 93,(.load true 2 (.t 92)),none⟩,
 ⟨some 94,(.call (.f 79) [(.t 89),(.t 93)]),none⟩,
 ⟨some 95,(.ext (.t 94) 0),none⟩,
 ⟨some 96,(.ext (.t 94) 1),none⟩,
 ⟨some 97,(.call (.f 78) [(.t 95),(.t 96)]),none⟩,
 ⟨some 11,(.allocL (.agg [(.int .i64 (0)),(.int .i64 (0))])),none⟩,
 ⟨none,(.store 2 (.t 11) (.t 97)),none⟩]
 [(0,1),(0,4),(1,4),(2,4),(3,4),(0,5),(1,5),(2,5),(3,5),(4,5),(0,6),(1,6),(2,6),(3,6),(0,7),(1,7),(2,7),(3,7),(9,10),(0,12),(1,12),(2,12),(3,12),(4,12),(5,12),(6,12),(7,12),(8,12),(9,12),(10,12),(11,12)] [85,86,87,88,89,90,91,92,93,94,95,96,97])
 (.seq
 (.ops [⟨some 98,(.mv (.t 9)),none⟩,
 ⟨some 99,(.fad 0 (.t 7)),none⟩,
 ⟨some 100,(.iadA 3 4 (.t 99) (.t 98)),none⟩,
 ⟨some 101,(.fad 0 (.t 100)),none⟩,
 ⟨some 102,(.load true 2 (.t 101)),none⟩,
 ⟨some 103,(.mv (.t 0)),none⟩,
 ⟨some 104,(.mv (.t 9)),none⟩,
 ⟨some 105,(.fad 0 (.t 7)),none⟩,
 ⟨some 106,(.iadA 3 4 (.t 105) (.t 104)),none⟩,
 ⟨some 107,(.fad 0 (.t 106)),none⟩,
 ⟨some 108,(.load true 2 (.t 107)),none⟩,
 ⟨some 109,(.load true 2 (.t 11)),none⟩,
 ⟨some 110,(.call (.f 82) [(.t 103),(.c (.int .i64 (1))),(.t 108),(.t 109)]),none⟩,
 ⟨some 111,(.build [(.int .i64 (0)),(.int .i64 (0)),(.int .i64 (0)),(.int .i64 (0))] [(0,2,(.t 102)),(2,2,(.t 110))]),none⟩,
 ⟨some 112,(.fad 13 (.t 7)),none⟩,
 ⟨none,(.store 4 (.t 112) (.t 111)),none⟩]
 [(0,1),(0,5),(1,5),(2,5),(3,5),(4,5),(0,6),(1,6),(2,6),(3,6),(4,6),(5,6),(0,7),(1,7),(2,7),(3,7),(4,7),(5,7),(6,7),(0,8),(1,8),(2,8),(3,8),(4,8),(5,8),(0,9),(1,9),(2,9),(3,9),(4,9),(5,9),(0,10),(1,10),(2,10),(3,10),(4,10),(5,10),(0,11),(1,11),(2,11),(3,11),(4,11),(5,11),(6,11),(7,11),(8,11),(9,11),(10,11),(0,12),(1,12),(2,12),(3,12),(4,12)] [11,98,99,100,101,102,103,104,105,106,107,108,109,110,111,112])
 (.ops [⟨some 113,(.mv (.t 9)),none⟩,
 ⟨some 114,(.mv (.t 8)),none⟩,
 ⟨some 115,(.mv (.t 9)),none⟩,
 ⟨some 116,(.mv (.t 9)),none⟩,
 ⟨some 117,(.fad 13 (.t 7)),none⟩,
 ⟨some 118,(.fad 2 (.t 117)),none⟩,
 ⟨some 119,(.load true 2 (.t 118)),none⟩,
 ⟨some 120,(.mv (.t 8)),none⟩,
 ⟨some 121,(.mv (.t 10)),none⟩,
 ⟨some 122,(.iad 2 (.t 120) (.t 121)),none⟩,
 ⟨some 123,(.load true 2 (.t 122)),none⟩,
 ⟨some 124,(.fad 12 (.t 7)),none⟩,
 ⟨none,(.store 1 (.t 124) (.t 116)),none⟩,
 ⟨some 125,(.fad 0 (.t 7)),none⟩,
 ⟨some 126,(.iadA 3 4 (.t 125) (.t 113)),none⟩,
 ⟨some 127,(.fad 0 (.t 126)),none⟩,
 ⟨none,(.store 2 (.t 127) (.t 119)),none⟩,
 ⟨some 128,(.iad 2 (.t 114) (.t 115)),none⟩,
 ⟨none,(.store 2 (.t 128) (.t 123)),none⟩]
 [(0,1),(0,2),(1,2),(0,3),(1,3),(2,3),(0,4),(1,4),(2,4),(3,4),(0,5),(1,5),(2,5),(3,5),(0,6),(1,6),(2,6),(3,6),(0,7),(1,7),(2,7),(3,7),(4,7),(5,7),(6,7),(0,8),(1,8),(2,8),(3,8),(4,8),(5,8),(6,8),(7,8),(0,9),(1,9),(2,9),(3,9),(4,9),(5,9),(6,9),(0,10),(1,10),(2,10),(3,10),(4,10),(5,10),(6,10),(0,11),(1,11),(2,11),(0,12),(1,12),(2,12),(0,13),(1,13),(2,13),(3,13),(4,13),(5,13),(6,13),(7,13),(8,13),(9,13),(10,13),(11,13),(12,13),(1,14),(2,14),(1,15),(2,15),(1,16),(2,16)] [9,10,113,114,115,116,117,118,119,120,121,122,123,124,125,126,127,128])))
 .skip))
 (.seq
 (.ops [⟨some 129,(.mv (.t 0)),none⟩,
 ⟨some 130,(.fad 0 (.t 7)),none⟩,
 ⟨some 131,(.slcA 3 4 (.t 130)),none⟩,
 ⟨some 132,(.call (.f 77) [(.t 129),(.c (.int .i64 (2))),(.t 131)]),none⟩,
 ⟨some 133,(.buildD 1 (.int .i64 (0)) 3 [(0,(.c (.int .i64 (0)))),(1,(.c (.int .i64 (1)))),(2,(.c (.int .i64 (2))))]),none⟩,
 ⟨some 134,(.call (.f 80) [(.t 132),(.t 133)]),none⟩,
 ⟨some 135,(.fad 17 (.t 7)),none⟩,
 ⟨some 136,(.iadA 3 1 (.t 135) (.c (.int .i64 (2)))),none⟩,
 ⟨none,(.store 1 (.t 136) (.t 134)),none⟩]
 [] [0,9,10,85,129,130,131,132,133,134,135,136])
 (.seq
 (.ops [⟨some 137,(.mv (.t 8)),none⟩,
 ⟨some 138,(.fad 17 (.t 7)),none⟩,
 ⟨some 139,(.iadA 3 1 (.t 138) (.c (.int .i64 (2)))),none⟩,
 ⟨some 140,(.load false 1 (.t 139)),none⟩,
 ⟨some 141,(.buildD 1 (.int .i64 (0)) 1 [(0,(.t 140))]),none⟩,
 ⟨some 142,(.call (.f 81) [(.t 141)]),none⟩,
 ⟨some 143,(.call (.f 80) [(.t 137),(.t 142)]),none⟩,
 ⟨some 144,(.fad 17 (.t 7)),none⟩,
 ⟨some 145,(.iadA 3 1 (.t 144) (.c (.int .i64 (1)))),none⟩,
 ⟨none,(.store 1 (.t 145) (.t 143)),none⟩]
 [] [8,137,138,139,140,141,142,143,144,145])
 (.seq
 (.seq
 (.ops [⟨some 146,(.fad 12 (.t 7)),none⟩,
 ⟨some 147,(.load false 1 (.t 146)),none⟩,
 ⟨some 148,(.bin .geq (.t 147) (.c (.int .i64 (0)))),none⟩,
 ⟨some 149,(.mv (.t 148)),none⟩,
 ⟨some 150,(.fad 12 (.t 7)),some (149,true)⟩,
 ⟨some 151,(.load false 1 (.t 150)),some (149,true)⟩,
 ⟨some 152,(.fad 17 (.t 7)),some (149,true)⟩,
 ⟨some 153,(.iadA 3 1 (.t 152) (.c (.int .i64 (2)))),some (149,true)⟩,
 ⟨some 154,(.load false 1 (.t 153)),some (149,true)⟩,
 ⟨some 155,(.bin .neq (.t 151) (.t 154)),some (149,true)⟩,
 ⟨some 156,(.pick (.t 149) (.t 155) (.c (.bool false))),none⟩]
 [] [146,147,148,149,150,151,152,153,154,155])
 (.cond (.t 156)
 (.ops [⟨some 157,(.fad 12 (.t 7)),none⟩,
 ⟨some 158,(.load false 1 (.t 157)),none⟩,
 ⟨some 159,(.fad 17 (.t 7)),none⟩,
 ⟨some 160,(.iadA 3 1 (.t 159) (.c (.int .i64 (1)))),none⟩,
 ⟨none,(.store 1 (.t 160) (.t 158)),none⟩]
 [] [156,157,158,159,160])
 .skip))
 (.seq
 (.ops [⟨some 161,(.fad 17 (.t 7)),none⟩,
 ⟨some 162,(.iadA 3 1 (.t 161) (.c (.int .i64 (1)))),none⟩,
 ⟨some 163,(.load false 1 (.t 162)),none⟩,
 ⟨some 164,(.fad 17 (.t 7)),none⟩,
 ⟨some 165,(.iadA 3 1 (.t 164) (.c (.int .i64 (2)))),none⟩,
 ⟨some 166,(.load false 1 (.t 165)),none⟩,
 ⟨some 167,(.buildD 1 (.int .i64 (0)) 2 [(0,(.t 163)),(1,(.t 166))]),none⟩,
 ⟨some 168,(.call (.f 81) [(.t 167)]),none⟩,
 ⟨some 169,(.iad 1 (.t 168) (.c (.int .i64 (0)))),none⟩,
 ⟨some 170,(.load false 1 (.t 169)),none⟩,
 ⟨some 171,(.fad 17 (.t 7)),none⟩,
 ⟨some 172,(.iadA 3 1 (.t 171) (.c (.int .i64 (0)))),none⟩,
 ⟨none,(.store 1 (.t 172) (.t 170)),none⟩]
 [] [156,161,162,163,164,165,166,167,168,169,170,171,172])
 (.seq
 (.ops [⟨some 173,(.load true 20 (.t 7)),none⟩,
 ⟨none,(.store 20 (.t 2) (.t 173)),none⟩]
 [] [7,173])
 .ret))))))))))))))⟩
def yqv:List Nat:=[48,67,70,74,133,141,167,2,3,4,5,6,11]
def fg39:List (Nat×List Nat):=[(17,[7,173]),(16,[156,161,162,163,164,165,166,167,168,169,170,171,172]),(15,[156,157,158,159,160]),(14,[146,147,148,149,150,151,152,153,154,155]),(13,[8,137,138,139,140,141,142,143,144,145]),(12,[0,9,10,85,129,130,131,132,133,134,135,136]),(11,[9,10,113,114,115,116,117,118,119,120,121,122,123,124,125,126,127,128]),(10,[11,98,99,100,101,102,103,104,105,106,107,108,109,110,111,112]),(9,[85,86,87,88,89,90,91,92,93,94,95,96,97]),(8,[77,78,79,80,81,82,83,84]),(7,[72,73,74,75,76]),(6,[69,70,71]),(5,[50,51,52,53,54,55,56,57,58,59,60,61,62,63,64,65,66,67,68]),(4,[41,42,43,44,45,46,47,48,49]),(3,[3,4,5,6,30,31,32,33,34,35,36,37,38,39,40]),(2,[22,23,24,25,26,27,28,29]),(1,[12,13,14,15,16,17,18,19,20,21])]
theorem yn2:yaa Tryz.prog yqv (fun i=>(fg39.lookup i).getD []) Tryz.f39=some ymk:=by kernel_rfl

-- (*parcener/triple.table).second
def yml:AFn:=⟨2,[.cell 4 true 12],
 (.seq
 (.ops [⟨some 3,(.boxL (.t 1)),none⟩,
 ⟨some 4,(.allocL (.agg [(.int .i64 (0)),(.int .i64 (0)),(.int .i64 (0)),(.int .i64 (0)),(.int .i64 (0)),(.int .i64 (0)),(.int .i64 (0)),(.int .i64 (0)),(.int .i64 (0)),(.int .i64 (0)),(.int .i64 (0)),(.int .i64 (0))])),none⟩]
 [] [1])
 (.seq
 (.ops [⟨some 5,(.mv (.c (.int .i64 (1)))),none⟩,
 ⟨some 6,(.mv (.c (.int .i64 (2)))),none⟩]
 [] [])
 (.seq
 (.seq
 (.ops [⟨some 15,(.fad 17 (.t 3)),none⟩,
 ⟨some 16,(.iadA 3 1 (.t 15) (.c (.int .i64 (2)))),none⟩,
 ⟨some 17,(.load false 1 (.t 16)),none⟩,
 ⟨some 18,(.fad 12 (.t 3)),none⟩,
 ⟨some 19,(.load false 1 (.t 18)),none⟩,
 ⟨some 20,(.bin .eql (.t 17) (.t 19)),none⟩]
 [] [15,16,17,18,19])
 (.cond (.t 20)
 (.ops [⟨some 21,(.mv (.t 6)),none⟩,
 ⟨some 22,(.mv (.t 5)),none⟩,
 ⟨some 5,(.mv (.t 21)),none⟩,
 ⟨some 6,(.mv (.t 22)),none⟩]
 [] [20,21,22])
 .skip))
 (.seq
 (.ops [⟨some 24,(.mv (.t 0)),none⟩,
 ⟨some 25,(.mv (.t 6)),none⟩,
 ⟨some 26,(.fad 13 (.t 3)),none⟩,
 ⟨some 27,(.fad 0 (.t 26)),none⟩,
 ⟨some 28,(.load true 2 (.t 27)),none⟩,
 ⟨some 29,(.mv (.t 0)),none⟩,
 ⟨some 30,(.mv (.t 6)),none⟩,
 ⟨some 31,(.fad 13 (.t 3)),none⟩,
 ⟨some 32,(.load true 4 (.t 31)),none⟩,
 ⟨some 33,(.buildD 4 (.agg [(.int .i64 (0)),(.int .i64 (0)),(.int .i64 (0)),(.int .i64 (0))]) 1 [(0,(.t 32))]),none⟩,
 ⟨some 34,(.call (.f 77) [(.t 29),(.t 30),(.t 33)]),none⟩,
 ⟨some 35,(.iad 2 (.t 34) (.c (.int .i64 (0)))),none⟩,
 ⟨some 36,(.load true 2 (.t 35)),none⟩,
 ⟨some 37,(.call (.f 75) [(.t 24),(.t 25),(.t 28),(.t 36)]),none⟩,
 ⟨some 23,(.mv (.t 37)),none⟩,
 ⟨some 38,(.ext (.t 23) 0),none⟩,
 ⟨some 39,(.ext (.t 23) 1),none⟩,
 ⟨some 7,(.allocL (.agg [(.int .i64 (0)),(.int .i64 (0))])),none⟩,
 ⟨some 8,(.allocL (.agg [(.int .i64 (0)),(.int .i64 (0))])),none⟩,
 ⟨none,(.store 2 (.t 7) (.t 38)),none⟩,
 ⟨none,(.store 2 (.t 8) (.t 39)),none⟩]
 [(0,1),(0,2),(1,2),(0,3),(1,3),(0,4),(1,4),(0,5),(1,5),(2,5),(3,5),(4,5),(0,6),(1,6),(2,6),(3,6),(4,6),(5,6),(0,7),(1,7),(2,7),(3,7),(4,7),(5,7),(6,7),(0,8),(1,8),(2,8),(3,8),(4,8),(5,8),(6,8),(0,9),(1,9),(2,9),(3,9),(4,9),(5,9),(6,9),(0,10),(1,10),(2,10),(3,10),(4,10),(0,11),(1,11),(2,11),(3,11),(4,11),(0,12),(1,12),(2,12),(3,12),(4,12),(15,16),(0,17),(1,17),(2,17),(3,17),(4,17),(5,17),(6,17),(7,17),(8,17),(9,17),(10,17),(11,17),(12,17),(13,17),(14,17),(15,17),(16,17),(0,18),(1,18),(2,18),(3,18),(4,18),(5,18),(6,18),(7,18),(8,18),(9,18),(10,18),(11,18),(12,18),(13,18),(14,18),(15,18),(16,18),(17,18),(16,19)] [20,23,24,25,26,27,28,29,30,31,32,33,34,35,36,37,38,39])
 (.seq
 (.ops [⟨some 40,(.fad 13 (.t 3)),none⟩,
 ⟨some 41,(.fad 0 (.t 40)),none⟩,
 ⟨some 42,(.load true 2 (.t 41)),none⟩,
 ⟨some 43,(.load true 2 (.t 7)),none⟩,
 ⟨some 44,(.build [(.int .i64 (0)),(.int .i64 (0)),(.int .i64 (0)),(.int .i64 (0))] [(0,2,(.t 42)),(2,2,(.t 43))]),none⟩,
 ⟨some 45,(.load true 2 (.t 7)),none⟩,
 ⟨some 46,(.load true 2 (.t 8)),none⟩,
 ⟨some 47,(.build [(.int .i64 (0)),(.int .i64 (0)),(.int .i64 (0)),(.int .i64 (0))] [(0,2,(.t 45)),(2,2,(.t 46))]),none⟩,
 ⟨some 48,(.load true 2 (.t 8)),none⟩,
 ⟨some 49,(.fad 13 (.t 3)),none⟩,
 ⟨some 50,(.fad 2 (.t 49)),none⟩,
 ⟨some 51,(.load true 2 (.t 50)),none⟩,
 ⟨some 52,(.build [(.int .i64 (0)),(.int .i64 (0)),(.int .i64 (0)),(.int .i64 (0))] [(0,2,(.t 48)),(2,2,(.t 51))]),none⟩,
 ⟨some 53,(.buildSl true 4 (.agg [(.int .i64 (0)),(.int .i64 (0)),(.int .i64 (0)),(.int .i64 (0))]) 3 [(0,(.t 44)),(1,(.t 47)),(2,(.t 52))]),none⟩,
 ⟨some 9,(.mv (.t 53)),none⟩]
 [] [3,7,8,40,41,42,43,44,45,46,47,48,49,50,51,52,53])
 (.seq
 (.ops [⟨some 10,(.allocL (.agg [(.int .i64 (0)),(.int .i64 (0)),(.int .i64 (0)),(.int .i64 (0)),(.int .i64 (0)),(.int .i64 (0)),(.int .i64 (0)),(.int .i64 (0)),(.int .i64 (0)),(.int .i64 (0)),(.int .i64 (0)),(.int .i64 (0))])),none⟩]
 [] [])
 (.seq
 (.ops [⟨some 54,(.mv (.t 0)),none⟩,
 ⟨some 55,(.mv (.t 5)),none⟩,
 ⟨some 56,(.mv (.t 9)),none⟩,
 ⟨some 57,(.call (.f 77) [(.t 54),(.t 55),(.t 56)]),none⟩,
 ⟨some 58,(.buildD 1 (.int .i64 (0)) 3 [(0,(.c (.int .i64 (0)))),(1,(.c (.int .i64 (1)))),(2,(.c (.int .i64 (2))))]),none⟩,
 ⟨some 59,(.call (.f 80) [(.t 57),(.t 58)]),none⟩,
 ⟨some 11,(.mv (.t 59)),none⟩]
 [] [54,55,56,57,58,59])
 (.seq
 (.ops [⟨some 60,(.mv (.t 11)),none⟩,
 ⟨some 61,(.buildD 1 (.int .i64 (0)) 1 [(0,(.t 60))]),none⟩,
 ⟨some 62,(.call (.f 81) [(.t 61)]),none⟩,
 ⟨some 12,(.mv (.t 62)),none⟩]
 [] [60,61,62])
 (.seq
 (.ops [⟨some 63,(.mv (.t 0)),none⟩,
 ⟨some 64,(.mv (.t 9)),none⟩,
 ⟨some 65,(.mv (.t 12)),none⟩,
 ⟨some 66,(.iad 1 (.t 65) (.c (.int .i64 (0)))),none⟩,
 ⟨some 67,(.load false 1 (.t 66)),none⟩,
 ⟨some 68,(.iad 4 (.t 64) (.t 67)),none⟩,
 ⟨some 69,(.load true 4 (.t 68)),none⟩,
 ⟨some 70,(.mv (.t 9)),none⟩,
 ⟨some 71,(.mv (.t 12)),none⟩,
 ⟨some 72,(.iad 1 (.t 71) (.c (.int .i64 (1)))),none⟩,
 ⟨some 73,(.load false 1 (.t 72)),none⟩,
 ⟨some 74,(.iad 4 (.t 70) (.t 73)),none⟩,
 ⟨some 75,(.load true 4 (.t 74)),none⟩,
 ⟨some 76,(.buildD 4 (.agg [(.int .i64 (0)),(.int .i64 (0)),(.int .i64 (0)),(.int .i64 (0))]) 2 [(0,(.t 69)),(1,(.t 75))]),none⟩,
 ⟨some 77,(.call (.f 77) [(.t 63),(.c (.int .i64 (0))),(.t 76)]),none⟩,
 ⟨some 13,(.mv (.t 77)),none⟩]
 [(0,1),(0,2),(1,2),(0,3),(1,3),(0,4),(1,4),(0,5),(0,6),(0,7),(1,7),(2,7),(3,7),(4,7),(5,7),(6,7),(0,8),(1,8),(2,8),(3,8),(4,8),(5,8),(6,8),(7,8),(0,9),(1,9),(2,9),(3,9),(4,9),(5,9),(6,9),(7,9),(0,10),(1,10),(2,10),(3,10),(4,10),(5,10),(6,10),(7,10),(0,11),(1,11),(2,11),(3,11),(4,11),(5,11),(6,11),(0,12),(1,12),(2,12),(3,12),(4,12),(5,12),(6,12),(0,13)] [0,63,64,65,66,67,68,69,70,71,72,73,74,75,76,77])
 (.seq
 (.ops [⟨some 78,(.mv (.t 13)),none⟩,
 ⟨some 79,(.buildD 1 (.int .i64 (0)) 2 [(0,(.c (.int .i64 (0)))),(1,(.c (.int .i64 (1))))]),none⟩,
 ⟨some 80,(.call (.f 80) [(.t 78),(.t 79)]),none⟩,
 ⟨some 14,(.mv (.t 80)),none⟩]
 [] [13,78,79,80])
 (.seq
 (.ops [⟨some 81,(.mv (.t 5)),none⟩,
 ⟨some 82,(.mv (.t 6)),none⟩,
 ⟨some 83,(.mv (.t 9)),none⟩,
 ⟨some 84,(.mv (.t 11)),none⟩,
 ⟨some 85,(.iad 4 (.t 83) (.t 84)),none⟩,
 ⟨some 86,(.load true 4 (.t 85)),none⟩,
 ⟨some 87,(.mv (.t 9)),none⟩,
 ⟨some 88,(.mv (.t 12)),none⟩,
 ⟨some 89,(.mv (.t 14)),none⟩,
 ⟨some 90,(.iad 1 (.t 88) (.t 89)),none⟩,
 ⟨some 91,(.load false 1 (.t 90)),none⟩,
 ⟨some 92,(.iad 4 (.t 87) (.t 91)),none⟩,
 ⟨some 93,(.load true 4 (.t 92)),none⟩,
 ⟨some 94,(.mv (.t 9)),none⟩,
 ⟨some 95,(.mv (.t 12)),none⟩,
 ⟨some 96,(.mv (.t 14)),none⟩,
 ⟨some 97,(.bin .sub (.c (.int .i64 (1))) (.t 96)),none⟩,
 ⟨some 98,(.iad 1 (.t 95) (.t 97)),none⟩,
 ⟨some 99,(.load false 1 (.t 98)),none⟩,
 ⟨some 100,(.iad 4 (.t 94) (.t 99)),none⟩,
 ⟨some 101,(.load true 4 (.t 100)),none⟩,
 ⟨some 102,(.iadA 3 4 (.t 10) (.t 81)),none⟩,
 ⟨none,(.store 4 (.t 102) (.t 86)),none⟩,
 ⟨some 103,(.iadA 3 4 (.t 10) (.c (.int .i64 (0)))),none⟩,
 ⟨none,(.store 4 (.t 103) (.t 93)),none⟩,
 ⟨some 104,(.iadA 3 4 (.t 10) (.t 82)),none⟩,
 ⟨none,(.store 4 (.t 104) (.t 101)),none⟩]
 [(0,1),(0,2),(1,2),(0,3),(1,3),(2,3),(0,4),(1,4),(0,5),(1,5),(0,6),(1,6),(2,6),(3,6),(4,6),(5,6),(0,7),(1,7),(2,7),(3,7),(4,7),(5,7),(6,7),(0,8),(1,8),(2,8),(3,8),(4,8),(5,8),(6,8),(7,8),(0,9),(1,9),(2,9),(3,9),(4,9),(5,9),(6,9),(0,10),(1,10),(2,10),(3,10),(4,10),(5,10),(6,10),(0,11),(1,11),(2,11),(3,11),(4,11),(5,11),(0,12),(1,12),(2,12),(3,12),(4,12),(5,12),(0,13),(1,13),(2,13),(3,13),(4,13),(5,13),(6,13),(7,13),(8,13),(9,13),(10,13),(11,13),(12,13),(0,14),(1,14),(2,14),(3,14),(4,14),(5,14),(6,14),(7,14),(8,14),(9,14),(10,14),(11,14),(12,14),(13,14),(0,15),(1,15),(2,15),(3,15),(4,15),(5,15),(6,15),(7,15),(8,15),(9,15),(10,15),(11,15),(12,15),(13,15),(14,15),(0,16),(1,16),(2,16),(3,16),(4,16),(5,16),(6,16),(7,16),(8,16),(9,16),(10,16),(11,16),(12,16),(13,16),(14,16),(0,17),(1,17),(2,17),(3,17),(4,17),(5,17),(6,17),(7,17),(8,17),(9,17),(10,17),(11,17),(12,17),(13,17),(0,18),(1,18),(2,18),(3,18),(4,18),(5,18),(6,18),(7,18),(8,18),(9,18),(10,18),(11,18),(12,18),(13,18),(0,19),(1,19),(2,19),(3,19),(4,19),(5,19),(6,19),(7,19),(8,19),(9,19),(10,19),(11,19),(12,19),(0,20),(1,20),(2,20),(3,20),(4,20),(5,20),(6,20),(7,20),(8,20),(9,20),(10,20),(11,20),(12,20),(1,21),(6,21),(7,21),(8,21),(9,21),(10,21),(11,21),(12,21),(13,21),(14,21),(15,21),(16,21),(17,21),(18,21),(19,21),(20,21),(1,22),(6,22),(7,22),(8,22),(9,22),(10,22),(11,22),(12,22),(13,22),(14,22),(15,22),(16,22),(17,22),(18,22),(19,22),(20,22),(1,23),(13,23),(14,23),(15,23),(16,23),(17,23),(18,23),(19,23),(20,23),(1,24),(13,24),(14,24),(15,24),(16,24),(17,24),(18,24),(19,24),(20,24)] [5,6,9,11,12,14,81,82,83,84,85,86,87,88,89,90,91,92,93,94,95,96,97,98,99,100,101,102,103,104])
 (.seq
 (.ops [⟨some 105,(.load true 12 (.t 10)),none⟩,
 ⟨none,(.store 12 (.t 4) (.t 105)),none⟩]
 [] [10,105])
 .ret))))))))))))⟩
def yqw:List Nat:=[33,58,61,76,79,3,4,7,8,10]
def fg40:List (Nat×List Nat):=[(12,[10,105]),(11,[5,6,9,11,12,14,81,82,83,84,85,86,87,88,89,90,91,92,93,94,95,96,97,98,99,100,101,102,103,104]),(10,[13,78,79,80]),(9,[0,63,64,65,66,67,68,69,70,71,72,73,74,75,76,77]),(8,[60,61,62]),(7,[54,55,56,57,58,59]),(5,[3,7,8,40,41,42,43,44,45,46,47,48,49,50,51,52,53]),(4,[20,23,24,25,26,27,28,29,30,31,32,33,34,35,36,37,38,39]),(3,[20,21,22]),(2,[15,16,17,18,19]),(0,[1])]
theorem yn3:yaa Tryz.prog yqw (fun i=>(fg40.lookup i).getD []) Tryz.f40=some yml:=by kernel_rfl

-- parcener/triple.must[[]parcener/api.Span]
def ymm:AFn:=⟨2,[.tmp 4],
 (.seq
 (.ops [⟨some 4,(.mv (.c .nils)),none⟩]
 [] [4])
 (.seq
 (.seq
 (.ops [⟨some 5,(.mv (.t 1)),none⟩,
 ⟨some 6,(.bin .neq (.t 5) (.c (.int .i64 (0)))),none⟩]
 [] [5])
 (.cond (.t 6)
 (.ops [⟨some 7,(.mv (.t 1)),none⟩,
 ⟨some 8,.bad,none⟩,
 ⟨none,.bad,none⟩]
 [] [1,6,7,8])
 .skip))
 (.seq
 (.ops [⟨some 9,(.mv (.t 0)),none⟩,
 ⟨some 4,(.mv (.t 9)),none⟩]
 [] [0,1,6,9])
 .ret)))⟩
def yqx:List Nat:=[]
def fg41:List (Nat×List Nat):=[(3,[0,1,6,9]),(2,[1,6,7,8]),(1,[5]),(0,[4])]
theorem yn4:yaa Tryz.prog yqx (fun i=>(fg41.lookup i).getD []) Tryz.f41=some ymm:=by kernel_rfl

-- parcener/piece.Make
def ymn:AFn:=⟨1,[.tmp 2,.tmp 3],
 (.seq
 (.ops [⟨some 2,(.mv (.c .nils)),none⟩,
 ⟨some 3,(.mv (.c (.int .i64 (0)))),none⟩]
 [] [2,3])
 (.seq
 (.seq
 (.ops [⟨some 5,(.mv (.t 0)),none⟩,
 ⟨some 6,(.call (.f 83) [(.t 5)]),none⟩,
 ⟨some 4,(.mv (.t 6)),none⟩]
 [] [5,6])
 (.seq
 (.ops [⟨some 7,(.mv (.t 4)),none⟩,
 ⟨some 8,(.bin .neq (.t 7) (.c (.int .i64 (0)))),none⟩]
 [] [7])
 (.cond (.t 8)
 (.seq
 (.ops [⟨some 9,(.mv (.t 4)),none⟩,
 ⟨some 2,(.mv (.c .nils)),none⟩,
 ⟨some 3,(.mv (.t 9)),none⟩]
 [] [0,4,8,9])
 .ret)
 .skip)))
 (.seq
 (.ops [⟨some 10,(.mv (.t 0)),none⟩,
 ⟨some 11,(.call (.f 84) [(.t 10)]),none⟩,
 ⟨some 2,(.mv (.t 11)),none⟩,
 ⟨some 3,(.mv (.c (.int .i64 (0)))),none⟩]
 [] [0,4,8,10,11])
 .ret)))⟩
def yqy:List Nat:=[]
def fg42:List (Nat×List Nat):=[(4,[0,4,8,10,11]),(3,[0,4,8,9]),(2,[7]),(1,[5,6]),(0,[2,3])]
theorem yn5:yaa Tryz.prog yqy (fun i=>(fg42.lookup i).getD []) Tryz.f42=some ymn:=by kernel_rfl

-- parcener/knife.whole
def ymo:AFn:=⟨1,[.cell 2 true 2],
 (.seq
 (.ops [⟨some 2,(.allocL (.agg [(.int .i64 (0)),(.int .i64 (0))])),none⟩]
 [] [])
 (.seq
 (.ops [⟨some 3,(.mv (.t 0)),none⟩,
 ⟨some 4,(.build [(.int .i64 (0)),(.int .i64 (0))] [(0,1,(.t 3)),(1,1,(.c (.int .i64 (1))))]),none⟩,
 ⟨none,(.store 2 (.t 2) (.t 4)),none⟩]
 [] [0,3,4])
 .ret))⟩
def yqz:List Nat:=[2]
def fg43:List (Nat×List Nat):=[(1,[0,3,4])]
theorem yn6:yaa Tryz.prog yqz (fun i=>(fg43.lookup i).getD []) Tryz.f43=some ymo:=by kernel_rfl

-- parcener/ask.Mark
def ymp:AFn:=⟨4,[.cell 8 true 2,.cell 9 true 2,.tmp 10],
 (.seq
 (.ops [⟨some 4,(.boxL (.t 0)),none⟩,
 ⟨some 6,(.boxL (.t 2)),none⟩,
 ⟨some 7,(.boxL (.t 3)),none⟩,
 ⟨some 8,(.allocL (.agg [.nils,.nils])),none⟩,
 ⟨some 9,(.allocL (.agg [(.int .i64 (0)),(.int .i64 (0))])),none⟩,
 ⟨some 10,(.mv (.c (.int .i64 (0)))),none⟩]
 [] [0,2,3,10])
 (.seq
 (.ops [⟨some 12,(.load true 2 (.t 4)),none⟩,
 ⟨some 13,(.build [.nils,.nils] [(0,2,(.t 12))]),none⟩,
 ⟨some 11,(.allocL (.agg [.nils,.nils])),none⟩,
 ⟨none,(.store 2 (.t 11) (.t 13)),none⟩]
 [] [4,12,13])
 (.seq
 (.ops [⟨some 14,(.load true 2 (.t 11)),none⟩,
 ⟨some 15,(.mv (.t 1)),none⟩,
 ⟨some 16,(.load true 2 (.t 6)),none⟩,
 ⟨some 17,(.load true 2 (.t 7)),none⟩,
 ⟨some 18,(.build [(.int .i64 (0)),(.int .u8 (0)),(.int .i64 (0)),(.int .i64 (0)),(.int .i64 (0)),(.int .i64 (0)),(.int .i64 (0)),(.int .i64 (0))] [(0,1,(.t 15)),(1,1,(.c (.int .u8 (2)))),(2,2,(.t 16)),(4,2,(.t 17))]),none⟩,
 ⟨some 19,(.load true 2 (.t 11)),none⟩,
 ⟨some 20,(.mkFn (.func 86) [(.t 19)] []),none⟩,
 ⟨some 21,(.call (.f 85) [(.t 14),(.t 18),(.t 20)]),none⟩,
 ⟨some 22,(.ext (.t 21) 0),none⟩,
 ⟨some 23,(.ext (.t 21) 1),none⟩,
 ⟨some 24,(.ext (.t 21) 2),none⟩,
 ⟨none,(.store 2 (.t 8) (.t 22)),none⟩,
 ⟨none,(.store 2 (.t 9) (.t 23)),none⟩,
 ⟨some 10,(.mv (.t 24)),none⟩]
 [] [1,6,7,11,14,15,16,17,18,19,20,21,22,23,24])
 .ret)))⟩
def yqA:List Nat:=[4,6,7,8,9,11]
def fg44:List (Nat×List Nat):=[(2,[1,6,7,11,14,15,16,17,18,19,20,21,22,23,24]),(1,[4,12,13]),(0,[0,2,3,10])]
theorem yn7:yaa Tryz.prog yqA (fun i=>(fg44.lookup i).getD []) Tryz.f44=some ymp:=by kernel_rfl

-- parcener/knife.part
def ymq:AFn:=⟨2,[.cell 4 true 2],
 (.seq
 (.ops [⟨some 2,(.boxL (.t 0)),none⟩,
 ⟨some 4,(.allocL (.agg [(.int .i64 (0)),(.int .i64 (0))])),none⟩]
 [] [0])
 (.seq
 (.ops [⟨some 10,(.load true 3 (.t 2)),none⟩,
 ⟨some 11,(.call (.f 87) [(.t 10)]),none⟩,
 ⟨some 9,(.mv (.t 11)),none⟩,
 ⟨some 12,(.ext (.t 9) 0),none⟩,
 ⟨some 13,(.ext (.t 9) 1),none⟩,
 ⟨some 5,(.mv (.t 12)),none⟩,
 ⟨some 6,(.mv (.t 13)),none⟩]
 [] [2,6,9,10,11,12,13])
 (.seq
 (.ops [⟨some 15,(.mv (.t 5)),none⟩,
 ⟨some 16,(.mv (.t 1)),none⟩,
 ⟨some 17,(.call (.f 69) [(.t 15),(.t 16)]),none⟩,
 ⟨some 14,(.mv (.t 17)),none⟩,
 ⟨some 18,(.ext (.t 14) 0),none⟩,
 ⟨some 19,(.ext (.t 14) 1),none⟩,
 ⟨some 7,(.allocL (.agg [(.int .i64 (0)),(.int .i64 (0))])),none⟩,
 ⟨none,(.store 2 (.t 7) (.t 18)),none⟩,
 ⟨some 8,(.mv (.t 19)),none⟩]
 [] [1,5,8,14,15,16,17,18,19])
 (.seq
 (.ops [⟨some 20,(.load true 2 (.t 7)),none⟩,
 ⟨none,(.store 2 (.t 4) (.t 20)),none⟩]
 [] [7,20])
 .ret))))⟩
def yqB:List Nat:=[2,4,7]
def fg45:List (Nat×List Nat):=[(3,[7,20]),(2,[1,5,8,14,15,16,17,18,19]),(1,[2,6,9,10,11,12,13]),(0,[0])]
theorem yn8:yaa Tryz.prog yqB (fun i=>(fg45.lookup i).getD []) Tryz.f45=some ymq:=by kernel_rfl

-- parcener/knife.less
def ymr:AFn:=⟨2,[.tmp 4],
 (.seq
 (.ops [⟨some 2,(.boxL (.t 0)),none⟩,
 ⟨some 3,(.boxL (.t 1)),none⟩,
 ⟨some 4,(.mv (.c (.bool false))),none⟩]
 [] [0,1,4])
 (.seq
 (.ops [⟨some 8,(.load true 2 (.t 2)),none⟩,
 ⟨some 9,(.load true 2 (.t 3)),none⟩,
 ⟨some 10,(.call (.f 60) [(.t 8),(.t 9)]),none⟩,
 ⟨some 7,(.mv (.t 10)),none⟩,
 ⟨some 11,(.ext (.t 7) 0),none⟩,
 ⟨some 12,(.ext (.t 7) 1),none⟩,
 ⟨some 5,(.mv (.t 11)),none⟩,
 ⟨some 6,(.mv (.t 12)),none⟩]
 [] [2,3,6,7,8,9,10,11,12])
 (.seq
 (.ops [⟨some 13,(.mv (.t 5)),none⟩,
 ⟨some 14,(.bin .lss (.t 13) (.c (.int .i64 (0)))),none⟩,
 ⟨some 4,(.mv (.t 14)),none⟩]
 [] [5,13,14])
 .ret)))⟩
def yqC:List Nat:=[2,3]
def fg46:List (Nat×List Nat):=[(2,[5,13,14]),(1,[2,3,6,7,8,9,10,11,12]),(0,[0,1,4])]
theorem yn9:yaa Tryz.prog yqC (fun i=>(fg46.lookup i).getD []) Tryz.f46=some ymr:=by kernel_rfl

-- parcener/equal.check
def yms:AFn:=⟨1,[.tmp 2],
 (.seq
 (.ops [⟨some 2,(.mv (.c (.int .i64 (0)))),none⟩]
 [] [2])
 (.seq
 (.seq
 (.ops [⟨some 4,(.mv (.t 0)),none⟩,
 ⟨some 5,(.build [.nils,.nils] [(0,1,(.t 4))]),none⟩,
 ⟨some 6,(.call (.f 13) [(.t 5)]),none⟩,
 ⟨some 3,(.mv (.t 6)),none⟩]
 [] [4,5,6])
 (.seq
 (.ops [⟨some 7,(.mv (.t 3)),none⟩,
 ⟨some 8,(.bin .neq (.t 7) (.c (.int .i64 (0)))),none⟩]
 [] [7])
 (.cond (.t 8)
 (.seq
 (.ops [⟨some 9,(.mv (.t 3)),none⟩,
 ⟨some 2,(.mv (.t 9)),none⟩]
 [] [0,3,8,9])
 .ret)
 .skip)))
 (.seq
 (.seq
 (.ops [⟨some 10,(.mv (.t 0)),none⟩,
 ⟨some 11,(.len (.t 10)),none⟩,
 ⟨some 12,(.bin .gtr (.t 11) (.c (.int .i64 (4)))),none⟩]
 [] [3,8,10,11])
 (.cond (.t 12)
 (.seq
 (.ops [⟨some 2,(.mv (.c (.int .i64 (4)))),none⟩]
 [] [0,12])
 .ret)
 .skip))
 (.seq
 (.seq
 (.ops [⟨some 13,(.mv (.t 0)),none⟩,
 ⟨some 14,(.call (.f 88) [(.t 13),(.f 89)]),none⟩]
 [] [0,12,13])
 (.cond (.t 14)
 (.seq
 (.ops [⟨some 2,(.mv (.c (.int .i64 (2)))),none⟩]
 [] [14])
 .ret)
 .skip))
 (.seq
 (.ops [⟨some 2,(.mv (.c (.int .i64 (0)))),none⟩]
 [] [14])
 .ret)))))⟩
def yqD:List Nat:=[]
def fg47:List (Nat×List Nat):=[(8,[14]),(7,[14]),(6,[0,12,13]),(5,[0,12]),(4,[3,8,10,11]),(3,[0,3,8,9]),(2,[7]),(1,[4,5,6]),(0,[2])]
theorem yoa:yaa Tryz.prog yqD (fun i=>(fg47.lookup i).getD []) Tryz.f47=some yms:=by kernel_rfl

-- parcener/equal.orders
def ymt:AFn:=⟨1,[.tmp 2],
 (.seq
 (.ops [⟨some 1,(.boxH false 1 (.t 0)),none⟩,
 ⟨some 2,(.mv (.c .nilf)),none⟩]
 [] [0,2])
 (.seq
 (.ops [⟨some 3,(.mkFn (.func 91) [] [(.t 1)]),none⟩,
 ⟨some 2,(.mv (.t 3)),none⟩]
 [] [1,3])
 .ret))⟩
def yqE:List Nat:=[1000001]
def fg48:List (Nat×List Nat):=[(1,[1,3]),(0,[0,2])]
theorem yob:yaa Tryz.prog yqE (fun i=>(fg48.lookup i).getD []) Tryz.f48=some ymt:=by kernel_rfl

-- parcener/equal.part
def ymu:AFn:=⟨2,[.cell 4 true 2],
 (.seq
 (.ops [⟨some 4,(.allocL (.agg [(.int .i64 (0)),(.int .i64 (0))])),none⟩]
 [] [])
 (.seq
 (.ops [⟨some 5,(.allocH false 1 .nils),none⟩]
 [] [])
 (.seq
 (.seq
 (.ops [⟨some 22,(.mv (.t 1)),none⟩,
 ⟨some 23,(.len (.t 22)),none⟩,
 ⟨some 24,(.mv (.c (.int .i64 (0)))),none⟩]
 [] [1])
 (.block 0
 (.loop
 (.seq
 (.ops [⟨some 25,(.bin .lss (.t 24) (.t 23)),none⟩]
 [] [])
 (.seq
 (.cond (.t 25)
 .skip
 (.exit 0))
 (.seq
 (.block 1
 (.seq
 (.ops [⟨some 26,(.iad 1 (.t 22) (.t 24)),none⟩,
 ⟨some 27,(.load false 1 (.t 26)),none⟩,
 ⟨some 7,(.mv (.t 27)),none⟩]
 [] [25,26,27])
 (.seq
 (.ops [⟨some 28,(.mv (.t 0)),none⟩,
 ⟨some 29,(.mv (.t 7)),none⟩,
 ⟨some 30,(.iad 3 (.t 28) (.t 29)),none⟩,
 ⟨some 31,(.load true 3 (.t 30)),none⟩,
 ⟨some 32,(.buildSl true 1 (.int .i64 (0)) 1 [(0,(.c (.int .i64 (0))))]),none⟩,
 ⟨some 33,(.build [(.int .i64 (0)),.nils,.nils,.nils,(.int .i64 (0)),(.int .i64 (0)),(.int .i64 (0))] [(0,3,(.t 31)),(3,1,(.t 32))]),none⟩,
 ⟨some 34,(.boxH false 7 (.t 33)),none⟩,
 ⟨some 8,(.mv (.t 34)),none⟩]
 [] [7,28,29,30,31,32,33,34])
 (.seq
 (.seq
 (.ops [⟨some 35,(.mv (.t 8)),none⟩,
 ⟨some 36,(.nilchk (.t 35)),none⟩,
 ⟨some 37,(.fad 0 (.t 36)),none⟩,
 ⟨some 38,(.fad 2 (.t 37)),none⟩,
 ⟨some 39,(.load false 1 (.t 38)),none⟩,
 ⟨some 40,(.len (.t 39)),none⟩,
 ⟨some 41,(.mv (.c (.int .i64 (0)))),none⟩]
 [] [35,36,37,38])
 (.block 2
 (.loop
 (.seq
 (.ops [⟨some 42,(.bin .lss (.t 41) (.t 40)),none⟩]
 [] [])
 (.seq
 (.cond (.t 42)
 .skip
 (.exit 2))
 (.seq
 (.block 3
 (.seq
 (.ops [⟨some 43,(.mv (.t 41)),none⟩,
 ⟨some 44,(.iad 1 (.t 39) (.t 41)),none⟩,
 ⟨some 45,(.load false 1 (.t 44)),none⟩,
 ⟨some 9,(.mv (.t 43)),none⟩,
 ⟨some 10,(.mv (.t 45)),none⟩]
 [] [42,43,44,45])
 (.seq
 (.ops [⟨some 46,(.mv (.t 8)),none⟩,
 ⟨some 47,(.nilchk (.t 46)),none⟩,
 ⟨some 48,(.fad 4 (.t 47)),none⟩,
 ⟨some 49,(.load false 1 (.t 48)),none⟩,
 ⟨some 50,(.mv (.t 10)),none⟩,
 ⟨some 51,(.mv (.t 8)),none⟩,
 ⟨some 52,(.nilchk (.t 51)),none⟩,
 ⟨some 53,(.fad 0 (.t 52)),none⟩,
 ⟨some 54,(.fad 1 (.t 53)),none⟩,
 ⟨some 55,(.load false 1 (.t 54)),none⟩,
 ⟨some 56,(.mv (.t 9)),none⟩,
 ⟨some 57,(.bin .add (.t 56) (.c (.int .i64 (1)))),none⟩,
 ⟨some 58,(.iad 1 (.t 55) (.t 57)),none⟩,
 ⟨some 59,(.load false 1 (.t 58)),none⟩,
 ⟨some 60,(.mv (.t 8)),none⟩,
 ⟨some 61,(.nilchk (.t 60)),none⟩,
 ⟨some 62,(.fad 0 (.t 61)),none⟩,
 ⟨some 63,(.fad 1 (.t 62)),none⟩,
 ⟨some 64,(.load false 1 (.t 63)),none⟩,
 ⟨some 65,(.mv (.t 9)),none⟩,
 ⟨some 66,(.iad 1 (.t 64) (.t 65)),none⟩,
 ⟨some 67,(.load false 1 (.t 66)),none⟩,
 ⟨some 68,(.bin .sub (.t 59) (.t 67)),none⟩,
 ⟨some 69,(.bin .mul (.t 50) (.t 68)),none⟩,
 ⟨some 70,(.bin .add (.t 49) (.t 69)),none⟩,
 ⟨some 71,(.nilchk (.t 46)),none⟩,
 ⟨some 72,(.fad 4 (.t 71)),none⟩,
 ⟨none,(.store 1 (.t 72) (.t 70)),none⟩]
 [(0,4),(1,4),(2,4),(3,4),(0,5),(1,5),(2,5),(3,5),(4,5),(0,6),(1,6),(2,6),(3,6),(4,6),(0,7),(1,7),(2,7),(3,7),(4,7),(0,8),(1,8),(2,8),(3,8),(4,8),(0,9),(1,9),(2,9),(3,9),(4,9),(0,10),(1,10),(2,10),(3,10),(4,10),(5,10),(6,10),(7,10),(8,10),(9,10),(0,11),(1,11),(2,11),(3,11),(4,11),(5,11),(6,11),(7,11),(8,11),(9,11),(0,12),(1,12),(2,12),(3,12),(4,12),(0,13),(1,13),(2,13),(3,13),(4,13),(0,14),(1,14),(2,14),(3,14),(4,14),(5,14),(6,14),(7,14),(8,14),(9,14),(10,14),(11,14),(12,14),(13,14),(0,15),(1,15),(2,15),(3,15),(4,15),(5,15),(6,15),(7,15),(8,15),(9,15),(10,15),(11,15),(12,15),(13,15),(0,16),(1,16),(2,16),(3,16),(4,16),(5,16),(6,16),(7,16),(8,16),(9,16),(10,16),(11,16),(12,16),(13,16),(0,17),(1,17),(2,17),(3,17),(4,17),(5,17),(6,17),(7,17),(8,17),(9,17),(10,17),(11,17),(12,17),(13,17),(0,18),(1,18),(2,18),(3,18),(4,18),(5,18),(6,18),(7,18),(8,18),(9,18),(10,18),(11,18),(12,18),(13,18),(0,19),(1,19),(2,19),(3,19),(4,19),(5,19),(6,19),(7,19),(8,19),(9,19),(10,19),(11,19),(12,19),(13,19),(14,19),(15,19),(16,19),(17,19),(18,19),(0,20),(1,20),(2,20),(3,20),(4,20),(5,20),(6,20),(7,20),(8,20),(9,20),(10,20),(11,20),(12,20),(13,20),(0,21),(1,21),(2,21),(3,21),(4,21),(5,21),(6,21),(7,21),(8,21),(9,21),(10,21),(11,21),(12,21),(13,21),(0,22),(1,22),(2,22),(3,22),(4,22),(0,23),(1,23),(2,23),(3,23)] [9,10,46,47,48,49,50,51,52,53,54,55,56,57,58,59,60,61,62,63,64,65,66,67,68,69,70,71,72])
 (.ops [⟨some 73,(.mv (.t 8)),none⟩,
 ⟨some 74,(.mv (.t 8)),none⟩,
 ⟨some 75,(.nilchk (.t 74)),none⟩,
 ⟨some 76,(.fad 3 (.t 75)),none⟩,
 ⟨some 77,(.load false 1 (.t 76)),none⟩,
 ⟨some 78,(.mv (.t 8)),none⟩,
 ⟨some 79,(.nilchk (.t 78)),none⟩,
 ⟨some 80,(.fad 4 (.t 79)),none⟩,
 ⟨some 81,(.load false 1 (.t 80)),none⟩,
 ⟨some 82,(.buildSl true 1 (.int .i64 (0)) 1 [(0,(.t 81))]),none⟩,
 ⟨some 83,(.app true 1 8 (.t 77) (.t 82)),none⟩,
 ⟨some 84,(.nilchk (.t 73)),none⟩,
 ⟨some 85,(.fad 3 (.t 84)),none⟩,
 ⟨none,(.store 1 (.t 85) (.t 83)),none⟩]
 [(0,1),(0,2),(0,3),(0,4),(0,5),(1,5),(2,5),(3,5),(4,5),(0,6),(1,6),(2,6),(3,6),(4,6),(0,7),(1,7),(2,7),(3,7),(4,7),(0,8),(1,8),(2,8),(3,8),(4,8),(0,9),(1,9),(2,9),(3,9),(4,9),(0,10)] [73,74,75,76,77,78,79,80,81,82,83,84,85]))))
 (.ops [⟨some 86,(.bin .add (.t 41) (.c (.int .i64 (1)))),none⟩,
 ⟨some 41,(.mv (.t 86)),none⟩]
 [] [86])))))))
 (.ops [⟨some 87,(.load false 1 (.t 5)),none⟩,
 ⟨some 88,(.mv (.t 8)),none⟩,
 ⟨some 89,(.buildSl false 1 .nilp 1 [(0,(.t 88))]),none⟩,
 ⟨some 90,(.app false 1 8 (.t 87) (.t 89)),none⟩,
 ⟨none,(.store 1 (.t 5) (.t 90)),none⟩]
 [] [8,39,40,41,42,87,88,89,90])))))
 (.ops [⟨some 91,(.bin .add (.t 24) (.c (.int .i64 (1)))),none⟩,
 ⟨some 24,(.mv (.t 91)),none⟩]
 [] [91])))))))
 (.seq
 (.ops [⟨some 92,(.load false 1 (.t 5)),none⟩,
 ⟨some 93,(.len (.t 92)),none⟩,
 ⟨some 94,(.bin .sub (.t 93) (.c (.int .i64 (1)))),none⟩,
 ⟨some 11,(.allocH false 1 (.int .i64 (0))),none⟩,
 ⟨none,(.store 1 (.t 11) (.t 94)),none⟩]
 [] [22,23,24,25,92,93,94])
 (.seq
 .skip
 (.block 4
 (.loop
 (.block 5
 (.seq
 (.ops [⟨some 95,(.call (.f 53) [(.c (.int .i64 (0)))]),none⟩,
 ⟨some 96,(.call (.f 53) [(.c (.int .i64 (0)))]),none⟩,
 ⟨some 97,(.build [(.int .i64 (0)),(.int .i64 (0)),(.int .i64 (0)),(.int .i64 (0))] [(0,2,(.t 95)),(2,2,(.t 96))]),none⟩,
 ⟨some 12,(.allocL (.agg [(.int .i64 (0)),(.int .i64 (0)),(.int .i64 (0)),(.int .i64 (0))])),none⟩,
 ⟨none,(.store 4 (.t 12) (.t 97)),none⟩]
 [] [95,96,97,136,137,138,139])
 (.seq
 (.ops [⟨some 98,(.load false 1 (.t 5)),none⟩,
 ⟨some 99,(.len (.t 98)),none⟩,
 ⟨some 100,(.mkSl true 4 32 (.agg [(.int .i64 (0)),(.int .i64 (0)),(.int .i64 (0)),(.int .i64 (0))]) (.c (.int .i64 (0))) (.t 99)),none⟩,
 ⟨some 13,(.allocH false 1 .nils),none⟩,
 ⟨none,(.store 1 (.t 13) (.t 100)),none⟩]
 [] [98,99,100])
 (.seq
 (.seq
 (.ops [⟨some 101,(.load false 1 (.t 5)),none⟩,
 ⟨some 102,(.len (.t 101)),none⟩,
 ⟨some 103,(.mv (.c (.int .i64 (0)))),none⟩]
 [] [])
 (.block 6
 (.loop
 (.seq
 (.ops [⟨some 104,(.bin .lss (.t 103) (.t 102)),none⟩]
 [] [])
 (.seq
 (.cond (.t 104)
 .skip
 (.exit 6))
 (.seq
 (.block 7
 (.seq
 (.ops [⟨some 105,(.iad 1 (.t 101) (.t 103)),none⟩,
 ⟨some 106,(.load false 1 (.t 105)),none⟩,
 ⟨some 15,(.mv (.t 106)),none⟩]
 [] [104,105,106])
 (.seq
 (.ops [⟨some 107,(.mv (.t 15)),none⟩,
 ⟨some 108,(.load true 4 (.t 12)),none⟩,
 ⟨some 109,(.call (.f 93) [(.t 107),(.t 108)]),none⟩,
 ⟨none,(.store 4 (.t 12) (.t 109)),none⟩]
 [] [15,107,108,109])
 (.ops [⟨some 110,(.load false 1 (.t 13)),none⟩,
 ⟨some 111,(.load true 4 (.t 12)),none⟩,
 ⟨some 112,(.buildSl true 4 (.agg [(.int .i64 (0)),(.int .i64 (0)),(.int .i64 (0)),(.int .i64 (0))]) 1 [(0,(.t 111))]),none⟩,
 ⟨some 113,(.app true 4 32 (.t 110) (.t 112)),none⟩,
 ⟨none,(.store 1 (.t 13) (.t 113)),none⟩]
 [] [110,111,112,113]))))
 (.ops [⟨some 114,(.bin .add (.t 103) (.c (.int .i64 (1)))),none⟩,
 ⟨some 103,(.mv (.t 114)),none⟩]
 [] [114])))))))
 (.seq
 (.ops [⟨some 115,(.load false 1 (.t 13)),none⟩,
 ⟨some 116,(.load false 1 (.t 11)),none⟩,
 ⟨some 117,(.iad 4 (.t 115) (.t 116)),none⟩,
 ⟨some 118,(.load true 4 (.t 117)),none⟩,
 ⟨some 119,(.mv (.t 0)),none⟩,
 ⟨some 120,(.iad 3 (.t 119) (.c (.int .i64 (0)))),none⟩,
 ⟨some 121,(.fad 0 (.t 120)),none⟩,
 ⟨some 122,(.load false 1 (.t 121)),none⟩,
 ⟨some 123,(.call (.f 94) [(.t 118),(.t 122)]),none⟩,
 ⟨some 16,(.allocL (.agg [(.int .i64 (0)),(.int .i64 (0))])),none⟩,
 ⟨none,(.store 2 (.t 16) (.t 123)),none⟩]
 [(0,1),(0,4),(1,4),(2,4),(3,4),(0,5),(1,5),(2,5),(3,5),(0,6),(1,6),(2,6),(3,6),(0,7),(1,7),(2,7),(3,7),(0,9),(1,9),(2,9),(3,9),(4,9),(5,9),(6,9),(7,9),(8,9)] [12,101,102,103,104,115,116,117,118,119,120,121,122,123])
 (.seq
 (.ops [⟨some 124,(.load true 2 (.t 16)),none⟩,
 ⟨some 17,(.allocH false 2 (.agg [(.int .i64 (0)),(.int .i64 (0))])),none⟩,
 ⟨none,(.store 2 (.t 17) (.t 124)),none⟩]
 [] [124])
 (.seq
 (.ops [⟨some 125,(.mkFn (.func 95) [] [(.t 5),(.t 13),(.t 11)]),none⟩,
 ⟨some 18,(.mv (.t 125)),none⟩]
 [] [13,125])
 (.seq
 (.ops [⟨some 126,(.mv (.t 18)),none⟩,
 ⟨some 127,(.mkFn (.func 96) [] [(.t 17)]),none⟩,
 ⟨some 128,(.call (.t 126) [(.t 127)]),none⟩]
 [] [126,127,128])
 (.seq
 (.seq
 (.ops [⟨some 129,(.load true 2 (.t 17)),none⟩,
 ⟨some 130,(.load true 2 (.t 16)),none⟩,
 ⟨some 131,(.eqA false 2 [(0,(some .i64)),(1,(some .i64))] (.t 129) (.t 130)),none⟩]
 [] [16,129,130])
 (.cond (.t 131)
 (.seq
 (.ops [⟨some 132,(.load true 2 (.t 17)),none⟩,
 ⟨none,(.store 2 (.t 4) (.t 132)),none⟩]
 [] [0,5,11,17,18,131,132])
 .ret)
 .skip))
 (.seq
 (.ops [⟨some 19,(.allocH false 1 .nils),none⟩]
 [] [131])
 (.seq
 (.ops [⟨some 133,(.mv (.t 18)),none⟩,
 ⟨some 134,(.mkFn (.func 97) [] [(.t 17),(.t 19)]),none⟩,
 ⟨some 135,(.call (.t 133) [(.t 134)]),none⟩]
 [] [17,18,133,134,135])
 (.seq
 (.seq
 (.ops [⟨some 136,(.load false 1 (.t 19)),none⟩,
 ⟨some 137,(.len (.t 136)),none⟩,
 ⟨some 138,(.mv (.c (.int .i64 (0)))),none⟩]
 [] [19])
 (.block 8
 (.loop
 (.seq
 (.ops [⟨some 139,(.bin .lss (.t 138) (.t 137)),none⟩]
 [] [])
 (.seq
 (.cond (.t 139)
 .skip
 (.exit 8))
 (.seq
 (.block 9
 (.seq
 (.ops [⟨some 140,(.iad 1 (.t 136) (.t 138)),none⟩,
 ⟨some 141,(.load false 1 (.t 140)),none⟩,
 ⟨some 21,(.mv (.t 141)),none⟩]
 [] [139,140,141])
 (.ops [⟨some 142,(.mv (.t 21)),none⟩,
 ⟨some 143,(.nilchk (.t 142)),none⟩,
 ⟨some 144,(.load false 1 (.t 143)),none⟩,
 ⟨some 145,(.bin .add (.t 144) (.c (.int .i64 (1)))),none⟩,
 ⟨some 146,(.nilchk (.t 142)),none⟩,
 ⟨none,(.store 1 (.t 146) (.t 145)),none⟩]
 [] [21,142,143,144,145,146])))
 (.ops [⟨some 147,(.bin .add (.t 138) (.c (.int .i64 (1)))),none⟩,
 ⟨some 138,(.mv (.t 147)),none⟩]
 [] [147])))))))
 (.exit 5))))))))))))))))))))⟩
def yqF:List Nat:=[4,12,16,1000004,1000005,1000034,1000011,1000012,1000013,1000016,1000017,1000019]
def fg49:List (Nat×List Nat):=[(35,[147]),(34,[21,142,143,144,145,146]),(33,[139,140,141]),(31,[19]),(30,[17,18,133,134,135]),(29,[131]),(28,[0,5,11,17,18,131,132]),(27,[16,129,130]),(26,[126,127,128]),(25,[13,125]),(24,[124]),(23,[12,101,102,103,104,115,116,117,118,119,120,121,122,123]),(22,[114]),(21,[110,111,112,113]),(20,[15,107,108,109]),(19,[104,105,106]),(16,[98,99,100]),(15,[95,96,97,136,137,138,139]),(14,[22,23,24,25,92,93,94]),(13,[91]),(12,[8,39,40,41,42,87,88,89,90]),(11,[86]),(10,[73,74,75,76,77,78,79,80,81,82,83,84,85]),(9,[9,10,46,47,48,49,50,51,52,53,54,55,56,57,58,59,60,61,62,63,64,65,66,67,68,69,70,71,72]),(8,[42,43,44,45]),(6,[35,36,37,38]),(5,[7,28,29,30,31,32,33,34]),(4,[25,26,27]),(2,[1])]
theorem yoc:yaa Tryz.prog yqF (fun i=>(fg49.lookup i).getD []) Tryz.f49=some ymu:=by kernel_rfl

-- parcener/equal.less
def ymv:AFn:=⟨2,[.tmp 4],
 (.seq
 (.ops [⟨some 2,(.boxL (.t 0)),none⟩,
 ⟨some 3,(.boxL (.t 1)),none⟩,
 ⟨some 4,(.mv (.c (.bool false))),none⟩]
 [] [0,1,4])
 (.seq
 (.ops [⟨some 8,(.load true 2 (.t 2)),none⟩,
 ⟨some 9,(.load true 2 (.t 3)),none⟩,
 ⟨some 10,(.call (.f 60) [(.t 8),(.t 9)]),none⟩,
 ⟨some 7,(.mv (.t 10)),none⟩,
 ⟨some 11,(.ext (.t 7) 0),none⟩,
 ⟨some 12,(.ext (.t 7) 1),none⟩,
 ⟨some 5,(.mv (.t 11)),none⟩,
 ⟨some 6,(.mv (.t 12)),none⟩]
 [] [2,3,6,7,8,9,10,11,12])
 (.seq
 (.ops [⟨some 13,(.mv (.t 5)),none⟩,
 ⟨some 14,(.bin .lss (.t 13) (.c (.int .i64 (0)))),none⟩,
 ⟨some 4,(.mv (.t 14)),none⟩]
 [] [5,13,14])
 .ret)))⟩
def yqG:List Nat:=[2,3,1000002,1000003]
def fg50:List (Nat×List Nat):=[(2,[5,13,14]),(1,[2,3,6,7,8,9,10,11,12]),(0,[0,1,4])]
theorem yod:yaa Tryz.prog yqG (fun i=>(fg50.lookup i).getD []) Tryz.f50=some ymv:=by kernel_rfl

-- parcener/equal.ordered
def ymw:AFn:=⟨2,[.tmp 4],
 (.seq
 (.ops [⟨some 4,(.mv (.c (.int .i64 (0)))),none⟩]
 [] [4])
 (.seq
 (.seq
 (.ops [⟨some 9,(.mv (.t 0)),none⟩,
 ⟨some 10,(.call (.f 47) [(.t 9)]),none⟩,
 ⟨some 5,(.mv (.t 10)),none⟩]
 [] [9,10])
 (.seq
 (.ops [⟨some 11,(.mv (.t 5)),none⟩,
 ⟨some 12,(.bin .neq (.t 11) (.c (.int .i64 (0)))),none⟩]
 [] [11])
 (.cond (.t 12)
 (.seq
 (.ops [⟨some 13,(.mv (.t 5)),none⟩,
 ⟨some 4,(.mv (.t 13)),none⟩]
 [] [0,1,5,12,13])
 .ret)
 .skip)))
 (.seq
 (.ops [⟨some 14,(.mv (.t 1)),none⟩,
 ⟨some 15,(.call (.f 99) [(.t 14)]),none⟩,
 ⟨some 16,(.call (.f 98) [(.t 15)]),none⟩,
 ⟨some 6,(.mv (.t 16)),none⟩]
 [] [5,12,14,15,16])
 (.seq
 (.seq
 (.ops [⟨some 17,(.mv (.t 6)),none⟩,
 ⟨some 18,(.len (.t 17)),none⟩,
 ⟨some 19,(.mv (.c (.int .i64 (0)))),none⟩]
 [] [6])
 (.block 0
 (.loop
 (.seq
 (.ops [⟨some 20,(.bin .lss (.t 19) (.t 18)),none⟩]
 [] [])
 (.seq
 (.cond (.t 20)
 .skip
 (.exit 0))
 (.seq
 (.block 1
 (.seq
 (.ops [⟨some 21,(.mv (.t 19)),none⟩,
 ⟨some 22,(.iad 1 (.t 17) (.t 19)),none⟩,
 ⟨some 23,(.load false 1 (.t 22)),none⟩,
 ⟨some 7,(.mv (.t 21)),none⟩,
 ⟨some 8,(.mv (.t 23)),none⟩]
 [] [20,21,22,23])
 (.seq
 (.ops [⟨some 24,(.mv (.t 8)),none⟩,
 ⟨some 25,(.mv (.t 7)),none⟩,
 ⟨some 26,(.bin .neq (.t 24) (.t 25)),none⟩]
 [] [7,8,24,25])
 (.cond (.t 26)
 (.seq
 (.ops [⟨some 4,(.mv (.c (.int .i64 (8)))),none⟩]
 [] [0,1,17,18,19,26])
 .ret)
 .skip))))
 (.ops [⟨some 27,(.bin .add (.t 19) (.c (.int .i64 (1)))),none⟩,
 ⟨some 19,(.mv (.t 27)),none⟩]
 [] [26,27])))))))
 (.seq
 (.seq
 (.ops [⟨some 28,(.mv (.t 1)),none⟩,
 ⟨some 29,(.len (.t 28)),none⟩,
 ⟨some 30,(.mv (.t 0)),none⟩,
 ⟨some 31,(.len (.t 30)),none⟩,
 ⟨some 32,(.bin .neq (.t 29) (.t 31)),none⟩]
 [] [0,1,17,18,19,20,28,29,30,31])
 (.cond (.t 32)
 (.seq
 (.ops [⟨some 4,(.mv (.c (.int .i64 (8)))),none⟩]
 [] [32])
 .ret)
 .skip))
 (.seq
 (.ops [⟨some 4,(.mv (.c (.int .i64 (0)))),none⟩]
 [] [32])
 .ret))))))⟩
def yqH:List Nat:=[]
def fg51:List (Nat×List Nat):=[(13,[32]),(12,[32]),(11,[0,1,17,18,19,20,28,29,30,31]),(10,[26,27]),(9,[0,1,17,18,19,26]),(8,[7,8,24,25]),(7,[20,21,22,23]),(5,[6]),(4,[5,12,14,15,16]),(3,[0,1,5,12,13]),(2,[11]),(1,[9,10]),(0,[4])]
theorem yoe:yaa Tryz.prog yqH (fun i=>(fg51.lookup i).getD []) Tryz.f51=some ymw:=by kernel_rfl

-- parcener/equal.Ends
def ymx:AFn:=⟨3,[.tmp 6,.tmp 7],
 (.seq
 (.ops [⟨some 5,(.boxL (.t 2)),none⟩,
 ⟨some 6,(.mv (.c .nils)),none⟩,
 ⟨some 7,(.mv (.c (.int .i64 (0)))),none⟩]
 [] [2,6,7])
 (.seq
 (.seq
 (.ops [⟨some 17,(.mv (.t 0)),none⟩,
 ⟨some 18,(.mv (.t 1)),none⟩,
 ⟨some 19,(.call (.f 51) [(.t 17),(.t 18)]),none⟩,
 ⟨some 8,(.mv (.t 19)),none⟩]
 [] [17,18,19])
 (.seq
 (.ops [⟨some 20,(.mv (.t 8)),none⟩,
 ⟨some 21,(.bin .neq (.t 20) (.c (.int .i64 (0)))),none⟩]
 [] [20])
 (.cond (.t 21)
 (.seq
 (.ops [⟨some 22,(.mv (.t 8)),none⟩,
 ⟨some 6,(.mv (.c .nils)),none⟩,
 ⟨some 7,(.mv (.t 22)),none⟩]
 [] [0,1,5,8,21,22])
 .ret)
 .skip)))
 (.seq
 (.seq
 (.ops [⟨some 23,(.load true 2 (.t 5)),none⟩,
 ⟨some 24,(.call (.f 100) [(.t 23)]),none⟩,
 ⟨some 25,(.bin .neq (.t 24) (.c (.int .i64 (0)))),none⟩,
 ⟨some 26,(.mv (.t 25)),none⟩,
 ⟨some 27,(.fad 0 (.t 5)),some (26,false)⟩,
 ⟨some 28,(.load false 1 (.t 27)),some (26,false)⟩,
 ⟨some 29,(.bin .lss (.t 28) (.c (.int .i64 (0)))),some (26,false)⟩,
 ⟨some 30,(.pick (.t 26) (.c (.bool true)) (.t 29)),none⟩]
 [] [8,21,23,24,25,26,27,28,29])
 (.cond (.t 30)
 (.seq
 (.ops [⟨some 6,(.mv (.c .nils)),none⟩,
 ⟨some 7,(.mv (.c (.int .i64 (2)))),none⟩]
 [] [0,1,5,30])
 .ret)
 .skip))
 (.seq
 (.ops [⟨some 31,(.call (.f 53) [(.c (.int .i64 (0)))]),none⟩,
 ⟨some 9,(.allocL (.agg [(.int .i64 (0)),(.int .i64 (0))])),none⟩,
 ⟨none,(.store 2 (.t 9) (.t 31)),none⟩]
 [] [30,31])
 (.seq
 (.ops [⟨some 10,(.mv (.c .nils)),none⟩]
 [] [])
 (.seq
 (.seq
 (.ops [⟨some 32,(.mv (.t 1)),none⟩,
 ⟨some 33,(.len (.t 32)),none⟩,
 ⟨some 34,(.mv (.c (.int .i64 (0)))),none⟩]
 [] [1])
 (.block 0
 (.loop
 (.seq
 (.ops [⟨some 35,(.bin .lss (.t 34) (.t 33)),none⟩]
 [] [])
 (.seq
 (.cond (.t 35)
 .skip
 (.exit 0))
 (.seq
 (.block 1
 (.seq
 (.ops [⟨some 36,(.iad 1 (.t 32) (.t 34)),none⟩,
 ⟨some 37,(.load false 1 (.t 36)),none⟩,
 ⟨some 12,(.mv (.t 37)),none⟩]
 [] [35,36,37])
 (.seq
 (.ops [⟨some 39,(.mv (.t 0)),none⟩,
 ⟨some 40,(.mv (.t 12)),none⟩,
 ⟨some 41,(.iad 3 (.t 39) (.t 40)),none⟩,
 ⟨some 42,(.load true 3 (.t 41)),none⟩,
 ⟨some 43,(.call (.f 87) [(.t 42)]),none⟩,
 ⟨some 38,(.mv (.t 43)),none⟩,
 ⟨some 44,(.ext (.t 38) 0),none⟩,
 ⟨some 45,(.ext (.t 38) 1),none⟩,
 ⟨some 13,(.mv (.t 44)),none⟩,
 ⟨some 14,(.mv (.t 45)),none⟩]
 [] [14,38,39,40,41,42,43,44,45])
 (.seq
 (.ops [⟨some 47,(.load true 2 (.t 5)),none⟩,
 ⟨some 48,(.mv (.t 13)),none⟩,
 ⟨some 49,(.call (.f 53) [(.t 48)]),none⟩,
 ⟨some 50,(.call (.f 101) [(.t 47),(.t 49)]),none⟩,
 ⟨some 46,(.mv (.t 50)),none⟩,
 ⟨some 51,(.ext (.t 46) 0),none⟩,
 ⟨some 52,(.ext (.t 46) 1),none⟩,
 ⟨some 15,(.allocL (.agg [(.int .i64 (0)),(.int .i64 (0))])),none⟩,
 ⟨none,(.store 2 (.t 15) (.t 51)),none⟩,
 ⟨some 16,(.mv (.t 52)),none⟩]
 [(0,1),(0,2),(5,6),(0,7),(1,7),(2,7),(3,7),(4,7),(5,7),(6,7),(6,8)] [13,46,47,48,49,50,51,52])
 (.seq
 (.seq
 (.ops [⟨some 53,(.mv (.t 16)),none⟩,
 ⟨some 54,(.bin .eql (.t 53) (.c (.int .i64 (0)))),none⟩]
 [] [53])
 (.cond (.t 54)
 (.ops [⟨some 56,(.mv (.t 0)),none⟩,
 ⟨some 57,(.mv (.t 12)),none⟩,
 ⟨some 58,(.iad 3 (.t 56) (.t 57)),none⟩,
 ⟨some 59,(.load true 3 (.t 58)),none⟩,
 ⟨some 60,(.load true 2 (.t 9)),none⟩,
 ⟨some 61,(.load true 2 (.t 15)),none⟩,
 ⟨some 62,(.call (.f 102) [(.t 59),(.t 60),(.t 61)]),none⟩,
 ⟨some 55,(.mv (.t 62)),none⟩,
 ⟨some 63,(.ext (.t 55) 0),none⟩,
 ⟨some 64,(.ext (.t 55) 1),none⟩,
 ⟨none,(.store 2 (.t 9) (.t 63)),none⟩,
 ⟨some 16,(.mv (.t 64)),none⟩]
 [(0,1),(0,4),(1,4),(2,4),(3,4),(0,5),(1,5),(2,5),(3,5),(4,5),(8,9),(9,10)] [12,15,54,55,56,57,58,59,60,61,62,63,64])
 .skip))
 (.seq
 (.seq
 (.ops [⟨some 65,(.mv (.t 16)),none⟩,
 ⟨some 66,(.bin .neq (.t 65) (.c (.int .i64 (0)))),none⟩]
 [] [12,15,54,65])
 (.cond (.t 66)
 (.seq
 (.ops [⟨some 67,(.mv (.t 16)),none⟩,
 ⟨some 6,(.mv (.c .nils)),none⟩,
 ⟨some 7,(.mv (.t 67)),none⟩]
 [] [0,5,9,10,16,32,33,34,66,67])
 .ret)
 .skip))
 (.ops [⟨some 68,(.mv (.t 10)),none⟩,
 ⟨some 69,(.load true 2 (.t 9)),none⟩,
 ⟨some 70,(.buildD 2 (.agg [(.int .i64 (0)),(.int .i64 (0))]) 1 [(0,(.t 69))]),none⟩,
 ⟨some 71,(.app true 2 16 (.t 68) (.t 70)),none⟩,
 ⟨some 10,(.mv (.t 71)),none⟩]
 [] [16,66,68,69,70,71])))))))
 (.ops [⟨some 72,(.bin .add (.t 34) (.c (.int .i64 (1)))),none⟩,
 ⟨some 34,(.mv (.t 72)),none⟩]
 [] [72])))))))
 (.seq
 (.ops [⟨some 73,(.mv (.t 10)),none⟩,
 ⟨some 6,(.mv (.t 73)),none⟩,
 ⟨some 7,(.mv (.c (.int .i64 (0)))),none⟩]
 [] [0,5,9,10,32,33,34,35,73])
 .ret)))))))⟩
def yqI:List Nat:=[70,5,9,15,1000005,1000009,1000015]
def fg52:List (Nat×List Nat):=[(19,[0,5,9,10,32,33,34,35,73]),(18,[72]),(17,[16,66,68,69,70,71]),(16,[0,5,9,10,16,32,33,34,66,67]),(15,[12,15,54,65]),(14,[12,15,54,55,56,57,58,59,60,61,62,63,64]),(13,[53]),(12,[13,46,47,48,49,50,51,52]),(11,[14,38,39,40,41,42,43,44,45]),(10,[35,36,37]),(8,[1]),(6,[30,31]),(5,[0,1,5,30]),(4,[8,21,23,24,25,26,27,28,29]),(3,[0,1,5,8,21,22]),(2,[20]),(1,[17,18,19]),(0,[2,6,7])]
theorem yof:yaa Tryz.prog yqI (fun i=>(fg52.lookup i).getD []) Tryz.f52=some ymx:=by kernel_rfl

-- parcener/equal.whole
def ymy:AFn:=⟨1,[.cell 2 true 2],
 (.seq
 (.ops [⟨some 2,(.allocL (.agg [(.int .i64 (0)),(.int .i64 (0))])),none⟩]
 [] [])
 (.seq
 (.ops [⟨some 3,(.mv (.t 0)),none⟩,
 ⟨some 4,(.build [(.int .i64 (0)),(.int .i64 (0))] [(0,1,(.t 3)),(1,1,(.c (.int .i64 (1))))]),none⟩,
 ⟨none,(.store 2 (.t 2) (.t 4)),none⟩]
 [] [0,3,4])
 .ret))⟩
def yqJ:List Nat:=[2,1000002]
def fg53:List (Nat×List Nat):=[(1,[0,3,4])]
theorem yog:yaa Tryz.prog yqJ (fun i=>(fg53.lookup i).getD []) Tryz.f53=some ymy:=by kernel_rfl

-- slices.Min[[]int,int]
def ymz:AFn:=⟨1,[.tmp 2],
 (.seq
 (.ops [⟨some 2,(.mv (.c (.int .i64 (0)))),none⟩]
 [] [2])
 (.seq
 (.seq
 (.ops [⟨some 5,(.mv (.t 0)),none⟩,
 ⟨some 6,(.len (.t 5)),none⟩,
 ⟨some 7,(.bin .lss (.t 6) (.c (.int .i64 (1)))),none⟩]
 [] [5,6])
 (.cond (.t 7)
 (.ops [⟨some 8,.bad,none⟩,
 ⟨none,.bad,none⟩]
 [] [7,8])
 .skip))
 (.seq
 (.ops [⟨some 9,(.mv (.t 0)),none⟩,
 ⟨some 10,(.iad 1 (.t 9) (.c (.int .i64 (0)))),none⟩,
 ⟨some 11,(.load false 1 (.t 10)),none⟩,
 ⟨some 3,(.mv (.t 11)),none⟩]
 [] [7,9,10,11])
 (.seq
 (.seq
 (.ops [⟨some 4,(.mv (.c (.int .i64 (1)))),none⟩]
 [] [])
 (.block 0
 (.loop
 (.seq
 (.seq
 (.ops [⟨some 12,(.mv (.t 4)),none⟩,
 ⟨some 13,(.mv (.t 0)),none⟩,
 ⟨some 14,(.len (.t 13)),none⟩,
 ⟨some 15,(.bin .lss (.t 12) (.t 14)),none⟩]
 [] [12,13,14])
 (.cond (.t 15)
 .skip
 (.exit 0)))
 (.seq
 (.block 1
 (.ops [⟨some 18,(.mv (.t 3)),none⟩,
 ⟨some 19,(.mv (.t 0)),none⟩,
 ⟨some 20,(.mv (.t 4)),none⟩,
 ⟨some 21,(.iad 1 (.t 19) (.t 20)),none⟩,
 ⟨some 22,(.load false 1 (.t 21)),none⟩,
 ⟨some 23,(.minmax false [(.t 18),(.t 22)]),none⟩,
 ⟨some 3,(.mv (.t 23)),none⟩]
 [] [15,18,19,20,21,22,23]))
 (.ops [⟨some 16,(.mv (.t 4)),none⟩,
 ⟨some 17,(.bin .add (.t 16) (.c (.int .i64 (1)))),none⟩,
 ⟨some 4,(.mv (.t 17)),none⟩]
 [] [16,17]))))))
 (.seq
 (.ops [⟨some 24,(.mv (.t 3)),none⟩,
 ⟨some 2,(.mv (.t 24)),none⟩]
 [] [0,3,4,15,24])
 .ret)))))⟩
def yqK:List Nat:=[]
def fg54:List (Nat×List Nat):=[(8,[0,3,4,15,24]),(6,[16,17]),(7,[15,18,19,20,21,22,23]),(5,[12,13,14]),(3,[7,9,10,11]),(2,[7,8]),(1,[5,6]),(0,[2])]
theorem yoh:yaa Tryz.prog yqK (fun i=>(fg54.lookup i).getD []) Tryz.f54=some ymz:=by kernel_rfl

-- slices.Max[[]int,int]
def ymA:AFn:=⟨1,[.tmp 2],
 (.seq
 (.ops [⟨some 2,(.mv (.c (.int .i64 (0)))),none⟩]
 [] [2])
 (.seq
 (.seq
 (.ops [⟨some 5,(.mv (.t 0)),none⟩,
 ⟨some 6,(.len (.t 5)),none⟩,
 ⟨some 7,(.bin .lss (.t 6) (.c (.int .i64 (1)))),none⟩]
 [] [5,6])
 (.cond (.t 7)
 (.ops [⟨some 8,.bad,none⟩,
 ⟨none,.bad,none⟩]
 [] [7,8])
 .skip))
 (.seq
 (.ops [⟨some 9,(.mv (.t 0)),none⟩,
 ⟨some 10,(.iad 1 (.t 9) (.c (.int .i64 (0)))),none⟩,
 ⟨some 11,(.load false 1 (.t 10)),none⟩,
 ⟨some 3,(.mv (.t 11)),none⟩]
 [] [7,9,10,11])
 (.seq
 (.seq
 (.ops [⟨some 4,(.mv (.c (.int .i64 (1)))),none⟩]
 [] [])
 (.block 0
 (.loop
 (.seq
 (.seq
 (.ops [⟨some 12,(.mv (.t 4)),none⟩,
 ⟨some 13,(.mv (.t 0)),none⟩,
 ⟨some 14,(.len (.t 13)),none⟩,
 ⟨some 15,(.bin .lss (.t 12) (.t 14)),none⟩]
 [] [12,13,14])
 (.cond (.t 15)
 .skip
 (.exit 0)))
 (.seq
 (.block 1
 (.ops [⟨some 18,(.mv (.t 3)),none⟩,
 ⟨some 19,(.mv (.t 0)),none⟩,
 ⟨some 20,(.mv (.t 4)),none⟩,
 ⟨some 21,(.iad 1 (.t 19) (.t 20)),none⟩,
 ⟨some 22,(.load false 1 (.t 21)),none⟩,
 ⟨some 23,(.minmax true [(.t 18),(.t 22)]),none⟩,
 ⟨some 3,(.mv (.t 23)),none⟩]
 [] [15,18,19,20,21,22,23]))
 (.ops [⟨some 16,(.mv (.t 4)),none⟩,
 ⟨some 17,(.bin .add (.t 16) (.c (.int .i64 (1)))),none⟩,
 ⟨some 4,(.mv (.t 17)),none⟩]
 [] [16,17]))))))
 (.seq
 (.ops [⟨some 24,(.mv (.t 3)),none⟩,
 ⟨some 2,(.mv (.t 24)),none⟩]
 [] [0,3,4,15,24])
 .ret)))))⟩
def yqL:List Nat:=[]
def fg55:List (Nat×List Nat):=[(8,[0,3,4,15,24]),(6,[16,17]),(7,[15,18,19,20,21,22,23]),(5,[12,13,14]),(3,[7,9,10,11]),(2,[7,8]),(1,[5,6]),(0,[2])]
theorem yoi:yaa Tryz.prog yqL (fun i=>(fg55.lookup i).getD []) Tryz.f55=some ymA:=by kernel_rfl

-- math/bits.Len64
def ymB:AFn:=⟨1,[.tmp 2],
 (.seq
 (.ops [⟨some 2,(.mv (.c (.int .i64 (0)))),none⟩]
 [] [])
 (.seq
 (.seq
 (.ops [⟨some 3,(.mv (.t 0)),none⟩,
 ⟨some 4,(.bin .geq (.t 3) (.c (.int .u64 (4294967296)))),none⟩]
 [] [3])
 (.cond (.t 4)
 (.seq
 (.ops [⟨some 5,(.mv (.t 0)),none⟩,
 ⟨some 6,(.bin .shr (.t 5) (.c (.int .u64 (32)))),none⟩,
 ⟨some 0,(.mv (.t 6)),none⟩]
 [] [2,4,5,6])
 (.ops [⟨some 2,(.mv (.c (.int .i64 (32)))),none⟩]
 [] []))
 .skip))
 (.seq
 (.seq
 (.ops [⟨some 7,(.mv (.t 0)),none⟩,
 ⟨some 8,(.bin .geq (.t 7) (.c (.int .u64 (65536)))),none⟩]
 [] [4,7])
 (.cond (.t 8)
 (.seq
 (.ops [⟨some 9,(.mv (.t 0)),none⟩,
 ⟨some 10,(.bin .shr (.t 9) (.c (.int .u64 (16)))),none⟩,
 ⟨some 0,(.mv (.t 10)),none⟩]
 [] [8,9,10])
 (.ops [⟨some 11,(.mv (.t 2)),none⟩,
 ⟨some 12,(.bin .add (.t 11) (.c (.int .i64 (16)))),none⟩,
 ⟨some 2,(.mv (.t 12)),none⟩]
 [] [11,12]))
 .skip))
 (.seq
 (.seq
 (.ops [⟨some 13,(.mv (.t 0)),none⟩,
 ⟨some 14,(.bin .geq (.t 13) (.c (.int .u64 (256)))),none⟩]
 [] [8,13])
 (.cond (.t 14)
 (.seq
 (.ops [⟨some 15,(.mv (.t 0)),none⟩,
 ⟨some 16,(.bin .shr (.t 15) (.c (.int .u64 (8)))),none⟩,
 ⟨some 0,(.mv (.t 16)),none⟩]
 [] [14,15,16])
 (.ops [⟨some 17,(.mv (.t 2)),none⟩,
 ⟨some 18,(.bin .add (.t 17) (.c (.int .i64 (8)))),none⟩,
 ⟨some 2,(.mv (.t 18)),none⟩]
 [] [17,18]))
 .skip))
 (.seq
 (.ops [⟨some 19,(.mv (.t 2)),none⟩,
 ⟨some 20,(.mv (.t 0)),none⟩,
 ⟨some 21,(.conv .u8 (.t 20)),none⟩,
 ⟨some 22,(.idx false 256 1 (.c (.agg [(.int .u8 (0)),(.int .u8 (1)),(.int .u8 (2)),(.int .u8 (2)),(.int .u8 (3)),(.int .u8 (3)),(.int .u8 (3)),(.int .u8 (3)),(.int .u8 (4)),(.int .u8 (4)),(.int .u8 (4)),(.int .u8 (4)),(.int .u8 (4)),(.int .u8 (4)),(.int .u8 (4)),(.int .u8 (4)),(.int .u8 (5)),(.int .u8 (5)),(.int .u8 (5)),(.int .u8 (5)),(.int .u8 (5)),(.int .u8 (5)),(.int .u8 (5)),(.int .u8 (5)),(.int .u8 (5)),(.int .u8 (5)),(.int .u8 (5)),(.int .u8 (5)),(.int .u8 (5)),(.int .u8 (5)),(.int .u8 (5)),(.int .u8 (5)),(.int .u8 (6)),(.int .u8 (6)),(.int .u8 (6)),(.int .u8 (6)),(.int .u8 (6)),(.int .u8 (6)),(.int .u8 (6)),(.int .u8 (6)),(.int .u8 (6)),(.int .u8 (6)),(.int .u8 (6)),(.int .u8 (6)),(.int .u8 (6)),(.int .u8 (6)),(.int .u8 (6)),(.int .u8 (6)),(.int .u8 (6)),(.int .u8 (6)),(.int .u8 (6)),(.int .u8 (6)),(.int .u8 (6)),(.int .u8 (6)),(.int .u8 (6)),(.int .u8 (6)),(.int .u8 (6)),(.int .u8 (6)),(.int .u8 (6)),(.int .u8 (6)),(.int .u8 (6)),(.int .u8 (6)),(.int .u8 (6)),(.int .u8 (6)),(.int .u8 (7)),(.int .u8 (7)),(.int .u8 (7)),(.int .u8 (7)),(.int .u8 (7)),(.int .u8 (7)),(.int .u8 (7)),(.int .u8 (7)),(.int .u8 (7)),(.int .u8 (7)),(.int .u8 (7)),(.int .u8 (7)),(.int .u8 (7)),(.int .u8 (7)),(.int .u8 (7)),(.int .u8 (7)),(.int .u8 (7)),(.int .u8 (7)),(.int .u8 (7)),(.int .u8 (7)),(.int .u8 (7)),(.int .u8 (7)),(.int .u8 (7)),(.int .u8 (7)),(.int .u8 (7)),(.int .u8 (7)),(.int .u8 (7)),(.int .u8 (7)),(.int .u8 (7)),(.int .u8 (7)),(.int .u8 (7)),(.int .u8 (7)),(.int .u8 (7)),(.int .u8 (7)),(.int .u8 (7)),(.int .u8 (7)),(.int .u8 (7)),(.int .u8 (7)),(.int .u8 (7)),(.int .u8 (7)),(.int .u8 (7)),(.int .u8 (7)),(.int .u8 (7)),(.int .u8 (7)),(.int .u8 (7)),(.int .u8 (7)),(.int .u8 (7)),(.int .u8 (7)),(.int .u8 (7)),(.int .u8 (7)),(.int .u8 (7)),(.int .u8 (7)),(.int .u8 (7)),(.int .u8 (7)),(.int .u8 (7)),(.int .u8 (7)),(.int .u8 (7)),(.int .u8 (7)),(.int .u8 (7)),(.int .u8 (7)),(.int .u8 (7)),(.int .u8 (7)),(.int .u8 (7)),(.int .u8 (7)),(.int .u8 (8)),(.int .u8 (8)),(.int .u8 (8)),(.int .u8 (8)),(.int .u8 (8)),(.int .u8 (8)),(.int .u8 (8)),(.int .u8 (8)),(.int .u8 (8)),(.int .u8 (8)),(.int .u8 (8)),(.int .u8 (8)),(.int .u8 (8)),(.int .u8 (8)),(.int .u8 (8)),(.int .u8 (8)),(.int .u8 (8)),(.int .u8 (8)),(.int .u8 (8)),(.int .u8 (8)),(.int .u8 (8)),(.int .u8 (8)),(.int .u8 (8)),(.int .u8 (8)),(.int .u8 (8)),(.int .u8 (8)),(.int .u8 (8)),(.int .u8 (8)),(.int .u8 (8)),(.int .u8 (8)),(.int .u8 (8)),(.int .u8 (8)),(.int .u8 (8)),(.int .u8 (8)),(.int .u8 (8)),(.int .u8 (8)),(.int .u8 (8)),(.int .u8 (8)),(.int .u8 (8)),(.int .u8 (8)),(.int .u8 (8)),(.int .u8 (8)),(.int .u8 (8)),(.int .u8 (8)),(.int .u8 (8)),(.int .u8 (8)),(.int .u8 (8)),(.int .u8 (8)),(.int .u8 (8)),(.int .u8 (8)),(.int .u8 (8)),(.int .u8 (8)),(.int .u8 (8)),(.int .u8 (8)),(.int .u8 (8)),(.int .u8 (8)),(.int .u8 (8)),(.int .u8 (8)),(.int .u8 (8)),(.int .u8 (8)),(.int .u8 (8)),(.int .u8 (8)),(.int .u8 (8)),(.int .u8 (8)),(.int .u8 (8)),(.int .u8 (8)),(.int .u8 (8)),(.int .u8 (8)),(.int .u8 (8)),(.int .u8 (8)),(.int .u8 (8)),(.int .u8 (8)),(.int .u8 (8)),(.int .u8 (8)),(.int .u8 (8)),(.int .u8 (8)),(.int .u8 (8)),(.int .u8 (8)),(.int .u8 (8)),(.int .u8 (8)),(.int .u8 (8)),(.int .u8 (8)),(.int .u8 (8)),(.int .u8 (8)),(.int .u8 (8)),(.int .u8 (8)),(.int .u8 (8)),(.int .u8 (8)),(.int .u8 (8)),(.int .u8 (8)),(.int .u8 (8)),(.int .u8 (8)),(.int .u8 (8)),(.int .u8 (8)),(.int .u8 (8)),(.int .u8 (8)),(.int .u8 (8)),(.int .u8 (8)),(.int .u8 (8)),(.int .u8 (8)),(.int .u8 (8)),(.int .u8 (8)),(.int .u8 (8)),(.int .u8 (8)),(.int .u8 (8)),(.int .u8 (8)),(.int .u8 (8)),(.int .u8 (8)),(.int .u8 (8)),(.int .u8 (8)),(.int .u8 (8)),(.int .u8 (8)),(.int .u8 (8)),(.int .u8 (8)),(.int .u8 (8)),(.int .u8 (8)),(.int .u8 (8)),(.int .u8 (8)),(.int .u8 (8)),(.int .u8 (8)),(.int .u8 (8)),(.int .u8 (8)),(.int .u8 (8)),(.int .u8 (8)),(.int .u8 (8)),(.int .u8 (8)),(.int .u8 (8)),(.int .u8 (8))])) (.t 21)),none⟩,
 ⟨some 23,(.conv .i64 (.t 22)),none⟩,
 ⟨some 24,(.bin .add (.t 19) (.t 23)),none⟩,
 ⟨some 2,(.mv (.t 24)),none⟩]
 [] [0,14,19,20,21,22,23,24])
 .ret)))))⟩
def yqM:List Nat:=[]
def fg57:List (Nat×List Nat):=[(10,[0,14,19,20,21,22,23,24]),(9,[17,18]),(8,[14,15,16]),(7,[8,13]),(6,[11,12]),(5,[8,9,10]),(4,[4,7]),(2,[2,4,5,6]),(1,[3])]
theorem yoj:yaa Tryz.prog yqM (fun i=>(fg57.lookup i).getD []) Tryz.f57=some ymB:=by kernel_rfl

-- parcener/choose.half
def ymC:AFn:=⟨1,[.cell 2 true 2],
 (.seq
 (.ops [⟨some 1,(.boxL (.t 0)),none⟩,
 ⟨some 2,(.allocL (.agg [(.int .i64 (0)),(.int .i64 (0))])),none⟩]
 [] [0])
 (.seq
 (.ops [⟨some 8,(.load true 3 (.t 1)),none⟩,
 ⟨some 9,(.call (.f 87) [(.t 8)]),none⟩,
 ⟨some 7,(.mv (.t 9)),none⟩,
 ⟨some 10,(.ext (.t 7) 0),none⟩,
 ⟨some 11,(.ext (.t 7) 1),none⟩,
 ⟨some 3,(.mv (.t 10)),none⟩,
 ⟨some 4,(.mv (.t 11)),none⟩]
 [] [1,4,7,8,9,10,11])
 (.seq
 (.ops [⟨some 13,(.mv (.t 3)),none⟩,
 ⟨some 14,(.call (.f 69) [(.t 13),(.c (.int .i64 (2)))]),none⟩,
 ⟨some 12,(.mv (.t 14)),none⟩,
 ⟨some 15,(.ext (.t 12) 0),none⟩,
 ⟨some 16,(.ext (.t 12) 1),none⟩,
 ⟨some 5,(.allocL (.agg [(.int .i64 (0)),(.int .i64 (0))])),none⟩,
 ⟨none,(.store 2 (.t 5) (.t 15)),none⟩,
 ⟨some 6,(.mv (.t 16)),none⟩]
 [] [3,6,12,13,14,15,16])
 (.seq
 (.ops [⟨some 17,(.load true 2 (.t 5)),none⟩,
 ⟨none,(.store 2 (.t 2) (.t 17)),none⟩]
 [] [5,17])
 .ret))))⟩
def yqN:List Nat:=[1,2,5]
def fg58:List (Nat×List Nat):=[(3,[5,17]),(2,[3,6,12,13,14,15,16]),(1,[1,4,7,8,9,10,11]),(0,[0])]
theorem yok:yaa Tryz.prog yqN (fun i=>(fg58.lookup i).getD []) Tryz.f58=some ymC:=by kernel_rfl

-- parcener/ask.Value
def ymD:AFn:=⟨4,[.cell 8 true 2,.cell 9 true 2,.tmp 10],
 (.seq
 (.ops [⟨some 4,(.boxL (.t 0)),none⟩,
 ⟨some 6,(.boxL (.t 2)),none⟩,
 ⟨some 7,(.boxL (.t 3)),none⟩,
 ⟨some 8,(.allocL (.agg [.nils,.nils])),none⟩,
 ⟨some 9,(.allocL (.agg [(.int .i64 (0)),(.int .i64 (0))])),none⟩,
 ⟨some 10,(.mv (.c (.int .i64 (0)))),none⟩]
 [] [0,2,3,10])
 (.seq
 (.ops [⟨some 12,(.load true 2 (.t 4)),none⟩,
 ⟨some 13,(.build [.nils,.nils] [(0,2,(.t 12))]),none⟩,
 ⟨some 11,(.allocL (.agg [.nils,.nils])),none⟩,
 ⟨none,(.store 2 (.t 11) (.t 13)),none⟩]
 [] [4,12,13])
 (.seq
 (.ops [⟨some 14,(.load true 2 (.t 11)),none⟩,
 ⟨some 15,(.mv (.t 1)),none⟩,
 ⟨some 16,(.load true 2 (.t 6)),none⟩,
 ⟨some 17,(.load true 2 (.t 7)),none⟩,
 ⟨some 18,(.build [(.int .i64 (0)),(.int .u8 (0)),(.int .i64 (0)),(.int .i64 (0)),(.int .i64 (0)),(.int .i64 (0)),(.int .i64 (0)),(.int .i64 (0))] [(0,1,(.t 15)),(1,1,(.c (.int .u8 (1)))),(2,2,(.t 16)),(4,2,(.t 17))]),none⟩,
 ⟨some 19,(.load true 2 (.t 11)),none⟩,
 ⟨some 20,(.mkFn (.func 103) [(.t 19)] []),none⟩,
 ⟨some 21,(.call (.f 85) [(.t 14),(.t 18),(.t 20)]),none⟩,
 ⟨some 22,(.ext (.t 21) 0),none⟩,
 ⟨some 23,(.ext (.t 21) 1),none⟩,
 ⟨some 24,(.ext (.t 21) 2),none⟩,
 ⟨none,(.store 2 (.t 8) (.t 22)),none⟩,
 ⟨none,(.store 2 (.t 9) (.t 23)),none⟩,
 ⟨some 10,(.mv (.t 24)),none⟩]
 [] [1,6,7,11,14,15,16,17,18,19,20,21,22,23,24])
 .ret)))⟩
def yqO:List Nat:=[4,6,7,8,9,11]
def fg59:List (Nat×List Nat):=[(2,[1,6,7,11,14,15,16,17,18,19,20,21,22,23,24]),(1,[4,12,13]),(0,[0,2,3,10])]
theorem yol:yaa Tryz.prog yqO (fun i=>(fg59.lookup i).getD []) Tryz.f59=some ymD:=by kernel_rfl

-- parcener/ratio.Cmp
def ymE:AFn:=⟨2,[.tmp 4,.tmp 5],
 (.seq
 (.ops [⟨some 2,(.boxL (.t 0)),none⟩,
 ⟨some 3,(.boxL (.t 1)),none⟩,
 ⟨some 4,(.mv (.c (.int .i64 (0)))),none⟩,
 ⟨some 5,(.mv (.c (.int .i64 (0)))),none⟩]
 [] [0,1,4,5])
 (.seq
 (.seq
 (.ops [⟨some 12,(.load true 2 (.t 2)),none⟩,
 ⟨some 13,(.load true 2 (.t 3)),none⟩,
 ⟨some 14,(.call (.f 104) [(.t 12),(.t 13)]),none⟩,
 ⟨some 6,(.mv (.t 14)),none⟩]
 [] [12,13,14])
 (.seq
 (.ops [⟨some 15,(.mv (.t 6)),none⟩,
 ⟨some 16,(.bin .neq (.t 15) (.c (.int .i64 (0)))),none⟩]
 [] [15])
 (.cond (.t 16)
 (.seq
 (.ops [⟨some 17,(.mv (.t 6)),none⟩,
 ⟨some 4,(.mv (.c (.int .i64 (0)))),none⟩,
 ⟨some 5,(.mv (.t 17)),none⟩]
 [] [2,3,6,16,17])
 .ret)
 .skip)))
 (.seq
 (.seq
 (.ops [⟨some 18,(.fad 0 (.t 2)),none⟩,
 ⟨some 19,(.load false 1 (.t 18)),none⟩,
 ⟨some 20,(.bin .lss (.t 19) (.c (.int .i64 (0)))),none⟩,
 ⟨some 21,(.fad 0 (.t 3)),none⟩,
 ⟨some 22,(.load false 1 (.t 21)),none⟩,
 ⟨some 23,(.bin .lss (.t 22) (.c (.int .i64 (0)))),none⟩,
 ⟨some 24,(.eqB true (.t 20) (.t 23)),none⟩]
 [] [6,16,18,19,20,21,22,23])
 (.cond (.t 24)
 (.seq
 (.ops [⟨some 25,(.fad 0 (.t 2)),none⟩,
 ⟨some 26,(.load false 1 (.t 25)),none⟩,
 ⟨some 27,(.fad 0 (.t 3)),none⟩,
 ⟨some 28,(.load false 1 (.t 27)),none⟩,
 ⟨some 29,(.call (.f 105) [(.t 26),(.t 28)]),none⟩,
 ⟨some 4,(.mv (.t 29)),none⟩,
 ⟨some 5,(.mv (.c (.int .i64 (0)))),none⟩]
 [] [2,3,24,25,26,27,28,29])
 .ret)
 .skip))
 (.seq
 (.ops [⟨some 31,(.fad 0 (.t 2)),none⟩,
 ⟨some 32,(.load false 1 (.t 31)),none⟩,
 ⟨some 33,(.call (.f 107) [(.t 32)]),none⟩,
 ⟨some 34,(.fad 1 (.t 3)),none⟩,
 ⟨some 35,(.load false 1 (.t 34)),none⟩,
 ⟨some 36,(.conv .u64 (.t 35)),none⟩,
 ⟨some 37,(.call (.f 106) [(.t 33),(.t 36)]),none⟩,
 ⟨some 30,(.mv (.t 37)),none⟩,
 ⟨some 38,(.ext (.t 30) 0),none⟩,
 ⟨some 39,(.ext (.t 30) 1),none⟩,
 ⟨some 7,(.mv (.t 38)),none⟩,
 ⟨some 8,(.mv (.t 39)),none⟩]
 [(0,3),(1,3),(2,3),(0,4),(1,4),(2,4),(0,5),(1,5),(2,5),(8,9),(9,10)] [24,30,31,32,33,34,35,36,37,38,39])
 (.seq
 (.ops [⟨some 41,(.fad 0 (.t 3)),none⟩,
 ⟨some 42,(.load false 1 (.t 41)),none⟩,
 ⟨some 43,(.call (.f 107) [(.t 42)]),none⟩,
 ⟨some 44,(.fad 1 (.t 2)),none⟩,
 ⟨some 45,(.load false 1 (.t 44)),none⟩,
 ⟨some 46,(.conv .u64 (.t 45)),none⟩,
 ⟨some 47,(.call (.f 106) [(.t 43),(.t 46)]),none⟩,
 ⟨some 40,(.mv (.t 47)),none⟩,
 ⟨some 48,(.ext (.t 40) 0),none⟩,
 ⟨some 49,(.ext (.t 40) 1),none⟩,
 ⟨some 9,(.mv (.t 48)),none⟩,
 ⟨some 10,(.mv (.t 49)),none⟩]
 [(0,3),(1,3),(2,3),(0,4),(1,4),(2,4),(0,5),(1,5),(2,5),(8,9),(9,10)] [3,40,41,42,43,44,45,46,47,48,49])
 (.seq
 (.ops [⟨some 50,(.mv (.t 7)),none⟩,
 ⟨some 51,(.mv (.t 9)),none⟩,
 ⟨some 52,(.call (.f 109) [(.t 50),(.t 51)]),none⟩,
 ⟨some 53,(.mv (.t 8)),none⟩,
 ⟨some 54,(.mv (.t 10)),none⟩,
 ⟨some 55,(.call (.f 109) [(.t 53),(.t 54)]),none⟩,
 ⟨some 56,(.buildD 1 (.int .i64 (0)) 2 [(0,(.t 52)),(1,(.t 55))]),none⟩,
 ⟨some 57,(.call (.f 108) [(.t 56)]),none⟩,
 ⟨some 11,(.mv (.t 57)),none⟩]
 [] [7,8,9,10,50,51,52,53,54,55,56,57])
 (.seq
 (.seq
 (.ops [⟨some 58,(.fad 0 (.t 2)),none⟩,
 ⟨some 59,(.load false 1 (.t 58)),none⟩,
 ⟨some 60,(.bin .lss (.t 59) (.c (.int .i64 (0)))),none⟩]
 [] [2,58,59])
 (.cond (.t 60)
 (.ops [⟨some 61,(.mv (.t 11)),none⟩,
 ⟨some 62,(.un .neg (.t 61)),none⟩,
 ⟨some 11,(.mv (.t 62)),none⟩]
 [] [60,61,62])
 .skip))
 (.seq
 (.ops [⟨some 63,(.mv (.t 11)),none⟩,
 ⟨some 4,(.mv (.t 63)),none⟩,
 ⟨some 5,(.mv (.c (.int .i64 (0)))),none⟩]
 [] [11,60,63])
 .ret))))))))⟩
def yqP:List Nat:=[56,2,3]
def fg60:List (Nat×List Nat):=[(11,[11,60,63]),(10,[60,61,62]),(9,[2,58,59]),(8,[7,8,9,10,50,51,52,53,54,55,56,57]),(7,[3,40,41,42,43,44,45,46,47,48,49]),(6,[24,30,31,32,33,34,35,36,37,38,39]),(5,[2,3,24,25,26,27,28,29]),(4,[6,16,18,19,20,21,22,23]),(3,[2,3,6,16,17]),(2,[15]),(1,[12,13,14]),(0,[0,1,4,5])]
theorem yom:yaa Tryz.prog yqP (fun i=>(fg60.lookup i).getD []) Tryz.f60=some ymE:=by kernel_rfl

-- parcener/choose.Check
def ymF:AFn:=⟨1,[.tmp 2],
 (.seq
 (.ops [⟨some 1,(.boxL (.t 0)),none⟩,
 ⟨some 2,(.mv (.c (.int .i64 (0)))),none⟩]
 [] [0,2])
 (.seq
 (.seq
 (.ops [⟨some 6,(.fad 0 (.t 1)),none⟩,
 ⟨some 7,(.load true 2 (.t 6)),none⟩,
 ⟨some 8,(.call (.f 13) [(.t 7)]),none⟩,
 ⟨some 3,(.mv (.t 8)),none⟩]
 [] [6,7,8])
 (.seq
 (.ops [⟨some 9,(.mv (.t 3)),none⟩,
 ⟨some 10,(.bin .neq (.t 9) (.c (.int .i64 (0)))),none⟩]
 [] [9])
 (.cond (.t 10)
 (.seq
 (.ops [⟨some 11,(.mv (.t 3)),none⟩,
 ⟨some 2,(.mv (.t 11)),none⟩]
 [] [1,3,10,11])
 .ret)
 .skip)))
 (.seq
 (.ops [⟨some 13,(.fad 0 (.t 1)),none⟩,
 ⟨some 14,(.fad 0 (.t 13)),none⟩,
 ⟨some 15,(.load false 1 (.t 14)),none⟩,
 ⟨some 16,(.fad 2 (.t 1)),none⟩,
 ⟨some 17,(.load false 1 (.t 16)),none⟩,
 ⟨some 18,(.call (.f 28) [(.t 15),(.t 17)]),none⟩,
 ⟨some 12,(.mv (.t 18)),none⟩,
 ⟨some 19,(.ext (.t 12) 0),none⟩,
 ⟨some 20,(.ext (.t 12) 1),none⟩,
 ⟨some 4,(.allocL (.agg [.nils,.nils,(.int .i64 (0)),(.int .i64 (0)),(.int .i64 (0)),(.int .i64 (0)),(.bool false)])),none⟩,
 ⟨none,(.store 7 (.t 4) (.t 19)),none⟩,
 ⟨some 5,(.mv (.t 20)),none⟩]
 [] [3,10,12,13,14,15,16,17,18,19,20])
 (.seq
 (.seq
 (.ops [⟨some 21,(.mv (.t 5)),none⟩,
 ⟨some 22,(.bin .neq (.t 21) (.c (.int .i64 (0)))),none⟩]
 [] [21])
 (.cond (.t 22)
 (.seq
 (.ops [⟨some 23,(.mv (.t 5)),none⟩,
 ⟨some 2,(.mv (.t 23)),none⟩]
 [] [1,4,5,22,23])
 .ret)
 .skip))
 (.seq
 (.block 0
 (.loop
 (.seq
 (.seq
 (.ops [⟨some 24,(.fad 3 (.t 4)),none⟩,
 ⟨some 25,(.load false 1 (.t 24)),none⟩,
 ⟨some 26,(.fad 3 (.t 1)),none⟩,
 ⟨some 27,(.load false 1 (.t 26)),none⟩,
 ⟨some 28,(.minmax false [(.t 27),(.c (.int .i64 (2)))]),none⟩,
 ⟨some 29,(.bin .lss (.t 25) (.t 28)),none⟩]
 [] [5,22,24,25,26,27,28])
 (.cond (.t 29)
 .skip
 (.exit 0)))
 (.block 1
 (.ops [⟨some 30,(.load true 7 (.t 4)),none⟩,
 ⟨some 31,(.call (.f 29) [(.t 30)]),none⟩,
 ⟨none,(.store 7 (.t 4) (.t 31)),none⟩]
 [] [29,30,31])))))
 (.seq
 (.seq
 (.ops [⟨some 32,(.fad 3 (.t 4)),none⟩,
 ⟨some 33,(.load false 1 (.t 32)),none⟩,
 ⟨some 34,(.fad 3 (.t 1)),none⟩,
 ⟨some 35,(.load false 1 (.t 34)),none⟩,
 ⟨some 36,(.bin .neq (.t 33) (.t 35)),none⟩,
 ⟨some 37,(.mv (.t 36)),none⟩,
 ⟨some 38,(.fad 4 (.t 4)),some (37,false)⟩,
 ⟨some 39,(.load true 2 (.t 38)),some (37,false)⟩,
 ⟨some 40,(.fad 4 (.t 1)),some (37,false)⟩,
 ⟨some 41,(.load true 2 (.t 40)),some (37,false)⟩,
 ⟨some 42,(.eqA true 2 [(0,(some .i64)),(1,(some .i64))] (.t 39) (.t 41)),some (37,false)⟩,
 ⟨some 43,(.pick (.t 37) (.c (.bool true)) (.t 42)),none⟩,
 ⟨some 44,(.mv (.t 43)),none⟩,
 ⟨some 45,(.fad 6 (.t 4)),some (44,false)⟩,
 ⟨some 46,(.load false 1 (.t 45)),some (44,false)⟩,
 ⟨some 47,(.fad 6 (.t 1)),some (44,false)⟩,
 ⟨some 48,(.load false 1 (.t 47)),some (44,false)⟩,
 ⟨some 49,(.eqB true (.t 46) (.t 48)),some (44,false)⟩,
 ⟨some 50,(.pick (.t 44) (.c (.bool true)) (.t 49)),none⟩,
 ⟨some 51,(.mv (.t 50)),none⟩,
 ⟨some 52,(.fad 0 (.t 4)),some (51,false)⟩,
 ⟨some 53,(.fad 1 (.t 52)),some (51,false)⟩,
 ⟨some 54,(.load false 1 (.t 53)),some (51,false)⟩,
 ⟨some 55,(.fad 0 (.t 1)),some (51,false)⟩,
 ⟨some 56,(.fad 1 (.t 55)),some (51,false)⟩,
 ⟨some 57,(.load false 1 (.t 56)),some (51,false)⟩,
 ⟨some 58,(.call (.f 110) [(.t 54),(.t 57)]),some (51,false)⟩,
 ⟨some 59,(.un .not (.t 58)),some (51,false)⟩,
 ⟨some 60,(.pick (.t 51) (.c (.bool true)) (.t 59)),none⟩]
 [] [1,4,29,32,33,34,35,36,37,38,39,40,41,42,43,44,45,46,47,48,49,50,51,52,53,54,55,56,57,58,59])
 (.cond (.t 60)
 (.seq
 (.ops [⟨some 2,(.mv (.c (.int .i64 (8)))),none⟩]
 [] [60])
 .ret)
 .skip))
 (.seq
 (.ops [⟨some 2,(.mv (.c (.int .i64 (0)))),none⟩]
 [] [60])
 .ret)))))))⟩
def yqQ:List Nat:=[1,4]
def fg61:List (Nat×List Nat):=[(11,[60]),(10,[60]),(9,[1,4,29,32,33,34,35,36,37,38,39,40,41,42,43,44,45,46,47,48,49,50,51,52,53,54,55,56,57,58,59]),(8,[29,30,31]),(7,[5,22,24,25,26,27,28]),(6,[1,4,5,22,23]),(5,[21]),(4,[3,10,12,13,14,15,16,17,18,19,20]),(3,[1,3,10,11]),(2,[9]),(1,[6,7,8]),(0,[0,2])]
theorem yon:yaa Tryz.prog yqQ (fun i=>(fg61.lookup i).getD []) Tryz.f61=some ymF:=by kernel_rfl

-- parcener/ask.copied
def ymG:AFn:=⟨1,[.tmp 2],
 (.seq
 (.ops [⟨some 2,(.mv (.c .nils)),none⟩]
 [] [2])
 (.seq
 (.ops [⟨some 3,(.mv (.c .nils)),none⟩]
 [] [])
 (.seq
 (.seq
 (.ops [⟨some 6,(.mv (.t 0)),none⟩,
 ⟨some 7,(.len (.t 6)),none⟩,
 ⟨some 8,(.mv (.c (.int .i64 (0)))),none⟩]
 [] [0])
 (.block 0
 (.loop
 (.seq
 (.ops [⟨some 9,(.bin .lss (.t 8) (.t 7)),none⟩]
 [] [])
 (.seq
 (.cond (.t 9)
 .skip
 (.exit 0))
 (.seq
 (.block 1
 (.seq
 (.ops [⟨some 10,(.iad 3 (.t 6) (.t 8)),none⟩,
 ⟨some 11,(.load true 3 (.t 10)),none⟩,
 ⟨some 5,(.allocL (.agg [(.int .i64 (0)),.nils,.nils])),none⟩,
 ⟨none,(.store 3 (.t 5) (.t 11)),none⟩]
 [] [9,10,11])
 (.ops [⟨some 12,(.mv (.t 3)),none⟩,
 ⟨some 13,(.fad 0 (.t 5)),none⟩,
 ⟨some 14,(.load false 1 (.t 13)),none⟩,
 ⟨some 15,(.fad 1 (.t 5)),none⟩,
 ⟨some 16,(.load false 1 (.t 15)),none⟩,
 ⟨some 17,(.call (.f 111) [(.t 16)]),none⟩,
 ⟨some 18,(.fad 2 (.t 5)),none⟩,
 ⟨some 19,(.load false 1 (.t 18)),none⟩,
 ⟨some 20,(.call (.f 111) [(.t 19)]),none⟩,
 ⟨some 21,(.build [(.int .i64 (0)),.nils,.nils] [(0,1,(.t 14)),(1,1,(.t 17)),(2,1,(.t 20))]),none⟩,
 ⟨some 22,(.buildD 3 (.agg [(.int .i64 (0)),(.data []),(.data [])]) 1 [(0,(.t 21))]),none⟩,
 ⟨some 23,(.app true 3 56 (.t 12) (.t 22)),none⟩,
 ⟨some 3,(.mv (.t 23)),none⟩]
 [(0,1),(0,2),(0,3),(1,3),(2,3),(0,4),(1,4),(2,4),(0,5),(1,5),(2,5),(0,6),(1,6),(2,6),(3,6),(4,6),(5,6),(0,7),(1,7),(2,7),(3,7),(4,7),(5,7),(0,8),(1,8),(2,8),(0,9),(0,10)] [5,12,13,14,15,16,17,18,19,20,21,22,23])))
 (.ops [⟨some 24,(.bin .add (.t 8) (.c (.int .i64 (1)))),none⟩,
 ⟨some 8,(.mv (.t 24)),none⟩]
 [] [24])))))))
 (.seq
 (.ops [⟨some 25,(.mv (.t 3)),none⟩,
 ⟨some 2,(.mv (.t 25)),none⟩]
 [] [3,6,7,8,9,25])
 .ret))))⟩
def yqR:List Nat:=[22,5]
def fg62:List (Nat×List Nat):=[(7,[3,6,7,8,9,25]),(6,[24]),(5,[5,12,13,14,15,16,17,18,19,20,21,22,23]),(4,[9,10,11]),(2,[0]),(0,[2])]
theorem yoo:yaa Tryz.prog yqR (fun i=>(fg62.lookup i).getD []) Tryz.f62=some ymG:=by kernel_rfl

-- parcener/trim.rounds$1
def ymH:AFn:=⟨3,[],
 (.seq
 (.ops [⟨some 10,(.fad 0 (.t 1)),none⟩,
 ⟨some 11,(.load false 1 (.t 10)),none⟩,
 ⟨some 12,(.len (.t 11)),none⟩,
 ⟨some 13,(.mkSl true 1 8 (.int .i64 (0)) (.t 12) (.t 12)),none⟩,
 ⟨some 4,(.mv (.t 13)),none⟩]
 [] [10,11,12,13])
 (.seq
 (.seq
 (.ops [⟨some 14,(.mv (.t 4)),none⟩,
 ⟨some 15,(.len (.t 14)),none⟩,
 ⟨some 16,(.mv (.c (.int .i64 (0)))),none⟩]
 [] [14])
 (.block 0
 (.loop
 (.seq
 (.ops [⟨some 17,(.bin .lss (.t 16) (.t 15)),none⟩]
 [] [])
 (.seq
 (.cond (.t 17)
 .skip
 (.exit 0))
 (.seq
 (.block 1
 (.seq
 (.ops [⟨some 18,(.mv (.t 16)),none⟩,
 ⟨some 5,(.mv (.t 18)),none⟩]
 [] [17,18])
 (.ops [⟨some 19,(.mv (.t 4)),none⟩,
 ⟨some 20,(.mv (.t 5)),none⟩,
 ⟨some 21,(.mv (.t 5)),none⟩,
 ⟨some 22,(.iad 1 (.t 19) (.t 20)),none⟩,
 ⟨none,(.store 1 (.t 22) (.t 21)),none⟩]
 [] [5,19,20,21,22])))
 (.ops [⟨some 23,(.bin .add (.t 16) (.c (.int .i64 (1)))),none⟩,
 ⟨some 16,(.mv (.t 23)),none⟩]
 [] [23])))))))
 (.seq
 (.ops [⟨some 24,(.call (.f 64) [(.c (.int .i64 (0)))]),none⟩,
 ⟨some 6,(.allocL (.agg [(.int .i64 (0)),(.int .i64 (0))])),none⟩,
 ⟨none,(.store 2 (.t 6) (.t 24)),none⟩]
 [] [15,16,17,24])
 (.block 2
 (.loop
 (.seq
 (.seq
 (.ops [⟨some 25,(.mv (.t 4)),none⟩,
 ⟨some 26,(.len (.t 25)),none⟩,
 ⟨some 27,(.bin .gtr (.t 26) (.c (.int .i64 (0)))),none⟩]
 [] [25,26])
 (.cond (.t 27)
 .skip
 (.exit 2)))
 (.seq
 (.block 3
 (.seq
 (.ops [⟨some 29,(.load true 2 (.t 1)),none⟩,
 ⟨some 30,(.mv (.t 4)),none⟩,
 ⟨some 31,(.load true 2 (.t 6)),none⟩,
 ⟨some 32,(.call (.f 65) [(.t 29),(.t 30),(.t 31)]),none⟩,
 ⟨some 28,(.mv (.t 32)),none⟩,
 ⟨some 33,(.ext (.t 28) 0),none⟩,
 ⟨some 34,(.ext (.t 28) 1),none⟩,
 ⟨some 35,(.ext (.t 28) 2),none⟩,
 ⟨some 7,(.allocL (.agg [.nils,.nils])),none⟩,
 ⟨some 8,(.allocH true 6 (.agg [(.int .i64 (0)),(.int .i64 (0)),(.int .i64 (0)),(.int .i64 (0)),(.int .i64 (0)),(.int .i64 (0))])),none⟩,
 ⟨none,(.store 2 (.t 7) (.t 33)),none⟩,
 ⟨none,(.store 6 (.t 8) (.t 34)),none⟩,
 ⟨some 9,(.mv (.t 35)),none⟩]
 [] [27,28,29,30,31,32,33,34,35])
 (.seq
 (.seq
 (.ops [⟨some 36,(.mv (.t 9)),none⟩,
 ⟨some 37,(.bin .neq (.t 36) (.c (.int .i64 (0)))),none⟩]
 [] [36])
 (.cond (.t 37)
 (.seq
 (.ops [⟨some 38,(.load false 1 (.t 2)),none⟩,
 ⟨some 39,(.mv (.t 9)),none⟩,
 ⟨some 40,(.call (.t 38) [(.t 39)]),none⟩]
 [] [0,1,2,4,6,7,8,9,37,38,39,40])
 .ret)
 .skip))
 (.seq
 (.yret
 (.seq
 (.ops [⟨some 41,(.mv (.t 0)),none⟩,
 ⟨some 42,(.load true 2 (.t 7)),none⟩,
 ⟨some 43,(.load true 6 (.t 8)),none⟩,
 ⟨some 44,(.call (.t 41) [(.t 42),(.t 43)]),none⟩,
 ⟨some 45,(.un .not (.t 44)),none⟩]
 [] [9,37,41,42,43,44])
 (.cond (.t 45)
 .ret
 .skip))
 [⟨some 41,(.mv (.t 0)),none⟩,
 ⟨some 42,(.load true 2 (.t 7)),none⟩,
 ⟨some 43,(.load true 6 (.t 8)),none⟩]
 44 (.t 41) [(.t 42),(.t 43)] 45 [9,37,41,42,43,44])
 (.seq
 (.ops [⟨some 46,(.load true 2 (.t 7)),none⟩,
 ⟨some 47,(.fad 3 (.t 8)),none⟩,
 ⟨some 48,(.load true 2 (.t 47)),none⟩,
 ⟨none,(.store 2 (.t 1) (.t 46)),none⟩,
 ⟨none,(.store 2 (.t 6) (.t 48)),none⟩]
 [(0,1),(0,2),(1,3),(2,3)] [7,45,46,47,48])
 (.ops [⟨some 49,(.mv (.t 4)),none⟩,
 ⟨some 50,(.mkFn (.func 67) [] [(.t 8)]),none⟩,
 ⟨some 51,(.call (.f 66) [(.t 49),(.t 50)]),none⟩,
 ⟨some 4,(.mv (.t 51)),none⟩]
 [] [8,49,50,51]))))))
 (.seq
 (.ops [⟨some 52,(.load true 2 (.t 6)),none⟩]
 [] [6])
 (.ops [⟨some 6,(.allocL (.agg [(.int .i64 (0)),(.int .i64 (0))])),none⟩,
 ⟨none,(.store 2 (.t 6) (.t 52)),none⟩]
 [] [52])))))))))⟩
def yqS:List Nat:=[6,7,6]
def fg63:List (Nat×List Nat):=[(15,[52]),(14,[6]),(13,[8,49,50,51]),(12,[7,45,46,47,48]),(11,[9,37,41,42,43,44]),(10,[0,1,2,4,6,7,8,9,37,38,39,40]),(9,[36]),(8,[27,28,29,30,31,32,33,34,35]),(7,[25,26]),(6,[15,16,17,24]),(5,[23]),(4,[5,19,20,21,22]),(3,[17,18]),(1,[14]),(0,[10,11,12,13])]
theorem yop:yaa Tryz.prog yqS (fun i=>(fg63.lookup i).getD []) Tryz.f63=some ymH:=by kernel_rfl

-- parcener/trim.whole
def ymI:AFn:=⟨1,[.cell 2 true 2],
 (.seq
 (.ops [⟨some 2,(.allocL (.agg [(.int .i64 (0)),(.int .i64 (0))])),none⟩]
 [] [])
 (.seq
 (.ops [⟨some 3,(.mv (.t 0)),none⟩,
 ⟨some 4,(.build [(.int .i64 (0)),(.int .i64 (0))] [(0,1,(.t 3)),(1,1,(.c (.int .i64 (1))))]),none⟩,
 ⟨none,(.store 2 (.t 2) (.t 4)),none⟩]
 [] [0,3,4])
 .ret))⟩
def yqT:List Nat:=[2]
def fg64:List (Nat×List Nat):=[(1,[0,3,4])]
theorem yoq:yaa Tryz.prog yqT (fun i=>(fg64.lookup i).getD []) Tryz.f64=some ymI:=by kernel_rfl

-- parcener/trim.round
def ymJ:AFn:=⟨3,[.cell 6 true 2,.cell 7 true 6,.tmp 8],
 (.seq
 (.ops [⟨some 3,(.boxH true 2 (.t 0)),none⟩,
 ⟨some 5,(.boxH true 2 (.t 2)),none⟩,
 ⟨some 6,(.allocL (.agg [.nils,.nils])),none⟩,
 ⟨some 7,(.allocL (.agg [(.int .i64 (0)),(.int .i64 (0)),(.int .i64 (0)),(.int .i64 (0)),(.int .i64 (0)),(.int .i64 (0))])),none⟩,
 ⟨some 8,(.mv (.c (.int .i64 (0)))),none⟩]
 [] [0,2,8])
 (.seq
 (.ops [⟨some 17,(.mv (.t 1)),none⟩,
 ⟨some 18,(.iad 1 (.t 17) (.c (.int .i64 (0)))),none⟩,
 ⟨some 19,(.load false 1 (.t 18)),none⟩,
 ⟨some 20,(.load true 2 (.t 5)),none⟩,
 ⟨some 21,(.fad 0 (.t 3)),none⟩,
 ⟨some 22,(.load false 1 (.t 21)),none⟩,
 ⟨some 23,(.iad 3 (.t 22) (.c (.int .i64 (0)))),none⟩,
 ⟨some 24,(.fad 0 (.t 23)),none⟩,
 ⟨some 25,(.load false 1 (.t 24)),none⟩,
 ⟨some 26,(.call (.f 64) [(.t 25)]),none⟩,
 ⟨some 27,(.build [(.int .i64 (0)),(.int .i64 (0)),(.int .i64 (0)),(.int .i64 (0)),(.int .i64 (0)),(.int .i64 (0))] [(0,1,(.t 19)),(1,2,(.t 20)),(3,2,(.t 26))]),none⟩,
 ⟨some 9,(.allocH true 6 (.agg [(.int .i64 (0)),(.int .i64 (0)),(.int .i64 (0)),(.int .i64 (0)),(.int .i64 (0)),(.int .i64 (0))])),none⟩,
 ⟨none,(.store 6 (.t 9) (.t 27)),none⟩]
 [(0,3),(1,3),(2,3),(0,4),(1,4),(2,4),(3,4),(0,5),(1,5),(2,5),(3,5),(0,6),(1,6),(2,6),(3,6),(0,7),(1,7),(2,7),(3,7),(0,8),(1,8),(2,8),(3,8),(0,9),(1,9),(2,9),(3,9),(0,11),(1,11),(2,11),(3,11),(4,11),(5,11),(6,11),(7,11),(8,11),(9,11),(10,11)] [17,18,19,20,21,22,23,24,25,26,27])
 (.seq
 (.ops [⟨some 28,(.mkFn (.func 112) [] [(.t 3),(.t 5),(.t 9)]),none⟩,
 ⟨some 10,(.mv (.t 28)),none⟩]
 [] [28])
 (.seq
 (.seq
 (.ops [⟨some 29,(.mv (.t 1)),none⟩,
 ⟨some 30,(.len (.t 29)),none⟩,
 ⟨some 31,(.mv (.c (.int .i64 (0)))),none⟩]
 [] [])
 (.block 0
 (.loop
 (.seq
 (.ops [⟨some 32,(.bin .lss (.t 31) (.t 30)),none⟩]
 [] [])
 (.seq
 (.cond (.t 32)
 .skip
 (.exit 0))
 (.seq
 (.block 1
 (.seq
 (.ops [⟨some 33,(.mv (.t 31)),none⟩,
 ⟨some 34,(.iad 1 (.t 29) (.t 31)),none⟩,
 ⟨some 35,(.load false 1 (.t 34)),none⟩,
 ⟨some 11,(.mv (.t 33)),none⟩,
 ⟨some 12,(.mv (.t 35)),none⟩]
 [] [32,33,34,35])
 (.seq
 (.seq
 (.ops [⟨some 36,(.mv (.t 1)),none⟩,
 ⟨some 37,(.len (.t 36)),none⟩,
 ⟨some 38,(.bin .eql (.t 37) (.c (.int .i64 (1)))),none⟩]
 [] [36,37])
 (.cond (.t 38)
 (.exit 0)
 .skip))
 (.seq
 (.seq
 (.ops [⟨some 39,(.mv (.t 11)),none⟩,
 ⟨some 40,(.bin .gtr (.t 39) (.c (.int .i64 (0)))),none⟩]
 [] [11,38,39])
 (.cond (.t 40)
 (.seq
 (.ops [⟨some 42,(.load true 2 (.t 3)),none⟩,
 ⟨some 43,(.mv (.t 12)),none⟩,
 ⟨some 44,(.load true 2 (.t 5)),none⟩,
 ⟨some 45,(.fad 3 (.t 9)),none⟩,
 ⟨some 46,(.load true 2 (.t 45)),none⟩,
 ⟨some 47,(.call (.f 59) [(.t 42),(.t 43),(.t 44),(.t 46)]),none⟩,
 ⟨some 41,(.mv (.t 47)),none⟩,
 ⟨some 48,(.ext (.t 41) 0),none⟩,
 ⟨some 49,(.ext (.t 41) 1),none⟩,
 ⟨some 50,(.ext (.t 41) 2),none⟩,
 ⟨some 13,(.allocL (.agg [.nils,.nils])),none⟩,
 ⟨some 14,(.allocL (.agg [(.int .i64 (0)),(.int .i64 (0))])),none⟩,
 ⟨none,(.store 2 (.t 13) (.t 48)),none⟩,
 ⟨none,(.store 2 (.t 14) (.t 49)),none⟩,
 ⟨some 15,(.mv (.t 50)),none⟩]
 [] [40,41,42,43,44,45,46,47,48,49,50])
 (.seq
 (.seq
 (.ops [⟨some 51,(.mv (.t 15)),none⟩,
 ⟨some 52,(.bin .neq (.t 51) (.c (.int .i64 (0)))),none⟩]
 [] [51])
 (.cond (.t 52)
 (.seq
 (.ops [⟨some 53,(.build [.nils,.nils] []),none⟩,
 ⟨some 54,(.build [(.int .i64 (0)),(.int .i64 (0)),(.int .i64 (0)),(.int .i64 (0)),(.int .i64 (0)),(.int .i64 (0))] []),none⟩,
 ⟨some 55,(.mv (.t 15)),none⟩,
 ⟨none,(.store 2 (.t 6) (.t 53)),none⟩,
 ⟨none,(.store 6 (.t 7) (.t 54)),none⟩,
 ⟨some 8,(.mv (.t 55)),none⟩]
 [] [1,3,5,9,10,12,13,14,15,29,30,31,52,53,54,55])
 .ret)
 .skip))
 (.seq
 (.ops [⟨some 56,(.load true 2 (.t 13)),none⟩,
 ⟨none,(.store 2 (.t 3) (.t 56)),none⟩]
 [] [13,15,52,56])
 (.seq
 (.seq
 (.ops [⟨some 57,(.load true 2 (.t 14)),none⟩,
 ⟨some 58,(.load true 2 (.t 3)),none⟩,
 ⟨some 59,(.mv (.t 12)),none⟩,
 ⟨some 60,(.call (.f 113) [(.t 58),(.t 59)]),none⟩,
 ⟨some 61,(.call (.f 114) [(.t 57),(.t 60)]),none⟩,
 ⟨some 62,(.un .not (.t 61)),none⟩]
 [(0,1),(0,2),(1,2),(0,3)] [14,57,58,59,60,61])
 (.cond (.t 62)
 (.exit 1)
 .skip))
 (.ops [⟨some 63,(.fad 5 (.t 9)),none⟩,
 ⟨some 64,(.load false 1 (.t 63)),none⟩,
 ⟨some 65,(.bin .add (.t 64) (.c (.int .i64 (1)))),none⟩,
 ⟨some 66,(.fad 5 (.t 9)),none⟩,
 ⟨none,(.store 1 (.t 66) (.t 65)),none⟩]
 [] [62,63,64,65,66])))))
 .skip))
 (.seq
 (.ops [⟨some 67,(.mv (.t 10)),none⟩,
 ⟨some 68,(.mv (.t 12)),none⟩,
 ⟨some 69,(.call (.t 67) [(.t 68)]),none⟩,
 ⟨some 16,(.mv (.t 69)),none⟩]
 [] [12,40,67,68,69])
 (.seq
 (.ops [⟨some 70,(.mv (.t 16)),none⟩,
 ⟨some 71,(.bin .neq (.t 70) (.c (.int .i64 (0)))),none⟩]
 [] [70])
 (.cond (.t 71)
 (.seq
 (.ops [⟨some 72,(.build [.nils,.nils] []),none⟩,
 ⟨some 73,(.build [(.int .i64 (0)),(.int .i64 (0)),(.int .i64 (0)),(.int .i64 (0)),(.int .i64 (0)),(.int .i64 (0))] []),none⟩,
 ⟨some 74,(.mv (.t 16)),none⟩,
 ⟨none,(.store 2 (.t 6) (.t 72)),none⟩,
 ⟨none,(.store 6 (.t 7) (.t 73)),none⟩,
 ⟨some 8,(.mv (.t 74)),none⟩]
 [] [1,3,5,9,10,16,29,30,31,71,72,73,74])
 .ret)
 .skip)))))))
 (.ops [⟨some 75,(.bin .add (.t 31) (.c (.int .i64 (1)))),none⟩,
 ⟨some 31,(.mv (.t 75)),none⟩]
 [] [12,16,62,71,75])))))))
 (.seq
 (.ops [⟨some 76,(.load true 2 (.t 3)),none⟩,
 ⟨some 77,(.load true 6 (.t 9)),none⟩,
 ⟨none,(.store 2 (.t 6) (.t 76)),none⟩,
 ⟨none,(.store 6 (.t 7) (.t 77)),none⟩,
 ⟨some 8,(.mv (.c (.int .i64 (0)))),none⟩]
 [(0,1),(1,2)] [1,3,5,9,10,11,12,29,30,31,32,38,76,77])
 .ret)))))⟩
def yqU:List Nat:=[6,7,13,14]
def fg65:List (Nat×List Nat):=[(18,[1,3,5,9,10,11,12,29,30,31,32,38,76,77]),(17,[12,16,62,71,75]),(16,[1,3,5,9,10,16,29,30,31,71,72,73,74]),(15,[70]),(14,[12,40,67,68,69]),(13,[62,63,64,65,66]),(12,[14,57,58,59,60,61]),(11,[13,15,52,56]),(10,[1,3,5,9,10,12,13,14,15,29,30,31,52,53,54,55]),(9,[51]),(8,[40,41,42,43,44,45,46,47,48,49,50]),(7,[11,38,39]),(6,[36,37]),(5,[32,33,34,35]),(2,[28]),(1,[17,18,19,20,21,22,23,24,25,26,27]),(0,[0,2,8])]
theorem yor:yaa Tryz.prog yqU (fun i=>(fg65.lookup i).getD []) Tryz.f65=some ymJ:=by kernel_rfl

-- slices.DeleteFunc[[]int,int]
def ymK:AFn:=⟨2,[.tmp 4],
 (.seq
 (.ops [⟨some 4,(.mv (.c .nils)),none⟩]
 [] [4])
 (.seq
 (.ops [⟨some 8,(.mv (.t 0)),none⟩,
 ⟨some 9,(.mv (.t 1)),none⟩,
 ⟨some 10,(.call (.f 115) [(.t 8),(.t 9)]),none⟩,
 ⟨some 5,(.mv (.t 10)),none⟩]
 [] [8,9,10])
 (.seq
 (.seq
 (.ops [⟨some 11,(.mv (.t 5)),none⟩,
 ⟨some 12,(.bin .eql (.t 11) (.c (.int .i64 (-1)))),none⟩]
 [] [11])
 (.cond (.t 12)
 (.seq
 (.ops [⟨some 13,(.mv (.t 0)),none⟩,
 ⟨some 4,(.mv (.t 13)),none⟩]
 [] [0,1,5,12,13])
 .ret)
 .skip))
 (.seq
 (.seq
 (.ops [⟨some 14,(.mv (.t 5)),none⟩,
 ⟨some 15,(.bin .add (.t 14) (.c (.int .i64 (1)))),none⟩,
 ⟨some 6,(.mv (.t 15)),none⟩]
 [] [12,14,15])
 (.block 0
 (.loop
 (.seq
 (.seq
 (.ops [⟨some 16,(.mv (.t 6)),none⟩,
 ⟨some 17,(.mv (.t 0)),none⟩,
 ⟨some 18,(.len (.t 17)),none⟩,
 ⟨some 19,(.bin .lss (.t 16) (.t 18)),none⟩]
 [] [16,17,18])
 (.cond (.t 19)
 .skip
 (.exit 0)))
 (.seq
 (.block 1
 (.seq
 (.ops [⟨some 22,(.mv (.t 0)),none⟩,
 ⟨some 23,(.mv (.t 6)),none⟩,
 ⟨some 24,(.iad 1 (.t 22) (.t 23)),none⟩,
 ⟨some 25,(.load false 1 (.t 24)),none⟩,
 ⟨some 7,(.mv (.t 25)),none⟩]
 [] [19,22,23,24,25])
 (.seq
 (.ops [⟨some 26,(.mv (.t 1)),none⟩,
 ⟨some 27,(.mv (.t 7)),none⟩,
 ⟨some 28,(.call (.t 26) [(.t 27)]),none⟩,
 ⟨some 29,(.un .not (.t 28)),none⟩]
 [] [26,27,28])
 (.cond (.t 29)
 (.seq
 (.ops [⟨some 30,(.mv (.t 0)),none⟩,
 ⟨some 31,(.mv (.t 5)),none⟩,
 ⟨some 32,(.mv (.t 7)),none⟩,
 ⟨some 33,(.iad 1 (.t 30) (.t 31)),none⟩,
 ⟨none,(.store 1 (.t 33) (.t 32)),none⟩]
 [] [7,29,30,31,32,33])
 (.ops [⟨some 34,(.mv (.t 5)),none⟩,
 ⟨some 35,(.bin .add (.t 34) (.c (.int .i64 (1)))),none⟩,
 ⟨some 5,(.mv (.t 35)),none⟩]
 [] [34,35]))
 .skip))))
 (.ops [⟨some 20,(.mv (.t 6)),none⟩,
 ⟨some 21,(.bin .add (.t 20) (.c (.int .i64 (1)))),none⟩,
 ⟨some 6,(.mv (.t 21)),none⟩]
 [] [7,20,21,29]))))))
 (.seq
 (.ops [⟨some 36,(.mv (.t 0)),none⟩,
 ⟨some 37,(.mv (.t 5)),none⟩,
 ⟨some 38,(.slc 1 (.t 36) (some (.t 37)) none none),none⟩,
 ⟨none,(.clr true 1 (.int .i64 (0)) (.t 38)),none⟩]
 [] [1,6,19,36,37,38])
 (.seq
 (.ops [⟨some 39,(.mv (.t 0)),none⟩,
 ⟨some 40,(.mv (.t 5)),none⟩,
 ⟨some 41,(.slc 1 (.t 39) none (some (.t 40)) none),none⟩,
 ⟨some 4,(.mv (.t 41)),none⟩]
 [] [0,5,39,40,41])
 .ret))))))⟩
def yqV:List Nat:=[]
def fg66:List (Nat×List Nat):=[(12,[0,5,39,40,41]),(11,[1,6,19,36,37,38]),(6,[7,20,21,29]),(10,[34,35]),(9,[7,29,30,31,32,33]),(8,[26,27,28]),(7,[19,22,23,24,25]),(5,[16,17,18]),(4,[12,14,15]),(3,[0,1,5,12,13]),(2,[11]),(1,[8,9,10]),(0,[4])]
theorem yos:yaa Tryz.prog yqV (fun i=>(fg66.lookup i).getD []) Tryz.f66=some ymK:=by kernel_rfl

-- parcener/trim.rounds$1$1
def ymL:AFn:=⟨2,[.tmp 3],
 (.seq
 (.ops [⟨some 3,(.mv (.c (.bool false))),none⟩]
 [] [3])
 (.seq
 (.ops [⟨some 4,(.mv (.t 0)),none⟩,
 ⟨some 5,(.fad 0 (.t 1)),none⟩,
 ⟨some 6,(.load false 1 (.t 5)),none⟩,
 ⟨some 7,(.bin .eql (.t 4) (.t 6)),none⟩,
 ⟨some 3,(.mv (.t 7)),none⟩]
 [] [0,1,4,5,6,7])
 .ret))⟩
def yqW:List Nat:=[]
def fg67:List (Nat×List Nat):=[(1,[0,1,4,5,6,7]),(0,[3])]
theorem yot:yaa Tryz.prog yqW (fun i=>(fg67.lookup i).getD []) Tryz.f67=some ymL:=by kernel_rfl

-- parcener/halve.order
def ymM:AFn:=⟨2,[.tmp 4],
 (.seq
 (.ops [⟨some 2,(.boxL (.t 0)),none⟩,
 ⟨some 3,(.boxL (.t 1)),none⟩,
 ⟨some 4,(.mv (.c (.int .i64 (0)))),none⟩]
 [] [0,1,4])
 (.seq
 (.ops [⟨some 8,(.load true 2 (.t 2)),none⟩,
 ⟨some 9,(.load true 2 (.t 3)),none⟩,
 ⟨some 10,(.call (.f 60) [(.t 8),(.t 9)]),none⟩,
 ⟨some 7,(.mv (.t 10)),none⟩,
 ⟨some 11,(.ext (.t 7) 0),none⟩,
 ⟨some 12,(.ext (.t 7) 1),none⟩,
 ⟨some 5,(.mv (.t 11)),none⟩,
 ⟨some 6,(.mv (.t 12)),none⟩]
 [] [2,3,6,7,8,9,10,11,12])
 (.seq
 (.ops [⟨some 13,(.mv (.t 5)),none⟩,
 ⟨some 4,(.mv (.t 13)),none⟩]
 [] [5,13])
 .ret)))⟩
def yqX:List Nat:=[2,3]
def fg68:List (Nat×List Nat):=[(2,[5,13]),(1,[2,3,6,7,8,9,10,11,12]),(0,[0,1,4])]
theorem you:yaa Tryz.prog yqX (fun i=>(fg68.lookup i).getD []) Tryz.f68=some ymM:=by kernel_rfl

-- parcener/ratio.Make
def ymN:AFn:=⟨2,[.cell 4 true 2,.tmp 5],
 (.seq
 (.ops [⟨some 4,(.allocL (.agg [(.int .i64 (0)),(.int .i64 (0))])),none⟩,
 ⟨some 5,(.mv (.c (.int .i64 (0)))),none⟩]
 [] [5])
 (.seq
 (.seq
 (.ops [⟨some 9,(.mv (.t 1)),none⟩,
 ⟨some 10,(.bin .eql (.t 9) (.c (.int .i64 (0)))),none⟩]
 [] [9])
 (.cond (.t 10)
 (.seq
 (.ops [⟨some 11,(.build [(.int .i64 (0)),(.int .i64 (0))] []),none⟩,
 ⟨none,(.store 2 (.t 4) (.t 11)),none⟩,
 ⟨some 5,(.mv (.c (.int .i64 (18)))),none⟩]
 [] [0,1,10,11])
 .ret)
 .skip))
 (.seq
 (.ops [⟨some 12,(.mv (.t 0)),none⟩,
 ⟨some 13,(.call (.f 107) [(.t 12)]),none⟩,
 ⟨some 14,(.mv (.t 1)),none⟩,
 ⟨some 15,(.call (.f 107) [(.t 14)]),none⟩,
 ⟨some 6,(.mv (.t 13)),none⟩,
 ⟨some 7,(.mv (.t 15)),none⟩]
 [] [10,12,13,14,15])
 (.seq
 (.ops [⟨some 16,(.mv (.t 6)),none⟩,
 ⟨some 17,(.mv (.t 7)),none⟩,
 ⟨some 18,(.call (.f 116) [(.t 16),(.t 17)]),none⟩,
 ⟨some 8,(.mv (.t 18)),none⟩]
 [] [16,17,18])
 (.seq
 (.ops [⟨some 19,(.mv (.t 0)),none⟩,
 ⟨some 20,(.bin .lss (.t 19) (.c (.int .i64 (0)))),none⟩,
 ⟨some 21,(.mv (.t 1)),none⟩,
 ⟨some 22,(.bin .lss (.t 21) (.c (.int .i64 (0)))),none⟩,
 ⟨some 23,(.eqB true (.t 20) (.t 22)),none⟩,
 ⟨some 24,(.mv (.t 6)),none⟩,
 ⟨some 25,(.mv (.t 8)),none⟩,
 ⟨some 26,(.bin .quo (.t 24) (.t 25)),none⟩,
 ⟨some 27,(.mv (.t 7)),none⟩,
 ⟨some 28,(.mv (.t 8)),none⟩,
 ⟨some 29,(.bin .quo (.t 27) (.t 28)),none⟩,
 ⟨some 30,(.call (.f 117) [(.t 23),(.t 26),(.t 29)]),none⟩,
 ⟨some 31,(.ext (.t 30) 0),none⟩,
 ⟨some 32,(.ext (.t 30) 1),none⟩,
 ⟨none,(.store 2 (.t 4) (.t 31)),none⟩,
 ⟨some 5,(.mv (.t 32)),none⟩]
 [(0,2),(1,2),(0,3),(1,3),(0,5),(1,5),(2,5),(3,5),(4,5),(0,6),(1,6),(2,6),(3,6),(4,6),(5,6),(0,7),(1,7),(2,7),(3,7),(4,7),(0,8),(1,8),(2,8),(3,8),(4,8),(5,8),(6,8),(7,8),(0,9),(1,9),(2,9),(3,9),(4,9),(5,9),(6,9),(7,9),(8,9),(0,10),(1,10),(2,10),(3,10),(4,10),(5,10),(6,10),(7,10),(12,13)] [0,1,6,7,8,19,20,21,22,23,24,25,26,27,28,29,30,31,32])
 .ret)))))⟩
def yqY:List Nat:=[4]
def fg69:List (Nat×List Nat):=[(5,[0,1,6,7,8,19,20,21,22,23,24,25,26,27,28,29,30,31,32]),(4,[16,17,18]),(3,[10,12,13,14,15]),(2,[0,1,10,11]),(1,[9]),(0,[5])]
theorem yov:yaa Tryz.prog yqY (fun i=>(fg69.lookup i).getD []) Tryz.f69=some ymN:=by kernel_rfl

-- parcener/halve.mark
def ymO:AFn:=⟨5,[.cell 10 true 2,.cell 11 true 2,.tmp 12],
 (.seq
 (.ops [⟨some 5,(.boxL (.t 0)),none⟩,
 ⟨some 7,(.boxL (.t 2)),none⟩,
 ⟨some 8,(.boxL (.t 3)),none⟩,
 ⟨some 9,(.boxL (.t 4)),none⟩,
 ⟨some 10,(.allocL (.agg [.nils,.nils])),none⟩,
 ⟨some 11,(.allocL (.agg [(.int .i64 (0)),(.int .i64 (0))])),none⟩,
 ⟨some 12,(.mv (.c (.int .i64 (0)))),none⟩]
 [] [0,2,3,4,12])
 (.seq
 (.ops [⟨some 17,(.load true 2 (.t 5)),none⟩,
 ⟨some 18,(.mv (.t 1)),none⟩,
 ⟨some 19,(.call (.f 118) [(.t 17),(.t 18)]),none⟩,
 ⟨some 16,(.mv (.t 19)),none⟩,
 ⟨some 20,(.ext (.t 16) 0),none⟩,
 ⟨some 21,(.ext (.t 16) 1),none⟩,
 ⟨some 13,(.mv (.t 20)),none⟩,
 ⟨some 14,(.mv (.t 21)),none⟩]
 [] [16,17,18,19,20,21])
 (.seq
 (.ops [⟨some 22,(.mv (.t 13)),none⟩,
 ⟨some 23,(.call (.f 34) [(.t 22)]),none⟩,
 ⟨some 15,(.allocL (.agg [(.int .i64 (0)),(.int .i64 (0))])),none⟩,
 ⟨none,(.store 2 (.t 15) (.t 23)),none⟩]
 [] [13,22,23])
 (.seq
 (.seq
 (.ops [⟨some 24,(.mv (.t 14)),none⟩,
 ⟨some 25,(.bin .eql (.t 24) (.c (.int .i64 (0)))),none⟩,
 ⟨some 26,(.mv (.t 25)),none⟩,
 ⟨some 27,(.fad 0 (.t 7)),some (26,true)⟩,
 ⟨some 28,(.load false 1 (.t 27)),some (26,true)⟩,
 ⟨some 29,(.bin .gtr (.t 28) (.c (.int .i64 (0)))),some (26,true)⟩,
 ⟨some 30,(.mv (.t 29)),some (26,true)⟩,
 ⟨some 31,(.load true 2 (.t 8)),some (30,false)⟩,
 ⟨some 32,(.fad 0 (.t 5)),some (30,false)⟩,
 ⟨some 33,(.load false 1 (.t 32)),some (30,false)⟩,
 ⟨some 34,(.iad 3 (.t 33) (.c (.int .i64 (0)))),some (30,false)⟩,
 ⟨some 35,(.fad 0 (.t 34)),some (30,false)⟩,
 ⟨some 36,(.load false 1 (.t 35)),some (30,false)⟩,
 ⟨some 37,(.call (.f 34) [(.t 36)]),some (30,false)⟩,
 ⟨some 38,(.eqA true 2 [(0,(some .i64)),(1,(some .i64))] (.t 31) (.t 37)),some (30,false)⟩,
 ⟨some 39,(.pick (.t 30) (.c (.bool true)) (.t 38)),some (26,true)⟩,
 ⟨some 40,(.pick (.t 26) (.t 39) (.c (.bool false))),none⟩]
 [(7,8),(7,9),(7,10),(7,11),(7,12),(7,13)] [24,25,26,27,28,29,30,31,32,33,34,35,36,37,38,39])
 (.cond (.t 40)
 (.ops [⟨some 42,(.load true 2 (.t 5)),none⟩,
 ⟨some 43,(.mv (.t 1)),none⟩,
 ⟨some 44,(.load true 2 (.t 7)),none⟩,
 ⟨some 45,(.load true 2 (.t 8)),none⟩,
 ⟨some 46,(.call (.f 59) [(.t 42),(.t 43),(.t 44),(.t 45)]),none⟩,
 ⟨some 41,(.mv (.t 46)),none⟩,
 ⟨some 47,(.ext (.t 41) 0),none⟩,
 ⟨some 48,(.ext (.t 41) 1),none⟩,
 ⟨some 49,(.ext (.t 41) 2),none⟩,
 ⟨none,(.store 2 (.t 5) (.t 47)),none⟩,
 ⟨none,(.store 2 (.t 15) (.t 48)),none⟩,
 ⟨some 14,(.mv (.t 49)),none⟩]
 [] [8,40,41,42,43,44,45,46,47,48,49])
 .skip))
 (.seq
 (.seq
 (.ops [⟨some 50,(.mv (.t 14)),none⟩,
 ⟨some 51,(.bin .eql (.t 50) (.c (.int .i64 (0)))),none⟩]
 [] [8,40,50])
 (.cond (.t 51)
 (.ops [⟨some 53,(.load true 2 (.t 15)),none⟩,
 ⟨some 54,(.load true 2 (.t 9)),none⟩,
 ⟨some 55,(.call (.f 101) [(.t 53),(.t 54)]),none⟩,
 ⟨some 52,(.mv (.t 55)),none⟩,
 ⟨some 56,(.ext (.t 52) 0),none⟩,
 ⟨some 57,(.ext (.t 52) 1),none⟩,
 ⟨none,(.store 2 (.t 15) (.t 56)),none⟩,
 ⟨some 14,(.mv (.t 57)),none⟩]
 [] [9,51,52,53,54,55,56,57])
 .skip))
 (.seq
 (.seq
 (.ops [⟨some 58,(.mv (.t 14)),none⟩,
 ⟨some 59,(.bin .neq (.t 58) (.c (.int .i64 (0)))),none⟩]
 [] [9,51,58])
 (.cond (.t 59)
 (.seq
 (.ops [⟨some 60,(.load true 2 (.t 5)),none⟩,
 ⟨some 61,(.build [(.int .i64 (0)),(.int .i64 (0))] []),none⟩,
 ⟨some 62,(.mv (.t 14)),none⟩,
 ⟨none,(.store 2 (.t 10) (.t 60)),none⟩,
 ⟨none,(.store 2 (.t 11) (.t 61)),none⟩,
 ⟨some 12,(.mv (.t 62)),none⟩]
 [] [1,5,7,14,15,59,60,61,62])
 .ret)
 .skip))
 (.seq
 (.ops [⟨some 63,(.load true 2 (.t 5)),none⟩,
 ⟨some 64,(.mv (.t 1)),none⟩,
 ⟨some 65,(.load true 2 (.t 7)),none⟩,
 ⟨some 66,(.load true 2 (.t 15)),none⟩,
 ⟨some 67,(.call (.f 44) [(.t 63),(.t 64),(.t 65),(.t 66)]),none⟩,
 ⟨some 68,(.ext (.t 67) 0),none⟩,
 ⟨some 69,(.ext (.t 67) 1),none⟩,
 ⟨some 70,(.ext (.t 67) 2),none⟩,
 ⟨none,(.store 2 (.t 10) (.t 68)),none⟩,
 ⟨none,(.store 2 (.t 11) (.t 69)),none⟩,
 ⟨some 12,(.mv (.t 70)),none⟩]
 [] [1,5,7,14,15,59,63,64,65,66,67,68,69,70])
 .ret)))))))⟩
def yqZ:List Nat:=[5,7,8,9,10,11,15]
def fg70:List (Nat×List Nat):=[(9,[1,5,7,14,15,59,63,64,65,66,67,68,69,70]),(8,[1,5,7,14,15,59,60,61,62]),(7,[9,51,58]),(6,[9,51,52,53,54,55,56,57]),(5,[8,40,50]),(4,[8,40,41,42,43,44,45,46,47,48,49]),(3,[24,25,26,27,28,29,30,31,32,33,34,35,36,37,38,39]),(2,[13,22,23]),(1,[16,17,18,19,20,21]),(0,[0,2,3,4,12])]
theorem yow:yaa Tryz.prog yqZ (fun i=>(fg70.lookup i).getD []) Tryz.f70=some ymO:=by kernel_rfl

-- slices.SortStableFunc[[]parcener/halve.half,parcener/halve.half]
def ymP:AFn:=⟨2,[],
 (.ops [⟨some 4,(.mv (.t 0)),none⟩,
 ⟨some 5,(.mv (.t 0)),none⟩,
 ⟨some 6,(.len (.t 5)),none⟩,
 ⟨some 7,(.mv (.t 1)),none⟩,
 ⟨some 8,(.call (.f 119) [(.t 4),(.t 6),(.t 7)]),none⟩]
 [] [0,1,4,5,6,7,8])⟩
def yq0:List Nat:=[]
def fg71:List (Nat×List Nat):=[(0,[0,1,4,5,6,7,8])]
theorem yox:yaa Tryz.prog yq0 (fun i=>(fg71.lookup i).getD []) Tryz.f71=some ymP:=by kernel_rfl

-- parcener/halve.Split$1
def ymQ:AFn:=⟨2,[.tmp 4],
 (.seq
 (.ops [⟨some 2,(.boxL (.t 0)),none⟩,
 ⟨some 3,(.boxL (.t 1)),none⟩,
 ⟨some 4,(.mv (.c (.int .i64 (0)))),none⟩]
 [] [0,1,4])
 (.seq
 (.ops [⟨some 5,(.fad 1 (.t 2)),none⟩,
 ⟨some 6,(.load true 2 (.t 5)),none⟩,
 ⟨some 7,(.fad 1 (.t 3)),none⟩,
 ⟨some 8,(.load true 2 (.t 7)),none⟩,
 ⟨some 9,(.call (.f 68) [(.t 6),(.t 8)]),none⟩,
 ⟨some 4,(.mv (.t 9)),none⟩]
 [] [2,3,5,6,7,8,9])
 .ret))⟩
def yq1:List Nat:=[2,3]
def fg72:List (Nat×List Nat):=[(1,[2,3,5,6,7,8,9]),(0,[0,1,4])]
theorem yoy:yaa Tryz.prog yq1 (fun i=>(fg72.lookup i).getD []) Tryz.f72=some ymQ:=by kernel_rfl

-- slices.Sort[[]int,int]
def ymR:AFn:=⟨1,[],
 (.seq
 (.ops [⟨some 3,(.mv (.t 0)),none⟩,
 ⟨some 4,(.len (.t 3)),none⟩,
 ⟨some 2,(.mv (.t 4)),none⟩]
 [] [3,4])
 (.ops [⟨some 5,(.mv (.t 0)),none⟩,
 ⟨some 6,(.mv (.t 2)),none⟩,
 ⟨some 7,(.mv (.t 2)),none⟩,
 ⟨some 8,(.conv .u64 (.t 7)),none⟩,
 ⟨some 9,(.call (.f 27) [(.t 8)]),none⟩,
 ⟨some 10,(.call (.f 120) [(.t 5),(.c (.int .i64 (0))),(.t 6),(.t 9)]),none⟩]
 [] [0,2,5,6,7,8,9,10]))⟩
def yq2:List Nat:=[]
def fg73:List (Nat×List Nat):=[(1,[0,2,5,6,7,8,9,10]),(0,[3,4])]
theorem yoz:yaa Tryz.prog yq2 (fun i=>(fg73.lookup i).getD []) Tryz.f73=some ymR:=by kernel_rfl

-- parcener/triple.whole
def ymS:AFn:=⟨1,[.cell 2 true 2],
 (.seq
 (.ops [⟨some 2,(.allocL (.agg [(.int .i64 (0)),(.int .i64 (0))])),none⟩]
 [] [])
 (.seq
 (.ops [⟨some 3,(.mv (.t 0)),none⟩,
 ⟨some 4,(.build [(.int .i64 (0)),(.int .i64 (0))] [(0,1,(.t 3)),(1,1,(.c (.int .i64 (1))))]),none⟩,
 ⟨none,(.store 2 (.t 2) (.t 4)),none⟩]
 [] [0,3,4])
 .ret))⟩
def yq3:List Nat:=[2]
def fg74:List (Nat×List Nat):=[(1,[0,3,4])]
theorem yoA:yaa Tryz.prog yq3 (fun i=>(fg74.lookup i).getD []) Tryz.f74=some ymS:=by kernel_rfl

-- (*parcener/triple.table).thirds
def ymT:AFn:=⟨4,[.cell 8 true 2,.cell 9 true 2],
 (.seq
 (.ops [⟨some 6,(.boxL (.t 2)),none⟩,
 ⟨some 7,(.boxL (.t 3)),none⟩,
 ⟨some 8,(.allocL (.agg [(.int .i64 (0)),(.int .i64 (0))])),none⟩,
 ⟨some 9,(.allocL (.agg [(.int .i64 (0)),(.int .i64 (0))])),none⟩]
 [] [2,3])
 (.seq
 (.ops [⟨some 11,(.mv (.t 0)),none⟩,
 ⟨some 12,(.mv (.t 1)),none⟩,
 ⟨some 13,(.load true 2 (.t 6)),none⟩,
 ⟨some 14,(.load true 2 (.t 7)),none⟩,
 ⟨some 15,(.build [(.int .i64 (0)),(.int .i64 (0))] [(0,1,(.c (.int .i64 (1)))),(1,1,(.c (.int .i64 (3))))]),none⟩,
 ⟨some 16,(.call (.f 101) [(.t 14),(.t 15)]),none⟩,
 ⟨some 17,(.ext (.t 16) 0),none⟩,
 ⟨some 18,(.ext (.t 16) 1),none⟩,
 ⟨some 19,(.call (.f 78) [(.t 17),(.t 18)]),none⟩,
 ⟨some 20,(.call (.f 82) [(.t 11),(.t 12),(.t 13),(.t 19)]),none⟩,
 ⟨some 10,(.allocL (.agg [(.int .i64 (0)),(.int .i64 (0))])),none⟩,
 ⟨none,(.store 2 (.t 10) (.t 20)),none⟩]
 [(0,1),(0,2),(1,2),(0,3),(1,3),(2,3),(0,4),(1,4),(2,4),(3,4),(0,5),(1,5),(2,5),(0,6),(1,6),(2,6),(0,7),(1,7),(2,7),(6,7),(0,8),(1,8),(2,8),(0,10),(1,10),(2,10),(3,10),(4,10),(5,10),(6,10),(7,10),(8,10),(9,10)] [11,12,13,14,15,16,17,18,19,20])
 (.seq
 (.ops [⟨some 21,(.load true 2 (.t 10)),none⟩,
 ⟨some 22,(.mv (.t 0)),none⟩,
 ⟨some 23,(.mv (.t 1)),none⟩,
 ⟨some 24,(.load true 2 (.t 6)),none⟩,
 ⟨some 25,(.load true 2 (.t 7)),none⟩,
 ⟨some 26,(.build [(.int .i64 (0)),(.int .i64 (0))] [(0,1,(.c (.int .i64 (2)))),(1,1,(.c (.int .i64 (3))))]),none⟩,
 ⟨some 27,(.call (.f 101) [(.t 25),(.t 26)]),none⟩,
 ⟨some 28,(.ext (.t 27) 0),none⟩,
 ⟨some 29,(.ext (.t 27) 1),none⟩,
 ⟨some 30,(.call (.f 78) [(.t 28),(.t 29)]),none⟩,
 ⟨some 31,(.call (.f 82) [(.t 22),(.t 23),(.t 24),(.t 30)]),none⟩,
 ⟨none,(.store 2 (.t 8) (.t 21)),none⟩,
 ⟨none,(.store 2 (.t 9) (.t 31)),none⟩]
 [(0,1),(0,2),(1,2),(0,3),(1,3),(2,3),(0,4),(1,4),(2,4),(3,4),(0,5),(1,5),(2,5),(3,5),(4,5),(0,6),(1,6),(2,6),(3,6),(0,7),(1,7),(2,7),(3,7),(0,8),(1,8),(2,8),(3,8),(7,8),(0,9),(1,9),(2,9),(3,9),(0,10)] [0,1,6,7,10,21,22,23,24,25,26,27,28,29,30,31])
 .ret)))⟩
def yq4:List Nat:=[6,7,8,9,10]
def fg75:List (Nat×List Nat):=[(2,[0,1,6,7,10,21,22,23,24,25,26,27,28,29,30,31]),(1,[11,12,13,14,15,16,17,18,19,20]),(0,[2,3])]
theorem yoB:yaa Tryz.prog yq4 (fun i=>(fg75.lookup i).getD []) Tryz.f75=some ymT:=by kernel_rfl

-- (*parcener/triple.table).total
def ymU:AFn:=⟨2,[.cell 4 true 2],
 (.seq
 (.ops [⟨some 4,(.allocL (.agg [(.int .i64 (0)),(.int .i64 (0))])),none⟩]
 [] [])
 (.seq
 (.ops [⟨some 5,(.mv (.t 0)),none⟩,
 ⟨some 6,(.nilchk (.t 5)),none⟩,
 ⟨some 7,(.fad 0 (.t 6)),none⟩,
 ⟨some 8,(.load true 2 (.t 7)),none⟩,
 ⟨some 9,(.mv (.t 1)),none⟩,
 ⟨some 10,(.call (.f 118) [(.t 8),(.t 9)]),none⟩,
 ⟨some 11,(.ext (.t 10) 0),none⟩,
 ⟨some 12,(.ext (.t 10) 1),none⟩,
 ⟨some 13,(.call (.f 121) [(.t 11),(.t 12)]),none⟩,
 ⟨some 14,(.call (.f 74) [(.t 13)]),none⟩,
 ⟨none,(.store 2 (.t 4) (.t 14)),none⟩]
 [] [0,1,5,6,7,8,9,10,11,12,13,14])
 .ret))⟩
def yq5:List Nat:=[4]
def fg76:List (Nat×List Nat):=[(1,[0,1,5,6,7,8,9,10,11,12,13,14])]
theorem yoC:yaa Tryz.prog yq5 (fun i=>(fg76.lookup i).getD []) Tryz.f76=some ymU:=by kernel_rfl

-- (*parcener/triple.table).value
def ymV:AFn:=⟨3,[.tmp 6],
 (.seq
 (.ops [⟨some 6,(.mv (.c .nils)),none⟩]
 [] [6])
 (.seq
 (.ops [⟨some 7,(.mv (.c .nils)),none⟩]
 [] [])
 (.seq
 (.seq
 (.ops [⟨some 13,(.mv (.t 2)),none⟩,
 ⟨some 14,(.len (.t 13)),none⟩,
 ⟨some 15,(.mv (.c (.int .i64 (0)))),none⟩]
 [] [2])
 (.block 0
 (.loop
 (.seq
 (.ops [⟨some 16,(.bin .lss (.t 15) (.t 14)),none⟩]
 [] [])
 (.seq
 (.cond (.t 16)
 .skip
 (.exit 0))
 (.seq
 (.block 1
 (.seq
 (.ops [⟨some 17,(.iad 4 (.t 13) (.t 15)),none⟩,
 ⟨some 18,(.load true 4 (.t 17)),none⟩,
 ⟨some 9,(.allocL (.agg [(.int .i64 (0)),(.int .i64 (0)),(.int .i64 (0)),(.int .i64 (0))])),none⟩,
 ⟨none,(.store 4 (.t 9) (.t 18)),none⟩]
 [] [16,17,18])
 (.seq
 (.ops [⟨some 20,(.mv (.t 0)),none⟩,
 ⟨some 21,(.nilchk (.t 20)),none⟩,
 ⟨some 22,(.fad 0 (.t 21)),none⟩,
 ⟨some 23,(.load true 2 (.t 22)),none⟩,
 ⟨some 24,(.mv (.t 1)),none⟩,
 ⟨some 25,(.fad 0 (.t 9)),none⟩,
 ⟨some 26,(.load true 2 (.t 25)),none⟩,
 ⟨some 27,(.fad 2 (.t 9)),none⟩,
 ⟨some 28,(.load true 2 (.t 27)),none⟩,
 ⟨some 29,(.call (.f 59) [(.t 23),(.t 24),(.t 26),(.t 28)]),none⟩,
 ⟨some 19,(.mv (.t 29)),none⟩,
 ⟨some 30,(.ext (.t 19) 0),none⟩,
 ⟨some 31,(.ext (.t 19) 1),none⟩,
 ⟨some 32,(.ext (.t 19) 2),none⟩,
 ⟨some 10,(.allocL (.agg [.nils,.nils])),none⟩,
 ⟨some 11,(.allocL (.agg [(.int .i64 (0)),(.int .i64 (0))])),none⟩,
 ⟨none,(.store 2 (.t 10) (.t 30)),none⟩,
 ⟨none,(.store 2 (.t 11) (.t 31)),none⟩,
 ⟨some 12,(.mv (.t 32)),none⟩]
 [(0,4),(1,4),(2,4),(3,4),(0,5),(1,5),(2,5),(3,5),(4,5),(0,6),(1,6),(2,6),(3,6),(4,6),(0,7),(1,7),(2,7),(3,7),(4,7),(5,7),(6,7),(0,8),(1,8),(2,8),(3,8),(4,8),(5,8),(6,8),(11,12),(11,13),(12,13),(0,14),(1,14),(2,14),(3,14),(4,14),(5,14),(6,14),(7,14),(8,14),(9,14),(10,14),(11,14),(12,14),(13,14),(0,15),(1,15),(2,15),(3,15),(4,15),(5,15),(6,15),(7,15),(8,15),(9,15),(10,15),(11,15),(12,15),(13,15),(14,15),(12,16),(13,16),(13,17)] [9,19,20,21,22,23,24,25,26,27,28,29,30,31,32])
 (.seq
 (.ops [⟨some 33,(.mv (.t 7)),none⟩,
 ⟨some 34,(.load true 2 (.t 11)),none⟩,
 ⟨some 35,(.mv (.t 12)),none⟩,
 ⟨some 36,(.call (.f 78) [(.t 34),(.t 35)]),none⟩,
 ⟨some 37,(.buildD 2 (.agg [(.int .i64 (0)),(.int .i64 (0))]) 1 [(0,(.t 36))]),none⟩,
 ⟨some 38,(.app true 2 16 (.t 33) (.t 37)),none⟩,
 ⟨some 7,(.mv (.t 38)),none⟩]
 [] [11,12,33,34,35,36,37,38])
 (.ops [⟨some 39,(.mv (.t 0)),none⟩,
 ⟨some 40,(.load true 2 (.t 10)),none⟩,
 ⟨some 41,(.nilchk (.t 39)),none⟩,
 ⟨some 42,(.fad 0 (.t 41)),none⟩,
 ⟨none,(.store 2 (.t 42) (.t 40)),none⟩]
 [] [10,39,40,41,42])))))
 (.ops [⟨some 43,(.bin .add (.t 15) (.c (.int .i64 (1)))),none⟩,
 ⟨some 15,(.mv (.t 43)),none⟩]
 [] [43])))))))
 (.seq
 (.ops [⟨some 44,(.mv (.t 7)),none⟩,
 ⟨some 6,(.mv (.t 44)),none⟩]
 [] [0,1,7,13,14,15,16,44])
 .ret))))⟩
def yq6:List Nat:=[37,9,10,11]
def fg77:List (Nat×List Nat):=[(9,[0,1,7,13,14,15,16,44]),(8,[43]),(7,[10,39,40,41,42]),(6,[11,12,33,34,35,36,37,38]),(5,[9,19,20,21,22,23,24,25,26,27,28,29,30,31,32]),(4,[16,17,18]),(2,[2]),(0,[6])]
theorem yoD:yaa Tryz.prog yq6 (fun i=>(fg77.lookup i).getD []) Tryz.f77=some ymV:=by kernel_rfl

-- parcener/triple.must[parcener/api.Ratio]
def ymW:AFn:=⟨2,[.cell 4 true 2],
 (.seq
 (.ops [⟨some 2,(.boxL (.t 0)),none⟩,
 ⟨some 4,(.allocL (.agg [(.int .i64 (0)),(.int .i64 (0))])),none⟩]
 [] [0])
 (.seq
 (.seq
 (.ops [⟨some 5,(.mv (.t 1)),none⟩,
 ⟨some 6,(.bin .neq (.t 5) (.c (.int .i64 (0)))),none⟩]
 [] [5])
 (.cond (.t 6)
 (.ops [⟨some 7,(.mv (.t 1)),none⟩,
 ⟨some 8,.bad,none⟩,
 ⟨none,.bad,none⟩]
 [] [1,6,7,8])
 .skip))
 (.seq
 (.ops [⟨some 9,(.load true 2 (.t 2)),none⟩,
 ⟨none,(.store 2 (.t 4) (.t 9)),none⟩]
 [] [1,2,6,9])
 .ret)))⟩
def yq7:List Nat:=[2,4]
def fg78:List (Nat×List Nat):=[(3,[1,2,6,9]),(2,[1,6,7,8]),(1,[5]),(0,[0])]
theorem yoE:yaa Tryz.prog yq7 (fun i=>(fg78.lookup i).getD []) Tryz.f78=some ymW:=by kernel_rfl

-- parcener/ratio.Sub
def ymX:AFn:=⟨2,[.cell 4 true 2,.tmp 5],
 (.seq
 (.ops [⟨some 2,(.boxL (.t 0)),none⟩,
 ⟨some 3,(.boxL (.t 1)),none⟩,
 ⟨some 4,(.allocL (.agg [(.int .i64 (0)),(.int .i64 (0))])),none⟩,
 ⟨some 5,(.mv (.c (.int .i64 (0)))),none⟩]
 [] [0,1,5])
 (.seq
 (.seq
 (.ops [⟨some 7,(.load true 2 (.t 2)),none⟩,
 ⟨some 8,(.load true 2 (.t 3)),none⟩,
 ⟨some 9,(.call (.f 104) [(.t 7),(.t 8)]),none⟩,
 ⟨some 6,(.mv (.t 9)),none⟩]
 [] [7,8,9])
 (.seq
 (.ops [⟨some 10,(.mv (.t 6)),none⟩,
 ⟨some 11,(.bin .neq (.t 10) (.c (.int .i64 (0)))),none⟩]
 [] [10])
 (.cond (.t 11)
 (.seq
 (.ops [⟨some 12,(.build [(.int .i64 (0)),(.int .i64 (0))] []),none⟩,
 ⟨some 13,(.mv (.t 6)),none⟩,
 ⟨none,(.store 2 (.t 4) (.t 12)),none⟩,
 ⟨some 5,(.mv (.t 13)),none⟩]
 [] [2,3,6,11,12,13])
 .ret)
 .skip)))
 (.seq
 (.ops [⟨some 14,(.fad 0 (.t 3)),none⟩,
 ⟨some 15,(.load false 1 (.t 14)),none⟩,
 ⟨some 16,(.un .neg (.t 15)),none⟩,
 ⟨some 17,(.fad 0 (.t 3)),none⟩,
 ⟨none,(.store 1 (.t 17) (.t 16)),none⟩]
 [] [6,11,14,15,16,17])
 (.seq
 (.ops [⟨some 18,(.load true 2 (.t 2)),none⟩,
 ⟨some 19,(.load true 2 (.t 3)),none⟩,
 ⟨some 20,(.call (.f 122) [(.t 18),(.t 19)]),none⟩,
 ⟨some 21,(.ext (.t 20) 0),none⟩,
 ⟨some 22,(.ext (.t 20) 1),none⟩,
 ⟨none,(.store 2 (.t 4) (.t 21)),none⟩,
 ⟨some 5,(.mv (.t 22)),none⟩]
 [] [2,3,18,19,20,21,22])
 .ret))))⟩
def yq8:List Nat:=[2,3,4]
def fg79:List (Nat×List Nat):=[(5,[2,3,18,19,20,21,22]),(4,[6,11,14,15,16,17]),(3,[2,3,6,11,12,13]),(2,[10]),(1,[7,8,9]),(0,[0,1,5])]
theorem yoF:yaa Tryz.prog yq8 (fun i=>(fg79.lookup i).getD []) Tryz.f79=some ymX:=by kernel_rfl

-- parcener/triple.pick
def ymY:AFn:=⟨2,[.tmp 4],
 (.seq
 (.ops [⟨some 4,(.mv (.c (.int .i64 (0)))),none⟩]
 [] [4])
 (.seq
 (.ops [⟨some 10,(.mv (.t 1)),none⟩,
 ⟨some 11,(.iad 1 (.t 10) (.c (.int .i64 (0)))),none⟩,
 ⟨some 12,(.load false 1 (.t 11)),none⟩,
 ⟨some 5,(.mv (.t 12)),none⟩]
 [] [10,11,12])
 (.seq
 (.seq
 (.ops [⟨some 13,(.mv (.t 1)),none⟩,
 ⟨some 14,(.len (.t 13)),none⟩,
 ⟨some 15,(.mv (.c (.int .i64 (0)))),none⟩]
 [] [1])
 (.block 0
 (.loop
 (.seq
 (.ops [⟨some 16,(.bin .lss (.t 15) (.t 14)),none⟩]
 [] [])
 (.seq
 (.cond (.t 16)
 .skip
 (.exit 0))
 (.seq
 (.block 1
 (.seq
 (.ops [⟨some 17,(.iad 1 (.t 13) (.t 15)),none⟩,
 ⟨some 18,(.load false 1 (.t 17)),none⟩,
 ⟨some 7,(.mv (.t 18)),none⟩]
 [] [16,17,18])
 (.seq
 (.ops [⟨some 20,(.mv (.t 0)),none⟩,
 ⟨some 21,(.mv (.t 7)),none⟩,
 ⟨some 22,(.iad 2 (.t 20) (.t 21)),none⟩,
 ⟨some 23,(.load true 2 (.t 22)),none⟩,
 ⟨some 24,(.mv (.t 0)),none⟩,
 ⟨some 25,(.mv (.t 5)),none⟩,
 ⟨some 26,(.iad 2 (.t 24) (.t 25)),none⟩,
 ⟨some 27,(.load true 2 (.t 26)),none⟩,
 ⟨some 28,(.call (.f 60) [(.t 23),(.t 27)]),none⟩,
 ⟨some 19,(.mv (.t 28)),none⟩,
 ⟨some 29,(.ext (.t 19) 0),none⟩,
 ⟨some 30,(.ext (.t 19) 1),none⟩,
 ⟨some 8,(.mv (.t 29)),none⟩,
 ⟨some 9,(.mv (.t 30)),none⟩]
 [(0,1),(0,4),(1,4),(2,4),(3,4),(0,5),(1,5),(2,5),(3,5),(4,5),(0,6),(1,6),(2,6),(3,6),(0,7),(1,7),(2,7),(3,7),(10,11),(11,12)] [9,19,20,21,22,23,24,25,26,27,28,29,30])
 (.seq
 (.ops [⟨some 31,(.mv (.t 8)),none⟩,
 ⟨some 32,(.bin .gtr (.t 31) (.c (.int .i64 (0)))),none⟩]
 [] [8,31])
 (.cond (.t 32)
 (.ops [⟨some 33,(.mv (.t 7)),none⟩,
 ⟨some 5,(.mv (.t 33)),none⟩]
 [] [7,32,33])
 .skip)))))
 (.ops [⟨some 34,(.bin .add (.t 15) (.c (.int .i64 (1)))),none⟩,
 ⟨some 15,(.mv (.t 34)),none⟩]
 [] [7,32,34])))))))
 (.seq
 (.ops [⟨some 35,(.mv (.t 5)),none⟩,
 ⟨some 4,(.mv (.t 35)),none⟩]
 [] [0,5,13,14,15,16,35])
 .ret))))⟩
def yq9:List Nat:=[]
def fg80:List (Nat×List Nat):=[(9,[0,5,13,14,15,16,35]),(8,[7,32,34]),(7,[7,32,33]),(6,[8,31]),(5,[9,19,20,21,22,23,24,25,26,27,28,29,30]),(4,[16,17,18]),(2,[1]),(1,[10,11,12]),(0,[4])]
theorem yoG:yaa Tryz.prog yq9 (fun i=>(fg80.lookup i).getD []) Tryz.f80=some ymY:=by kernel_rfl

-- parcener/triple.others
def ymZ:AFn:=⟨1,[.tmp 2],
 (.seq
 (.ops [⟨some 1,(.boxH true 1 (.t 0)),none⟩,
 ⟨some 2,(.mv (.c .nils)),none⟩]
 [] [0,2])
 (.seq
 (.ops [⟨some 3,(.mv (.c .nils)),none⟩]
 [] [])
 (.seq
 (.seq
 (.ops [⟨some 6,(.mv (.c (.int .i64 (0)))),none⟩]
 [] [])
 (.block 0
 (.loop
 (.seq
 (.ops [⟨some 7,(.bin .lss (.t 6) (.c (.int .i64 (3)))),none⟩]
 [] [])
 (.seq
 (.cond (.t 7)
 .skip
 (.exit 0))
 (.seq
 (.block 1
 (.seq
 (.ops [⟨some 8,(.mv (.t 6)),none⟩,
 ⟨some 4,(.allocH true 1 (.int .i64 (0))),none⟩,
 ⟨none,(.store 1 (.t 4) (.t 8)),none⟩]
 [] [7,8])
 (.seq
 (.ops [⟨some 9,(.mkFn (.func 123) [] [(.t 1),(.t 4)]),none⟩,
 ⟨some 5,(.mv (.t 9)),none⟩]
 [] [9])
 (.seq
 (.ops [⟨some 10,(.mv (.t 5)),none⟩,
 ⟨some 11,(.call (.t 10) []),none⟩,
 ⟨some 12,(.un .not (.t 11)),none⟩]
 [] [5,10,11])
 (.cond (.t 12)
 (.ops [⟨some 13,(.mv (.t 3)),none⟩,
 ⟨some 14,(.load false 1 (.t 4)),none⟩,
 ⟨some 15,(.buildD 1 (.int .i64 (0)) 1 [(0,(.t 14))]),none⟩,
 ⟨some 16,(.app true 1 8 (.t 13) (.t 15)),none⟩,
 ⟨some 3,(.mv (.t 16)),none⟩]
 [] [4,12,13,14,15,16])
 .skip)))))
 (.ops [⟨some 17,(.bin .add (.t 6) (.c (.int .i64 (1)))),none⟩,
 ⟨some 6,(.mv (.t 17)),none⟩]
 [] [4,12,17])))))))
 (.seq
 (.ops [⟨some 18,(.mv (.t 3)),none⟩,
 ⟨some 2,(.mv (.t 18)),none⟩]
 [] [1,3,6,7,18])
 .ret))))⟩
def yra:List Nat:=[15]
def fg81:List (Nat×List Nat):=[(9,[1,3,6,7,18]),(8,[4,12,17]),(7,[4,12,13,14,15,16]),(6,[5,10,11]),(5,[9]),(4,[7,8]),(0,[0,2])]
theorem yoH:yaa Tryz.prog yra (fun i=>(fg81.lookup i).getD []) Tryz.f81=some ymZ:=by kernel_rfl

-- (*parcener/triple.table).mark
def ym0:AFn:=⟨4,[.cell 8 true 2],
 (.seq
 (.ops [⟨some 6,(.boxL (.t 2)),none⟩,
 ⟨some 7,(.boxL (.t 3)),none⟩,
 ⟨some 8,(.allocL (.agg [(.int .i64 (0)),(.int .i64 (0))])),none⟩]
 [] [2,3])
 (.seq
 (.ops [⟨some 13,(.mv (.t 0)),none⟩,
 ⟨some 14,(.nilchk (.t 13)),none⟩,
 ⟨some 15,(.fad 0 (.t 14)),none⟩,
 ⟨some 16,(.load true 2 (.t 15)),none⟩,
 ⟨some 17,(.mv (.t 1)),none⟩,
 ⟨some 18,(.load true 2 (.t 6)),none⟩,
 ⟨some 19,(.load true 2 (.t 7)),none⟩,
 ⟨some 20,(.call (.f 44) [(.t 16),(.t 17),(.t 18),(.t 19)]),none⟩,
 ⟨some 12,(.mv (.t 20)),none⟩,
 ⟨some 21,(.ext (.t 12) 0),none⟩,
 ⟨some 22,(.ext (.t 12) 1),none⟩,
 ⟨some 23,(.ext (.t 12) 2),none⟩,
 ⟨some 9,(.allocL (.agg [.nils,.nils])),none⟩,
 ⟨some 10,(.allocL (.agg [(.int .i64 (0)),(.int .i64 (0))])),none⟩,
 ⟨none,(.store 2 (.t 9) (.t 21)),none⟩,
 ⟨none,(.store 2 (.t 10) (.t 22)),none⟩,
 ⟨some 11,(.mv (.t 23)),none⟩]
 [(0,4),(1,4),(2,4),(3,4),(0,5),(1,5),(2,5),(3,5),(4,5),(0,6),(1,6),(2,6),(3,6),(4,6),(5,6),(9,10),(9,11),(10,11),(0,12),(1,12),(2,12),(3,12),(4,12),(5,12),(6,12),(7,12),(8,12),(9,12),(10,12),(11,12),(0,13),(1,13),(2,13),(3,13),(4,13),(5,13),(6,13),(7,13),(8,13),(9,13),(10,13),(11,13),(12,13),(10,14),(11,14),(11,15)] [1,6,7,12,13,14,15,16,17,18,19,20,21,22,23])
 (.seq
 (.ops [⟨some 24,(.load true 2 (.t 10)),none⟩,
 ⟨some 25,(.mv (.t 11)),none⟩,
 ⟨some 26,(.call (.f 78) [(.t 24),(.t 25)]),none⟩]
 [] [11,24,25,26])
 (.seq
 (.ops [⟨some 27,(.mv (.t 0)),none⟩,
 ⟨some 28,(.load true 2 (.t 9)),none⟩,
 ⟨some 29,(.nilchk (.t 27)),none⟩,
 ⟨some 30,(.fad 0 (.t 29)),none⟩,
 ⟨none,(.store 2 (.t 30) (.t 28)),none⟩]
 [] [0,9,27,28,29,30])
 (.seq
 (.ops [⟨some 31,(.load true 2 (.t 10)),none⟩,
 ⟨none,(.store 2 (.t 8) (.t 31)),none⟩]
 [] [10,31])
 .ret)))))⟩
def yrb:List Nat:=[6,7,8,9,10]
def fg82:List (Nat×List Nat):=[(4,[10,31]),(3,[0,9,27,28,29,30]),(2,[11,24,25,26]),(1,[1,6,7,12,13,14,15,16,17,18,19,20,21,22,23]),(0,[2,3])]
theorem yoI:yaa Tryz.prog yrb (fun i=>(fg82.lookup i).getD []) Tryz.f82=some ym0:=by kernel_rfl

-- parcener/piece.all
def ym1:AFn:=⟨1,[.tmp 2],
 (.seq
 (.ops [⟨some 2,(.mv (.c (.int .i64 (0)))),none⟩]
 [] [2])
 (.seq
 (.seq
 (.ops [⟨some 5,(.mv (.t 0)),none⟩,
 ⟨some 6,(.len (.t 5)),none⟩,
 ⟨some 7,(.bin .gtr (.t 6) (.c (.int .i64 (60)))),none⟩]
 [] [5,6])
 (.cond (.t 7)
 (.seq
 (.ops [⟨some 2,(.mv (.c (.int .i64 (4)))),none⟩]
 [] [0,7])
 .ret)
 .skip))
 (.seq
 (.seq
 (.ops [⟨some 8,(.mv (.t 0)),none⟩,
 ⟨some 9,(.len (.t 8)),none⟩,
 ⟨some 10,(.mv (.c (.int .i64 (0)))),none⟩]
 [] [0,7])
 (.block 0
 (.loop
 (.seq
 (.ops [⟨some 11,(.bin .lss (.t 10) (.t 9)),none⟩]
 [] [])
 (.seq
 (.cond (.t 11)
 .skip
 (.exit 0))
 (.seq
 (.block 1
 (.seq
 (.ops [⟨some 12,(.iad 4 (.t 8) (.t 10)),none⟩,
 ⟨some 13,(.load true 4 (.t 12)),none⟩,
 ⟨some 4,(.allocL (.agg [(.int .i64 (0)),(.int .i64 (0)),(.int .i64 (0)),(.int .i64 (0))])),none⟩,
 ⟨none,(.store 4 (.t 4) (.t 13)),none⟩]
 [] [11,12,13])
 (.seq
 (.ops [⟨some 14,(.load true 4 (.t 4)),none⟩,
 ⟨some 15,(.call (.f 124) [(.t 14)]),none⟩,
 ⟨some 16,(.un .not (.t 15)),none⟩]
 [] [4,14,15])
 (.cond (.t 16)
 (.seq
 (.ops [⟨some 2,(.mv (.c (.int .i64 (8)))),none⟩]
 [] [8,9,10,16])
 .ret)
 .skip))))
 (.ops [⟨some 17,(.bin .add (.t 10) (.c (.int .i64 (1)))),none⟩,
 ⟨some 10,(.mv (.t 17)),none⟩]
 [] [16,17])))))))
 (.seq
 (.ops [⟨some 2,(.mv (.c (.int .i64 (0)))),none⟩]
 [] [8,9,10,11])
 .ret))))⟩
def yrc:List Nat:=[4]
def fg83:List (Nat×List Nat):=[(9,[8,9,10,11]),(8,[16,17]),(7,[8,9,10,16]),(6,[4,14,15]),(5,[11,12,13]),(3,[0,7]),(2,[0,7]),(1,[5,6]),(0,[2])]
theorem yoJ:yaa Tryz.prog yrc (fun i=>(fg83.lookup i).getD []) Tryz.f83=some ym1:=by kernel_rfl

-- parcener/piece.merged
def ym2:AFn:=⟨1,[.tmp 2],
 (.seq
 (.ops [⟨some 2,(.mv (.c .nils)),none⟩]
 [] [2])
 (.seq
 (.ops [⟨some 7,(.mv (.t 0)),none⟩,
 ⟨some 8,(.call (.f 125) [(.t 7)]),none⟩,
 ⟨some 0,(.mv (.t 8)),none⟩]
 [] [7,8])
 (.seq
 (.ops [⟨some 9,(.mv (.t 0)),none⟩,
 ⟨some 10,(.call (.f 126) [(.t 9),(.f 127)]),none⟩]
 [] [9,10])
 (.seq
 (.ops [⟨some 3,(.mv (.c .nils)),none⟩]
 [] [])
 (.seq
 (.seq
 (.ops [⟨some 11,(.mv (.t 0)),none⟩,
 ⟨some 12,(.len (.t 11)),none⟩,
 ⟨some 13,(.mv (.c (.int .i64 (0)))),none⟩]
 [] [0])
 (.block 0
 (.loop
 (.seq
 (.ops [⟨some 14,(.bin .lss (.t 13) (.t 12)),none⟩]
 [] [])
 (.seq
 (.cond (.t 14)
 .skip
 (.exit 0))
 (.seq
 (.block 1
 (.seq
 (.ops [⟨some 15,(.iad 4 (.t 11) (.t 13)),none⟩,
 ⟨some 16,(.load true 4 (.t 15)),none⟩,
 ⟨some 5,(.allocL (.agg [(.int .i64 (0)),(.int .i64 (0)),(.int .i64 (0)),(.int .i64 (0))])),none⟩,
 ⟨none,(.store 4 (.t 5) (.t 16)),none⟩]
 [] [14,15,16])
 (.seq
 (.seq
 (.ops [⟨some 17,(.mv (.t 3)),none⟩,
 ⟨some 18,(.len (.t 17)),none⟩,
 ⟨some 6,(.mv (.t 18)),none⟩]
 [] [17,18])
 (.seq
 (.ops [⟨some 19,(.mv (.t 6)),none⟩,
 ⟨some 20,(.bin .gtr (.t 19) (.c (.int .i64 (0)))),none⟩,
 ⟨some 21,(.mv (.t 20)),none⟩,
 ⟨some 22,(.fad 0 (.t 5)),some (21,true)⟩,
 ⟨some 23,(.load true 2 (.t 22)),some (21,true)⟩,
 ⟨some 24,(.mv (.t 3)),some (21,true)⟩,
 ⟨some 25,(.mv (.t 6)),some (21,true)⟩,
 ⟨some 26,(.bin .sub (.t 25) (.c (.int .i64 (1)))),some (21,true)⟩,
 ⟨some 27,(.iad 4 (.t 24) (.t 26)),some (21,true)⟩,
 ⟨some 28,(.fad 2 (.t 27)),some (21,true)⟩,
 ⟨some 29,(.load true 2 (.t 28)),some (21,true)⟩,
 ⟨some 30,(.call (.f 128) [(.t 23),(.t 29)]),some (21,true)⟩,
 ⟨some 31,(.bin .leq (.t 30) (.c (.int .i64 (0)))),some (21,true)⟩,
 ⟨some 32,(.pick (.t 21) (.t 31) (.c (.bool false))),none⟩]
 [(3,5),(4,5),(3,6),(4,6),(5,6),(3,7),(4,7),(5,7),(3,8),(4,8),(3,9),(4,9),(3,10),(4,10)] [19,20,21,22,23,24,25,26,27,28,29,30,31])
 (.cond (.t 32)
 (.seq
 (.seq
 (.ops [⟨some 33,(.fad 2 (.t 5)),none⟩,
 ⟨some 34,(.load true 2 (.t 33)),none⟩,
 ⟨some 35,(.mv (.t 3)),none⟩,
 ⟨some 36,(.mv (.t 6)),none⟩,
 ⟨some 37,(.bin .sub (.t 36) (.c (.int .i64 (1)))),none⟩,
 ⟨some 38,(.iad 4 (.t 35) (.t 37)),none⟩,
 ⟨some 39,(.fad 2 (.t 38)),none⟩,
 ⟨some 40,(.load true 2 (.t 39)),none⟩,
 ⟨some 41,(.call (.f 128) [(.t 34),(.t 40)]),none⟩,
 ⟨some 42,(.bin .gtr (.t 41) (.c (.int .i64 (0)))),none⟩]
 [(0,2),(1,2),(0,3),(1,3),(2,3),(0,4),(1,4),(2,4),(0,5),(1,5),(0,6),(1,6),(0,7),(1,7)] [32,33,34,35,36,37,38,39,40,41])
 (.cond (.t 42)
 (.ops [⟨some 43,(.mv (.t 3)),none⟩,
 ⟨some 44,(.mv (.t 6)),none⟩,
 ⟨some 45,(.bin .sub (.t 44) (.c (.int .i64 (1)))),none⟩,
 ⟨some 46,(.fad 2 (.t 5)),none⟩,
 ⟨some 47,(.load true 2 (.t 46)),none⟩,
 ⟨some 48,(.iad 4 (.t 43) (.t 45)),none⟩,
 ⟨some 49,(.fad 2 (.t 48)),none⟩,
 ⟨none,(.store 2 (.t 49) (.t 47)),none⟩]
 [] [5,6,42,43,44,45,46,47,48,49])
 .skip))
 (.exit 1))
 .skip)))
 (.ops [⟨some 50,(.mv (.t 3)),none⟩,
 ⟨some 51,(.load true 4 (.t 5)),none⟩,
 ⟨some 52,(.buildD 4 (.agg [(.int .i64 (0)),(.int .i64 (0)),(.int .i64 (0)),(.int .i64 (0))]) 1 [(0,(.t 51))]),none⟩,
 ⟨some 53,(.app true 4 32 (.t 50) (.t 52)),none⟩,
 ⟨some 3,(.mv (.t 53)),none⟩]
 [] [5,6,32,50,51,52,53]))))
 (.ops [⟨some 54,(.bin .add (.t 13) (.c (.int .i64 (1)))),none⟩,
 ⟨some 13,(.mv (.t 54)),none⟩]
 [] [5,6,42,54])))))))
 (.seq
 (.ops [⟨some 55,(.mv (.t 3)),none⟩,
 ⟨some 2,(.mv (.t 55)),none⟩]
 [] [3,11,12,13,14,55])
 .ret))))))⟩
def yrd:List Nat:=[52,5]
def fg84:List (Nat×List Nat):=[(13,[3,11,12,13,14,55]),(12,[5,6,42,54]),(11,[5,6,32,50,51,52,53]),(10,[5,6,42,43,44,45,46,47,48,49]),(9,[32,33,34,35,36,37,38,39,40,41]),(8,[19,20,21,22,23,24,25,26,27,28,29,30,31]),(7,[17,18]),(6,[14,15,16]),(4,[0]),(2,[9,10]),(1,[7,8]),(0,[2])]
theorem yoK:yaa Tryz.prog yrd (fun i=>(fg84.lookup i).getD []) Tryz.f84=some ym2:=by kernel_rfl

-- (parcener/ask.office).ask
def ym3:AFn:=⟨3,[.cell 6 true 2,.cell 7 true 2,.tmp 8],
 (.seq
 (.ops [⟨some 3,(.boxL (.t 0)),none⟩,
 ⟨some 4,(.boxL (.t 1)),none⟩,
 ⟨some 6,(.allocL (.agg [.nils,.nils])),none⟩,
 ⟨some 7,(.allocL (.agg [(.int .i64 (0)),(.int .i64 (0))])),none⟩,
 ⟨some 8,(.mv (.c (.int .i64 (0)))),none⟩]
 [] [0,1,8])
 (.seq
 (.seq
 (.ops [⟨some 13,(.fad 0 (.t 3)),none⟩,
 ⟨some 14,(.load true 2 (.t 13)),none⟩,
 ⟨some 15,(.call (.f 13) [(.t 14)]),none⟩,
 ⟨some 9,(.mv (.t 15)),none⟩]
 [] [13,14,15])
 (.seq
 (.ops [⟨some 16,(.mv (.t 9)),none⟩,
 ⟨some 17,(.bin .neq (.t 16) (.c (.int .i64 (0)))),none⟩]
 [] [16])
 (.cond (.t 17)
 (.seq
 (.ops [⟨some 18,(.build [.nils,.nils] []),none⟩,
 ⟨some 19,(.build [(.int .i64 (0)),(.int .i64 (0))] []),none⟩,
 ⟨some 20,(.mv (.t 9)),none⟩,
 ⟨none,(.store 2 (.t 6) (.t 18)),none⟩,
 ⟨none,(.store 2 (.t 7) (.t 19)),none⟩,
 ⟨some 8,(.mv (.t 20)),none⟩]
 [] [2,3,4,9,17,18,19,20])
 .ret)
 .skip)))
 (.seq
 (.seq
 (.ops [⟨some 21,(.load true 2 (.t 3)),none⟩,
 ⟨some 22,(.fad 0 (.t 4)),none⟩,
 ⟨some 23,(.load false 1 (.t 22)),none⟩,
 ⟨some 24,(.call (.f 129) [(.t 21),(.t 23)]),none⟩,
 ⟨some 25,(.un .not (.t 24)),none⟩]
 [] [9,17,21,22,23,24])
 (.cond (.t 25)
 (.seq
 (.ops [⟨some 26,(.build [.nils,.nils] []),none⟩,
 ⟨some 27,(.build [(.int .i64 (0)),(.int .i64 (0))] []),none⟩,
 ⟨none,(.store 2 (.t 6) (.t 26)),none⟩,
 ⟨none,(.store 2 (.t 7) (.t 27)),none⟩,
 ⟨some 8,(.mv (.c (.int .i64 (2)))),none⟩]
 [] [2,3,4,25,26,27])
 .ret)
 .skip))
 (.seq
 (.ops [⟨some 29,(.mv (.t 2)),none⟩,
 ⟨some 30,(.fad 0 (.t 4)),none⟩,
 ⟨some 31,(.load false 1 (.t 30)),none⟩,
 ⟨some 32,(.fad 2 (.t 4)),none⟩,
 ⟨some 33,(.load true 2 (.t 32)),none⟩,
 ⟨some 34,(.fad 4 (.t 4)),none⟩,
 ⟨some 35,(.load true 2 (.t 34)),none⟩,
 ⟨some 36,(.call (.t 29) [(.t 31),(.t 33),(.t 35)]),none⟩,
 ⟨some 28,(.mv (.t 36)),none⟩,
 ⟨some 37,(.ext (.t 28) 0),none⟩,
 ⟨some 38,(.ext (.t 28) 1),none⟩,
 ⟨some 10,(.allocL (.agg [(.int .i64 (0)),(.int .i64 (0))])),none⟩,
 ⟨none,(.store 2 (.t 10) (.t 37)),none⟩,
 ⟨some 11,(.mv (.t 38)),none⟩]
 [] [2,25,28,29,30,31,32,33,34,35,36,37,38])
 (.seq
 (.seq
 (.ops [⟨some 39,(.mv (.t 11)),none⟩,
 ⟨some 40,(.bin .neq (.t 39) (.c (.int .i64 (0)))),none⟩]
 [] [39])
 (.cond (.t 40)
 (.seq
 (.ops [⟨some 41,(.build [.nils,.nils] []),none⟩,
 ⟨some 42,(.build [(.int .i64 (0)),(.int .i64 (0))] []),none⟩,
 ⟨some 43,(.mv (.t 11)),none⟩,
 ⟨none,(.store 2 (.t 6) (.t 41)),none⟩,
 ⟨none,(.store 2 (.t 7) (.t 42)),none⟩,
 ⟨some 8,(.mv (.t 43)),none⟩]
 [] [3,4,10,11,40,41,42,43])
 .ret)
 .skip))
 (.seq
 (.seq
 (.ops [⟨some 44,(.fad 0 (.t 3)),none⟩,
 ⟨some 45,(.fad 1 (.t 44)),none⟩,
 ⟨some 46,(.load false 1 (.t 45)),none⟩,
 ⟨some 47,(.len (.t 46)),none⟩,
 ⟨some 48,(.bin .geq (.t 47) (.c (.int .i64 (2000)))),none⟩]
 [] [11,40,44,45,46,47])
 (.cond (.t 48)
 (.seq
 (.ops [⟨some 49,(.build [.nils,.nils] []),none⟩,
 ⟨some 50,(.build [(.int .i64 (0)),(.int .i64 (0))] []),none⟩,
 ⟨none,(.store 2 (.t 6) (.t 49)),none⟩,
 ⟨none,(.store 2 (.t 7) (.t 50)),none⟩,
 ⟨some 8,(.mv (.c (.int .i64 (4)))),none⟩]
 [] [3,4,10,48,49,50])
 .ret)
 .skip))
 (.seq
 (.ops [⟨some 51,(.load true 2 (.t 10)),none⟩,
 ⟨some 52,(.fad 6 (.t 4)),none⟩,
 ⟨none,(.store 2 (.t 52) (.t 51)),none⟩]
 [] [48,51,52])
 (.seq
 (.ops [⟨some 53,(.fad 0 (.t 3)),none⟩,
 ⟨some 54,(.fad 1 (.t 53)),none⟩,
 ⟨some 55,(.load false 1 (.t 54)),none⟩,
 ⟨some 56,(.len (.t 55)),none⟩,
 ⟨some 57,(.bin .add (.t 56) (.c (.int .i64 (1)))),none⟩,
 ⟨some 58,(.mkSl true 8 64 (.agg [(.int .i64 (0)),(.int .u8 (0)),(.int .i64 (0)),(.int .i64 (0)),(.int .i64 (0)),(.int .i64 (0)),(.int .i64 (0)),(.int .i64 (0))]) (.c (.int .i64 (0))) (.t 57)),none⟩,
 ⟨some 12,(.mv (.t 58)),none⟩]
 [] [53,54,55,56,57,58])
 (.seq
 (.ops [⟨some 59,(.fad 0 (.t 3)),none⟩,
 ⟨some 60,(.fad 0 (.t 59)),none⟩,
 ⟨some 61,(.load false 1 (.t 60)),none⟩,
 ⟨some 62,(.call (.f 62) [(.t 61)]),none⟩,
 ⟨some 63,(.mv (.t 12)),none⟩,
 ⟨some 64,(.fad 0 (.t 3)),none⟩,
 ⟨some 65,(.fad 1 (.t 64)),none⟩,
 ⟨some 66,(.load false 1 (.t 65)),none⟩,
 ⟨some 67,(.app true 8 64 (.t 63) (.t 66)),none⟩,
 ⟨some 68,(.load true 8 (.t 4)),none⟩,
 ⟨some 69,(.buildD 8 (.agg [(.int .i64 (0)),(.int .u8 (0)),(.int .i64 (0)),(.int .i64 (0)),(.int .i64 (0)),(.int .i64 (0)),(.int .i64 (0)),(.int .i64 (0))]) 1 [(0,(.t 68))]),none⟩,
 ⟨some 70,(.app true 8 64 (.t 67) (.t 69)),none⟩,
 ⟨some 71,(.build [.nils,.nils] [(0,1,(.t 62)),(1,1,(.t 70))]),none⟩,
 ⟨some 72,(.load true 2 (.t 10)),none⟩,
 ⟨none,(.store 2 (.t 6) (.t 71)),none⟩,
 ⟨none,(.store 2 (.t 7) (.t 72)),none⟩,
 ⟨some 8,(.mv (.c (.int .i64 (0)))),none⟩]
 [(0,4),(1,4),(2,4),(3,4),(0,5),(1,5),(2,5),(3,5),(4,5),(0,6),(1,6),(2,6),(3,6),(4,6),(0,7),(1,7),(2,7),(3,7),(4,7),(0,9),(1,9),(2,9),(3,9),(4,9),(5,9),(6,9),(7,9),(8,9),(0,10),(1,10),(2,10),(3,10),(4,10),(5,10),(6,10),(7,10),(8,10),(0,13),(1,13),(2,13),(3,13),(4,13),(5,13),(6,13),(7,13),(8,13),(9,13),(10,13),(11,13),(12,13),(13,14)] [3,4,10,12,59,60,61,62,63,64,65,66,67,68,69,70,71,72])
 .ret)))))))))⟩
def yre:List Nat:=[69,3,4,6,7,10]
def fg85:List (Nat×List Nat):=[(13,[3,4,10,12,59,60,61,62,63,64,65,66,67,68,69,70,71,72]),(12,[53,54,55,56,57,58]),(11,[48,51,52]),(10,[3,4,10,48,49,50]),(9,[11,40,44,45,46,47]),(8,[3,4,10,11,40,41,42,43]),(7,[39]),(6,[2,25,28,29,30,31,32,33,34,35,36,37,38]),(5,[2,3,4,25,26,27]),(4,[9,17,21,22,23,24]),(3,[2,3,4,9,17,18,19,20]),(2,[16]),(1,[13,14,15]),(0,[0,1,8])]
theorem yoL:yaa Tryz.prog yre (fun i=>(fg85.lookup i).getD []) Tryz.f85=some ym3:=by kernel_rfl

-- (parcener/ask.office).mark
def ym4:AFn:=⟨4,[.cell 8 true 2,.tmp 9],
 (.seq
 (.ops [⟨some 4,(.boxL (.t 0)),none⟩,
 ⟨some 6,(.boxL (.t 2)),none⟩,
 ⟨some 7,(.boxL (.t 3)),none⟩,
 ⟨some 8,(.allocL (.agg [(.int .i64 (0)),(.int .i64 (0))])),none⟩,
 ⟨some 9,(.mv (.c (.int .i64 (0)))),none⟩]
 [] [0,2,3,9])
 (.seq
 (.ops [⟨some 10,(.fad 0 (.t 4)),none⟩,
 ⟨some 11,(.fad 0 (.t 10)),none⟩,
 ⟨some 12,(.load false 1 (.t 11)),none⟩,
 ⟨some 13,(.mv (.t 1)),none⟩,
 ⟨some 14,(.iad 3 (.t 12) (.t 13)),none⟩,
 ⟨some 15,(.load true 3 (.t 14)),none⟩,
 ⟨some 16,(.load true 2 (.t 6)),none⟩,
 ⟨some 17,(.load true 2 (.t 7)),none⟩,
 ⟨some 18,(.call (.f 102) [(.t 15),(.t 16),(.t 17)]),none⟩,
 ⟨some 19,(.ext (.t 18) 0),none⟩,
 ⟨some 20,(.ext (.t 18) 1),none⟩,
 ⟨none,(.store 2 (.t 8) (.t 19)),none⟩,
 ⟨some 9,(.mv (.t 20)),none⟩]
 [(0,3),(1,3),(2,3),(0,6),(1,6),(2,6),(3,6),(4,6),(5,6),(0,7),(1,7),(2,7),(3,7),(4,7),(5,7),(6,7),(9,10)] [1,4,6,7,10,11,12,13,14,15,16,17,18,19,20])
 .ret))⟩
def yrf:List Nat:=[4,6,7,8]
def fg86:List (Nat×List Nat):=[(1,[1,4,6,7,10,11,12,13,14,15,16,17,18,19,20]),(0,[0,2,3,9])]
theorem yoM:yaa Tryz.prog yrf (fun i=>(fg86.lookup i).getD []) Tryz.f86=some ym4:=by kernel_rfl

-- parcener/cake.Total
def ym5:AFn:=⟨1,[.tmp 2,.tmp 3],
 (.seq
 (.ops [⟨some 1,(.boxL (.t 0)),none⟩,
 ⟨some 2,(.mv (.c (.int .i64 (0)))),none⟩,
 ⟨some 3,(.mv (.c (.int .i64 (0)))),none⟩]
 [] [0,2,3])
 (.seq
 (.seq
 (.ops [⟨some 8,(.load true 3 (.t 1)),none⟩,
 ⟨some 9,(.call (.f 26) [(.t 8)]),none⟩,
 ⟨some 4,(.mv (.t 9)),none⟩]
 [] [8,9])
 (.seq
 (.ops [⟨some 10,(.mv (.t 4)),none⟩,
 ⟨some 11,(.bin .neq (.t 10) (.c (.int .i64 (0)))),none⟩]
 [] [10])
 (.cond (.t 11)
 (.seq
 (.ops [⟨some 12,(.mv (.t 4)),none⟩,
 ⟨some 2,(.mv (.c (.int .i64 (0)))),none⟩,
 ⟨some 3,(.mv (.t 12)),none⟩]
 [] [1,4,11,12])
 .ret)
 .skip)))
 (.seq
 (.ops [⟨some 5,(.mv (.c (.int .i64 (0)))),none⟩]
 [] [4,11])
 (.seq
 (.seq
 (.ops [⟨some 13,(.fad 2 (.t 1)),none⟩,
 ⟨some 14,(.load false 1 (.t 13)),none⟩,
 ⟨some 15,(.len (.t 14)),none⟩,
 ⟨some 16,(.mv (.c (.int .i64 (0)))),none⟩]
 [] [13])
 (.block 0
 (.loop
 (.seq
 (.ops [⟨some 17,(.bin .lss (.t 16) (.t 15)),none⟩]
 [] [])
 (.seq
 (.cond (.t 17)
 .skip
 (.exit 0))
 (.seq
 (.block 1
 (.seq
 (.ops [⟨some 18,(.mv (.t 16)),none⟩,
 ⟨some 19,(.iad 1 (.t 14) (.t 16)),none⟩,
 ⟨some 20,(.load false 1 (.t 19)),none⟩,
 ⟨some 6,(.mv (.t 18)),none⟩,
 ⟨some 7,(.mv (.t 20)),none⟩]
 [] [17,18,19,20])
 (.ops [⟨some 21,(.mv (.t 5)),none⟩,
 ⟨some 22,(.mv (.t 7)),none⟩,
 ⟨some 23,(.fad 1 (.t 1)),none⟩,
 ⟨some 24,(.load false 1 (.t 23)),none⟩,
 ⟨some 25,(.mv (.t 6)),none⟩,
 ⟨some 26,(.bin .add (.t 25) (.c (.int .i64 (1)))),none⟩,
 ⟨some 27,(.iad 1 (.t 24) (.t 26)),none⟩,
 ⟨some 28,(.load false 1 (.t 27)),none⟩,
 ⟨some 29,(.fad 1 (.t 1)),none⟩,
 ⟨some 30,(.load false 1 (.t 29)),none⟩,
 ⟨some 31,(.mv (.t 6)),none⟩,
 ⟨some 32,(.iad 1 (.t 30) (.t 31)),none⟩,
 ⟨some 33,(.load false 1 (.t 32)),none⟩,
 ⟨some 34,(.bin .sub (.t 28) (.t 33)),none⟩,
 ⟨some 35,(.bin .mul (.t 22) (.t 34)),none⟩,
 ⟨some 36,(.bin .add (.t 21) (.t 35)),none⟩,
 ⟨some 5,(.mv (.t 36)),none⟩]
 [(0,1),(0,2),(1,2),(0,3),(1,3),(0,4),(1,4),(2,4),(3,4),(0,5),(1,5),(2,5),(3,5),(0,6),(1,6),(0,7),(1,7),(0,8),(1,8),(2,8),(3,8),(4,8),(5,8),(6,8),(7,8),(0,9),(1,9),(2,9),(3,9),(4,9),(5,9),(6,9),(7,9),(0,10),(1,10),(2,10),(3,10),(4,10),(5,10),(6,10),(7,10),(8,10),(9,10),(0,11),(1,11),(2,11),(3,11),(4,11),(5,11),(6,11),(7,11),(0,12),(1,12),(2,12),(3,12),(4,12),(5,12),(6,12),(7,12),(0,13),(1,13),(0,14)] [6,7,21,22,23,24,25,26,27,28,29,30,31,32,33,34,35,36])))
 (.ops [⟨some 37,(.bin .add (.t 16) (.c (.int .i64 (1)))),none⟩,
 ⟨some 16,(.mv (.t 37)),none⟩]
 [] [37])))))))
 (.seq
 (.ops [⟨some 38,(.mv (.t 5)),none⟩,
 ⟨some 2,(.mv (.t 38)),none⟩,
 ⟨some 3,(.mv (.c (.int .i64 (0)))),none⟩]
 [] [1,5,14,15,16,17,38])
 .ret)))))⟩
def yrg:List Nat:=[1]
def fg87:List (Nat×List Nat):=[(10,[1,5,14,15,16,17,38]),(9,[37]),(8,[6,7,21,22,23,24,25,26,27,28,29,30,31,32,33,34,35,36]),(7,[17,18,19,20]),(5,[13]),(4,[4,11]),(3,[1,4,11,12]),(2,[10]),(1,[8,9]),(0,[0,2,3])]
theorem yoN:yaa Tryz.prog yrg (fun i=>(fg87.lookup i).getD []) Tryz.f87=some ym5:=by kernel_rfl

-- slices.ContainsFunc[[]parcener/api.Cake,parcener/api.Cake]
def ym6:AFn:=⟨2,[.tmp 4],
 (.seq
 (.ops [⟨some 4,(.mv (.c (.bool false))),none⟩]
 [] [4])
 (.seq
 (.ops [⟨some 5,(.mv (.t 0)),none⟩,
 ⟨some 6,(.mv (.t 1)),none⟩,
 ⟨some 7,(.call (.f 130) [(.t 5),(.t 6)]),none⟩,
 ⟨some 8,(.bin .geq (.t 7) (.c (.int .i64 (0)))),none⟩,
 ⟨some 4,(.mv (.t 8)),none⟩]
 [] [0,1,5,6,7,8])
 .ret))⟩
def yrh:List Nat:=[]
def fg88:List (Nat×List Nat):=[(1,[0,1,5,6,7,8]),(0,[4])]
theorem yoO:yaa Tryz.prog yrh (fun i=>(fg88.lookup i).getD []) Tryz.f88=some ym6:=by kernel_rfl

-- parcener/equal.check$1
def ym7:AFn:=⟨1,[.tmp 2],
 (.seq
 (.ops [⟨some 1,(.boxL (.t 0)),none⟩,
 ⟨some 2,(.mv (.c (.bool false))),none⟩]
 [] [0,2])
 (.seq
 (.ops [⟨some 3,(.fad 2 (.t 1)),none⟩,
 ⟨some 4,(.load false 1 (.t 3)),none⟩,
 ⟨some 5,(.call (.f 90) [(.t 4),(.c (.int .i64 (0)))]),none⟩,
 ⟨some 2,(.mv (.t 5)),none⟩]
 [] [1,3,4,5])
 .ret))⟩
def yri:List Nat:=[1,1000001]
def fg89:List (Nat×List Nat):=[(1,[1,3,4,5]),(0,[0,2])]
theorem yoP:yaa Tryz.prog yri (fun i=>(fg89.lookup i).getD []) Tryz.f89=some ym7:=by kernel_rfl

-- slices.Contains[[]int,int]
def ym8:AFn:=⟨2,[.tmp 4],
 (.seq
 (.ops [⟨some 4,(.mv (.c (.bool false))),none⟩]
 [] [4])
 (.seq
 (.ops [⟨some 5,(.mv (.t 0)),none⟩,
 ⟨some 6,(.mv (.t 1)),none⟩,
 ⟨some 7,(.call (.f 131) [(.t 5),(.t 6)]),none⟩,
 ⟨some 8,(.bin .geq (.t 7) (.c (.int .i64 (0)))),none⟩,
 ⟨some 4,(.mv (.t 8)),none⟩]
 [] [0,1,5,6,7,8])
 .ret))⟩
def yrj:List Nat:=[]
def fg90:List (Nat×List Nat):=[(1,[0,1,5,6,7,8]),(0,[4])]
theorem yoQ:yaa Tryz.prog yrj (fun i=>(fg90.lookup i).getD []) Tryz.f90=some ym8:=by kernel_rfl

-- parcener/equal.orders$1
def ym9:AFn:=⟨2,[],
 (.seq
 (.ops [⟨some 2,(.boxH false 1 (.t 0)),none⟩]
 [] [0])
 (.seq
 (.ops [⟨some 3,(.allocH false 1 .nilf),none⟩]
 [] [])
 (.seq
 (.ops [⟨some 4,(.mkFn (.func 92) [] [(.t 1),(.t 2),(.t 3)]),none⟩,
 ⟨none,(.store 1 (.t 3) (.t 4)),none⟩]
 [] [1,2,4])
 (.ops [⟨some 5,(.load false 1 (.t 3)),none⟩,
 ⟨some 6,(.call (.t 5) [(.c .nils)]),none⟩]
 [] [3,5,6]))))⟩
def yrk:List Nat:=[1000002,1000003]
def fg91:List (Nat×List Nat):=[(3,[3,5,6]),(2,[1,2,4]),(0,[0])]
theorem yoR:yaa Tryz.prog yrk (fun i=>(fg91.lookup i).getD []) Tryz.f91=some ym9:=by kernel_rfl

-- parcener/equal.orders$1$1
def yna:AFn:=⟨4,[.tmp 5],
 (.seq
 (.ops [⟨some 5,(.mv (.c (.bool false))),none⟩]
 [] [5])
 (.seq
 (.seq
 (.ops [⟨some 7,(.mv (.t 0)),none⟩,
 ⟨some 8,(.len (.t 7)),none⟩,
 ⟨some 9,(.load false 1 (.t 1)),none⟩,
 ⟨some 10,(.bin .eql (.t 8) (.t 9)),none⟩]
 [] [7,8,9])
 (.cond (.t 10)
 (.seq
 (.ops [⟨some 11,(.load false 1 (.t 2)),none⟩,
 ⟨some 12,(.mv (.t 0)),none⟩,
 ⟨some 13,(.call (.t 11) [(.t 12)]),none⟩,
 ⟨some 5,(.mv (.t 13)),none⟩]
 [] [0,1,2,3,10,11,12,13])
 .ret)
 .skip))
 (.seq
 (.seq
 (.ops [⟨some 14,(.load false 1 (.t 1)),none⟩,
 ⟨some 15,(.mv (.c (.int .i64 (0)))),none⟩]
 [] [1,2,10])
 (.block 0
 (.loop
 (.seq
 (.ops [⟨some 16,(.bin .lss (.t 15) (.t 14)),none⟩]
 [] [])
 (.seq
 (.cond (.t 16)
 .skip
 (.exit 0))
 (.seq
 (.block 1
 (.seq
 (.ops [⟨some 17,(.mv (.t 15)),none⟩,
 ⟨some 6,(.mv (.t 17)),none⟩]
 [] [16,17])
 (.seq
 (.ops [⟨some 18,(.mv (.t 0)),none⟩,
 ⟨some 19,(.mv (.t 6)),none⟩,
 ⟨some 20,(.call (.f 90) [(.t 18),(.t 19)]),none⟩,
 ⟨some 21,(.un .not (.t 20)),none⟩,
 ⟨some 22,(.mv (.t 21)),none⟩,
 ⟨some 23,(.load false 1 (.t 3)),some (22,true)⟩,
 ⟨some 24,(.mv (.t 0)),some (22,true)⟩,
 ⟨some 25,(.mv (.t 0)),some (22,true)⟩,
 ⟨some 26,(.len (.t 25)),some (22,true)⟩,
 ⟨some 27,(.mv (.t 0)),some (22,true)⟩,
 ⟨some 28,(.len (.t 27)),some (22,true)⟩,
 ⟨some 29,(.slc 1 (.t 24) none (some (.t 26)) (some (.t 28))),some (22,true)⟩,
 ⟨some 30,(.mv (.t 6)),some (22,true)⟩,
 ⟨some 31,(.buildD 1 (.int .i64 (0)) 1 [(0,(.t 30))]),some (22,true)⟩,
 ⟨some 32,(.app true 1 8 (.t 29) (.t 31)),some (22,true)⟩,
 ⟨some 33,(.call (.t 23) [(.t 32)]),some (22,true)⟩,
 ⟨some 34,(.un .not (.t 33)),some (22,true)⟩,
 ⟨some 35,(.pick (.t 22) (.t 34) (.c (.bool false))),none⟩]
 [(0,1),(5,6),(5,7),(6,7),(5,8),(6,8),(5,9),(6,9),(7,9),(8,9),(5,10),(6,10),(7,10),(8,10),(5,11),(5,12),(6,12),(7,12),(8,12),(9,12),(10,12),(11,12),(5,13),(6,13),(7,13),(8,13),(9,13),(10,13),(11,13),(5,14)] [6,18,19,20,21,22,23,24,25,26,27,28,29,30,31,32,33,34])
 (.cond (.t 35)
 (.seq
 (.ops [⟨some 5,(.mv (.c (.bool false))),none⟩]
 [] [0,3,14,15,35])
 .ret)
 .skip))))
 (.ops [⟨some 36,(.bin .add (.t 15) (.c (.int .i64 (1)))),none⟩,
 ⟨some 15,(.mv (.t 36)),none⟩]
 [] [35,36])))))))
 (.seq
 (.ops [⟨some 5,(.mv (.c (.bool true))),none⟩]
 [] [0,3,14,15,16])
 .ret))))⟩
def yrl:List Nat:=[31]
def fg92:List (Nat×List Nat):=[(9,[0,3,14,15,16]),(8,[35,36]),(7,[0,3,14,15,35]),(6,[6,18,19,20,21,22,23,24,25,26,27,28,29,30,31,32,33,34]),(5,[16,17]),(3,[1,2,10]),(2,[0,1,2,3,10,11,12,13]),(1,[7,8,9]),(0,[5])]
theorem yoS:yaa Tryz.prog yrl (fun i=>(fg92.lookup i).getD []) Tryz.f92=some yna:=by kernel_rfl

def tab1:List (Nat×AFn):=[(39,ymk),(40,yml),(41,ymm),(42,ymn),(43,ymo),(44,ymp),(45,ymq),(46,ymr),(47,yms),(48,ymt),(49,ymu),(50,ymv),(51,ymw),(52,ymx),(53,ymy),(54,ymz),(55,ymA),(57,ymB),(58,ymC),(59,ymD),(60,ymE),(61,ymF),(62,ymG),(63,ymH),(64,ymI),(65,ymJ),(66,ymK),(67,ymL),(68,ymM),(69,ymN),(70,ymO),(71,ymP),(72,ymQ),(73,ymR),(74,ymS),(75,ymT),(76,ymU),(77,ymV),(78,ymW),(79,ymX),(80,ymY),(81,ymZ),(82,ym0),(83,ym1),(84,ym2),(85,ym3),(86,ym4),(87,ym5),(88,ym6),(89,ym7),(90,ym8),(91,ym9),(92,yna)]
theorem yoT:yc1 Tryz.prog tab1:=⟨⟨_,_,_,Tryz.func39,yn2⟩,⟨_,_,_,Tryz.func40,yn3⟩,⟨_,_,_,Tryz.func41,yn4⟩,⟨_,_,_,Tryz.func42,yn5⟩,⟨_,_,_,Tryz.func43,yn6⟩,⟨_,_,_,Tryz.func44,yn7⟩,⟨_,_,_,Tryz.func45,yn8⟩,⟨_,_,_,Tryz.func46,yn9⟩,⟨_,_,_,Tryz.func47,yoa⟩,⟨_,_,_,Tryz.func48,yob⟩,⟨_,_,_,Tryz.func49,yoc⟩,⟨_,_,_,Tryz.func50,yod⟩,⟨_,_,_,Tryz.func51,yoe⟩,⟨_,_,_,Tryz.func52,yof⟩,⟨_,_,_,Tryz.func53,yog⟩,⟨_,_,_,Tryz.func54,yoh⟩,⟨_,_,_,Tryz.func55,yoi⟩,⟨_,_,_,Tryz.func57,yoj⟩,⟨_,_,_,Tryz.func58,yok⟩,⟨_,_,_,Tryz.func59,yol⟩,⟨_,_,_,Tryz.func60,yom⟩,⟨_,_,_,Tryz.func61,yon⟩,⟨_,_,_,Tryz.func62,yoo⟩,⟨_,_,_,Tryz.func63,yop⟩,⟨_,_,_,Tryz.func64,yoq⟩,⟨_,_,_,Tryz.func65,yor⟩,⟨_,_,_,Tryz.func66,yos⟩,⟨_,_,_,Tryz.func67,yot⟩,⟨_,_,_,Tryz.func68,you⟩,⟨_,_,_,Tryz.func69,yov⟩,⟨_,_,_,Tryz.func70,yow⟩,⟨_,_,_,Tryz.func71,yox⟩,⟨_,_,_,Tryz.func72,yoy⟩,⟨_,_,_,Tryz.func73,yoz⟩,⟨_,_,_,Tryz.func74,yoA⟩,⟨_,_,_,Tryz.func75,yoB⟩,⟨_,_,_,Tryz.func76,yoC⟩,⟨_,_,_,Tryz.func77,yoD⟩,⟨_,_,_,Tryz.func78,yoE⟩,⟨_,_,_,Tryz.func79,yoF⟩,⟨_,_,_,Tryz.func80,yoG⟩,⟨_,_,_,Tryz.func81,yoH⟩,⟨_,_,_,Tryz.func82,yoI⟩,⟨_,_,_,Tryz.func83,yoJ⟩,⟨_,_,_,Tryz.func84,yoK⟩,⟨_,_,_,Tryz.func85,yoL⟩,⟨_,_,_,Tryz.func86,yoM⟩,⟨_,_,_,Tryz.func87,yoN⟩,⟨_,_,_,Tryz.func88,yoO⟩,⟨_,_,_,Tryz.func89,yoP⟩,⟨_,_,_,Tryz.func90,yoQ⟩,⟨_,_,_,Tryz.func91,yoR⟩,⟨_,_,_,Tryz.func92,yoS⟩,trivial⟩
end Go.Proofs.YtlooeiaiafmikaaGreatDoor.Bn
