/- The functions that the statement BoundsNames runs, in the small code (part 0); each is what the framework makes of the program. -/
import Derived.Test.YtlooeiaiafmikaaGreatDoorBnW3
import Derived.Test.YtlooeiaiafmikaaGreatDoorRows
namespace Go.Proofs.YtlooeiaiafmikaaGreatDoor.Bn
open Go Go.Pf
-- parcener/parcenerlaw45.BoundsNames
def lit3:AFn:=⟨0,[.tmp 0],
 (.seq
 (.ops [⟨some 0,(.mv (.c (.bool false))),none⟩]
 [] [0])
 (.seq
 (.ops [⟨some 43,(.call (.f 4) [(.c (.int .i64 (1))),(.c (.int .i64 (1))),(.c (.int .i64 (-1)))]),none⟩,
 ⟨some 44,(.mv (.t 43)),none⟩,
 ⟨some 45,(.call (.f 4) [(.c (.int .i64 (1))),(.c (.int .i64 (3))),(.c (.int .i64 (-1)))]),some (44,true)⟩,
 ⟨some 46,(.pick (.t 44) (.t 45) (.c (.bool false))),none⟩,
 ⟨some 47,(.mv (.t 46)),none⟩,
 ⟨some 48,(.call (.f 4) [(.c (.int .i64 (2))),(.c (.int .i64 (1))),(.c (.int .i64 (0)))]),some (47,true)⟩,
 ⟨some 49,(.pick (.t 47) (.t 48) (.c (.bool false))),none⟩,
 ⟨some 50,(.mv (.t 49)),none⟩,
 ⟨some 51,(.call (.f 4) [(.c (.int .i64 (2))),(.c (.int .i64 (6))),(.c (.int .i64 (35)))]),some (50,true)⟩,
 ⟨some 52,(.pick (.t 50) (.t 51) (.c (.bool false))),none⟩,
 ⟨some 53,(.mv (.t 52)),none⟩,
 ⟨some 54,(.call (.f 4) [(.c (.int .i64 (2))),(.c (.int .i64 (7))),(.c (.int .i64 (-1)))]),some (53,true)⟩,
 ⟨some 55,(.pick (.t 53) (.t 54) (.c (.bool false))),none⟩,
 ⟨some 56,(.mv (.t 55)),none⟩,
 ⟨some 57,(.call (.f 4) [(.c (.int .i64 (2))),(.c (.int .i64 (0))),(.c (.int .i64 (-1)))]),some (56,true)⟩,
 ⟨some 58,(.pick (.t 56) (.t 57) (.c (.bool false))),none⟩,
 ⟨some 59,(.mv (.t 58)),none⟩,
 ⟨some 60,(.call (.f 4) [(.c (.int .i64 (3))),(.c (.int .i64 (1))),(.c (.int .i64 (0)))]),some (59,true)⟩,
 ⟨some 61,(.pick (.t 59) (.t 60) (.c (.bool false))),none⟩,
 ⟨some 62,(.mv (.t 61)),none⟩,
 ⟨some 63,(.call (.f 4) [(.c (.int .i64 (3))),(.c (.int .i64 (6))),(.c (.int .i64 (30)))]),some (62,true)⟩,
 ⟨some 64,(.pick (.t 62) (.t 63) (.c (.bool false))),none⟩,
 ⟨some 65,(.mv (.t 64)),none⟩,
 ⟨some 66,(.call (.f 4) [(.c (.int .i64 (3))),(.c (.int .i64 (7))),(.c (.int .i64 (-1)))]),some (65,true)⟩,
 ⟨some 67,(.pick (.t 65) (.t 66) (.c (.bool false))),none⟩,
 ⟨some 68,(.mv (.t 67)),none⟩,
 ⟨some 69,(.call (.f 4) [(.c (.int .i64 (4))),(.c (.int .i64 (2))),(.c (.int .i64 (-1)))]),some (68,true)⟩,
 ⟨some 70,(.pick (.t 68) (.t 69) (.c (.bool false))),none⟩,
 ⟨some 71,(.mv (.t 70)),none⟩,
 ⟨some 72,(.call (.f 4) [(.c (.int .i64 (4))),(.c (.int .i64 (4))),(.c (.int .i64 (-1)))]),some (71,true)⟩,
 ⟨some 73,(.pick (.t 71) (.t 72) (.c (.bool false))),none⟩,
 ⟨some 74,(.mv (.t 73)),none⟩,
 ⟨some 75,(.call (.f 4) [(.c (.int .i64 (5))),(.c (.int .i64 (1))),(.c (.int .i64 (0)))]),some (74,true)⟩,
 ⟨some 76,(.pick (.t 74) (.t 75) (.c (.bool false))),none⟩,
 ⟨some 77,(.mv (.t 76)),none⟩,
 ⟨some 78,(.call (.f 4) [(.c (.int .i64 (5))),(.c (.int .i64 (6))),(.c (.int .i64 (20)))]),some (77,true)⟩,
 ⟨some 79,(.pick (.t 77) (.t 78) (.c (.bool false))),none⟩,
 ⟨some 80,(.mv (.t 79)),none⟩,
 ⟨some 81,(.call (.f 4) [(.c (.int .i64 (5))),(.c (.int .i64 (7))),(.c (.int .i64 (-1)))]),some (80,true)⟩,
 ⟨some 82,(.pick (.t 80) (.t 81) (.c (.bool false))),none⟩,
 ⟨some 83,(.mv (.t 82)),none⟩,
 ⟨some 84,(.call (.f 4) [(.c (.int .i64 (6))),(.c (.int .i64 (1))),(.c (.int .i64 (0)))]),some (83,true)⟩,
 ⟨some 85,(.pick (.t 83) (.t 84) (.c (.bool false))),none⟩,
 ⟨some 86,(.mv (.t 85)),none⟩,
 ⟨some 87,(.call (.f 4) [(.c (.int .i64 (6))),(.c (.int .i64 (4))),(.c (.int .i64 (0)))]),some (86,true)⟩,
 ⟨some 88,(.pick (.t 86) (.t 87) (.c (.bool false))),none⟩,
 ⟨some 89,(.mv (.t 88)),none⟩,
 ⟨some 90,(.call (.f 4) [(.c (.int .i64 (6))),(.c (.int .i64 (5))),(.c (.int .i64 (-1)))]),some (89,true)⟩,
 ⟨some 91,(.pick (.t 89) (.t 90) (.c (.bool false))),none⟩,
 ⟨some 92,(.mv (.t 91)),none⟩,
 ⟨some 93,(.call (.f 4) [(.c (.int .i64 (0))),(.c (.int .i64 (2))),(.c (.int .i64 (-1)))]),some (92,true)⟩,
 ⟨some 94,(.pick (.t 92) (.t 93) (.c (.bool false))),none⟩,
 ⟨some 95,(.mv (.t 94)),none⟩,
 ⟨some 96,(.call (.f 4) [(.c (.int .i64 (7))),(.c (.int .i64 (2))),(.c (.int .i64 (-1)))]),some (95,true)⟩,
 ⟨some 97,(.pick (.t 95) (.t 96) (.c (.bool false))),none⟩,
 ⟨some 98,(.mv (.t 97)),none⟩,
 ⟨some 99,(.call (.f 4) [(.c (.int .i64 (-1))),(.c (.int .i64 (3))),(.c (.int .i64 (-1)))]),some (98,true)⟩,
 ⟨some 100,(.pick (.t 98) (.t 99) (.c (.bool false))),none⟩,
 ⟨some 1,(.mv (.t 100)),none⟩]
 [] [43,44,45,46,47,48,49,50,51,52,53,54,55,56,57,58,59,60,61,62,63,64,65,66,67,68,69,70,71,72,73,74,75,76,77,78,79,80,81,82,83,84,85,86,87,88,89,90,91,92,93,94,95,96,97,98,99,100])
 (.seq
 (.ops [⟨some 102,(.call (.f 6) []),none⟩,
 ⟨some 103,(.call (.f 5) [(.t 102),(.c (.int .i64 (2)))]),none⟩,
 ⟨some 101,(.mv (.t 103)),none⟩,
 ⟨some 104,(.ext (.t 101) 0),none⟩,
 ⟨some 105,(.ext (.t 101) 1),none⟩,
 ⟨some 106,(.ext (.t 101) 2),none⟩,
 ⟨some 2,(.mv (.t 104)),none⟩,
 ⟨some 3,(.mv (.t 105)),none⟩,
 ⟨some 4,(.mv (.t 106)),none⟩]
 [] [101,102,103,104,105,106])
 (.seq
 (.ops [⟨some 108,(.call (.f 6) []),none⟩,
 ⟨some 109,(.slc 3 (.t 108) none (some (.c (.int .i64 (2)))) none),none⟩,
 ⟨some 110,(.call (.f 7) [(.t 109)]),none⟩,
 ⟨some 107,(.mv (.t 110)),none⟩,
 ⟨some 111,(.ext (.t 107) 0),none⟩,
 ⟨some 112,(.ext (.t 107) 1),none⟩,
 ⟨some 5,(.mv (.t 111)),none⟩,
 ⟨some 6,(.mv (.t 112)),none⟩]
 [] [107,108,109,110,111,112])
 (.seq
 (.ops [⟨some 114,(.call (.f 6) []),none⟩,
 ⟨some 115,(.slc 3 (.t 114) (some (.c (.int .i64 (2)))) none none),none⟩,
 ⟨some 116,(.call (.f 7) [(.t 115)]),none⟩,
 ⟨some 113,(.mv (.t 116)),none⟩,
 ⟨some 117,(.ext (.t 113) 0),none⟩,
 ⟨some 118,(.ext (.t 113) 1),none⟩,
 ⟨some 7,(.mv (.t 117)),none⟩,
 ⟨some 8,(.mv (.t 118)),none⟩]
 [] [113,114,115,116,117,118])
 (.seq
 (.ops [⟨some 120,(.call (.f 6) []),none⟩,
 ⟨some 121,(.call (.f 8) [(.t 120),(.c (.int .i64 (2))),(.c (.int .i64 (2)))]),none⟩,
 ⟨some 119,(.mv (.t 121)),none⟩,
 ⟨some 122,(.ext (.t 119) 0),none⟩,
 ⟨some 123,(.ext (.t 119) 1),none⟩,
 ⟨some 124,(.ext (.t 119) 2),none⟩,
 ⟨some 9,(.mv (.t 122)),none⟩,
 ⟨some 10,(.mv (.t 123)),none⟩,
 ⟨some 11,(.mv (.t 124)),none⟩]
 [] [119,120,121,122,123,124])
 (.seq
 (.ops [⟨some 126,(.call (.f 6) []),none⟩,
 ⟨some 127,(.slc 3 (.t 126) none (some (.c (.int .i64 (1)))) none),none⟩,
 ⟨some 128,(.call (.f 8) [(.t 127),(.c (.int .i64 (4))),(.c (.int .i64 (3)))]),none⟩,
 ⟨some 125,(.mv (.t 128)),none⟩,
 ⟨some 129,(.ext (.t 125) 0),none⟩,
 ⟨some 130,(.ext (.t 125) 1),none⟩,
 ⟨some 131,(.ext (.t 125) 2),none⟩,
 ⟨some 12,(.mv (.t 129)),none⟩,
 ⟨some 13,(.mv (.t 130)),none⟩,
 ⟨some 14,(.mv (.t 131)),none⟩]
 [] [125,126,127,128,129,130,131])
 (.seq
 (.ops [⟨some 133,(.call (.f 6) []),none⟩,
 ⟨some 134,(.call (.f 8) [(.t 133),(.c (.int .i64 (1))),(.c (.int .i64 (3)))]),none⟩,
 ⟨some 132,(.mv (.t 134)),none⟩,
 ⟨some 135,(.ext (.t 132) 0),none⟩,
 ⟨some 136,(.ext (.t 132) 1),none⟩,
 ⟨some 137,(.ext (.t 132) 2),none⟩,
 ⟨some 15,(.mv (.t 135)),none⟩,
 ⟨some 16,(.mv (.t 136)),none⟩,
 ⟨some 17,(.mv (.t 137)),none⟩]
 [] [15,16,132,133,134,135,136,137])
 (.seq
 (.ops [⟨some 139,(.call (.f 8) [(.c .nils),(.c (.int .i64 (5))),(.c (.int .i64 (1)))]),none⟩,
 ⟨some 138,(.mv (.t 139)),none⟩,
 ⟨some 140,(.ext (.t 138) 0),none⟩,
 ⟨some 141,(.ext (.t 138) 1),none⟩,
 ⟨some 142,(.ext (.t 138) 2),none⟩,
 ⟨some 18,(.mv (.t 140)),none⟩,
 ⟨some 19,(.mv (.t 141)),none⟩,
 ⟨some 20,(.mv (.t 142)),none⟩]
 [] [18,19,138,139,140,141,142])
 (.seq
 (.ops [⟨some 144,(.mkSl true 3 56 (.agg [(.int .i64 (0)),(.data []),(.data [])]) (.c (.int .i64 (7))) (.c (.int .i64 (7)))),none⟩,
 ⟨some 145,(.call (.f 8) [(.t 144),(.c (.int .i64 (2))),(.c (.int .i64 (3)))]),none⟩,
 ⟨some 143,(.mv (.t 145)),none⟩,
 ⟨some 146,(.ext (.t 143) 0),none⟩,
 ⟨some 147,(.ext (.t 143) 1),none⟩,
 ⟨some 148,(.ext (.t 143) 2),none⟩,
 ⟨some 21,(.mv (.t 146)),none⟩,
 ⟨some 22,(.mv (.t 147)),none⟩,
 ⟨some 23,(.mv (.t 148)),none⟩]
 [] [21,22,143,144,145,146,147,148])
 (.seq
 (.ops [⟨some 150,(.call (.f 6) []),none⟩,
 ⟨some 151,(.call (.f 8) [(.t 150),(.c (.int .i64 (6))),(.c (.int .i64 (2)))]),none⟩,
 ⟨some 149,(.mv (.t 151)),none⟩,
 ⟨some 152,(.ext (.t 149) 0),none⟩,
 ⟨some 153,(.ext (.t 149) 1),none⟩,
 ⟨some 154,(.ext (.t 149) 2),none⟩,
 ⟨some 24,(.mv (.t 152)),none⟩,
 ⟨some 25,(.mv (.t 153)),none⟩,
 ⟨some 26,(.mv (.t 154)),none⟩]
 [] [24,25,149,150,151,152,153,154])
 (.seq
 (.ops [⟨some 156,(.build [(.int .i64 (0)),.nils,.nils] []),none⟩,
 ⟨some 157,(.buildD 3 (.agg [(.int .i64 (0)),(.data []),(.data [])]) 1 [(0,(.t 156))]),none⟩,
 ⟨some 158,(.call (.f 8) [(.t 157),(.c (.int .i64 (2))),(.c (.int .i64 (1)))]),none⟩,
 ⟨some 155,(.mv (.t 158)),none⟩,
 ⟨some 159,(.ext (.t 155) 0),none⟩,
 ⟨some 160,(.ext (.t 155) 1),none⟩,
 ⟨some 161,(.ext (.t 155) 2),none⟩,
 ⟨some 27,(.mv (.t 159)),none⟩,
 ⟨some 28,(.mv (.t 160)),none⟩,
 ⟨some 29,(.mv (.t 161)),none⟩]
 [] [27,28,155,156,157,158,159,160,161])
 (.seq
 (.ops [⟨some 163,(.call (.f 5) [(.c .nils),(.c (.int .i64 (2)))]),none⟩,
 ⟨some 162,(.mv (.t 163)),none⟩,
 ⟨some 164,(.ext (.t 162) 0),none⟩,
 ⟨some 165,(.ext (.t 162) 1),none⟩,
 ⟨some 166,(.ext (.t 162) 2),none⟩,
 ⟨some 30,(.mv (.t 164)),none⟩,
 ⟨some 31,(.mv (.t 165)),none⟩,
 ⟨some 32,(.mv (.t 166)),none⟩]
 [] [30,31,162,163,164,165,166])
 (.seq
 (.ops [⟨some 168,(.call (.f 6) []),none⟩,
 ⟨some 169,(.call (.f 5) [(.t 168),(.c (.int .i64 (1)))]),none⟩,
 ⟨some 167,(.mv (.t 169)),none⟩,
 ⟨some 170,(.ext (.t 167) 0),none⟩,
 ⟨some 171,(.ext (.t 167) 1),none⟩,
 ⟨some 172,(.ext (.t 167) 2),none⟩,
 ⟨some 33,(.mv (.t 170)),none⟩,
 ⟨some 34,(.mv (.t 171)),none⟩,
 ⟨some 35,(.mv (.t 172)),none⟩]
 [] [33,34,167,168,169,170,171,172])
 (.seq
 (.ops [⟨some 174,(.call (.f 7) [(.c .nils)]),none⟩,
 ⟨some 173,(.mv (.t 174)),none⟩,
 ⟨some 175,(.ext (.t 173) 0),none⟩,
 ⟨some 176,(.ext (.t 173) 1),none⟩,
 ⟨some 36,(.mv (.t 175)),none⟩,
 ⟨some 37,(.mv (.t 176)),none⟩]
 [] [36,173,174,175,176])
 (.seq
 (.ops [⟨some 178,(.mkSl true 3 56 (.agg [(.int .i64 (0)),(.data []),(.data [])]) (.c (.int .i64 (257))) (.c (.int .i64 (257)))),none⟩,
 ⟨some 179,(.call (.f 8) [(.t 178),(.c (.int .i64 (2))),(.c (.int .i64 (1)))]),none⟩,
 ⟨some 177,(.mv (.t 179)),none⟩,
 ⟨some 180,(.ext (.t 177) 0),none⟩,
 ⟨some 181,(.ext (.t 177) 1),none⟩,
 ⟨some 182,(.ext (.t 177) 2),none⟩,
 ⟨some 38,(.mv (.t 180)),none⟩,
 ⟨some 39,(.mv (.t 181)),none⟩,
 ⟨some 40,(.mv (.t 182)),none⟩]
 [] [38,39,177,178,179,180,181,182])
 (.seq
 (.ops [⟨some 183,(.mv (.t 4)),none⟩,
 ⟨some 184,(.bin .eql (.t 183) (.c (.int .i64 (0)))),none⟩,
 ⟨some 185,(.mv (.t 184)),none⟩,
 ⟨some 186,(.mv (.t 2)),some (185,true)⟩,
 ⟨some 187,(.bin .eql (.t 186) (.c (.int .i64 (6)))),some (185,true)⟩,
 ⟨some 188,(.pick (.t 185) (.t 187) (.c (.bool false))),none⟩,
 ⟨some 189,(.mv (.t 188)),none⟩,
 ⟨some 190,(.mv (.t 3)),some (189,true)⟩,
 ⟨some 191,(.buildD 1 (.int .i64 (0)) 3 [(0,(.c (.int .i64 (2)))),(1,(.c (.int .i64 (2)))),(2,(.c (.int .i64 (2))))]),some (189,true)⟩,
 ⟨some 192,(.call (.f 9) [(.t 190),(.t 191)]),some (189,true)⟩,
 ⟨some 193,(.pick (.t 189) (.t 192) (.c (.bool false))),none⟩,
 ⟨some 194,(.mv (.t 193)),none⟩,
 ⟨some 195,(.mv (.t 6)),some (194,true)⟩,
 ⟨some 196,(.bin .eql (.t 195) (.c (.int .i64 (0)))),some (194,true)⟩,
 ⟨some 197,(.pick (.t 194) (.t 196) (.c (.bool false))),none⟩,
 ⟨some 198,(.mv (.t 197)),none⟩,
 ⟨some 199,(.mv (.t 5)),some (198,true)⟩,
 ⟨some 200,(.buildD 1 (.int .i64 (0)) 6 [(0,(.c (.int .i64 (2)))),(1,(.c (.int .i64 (2)))),(2,(.c (.int .i64 (2)))),(3,(.c (.int .i64 (-1)))),(4,(.c (.int .i64 (2)))),(5,(.c (.int .i64 (0))))]),some (198,true)⟩,
 ⟨some 201,(.call (.f 9) [(.t 199),(.t 200)]),some (198,true)⟩,
 ⟨some 202,(.pick (.t 198) (.t 201) (.c (.bool false))),none⟩,
 ⟨some 203,(.mv (.t 202)),none⟩,
 ⟨some 204,(.mv (.t 8)),some (203,true)⟩,
 ⟨some 205,(.bin .eql (.t 204) (.c (.int .i64 (0)))),some (203,true)⟩,
 ⟨some 206,(.pick (.t 203) (.t 205) (.c (.bool false))),none⟩,
 ⟨some 207,(.mv (.t 206)),none⟩,
 ⟨some 208,(.mv (.t 7)),some (207,true)⟩,
 ⟨some 209,(.buildD 1 (.int .i64 (0)) 6 [(0,(.c (.int .i64 (-1)))),(1,(.c (.int .i64 (0)))),(2,(.c (.int .i64 (0)))),(3,(.c (.int .i64 (-1)))),(4,(.c (.int .i64 (0)))),(5,(.c (.int .i64 (-1))))]),some (207,true)⟩,
 ⟨some 210,(.call (.f 9) [(.t 208),(.t 209)]),some (207,true)⟩,
 ⟨some 211,(.pick (.t 207) (.t 210) (.c (.bool false))),none⟩,
 ⟨some 41,(.mv (.t 211)),none⟩]
 [] [2,3,4,5,6,7,8,183,184,185,186,187,188,189,190,191,192,193,194,195,196,197,198,199,200,201,202,203,204,205,206,207,208,209,210,211])
 (.seq
 (.ops [⟨some 212,(.mv (.t 11)),none⟩,
 ⟨some 213,(.bin .eql (.t 212) (.c (.int .i64 (0)))),none⟩,
 ⟨some 214,(.mv (.t 213)),none⟩,
 ⟨some 215,(.mv (.t 9)),some (214,true)⟩,
 ⟨some 216,(.bin .eql (.t 215) (.c (.int .i64 (3)))),some (214,true)⟩,
 ⟨some 217,(.pick (.t 214) (.t 216) (.c (.bool false))),none⟩,
 ⟨some 218,(.mv (.t 217)),none⟩,
 ⟨some 219,(.mv (.t 10)),some (218,true)⟩,
 ⟨some 220,(.buildD 1 (.int .i64 (0)) 2 [(0,(.c (.int .i64 (0)))),(1,(.c (.int .i64 (2))))]),some (218,true)⟩,
 ⟨some 221,(.call (.f 9) [(.t 219),(.t 220)]),some (218,true)⟩,
 ⟨some 222,(.pick (.t 218) (.t 221) (.c (.bool false))),none⟩,
 ⟨some 223,(.mv (.t 222)),none⟩,
 ⟨some 224,(.mv (.t 14)),some (223,true)⟩,
 ⟨some 225,(.bin .eql (.t 224) (.c (.int .i64 (0)))),some (223,true)⟩,
 ⟨some 226,(.pick (.t 223) (.t 225) (.c (.bool false))),none⟩,
 ⟨some 227,(.mv (.t 226)),none⟩,
 ⟨some 228,(.mv (.t 12)),some (227,true)⟩,
 ⟨some 229,(.bin .eql (.t 228) (.c (.int .i64 (7)))),some (227,true)⟩,
 ⟨some 230,(.pick (.t 227) (.t 229) (.c (.bool false))),none⟩,
 ⟨some 231,(.mv (.t 230)),none⟩,
 ⟨some 232,(.mv (.t 13)),some (231,true)⟩,
 ⟨some 233,(.buildD 1 (.int .i64 (0)) 3 [(0,(.c (.int .i64 (0)))),(1,(.c (.int .i64 (0)))),(2,(.c (.int .i64 (0))))]),some (231,true)⟩,
 ⟨some 234,(.call (.f 9) [(.t 232),(.t 233)]),some (231,true)⟩,
 ⟨some 235,(.pick (.t 231) (.t 234) (.c (.bool false))),none⟩,
 ⟨some 42,(.mv (.t 235)),none⟩]
 [] [9,10,11,12,13,14,212,213,214,215,216,217,218,219,220,221,222,223,224,225,226,227,228,229,230,231,232,233,234,235])
 (.seq
 (.ops [⟨some 236,(.mv (.c (.bool true))),none⟩,
 ⟨some 237,(.mv (.t 1)),some (236,true)⟩,
 ⟨some 238,(.pick (.t 236) (.t 237) (.c (.bool false))),none⟩,
 ⟨some 239,(.mv (.t 238)),none⟩,
 ⟨some 240,(.mv (.t 41)),some (239,true)⟩,
 ⟨some 241,(.pick (.t 239) (.t 240) (.c (.bool false))),none⟩,
 ⟨some 242,(.mv (.t 241)),none⟩,
 ⟨some 243,(.mv (.t 42)),some (242,true)⟩,
 ⟨some 244,(.pick (.t 242) (.t 243) (.c (.bool false))),none⟩,
 ⟨some 245,(.mv (.t 244)),none⟩,
 ⟨some 246,(.mv (.t 17)),some (245,true)⟩,
 ⟨some 247,(.bin .eql (.t 246) (.c (.int .i64 (2)))),some (245,true)⟩,
 ⟨some 248,(.pick (.t 245) (.t 247) (.c (.bool false))),none⟩,
 ⟨some 249,(.mv (.t 248)),none⟩,
 ⟨some 250,(.mv (.t 20)),some (249,true)⟩,
 ⟨some 251,(.bin .eql (.t 250) (.c (.int .i64 (8)))),some (249,true)⟩,
 ⟨some 252,(.pick (.t 249) (.t 251) (.c (.bool false))),none⟩,
 ⟨some 253,(.mv (.t 252)),none⟩,
 ⟨some 254,(.mv (.t 23)),some (253,true)⟩,
 ⟨some 255,(.bin .eql (.t 254) (.c (.int .i64 (4)))),some (253,true)⟩,
 ⟨some 256,(.pick (.t 253) (.t 255) (.c (.bool false))),none⟩,
 ⟨some 257,(.mv (.t 256)),none⟩,
 ⟨some 258,(.mv (.t 26)),some (257,true)⟩,
 ⟨some 259,(.bin .eql (.t 258) (.c (.int .i64 (2)))),some (257,true)⟩,
 ⟨some 260,(.pick (.t 257) (.t 259) (.c (.bool false))),none⟩,
 ⟨some 261,(.mv (.t 260)),none⟩,
 ⟨some 262,(.mv (.t 29)),some (261,true)⟩,
 ⟨some 263,(.bin .eql (.t 262) (.c (.int .i64 (8)))),some (261,true)⟩,
 ⟨some 264,(.pick (.t 261) (.t 263) (.c (.bool false))),none⟩,
 ⟨some 265,(.mv (.t 264)),none⟩,
 ⟨some 266,(.mv (.t 32)),some (265,true)⟩,
 ⟨some 267,(.bin .eql (.t 266) (.c (.int .i64 (8)))),some (265,true)⟩,
 ⟨some 268,(.pick (.t 265) (.t 267) (.c (.bool false))),none⟩,
 ⟨some 269,(.mv (.t 268)),none⟩,
 ⟨some 270,(.mv (.t 35)),some (269,true)⟩,
 ⟨some 271,(.bin .eql (.t 270) (.c (.int .i64 (2)))),some (269,true)⟩,
 ⟨some 272,(.pick (.t 269) (.t 271) (.c (.bool false))),none⟩,
 ⟨some 273,(.mv (.t 272)),none⟩,
 ⟨some 274,(.mv (.t 37)),some (273,true)⟩,
 ⟨some 275,(.bin .eql (.t 274) (.c (.int .i64 (8)))),some (273,true)⟩,
 ⟨some 276,(.pick (.t 273) (.t 275) (.c (.bool false))),none⟩,
 ⟨some 277,(.mv (.t 276)),none⟩,
 ⟨some 278,(.mv (.t 40)),some (277,true)⟩,
 ⟨some 279,(.bin .eql (.t 278) (.c (.int .i64 (4)))),some (277,true)⟩,
 ⟨some 280,(.pick (.t 277) (.t 279) (.c (.bool false))),none⟩,
 ⟨some 281,(.mv (.t 280)),none⟩,
 ⟨some 282,(.call (.f 10) []),some (281,true)⟩,
 ⟨some 283,(.pick (.t 281) (.t 282) (.c (.bool false))),none⟩,
 ⟨some 0,(.mv (.t 283)),none⟩]
 [] [1,17,20,23,26,29,32,35,37,40,41,42,236,237,238,239,240,241,242,243,244,245,246,247,248,249,250,251,252,253,254,255,256,257,258,259,260,261,262,263,264,265,266,267,268,269,270,271,272,273,274,275,276,277,278,279,280,281,282,283])
 .ret)))))))))))))))))))⟩
def loc3:List Nat:=[157,191,200,209,220,233]
def fg3:List (Nat×List Nat):=[(18,[1,17,20,23,26,29,32,35,37,40,41,42,236,237,238,239,240,241,242,243,244,245,246,247,248,249,250,251,252,253,254,255,256,257,258,259,260,261,262,263,264,265,266,267,268,269,270,271,272,273,274,275,276,277,278,279,280,281,282,283]),(17,[9,10,11,12,13,14,212,213,214,215,216,217,218,219,220,221,222,223,224,225,226,227,228,229,230,231,232,233,234,235]),(16,[2,3,4,5,6,7,8,183,184,185,186,187,188,189,190,191,192,193,194,195,196,197,198,199,200,201,202,203,204,205,206,207,208,209,210,211]),(15,[38,39,177,178,179,180,181,182]),(14,[36,173,174,175,176]),(13,[33,34,167,168,169,170,171,172]),(12,[30,31,162,163,164,165,166]),(11,[27,28,155,156,157,158,159,160,161]),(10,[24,25,149,150,151,152,153,154]),(9,[21,22,143,144,145,146,147,148]),(8,[18,19,138,139,140,141,142]),(7,[15,16,132,133,134,135,136,137]),(6,[125,126,127,128,129,130,131]),(5,[119,120,121,122,123,124]),(4,[113,114,115,116,117,118]),(3,[107,108,109,110,111,112]),(2,[101,102,103,104,105,106]),(1,[43,44,45,46,47,48,49,50,51,52,53,54,55,56,57,58,59,60,61,62,63,64,65,66,67,68,69,70,71,72,73,74,75,76,77,78,79,80,81,82,83,84,85,86,87,88,89,90,91,92,93,94,95,96,97,98,99,100]),(0,[0])]
theorem ypX:yaa Tryz.prog loc3 (fun i=>(fg3.lookup i).getD []) Tryz.f3=some lit3:=by kernel_rfl

-- parcener/parcenerlaw45.bound
def lit4:AFn:=⟨3,[.tmp 6],
 (.seq
 (.ops [⟨some 6,(.mv (.c (.bool false))),none⟩]
 [] [6])
 (.seq
 (.ops [⟨some 10,(.mv (.t 0)),none⟩,
 ⟨some 11,(.mv (.t 1)),none⟩,
 ⟨some 12,(.call (.f 11) [(.t 10),(.t 11)]),none⟩,
 ⟨some 9,(.mv (.t 12)),none⟩,
 ⟨some 13,(.ext (.t 9) 0),none⟩,
 ⟨some 14,(.ext (.t 9) 1),none⟩,
 ⟨some 7,(.mv (.t 13)),none⟩,
 ⟨some 8,(.mv (.t 14)),none⟩]
 [] [0,1,9,10,11,12,13,14])
 (.seq
 (.seq
 (.ops [⟨some 15,(.mv (.t 2)),none⟩,
 ⟨some 16,(.bin .lss (.t 15) (.c (.int .i64 (0)))),none⟩]
 [] [15])
 (.cond (.t 16)
 (.seq
 (.ops [⟨some 17,(.mv (.t 8)),none⟩,
 ⟨some 18,(.bin .eql (.t 17) (.c (.int .i64 (2)))),none⟩,
 ⟨some 19,(.mv (.t 18)),none⟩,
 ⟨some 20,(.mv (.t 7)),some (19,true)⟩,
 ⟨some 21,(.bin .eql (.t 20) (.c (.int .i64 (0)))),some (19,true)⟩,
 ⟨some 22,(.pick (.t 19) (.t 21) (.c (.bool false))),none⟩,
 ⟨some 6,(.mv (.t 22)),none⟩]
 [] [2,7,8,16,17,18,19,20,21,22])
 .ret)
 .skip))
 (.seq
 (.ops [⟨some 23,(.mv (.t 8)),none⟩,
 ⟨some 24,(.bin .eql (.t 23) (.c (.int .i64 (0)))),none⟩,
 ⟨some 25,(.mv (.t 24)),none⟩,
 ⟨some 26,(.mv (.t 7)),some (25,true)⟩,
 ⟨some 27,(.mv (.t 2)),some (25,true)⟩,
 ⟨some 28,(.bin .eql (.t 26) (.t 27)),some (25,true)⟩,
 ⟨some 29,(.pick (.t 25) (.t 28) (.c (.bool false))),none⟩,
 ⟨some 6,(.mv (.t 29)),none⟩]
 [] [2,7,8,16,23,24,25,26,27,28,29])
 .ret))))⟩
def loc4:List Nat:=[]
def fg4:List (Nat×List Nat):=[(4,[2,7,8,16,23,24,25,26,27,28,29]),(3,[2,7,8,16,17,18,19,20,21,22]),(2,[15]),(1,[0,1,9,10,11,12,13,14]),(0,[6])]
theorem ypY:yaa Tryz.prog loc4 (fun i=>(fg4.lookup i).getD []) Tryz.f4=some lit4:=by kernel_rfl

-- parcener/bounds.Count
def lit5:AFn:=⟨2,[.tmp 4,.tmp 5,.tmp 6],
 (.seq
 (.ops [⟨some 4,(.mv (.c (.int .i64 (0)))),none⟩,
 ⟨some 5,(.mv (.c .nils)),none⟩,
 ⟨some 6,(.mv (.c (.int .i64 (0)))),none⟩]
 [] [4,5,6])
 (.seq
 (.ops [⟨some 14,(.mv (.t 0)),none⟩,
 ⟨some 15,(.mv (.t 1)),none⟩,
 ⟨some 16,(.call (.f 12) [(.t 14),(.t 15)]),none⟩,
 ⟨some 13,(.mv (.t 16)),none⟩,
 ⟨some 17,(.ext (.t 13) 0),none⟩,
 ⟨some 18,(.ext (.t 13) 1),none⟩,
 ⟨some 19,(.ext (.t 13) 2),none⟩,
 ⟨some 7,(.allocL (.agg [.nils])),none⟩,
 ⟨none,(.store 1 (.t 7) (.t 17)),none⟩,
 ⟨some 8,(.mv (.t 18)),none⟩,
 ⟨some 9,(.mv (.t 19)),none⟩]
 [] [1,7,13,14,15,16,17,18,19])
 (.seq
 (.seq
 (.ops [⟨some 20,(.mv (.t 9)),none⟩,
 ⟨some 21,(.bin .neq (.t 20) (.c (.int .i64 (0)))),none⟩]
 [] [20])
 (.cond (.t 21)
 (.seq
 (.ops [⟨some 22,(.mv (.t 9)),none⟩,
 ⟨some 4,(.mv (.c (.int .i64 (0)))),none⟩,
 ⟨some 5,(.mv (.c .nils)),none⟩,
 ⟨some 6,(.mv (.t 22)),none⟩]
 [] [0,8,9,21,22])
 .ret)
 .skip))
 (.seq
 (.ops [⟨some 23,(.mv (.t 0)),none⟩,
 ⟨some 24,(.len (.t 23)),none⟩,
 ⟨some 25,(.mkSl true 1 8 (.int .i64 (0)) (.t 24) (.t 24)),none⟩,
 ⟨some 10,(.mv (.t 25)),none⟩]
 [] [0,9,21,23,24,25])
 (.seq
 (.seq
 (.ops [⟨some 26,(.mv (.t 8)),none⟩,
 ⟨some 27,(.len (.t 26)),none⟩,
 ⟨some 28,(.mv (.c (.int .i64 (0)))),none⟩]
 [] [])
 (.block 0
 (.loop
 (.seq
 (.ops [⟨some 29,(.bin .lss (.t 28) (.t 27)),none⟩]
 [] [])
 (.seq
 (.cond (.t 29)
 .skip
 (.exit 0))
 (.seq
 (.block 1
 (.seq
 (.ops [⟨some 30,(.iad 8 (.t 26) (.t 28)),none⟩,
 ⟨some 31,(.load true 8 (.t 30)),none⟩,
 ⟨some 12,(.allocL (.agg [(.int .i64 (0)),(.int .u8 (0)),(.int .i64 (0)),(.int .i64 (0)),(.int .i64 (0)),(.int .i64 (0)),(.int .i64 (0)),(.int .i64 (0))])),none⟩,
 ⟨none,(.store 8 (.t 12) (.t 31)),none⟩]
 [] [29,30,31])
 (.ops [⟨some 32,(.mv (.t 10)),none⟩,
 ⟨some 33,(.fad 0 (.t 12)),none⟩,
 ⟨some 34,(.load false 1 (.t 33)),none⟩,
 ⟨some 35,(.iad 1 (.t 32) (.t 34)),none⟩,
 ⟨some 36,(.load false 1 (.t 35)),none⟩,
 ⟨some 37,(.bin .add (.t 36) (.c (.int .i64 (1)))),none⟩,
 ⟨some 38,(.iad 1 (.t 32) (.t 34)),none⟩,
 ⟨none,(.store 1 (.t 38) (.t 37)),none⟩]
 [] [12,32,33,34,35,36,37,38])))
 (.ops [⟨some 39,(.bin .add (.t 28) (.c (.int .i64 (1)))),none⟩,
 ⟨some 28,(.mv (.t 39)),none⟩]
 [] [39])))))))
 (.seq
 (.ops [⟨some 40,(.mv (.t 8)),none⟩,
 ⟨some 41,(.len (.t 40)),none⟩,
 ⟨some 42,(.mv (.t 10)),none⟩,
 ⟨some 4,(.mv (.t 41)),none⟩,
 ⟨some 5,(.mv (.t 42)),none⟩,
 ⟨some 6,(.mv (.c (.int .i64 (0)))),none⟩]
 [] [8,10,26,27,28,29,40,41,42])
 .ret))))))⟩
def loc5:List Nat:=[7,12]
def fg5:List (Nat×List Nat):=[(10,[8,10,26,27,28,29,40,41,42]),(9,[39]),(8,[12,32,33,34,35,36,37,38]),(7,[29,30,31]),(4,[0,9,21,23,24,25]),(3,[0,8,9,21,22]),(2,[20]),(1,[1,7,13,14,15,16,17,18,19]),(0,[4,5,6])]
theorem ypZ:yaa Tryz.prog loc5 (fun i=>(fg5.lookup i).getD []) Tryz.f5=some lit5:=by kernel_rfl

-- parcener/parcenerlaw45.three
def lit6:AFn:=⟨0,[.tmp 0],
 (.seq
 (.ops [⟨some 0,(.mv (.c .nils)),none⟩]
 [] [0])
 (.seq
 (.ops [⟨some 1,(.buildD 1 (.int .i64 (0)) 2 [(0,(.c (.int .i64 (0)))),(1,(.c (.int .i64 (6))))]),none⟩,
 ⟨some 2,(.buildD 1 (.int .i64 (0)) 1 [(0,(.c (.int .i64 (1))))]),none⟩,
 ⟨some 3,(.build [(.int .i64 (0)),.nils,.nils] [(0,1,(.c (.int .i64 (6)))),(1,1,(.t 1)),(2,1,(.t 2))]),none⟩,
 ⟨some 4,(.buildD 1 (.int .i64 (0)) 3 [(0,(.c (.int .i64 (0)))),(1,(.c (.int .i64 (4)))),(2,(.c (.int .i64 (6))))]),none⟩,
 ⟨some 5,(.buildD 1 (.int .i64 (0)) 2 [(0,(.c (.int .i64 (1)))),(1,(.c (.int .i64 (4))))]),none⟩,
 ⟨some 6,(.build [(.int .i64 (0)),.nils,.nils] [(0,1,(.c (.int .i64 (6)))),(1,1,(.t 4)),(2,1,(.t 5))]),none⟩,
 ⟨some 7,(.buildD 1 (.int .i64 (0)) 3 [(0,(.c (.int .i64 (0)))),(1,(.c (.int .i64 (2)))),(2,(.c (.int .i64 (6))))]),none⟩,
 ⟨some 8,(.buildD 1 (.int .i64 (0)) 2 [(0,(.c (.int .i64 (2)))),(1,(.c (.int .i64 (0))))]),none⟩,
 ⟨some 9,(.build [(.int .i64 (0)),.nils,.nils] [(0,1,(.c (.int .i64 (6)))),(1,1,(.t 7)),(2,1,(.t 8))]),none⟩,
 ⟨some 10,(.buildSl true 3 (.agg [(.int .i64 (0)),(.data []),(.data [])]) 3 [(0,(.t 3)),(1,(.t 6)),(2,(.t 9))]),none⟩,
 ⟨some 0,(.mv (.t 10)),none⟩]
 [] [1,2,3,4,5,6,7,8,9,10])
 .ret))⟩
def loc6:List Nat:=[1,2,4,5,7,8]
def fg6:List (Nat×List Nat):=[(1,[1,2,3,4,5,6,7,8,9,10]),(0,[0])]
theorem yp0:yaa Tryz.prog loc6 (fun i=>(fg6.lookup i).getD []) Tryz.f6=some lit6:=by kernel_rfl

-- parcener/bounds.Table
def lit7:AFn:=⟨1,[.tmp 2,.tmp 3],
 (.seq
 (.ops [⟨some 2,(.mv (.c .nils)),none⟩,
 ⟨some 3,(.mv (.c (.int .i64 (0)))),none⟩]
 [] [2,3])
 (.seq
 (.seq
 (.ops [⟨some 10,(.mv (.t 0)),none⟩,
 ⟨some 11,(.build [.nils,.nils] [(0,1,(.t 10))]),none⟩,
 ⟨some 12,(.call (.f 13) [(.t 11)]),none⟩,
 ⟨some 4,(.mv (.t 12)),none⟩]
 [] [10,11,12])
 (.seq
 (.ops [⟨some 13,(.mv (.t 4)),none⟩,
 ⟨some 14,(.bin .neq (.t 13) (.c (.int .i64 (0)))),none⟩]
 [] [13])
 (.cond (.t 14)
 (.seq
 (.ops [⟨some 15,(.mv (.t 4)),none⟩,
 ⟨some 2,(.mv (.c .nils)),none⟩,
 ⟨some 3,(.mv (.t 15)),none⟩]
 [] [0,4,14,15])
 .ret)
 .skip)))
 (.seq
 (.ops [⟨some 16,(.mkSl true 1 8 (.int .i64 (0)) (.c (.int .i64 (6))) (.c (.int .i64 (6)))),none⟩,
 ⟨some 5,(.mv (.t 16)),none⟩]
 [] [4,14,16])
 (.seq
 (.seq
 (.ops [⟨some 17,(.mv (.t 5)),none⟩,
 ⟨some 18,(.len (.t 17)),none⟩,
 ⟨some 19,(.mv (.c (.int .i64 (0)))),none⟩]
 [] [17])
 (.block 0
 (.loop
 (.seq
 (.ops [⟨some 20,(.bin .lss (.t 19) (.t 18)),none⟩]
 [] [])
 (.seq
 (.cond (.t 20)
 .skip
 (.exit 0))
 (.seq
 (.block 1
 (.seq
 (.ops [⟨some 21,(.mv (.t 19)),none⟩,
 ⟨some 6,(.mv (.t 21)),none⟩]
 [] [20,21])
 (.seq
 (.ops [⟨some 23,(.mv (.t 0)),none⟩,
 ⟨some 24,(.mv (.t 6)),none⟩,
 ⟨some 25,(.bin .add (.t 24) (.c (.int .i64 (1)))),none⟩,
 ⟨some 26,(.call (.f 5) [(.t 23),(.t 25)]),none⟩,
 ⟨some 22,(.mv (.t 26)),none⟩,
 ⟨some 27,(.ext (.t 22) 0),none⟩,
 ⟨some 28,(.ext (.t 22) 1),none⟩,
 ⟨some 29,(.ext (.t 22) 2),none⟩,
 ⟨some 7,(.mv (.t 27)),none⟩,
 ⟨some 8,(.mv (.t 28)),none⟩,
 ⟨some 9,(.mv (.t 29)),none⟩]
 [] [8,22,23,24,25,26,27,28,29])
 (.seq
 (.seq
 (.ops [⟨some 30,(.mv (.t 9)),none⟩,
 ⟨some 31,(.bin .neq (.t 30) (.c (.int .i64 (0)))),none⟩]
 [] [9,30])
 (.cond (.t 31)
 (.ops [⟨some 7,(.mv (.c (.int .i64 (-1)))),none⟩]
 [] [31])
 .skip))
 (.ops [⟨some 32,(.mv (.t 5)),none⟩,
 ⟨some 33,(.mv (.t 6)),none⟩,
 ⟨some 34,(.mv (.t 7)),none⟩,
 ⟨some 35,(.iad 1 (.t 32) (.t 33)),none⟩,
 ⟨none,(.store 1 (.t 35) (.t 34)),none⟩]
 [] [6,7,31,32,33,34,35])))))
 (.ops [⟨some 36,(.bin .add (.t 19) (.c (.int .i64 (1)))),none⟩,
 ⟨some 19,(.mv (.t 36)),none⟩]
 [] [36])))))))
 (.seq
 (.ops [⟨some 37,(.mv (.t 5)),none⟩,
 ⟨some 2,(.mv (.t 37)),none⟩,
 ⟨some 3,(.mv (.c (.int .i64 (0)))),none⟩]
 [] [0,5,18,19,20,37])
 .ret)))))⟩
def loc7:List Nat:=[]
def fg7:List (Nat×List Nat):=[(13,[0,5,18,19,20,37]),(12,[36]),(11,[6,7,31,32,33,34,35]),(10,[31]),(9,[9,30]),(8,[8,22,23,24,25,26,27,28,29]),(7,[20,21]),(5,[17]),(4,[4,14,16]),(3,[0,4,14,15]),(2,[13]),(1,[10,11,12]),(0,[2,3])]
theorem yp1:yaa Tryz.prog loc7 (fun i=>(fg7.lookup i).getD []) Tryz.f7=some lit7:=by kernel_rfl

-- parcener/bounds.Worst
def lit8:AFn:=⟨3,[.tmp 6,.tmp 7,.tmp 8],
 (.seq
 (.ops [⟨some 6,(.mv (.c (.int .i64 (0)))),none⟩,
 ⟨some 7,(.mv (.c .nils)),none⟩,
 ⟨some 8,(.mv (.c (.int .i64 (0)))),none⟩]
 [] [6,7,8])
 (.seq
 (.seq
 (.ops [⟨some 20,(.mv (.t 1)),none⟩,
 ⟨some 21,(.mv (.t 2)),none⟩,
 ⟨some 22,(.call (.f 14) [(.t 20),(.t 21)]),none⟩,
 ⟨some 23,(.un .not (.t 22)),none⟩]
 [] [20,21,22])
 (.cond (.t 23)
 (.seq
 (.ops [⟨some 6,(.mv (.c (.int .i64 (0)))),none⟩,
 ⟨some 7,(.mv (.c .nils)),none⟩,
 ⟨some 8,(.mv (.c (.int .i64 (2)))),none⟩]
 [] [0,1,2,23])
 .ret)
 .skip))
 (.seq
 (.ops [⟨some 9,(.mv (.c (.int .i64 (1)))),none⟩]
 [] [23])
 (.seq
 (.seq
 (.ops [⟨some 24,(.mv (.t 2)),none⟩,
 ⟨some 25,(.mv (.c (.int .i64 (0)))),none⟩]
 [] [])
 (.block 0
 (.loop
 (.seq
 (.ops [⟨some 26,(.bin .lss (.t 25) (.t 24)),none⟩]
 [] [])
 (.seq
 (.cond (.t 26)
 .skip
 (.exit 0))
 (.seq
 (.block 1
 (.seq
 (.ops [⟨some 27,(.mv (.t 9)),none⟩,
 ⟨some 28,(.mv (.t 0)),none⟩,
 ⟨some 29,(.len (.t 28)),none⟩,
 ⟨some 30,(.bin .mul (.t 27) (.t 29)),none⟩,
 ⟨some 9,(.mv (.t 30)),none⟩]
 [] [26,27,28,29,30])
 (.seq
 (.ops [⟨some 31,(.mv (.t 9)),none⟩,
 ⟨some 32,(.bin .gtr (.t 31) (.c (.int .i64 (256)))),none⟩]
 [] [31])
 (.cond (.t 32)
 (.seq
 (.ops [⟨some 6,(.mv (.c (.int .i64 (0)))),none⟩,
 ⟨some 7,(.mv (.c .nils)),none⟩,
 ⟨some 8,(.mv (.c (.int .i64 (4)))),none⟩]
 [] [0,1,2,9,24,25,32])
 .ret)
 .skip))))
 (.ops [⟨some 33,(.bin .add (.t 25) (.c (.int .i64 (1)))),none⟩,
 ⟨some 25,(.mv (.t 33)),none⟩]
 [] [32,33])))))))
 (.seq
 (.seq
 (.ops [⟨some 34,(.mv (.t 9)),none⟩,
 ⟨some 35,(.bin .eql (.t 34) (.c (.int .i64 (0)))),none⟩]
 [] [24,25,26,34])
 (.cond (.t 35)
 (.seq
 (.ops [⟨some 6,(.mv (.c (.int .i64 (0)))),none⟩,
 ⟨some 7,(.mv (.c .nils)),none⟩,
 ⟨some 8,(.mv (.c (.int .i64 (8)))),none⟩]
 [] [0,1,2,9,35])
 .ret)
 .skip))
 (.seq
 (.ops [⟨some 10,(.mv (.c (.int .i64 (-1)))),none⟩,
 ⟨some 11,(.mv (.c .nils)),none⟩]
 [] [35])
 (.seq
 (.seq
 (.ops [⟨some 36,(.mv (.t 9)),none⟩,
 ⟨some 37,(.mv (.c (.int .i64 (0)))),none⟩]
 [] [9])
 (.block 2
 (.loop
 (.seq
 (.ops [⟨some 38,(.bin .lss (.t 37) (.t 36)),none⟩]
 [] [])
 (.seq
 (.cond (.t 38)
 .skip
 (.exit 2))
 (.seq
 (.block 3
 (.seq
 (.ops [⟨some 39,(.mv (.t 37)),none⟩,
 ⟨some 12,(.mv (.t 39)),none⟩]
 [] [38,39])
 (.seq
 (.ops [⟨some 40,(.mv (.t 12)),none⟩,
 ⟨some 41,(.mv (.t 0)),none⟩,
 ⟨some 42,(.len (.t 41)),none⟩,
 ⟨some 43,(.mv (.t 2)),none⟩,
 ⟨some 44,(.call (.f 15) [(.t 40),(.t 42),(.t 43)]),none⟩,
 ⟨some 13,(.mv (.t 44)),none⟩]
 [] [12,40,41,42,43,44])
 (.seq
 (.ops [⟨some 45,(.mv (.t 2)),none⟩,
 ⟨some 46,(.mkSl true 3 56 (.agg [(.int .i64 (0)),(.data []),(.data [])]) (.t 45) (.t 45)),none⟩,
 ⟨some 14,(.mv (.t 46)),none⟩]
 [] [45,46])
 (.seq
 (.seq
 (.ops [⟨some 47,(.mv (.t 13)),none⟩,
 ⟨some 48,(.len (.t 47)),none⟩,
 ⟨some 49,(.mv (.c (.int .i64 (0)))),none⟩]
 [] [])
 (.block 4
 (.loop
 (.seq
 (.ops [⟨some 50,(.bin .lss (.t 49) (.t 48)),none⟩]
 [] [])
 (.seq
 (.cond (.t 50)
 .skip
 (.exit 4))
 (.seq
 (.block 5
 (.seq
 (.ops [⟨some 51,(.mv (.t 49)),none⟩,
 ⟨some 52,(.iad 1 (.t 47) (.t 49)),none⟩,
 ⟨some 53,(.load false 1 (.t 52)),none⟩,
 ⟨some 15,(.mv (.t 51)),none⟩,
 ⟨some 16,(.mv (.t 53)),none⟩]
 [] [50,51,52,53])
 (.ops [⟨some 54,(.mv (.t 14)),none⟩,
 ⟨some 55,(.mv (.t 15)),none⟩,
 ⟨some 56,(.mv (.t 0)),none⟩,
 ⟨some 57,(.mv (.t 16)),none⟩,
 ⟨some 58,(.iad 3 (.t 56) (.t 57)),none⟩,
 ⟨some 59,(.load true 3 (.t 58)),none⟩,
 ⟨some 60,(.iad 3 (.t 54) (.t 55)),none⟩,
 ⟨none,(.store 3 (.t 60) (.t 59)),none⟩]
 [] [15,16,54,55,56,57,58,59,60])))
 (.ops [⟨some 61,(.bin .add (.t 49) (.c (.int .i64 (1)))),none⟩,
 ⟨some 49,(.mv (.t 61)),none⟩]
 [] [61])))))))
 (.seq
 (.ops [⟨some 63,(.mv (.t 14)),none⟩,
 ⟨some 64,(.mv (.t 1)),none⟩,
 ⟨some 65,(.call (.f 5) [(.t 63),(.t 64)]),none⟩,
 ⟨some 62,(.mv (.t 65)),none⟩,
 ⟨some 66,(.ext (.t 62) 0),none⟩,
 ⟨some 67,(.ext (.t 62) 1),none⟩,
 ⟨some 68,(.ext (.t 62) 2),none⟩,
 ⟨some 17,(.mv (.t 66)),none⟩,
 ⟨some 18,(.mv (.t 67)),none⟩,
 ⟨some 19,(.mv (.t 68)),none⟩]
 [] [14,18,47,48,49,50,62,63,64,65,66,67,68])
 (.seq
 (.seq
 (.ops [⟨some 69,(.mv (.t 19)),none⟩,
 ⟨some 70,(.bin .neq (.t 69) (.c (.int .i64 (0)))),none⟩]
 [] [69])
 (.cond (.t 70)
 (.seq
 (.ops [⟨some 71,(.mv (.t 19)),none⟩,
 ⟨some 6,(.mv (.c (.int .i64 (0)))),none⟩,
 ⟨some 7,(.mv (.c .nils)),none⟩,
 ⟨some 8,(.mv (.t 71)),none⟩]
 [] [0,1,2,10,11,13,17,19,36,37,70,71])
 .ret)
 .skip))
 (.seq
 (.ops [⟨some 72,(.mv (.t 17)),none⟩,
 ⟨some 73,(.mv (.t 10)),none⟩,
 ⟨some 74,(.bin .gtr (.t 72) (.t 73)),none⟩]
 [] [19,70,72,73])
 (.cond (.t 74)
 (.ops [⟨some 75,(.mv (.t 17)),none⟩,
 ⟨some 76,(.mv (.t 13)),none⟩,
 ⟨some 10,(.mv (.t 75)),none⟩,
 ⟨some 11,(.mv (.t 76)),none⟩]
 [] [13,17,74,75,76])
 .skip)))))))))
 (.ops [⟨some 77,(.bin .add (.t 37) (.c (.int .i64 (1)))),none⟩,
 ⟨some 37,(.mv (.t 77)),none⟩]
 [] [13,17,74,77])))))))
 (.seq
 (.ops [⟨some 78,(.mv (.t 10)),none⟩,
 ⟨some 79,(.mv (.t 11)),none⟩,
 ⟨some 6,(.mv (.t 78)),none⟩,
 ⟨some 7,(.mv (.t 79)),none⟩,
 ⟨some 8,(.mv (.c (.int .i64 (0)))),none⟩]
 [] [0,1,2,10,11,36,37,38,78,79])
 .ret))))))))⟩
def loc8:List Nat:=[]
def fg8:List (Nat×List Nat):=[(29,[0,1,2,10,11,36,37,38,78,79]),(28,[13,17,74,77]),(27,[13,17,74,75,76]),(26,[19,70,72,73]),(25,[0,1,2,10,11,13,17,19,36,37,70,71]),(24,[69]),(23,[14,18,47,48,49,50,62,63,64,65,66,67,68]),(22,[61]),(21,[15,16,54,55,56,57,58,59,60]),(20,[50,51,52,53]),(17,[45,46]),(16,[12,40,41,42,43,44]),(15,[38,39]),(13,[9]),(12,[35]),(11,[0,1,2,9,35]),(10,[24,25,26,34]),(9,[32,33]),(8,[0,1,2,9,24,25,32]),(7,[31]),(6,[26,27,28,29,30]),(3,[23]),(2,[0,1,2,23]),(1,[20,21,22]),(0,[6,7,8])]
theorem yp2:yaa Tryz.prog loc8 (fun i=>(fg8.lookup i).getD []) Tryz.f8=some lit8:=by kernel_rfl

-- parcener/parcenerref09.Same
def lit9:AFn:=⟨2,[.tmp 4],
 (.seq
 (.ops [⟨some 4,(.mv (.c (.bool false))),none⟩]
 [] [4])
 (.seq
 (.seq
 (.ops [⟨some 6,(.mv (.t 0)),none⟩,
 ⟨some 7,(.len (.t 6)),none⟩,
 ⟨some 8,(.mv (.t 1)),none⟩,
 ⟨some 9,(.len (.t 8)),none⟩,
 ⟨some 10,(.bin .neq (.t 7) (.t 9)),none⟩]
 [] [6,7,8,9])
 (.cond (.t 10)
 (.seq
 (.ops [⟨some 4,(.mv (.c (.bool false))),none⟩]
 [] [0,1,10])
 .ret)
 .skip))
 (.seq
 (.seq
 (.ops [⟨some 5,(.mv (.c (.int .i64 (0)))),none⟩]
 [] [10])
 (.block 0
 (.loop
 (.seq
 (.seq
 (.ops [⟨some 11,(.mv (.t 5)),none⟩,
 ⟨some 12,(.mv (.t 0)),none⟩,
 ⟨some 13,(.len (.t 12)),none⟩,
 ⟨some 14,(.bin .lss (.t 11) (.t 13)),none⟩]
 [] [11,12,13])
 (.cond (.t 14)
 .skip
 (.exit 0)))
 (.seq
 (.block 1
 (.seq
 (.ops [⟨some 17,(.mv (.t 0)),none⟩,
 ⟨some 18,(.mv (.t 5)),none⟩,
 ⟨some 19,(.iad 1 (.t 17) (.t 18)),none⟩,
 ⟨some 20,(.load false 1 (.t 19)),none⟩,
 ⟨some 21,(.mv (.t 1)),none⟩,
 ⟨some 22,(.mv (.t 5)),none⟩,
 ⟨some 23,(.iad 1 (.t 21) (.t 22)),none⟩,
 ⟨some 24,(.load false 1 (.t 23)),none⟩,
 ⟨some 25,(.bin .neq (.t 20) (.t 24)),none⟩]
 [(0,1),(0,4),(1,4),(2,4),(3,4),(0,5),(1,5),(2,5),(3,5),(4,5),(0,6),(1,6),(2,6),(3,6),(0,7),(1,7),(2,7),(3,7)] [14,17,18,19,20,21,22,23,24])
 (.cond (.t 25)
 (.seq
 (.ops [⟨some 4,(.mv (.c (.bool false))),none⟩]
 [] [0,1,5,25])
 .ret)
 .skip)))
 (.ops [⟨some 15,(.mv (.t 5)),none⟩,
 ⟨some 16,(.bin .add (.t 15) (.c (.int .i64 (1)))),none⟩,
 ⟨some 5,(.mv (.t 16)),none⟩]
 [] [15,16,25]))))))
 (.seq
 (.ops [⟨some 4,(.mv (.c (.bool true))),none⟩]
 [] [0,1,5,14])
 .ret))))⟩
def loc9:List Nat:=[]
def fg9:List (Nat×List Nat):=[(8,[0,1,5,14]),(5,[15,16,25]),(7,[0,1,5,25]),(6,[14,17,18,19,20,21,22,23,24]),(4,[11,12,13]),(3,[10]),(2,[0,1,10]),(1,[6,7,8,9]),(0,[4])]
theorem yp3:yaa Tryz.prog loc9 (fun i=>(fg9.lookup i).getD []) Tryz.f9=some lit9:=by kernel_rfl

-- parcener/parcenerlaw45.alive
def ylT:AFn:=⟨0,[.tmp 0],
 (.seq
 (.ops [⟨some 0,(.mv (.c (.bool false))),none⟩]
 [] [0])
 (.seq
 (.ops [⟨some 4,(.call (.f 6) []),none⟩,
 ⟨some 5,(.call (.f 7) [(.t 4)]),none⟩,
 ⟨some 3,(.mv (.t 5)),none⟩,
 ⟨some 6,(.ext (.t 3) 0),none⟩,
 ⟨some 7,(.ext (.t 3) 1),none⟩,
 ⟨some 1,(.mv (.t 6)),none⟩,
 ⟨some 2,(.mv (.t 7)),none⟩]
 [] [3,4,5,6,7])
 (.seq
 (.ops [⟨some 8,(.call (.f 4) [(.c (.int .i64 (2))),(.c (.int .i64 (3))),(.c (.int .i64 (8)))]),none⟩,
 ⟨some 9,(.mv (.t 8)),none⟩,
 ⟨some 10,(.call (.f 4) [(.c (.int .i64 (3))),(.c (.int .i64 (3))),(.c (.int .i64 (9)))]),some (9,true)⟩,
 ⟨some 11,(.pick (.t 9) (.t 10) (.c (.bool false))),none⟩,
 ⟨some 12,(.mv (.t 11)),none⟩,
 ⟨some 13,(.call (.f 4) [(.c (.int .i64 (4))),(.c (.int .i64 (3))),(.c (.int .i64 (16)))]),some (12,true)⟩,
 ⟨some 14,(.pick (.t 12) (.t 13) (.c (.bool false))),none⟩,
 ⟨some 15,(.mv (.t 14)),none⟩,
 ⟨some 16,(.call (.f 4) [(.c (.int .i64 (5))),(.c (.int .i64 (3))),(.c (.int .i64 (5)))]),some (15,true)⟩,
 ⟨some 17,(.pick (.t 15) (.t 16) (.c (.bool false))),none⟩,
 ⟨some 18,(.mv (.t 17)),none⟩,
 ⟨some 19,(.call (.f 4) [(.c (.int .i64 (6))),(.c (.int .i64 (3))),(.c (.int .i64 (0)))]),some (18,true)⟩,
 ⟨some 20,(.pick (.t 18) (.t 19) (.c (.bool false))),none⟩,
 ⟨some 21,(.mv (.t 20)),none⟩,
 ⟨some 22,(.call (.f 4) [(.c (.int .i64 (1))),(.c (.int .i64 (2))),(.c (.int .i64 (2)))]),some (21,true)⟩,
 ⟨some 23,(.pick (.t 21) (.t 22) (.c (.bool false))),none⟩,
 ⟨some 24,(.mv (.t 23)),none⟩,
 ⟨some 25,(.call (.f 4) [(.c (.int .i64 (2))),(.c (.int .i64 (2))),(.c (.int .i64 (3)))]),some (24,true)⟩,
 ⟨some 26,(.pick (.t 24) (.t 25) (.c (.bool false))),none⟩,
 ⟨some 27,(.mv (.t 26)),none⟩,
 ⟨some 28,(.call (.f 4) [(.c (.int .i64 (3))),(.c (.int .i64 (2))),(.c (.int .i64 (2)))]),some (27,true)⟩,
 ⟨some 29,(.pick (.t 27) (.t 28) (.c (.bool false))),none⟩,
 ⟨some 30,(.mv (.t 29)),none⟩,
 ⟨some 31,(.call (.f 4) [(.c (.int .i64 (5))),(.c (.int .i64 (2))),(.c (.int .i64 (2)))]),some (30,true)⟩,
 ⟨some 32,(.pick (.t 30) (.t 31) (.c (.bool false))),none⟩,
 ⟨some 33,(.mv (.t 32)),none⟩,
 ⟨some 34,(.call (.f 4) [(.c (.int .i64 (6))),(.c (.int .i64 (2))),(.c (.int .i64 (0)))]),some (33,true)⟩,
 ⟨some 35,(.pick (.t 33) (.t 34) (.c (.bool false))),none⟩,
 ⟨some 36,(.mv (.t 35)),none⟩,
 ⟨some 37,(.mv (.t 2)),some (36,true)⟩,
 ⟨some 38,(.bin .eql (.t 37) (.c (.int .i64 (0)))),some (36,true)⟩,
 ⟨some 39,(.pick (.t 36) (.t 38) (.c (.bool false))),none⟩,
 ⟨some 40,(.mv (.t 39)),none⟩,
 ⟨some 41,(.mv (.t 1)),some (40,true)⟩,
 ⟨some 42,(.buildD 1 (.int .i64 (0)) 6 [(0,(.c (.int .i64 (-1)))),(1,(.c (.int .i64 (6)))),(2,(.c (.int .i64 (7)))),(3,(.c (.int .i64 (16)))),(4,(.c (.int .i64 (5)))),(5,(.c (.int .i64 (-1))))]),some (40,true)⟩,
 ⟨some 43,(.call (.f 9) [(.t 41),(.t 42)]),some (40,true)⟩,
 ⟨some 44,(.pick (.t 40) (.t 43) (.c (.bool false))),none⟩,
 ⟨some 0,(.mv (.t 44)),none⟩]
 [] [1,2,8,9,10,11,12,13,14,15,16,17,18,19,20,21,22,23,24,25,26,27,28,29,30,31,32,33,34,35,36,37,38,39,40,41,42,43,44])
 .ret)))⟩
def yp4:List Nat:=[42]
def fg10:List (Nat×List Nat):=[(2,[1,2,8,9,10,11,12,13,14,15,16,17,18,19,20,21,22,23,24,25,26,27,28,29,30,31,32,33,34,35,36,37,38,39,40,41,42,43,44]),(1,[3,4,5,6,7]),(0,[0])]
theorem ynA:yaa Tryz.prog yp4 (fun i=>(fg10.lookup i).getD []) Tryz.f10=some ylT:=by kernel_rfl

-- parcener/bounds.Bound
def ylU:AFn:=⟨2,[.tmp 4,.tmp 5],
 (.seq
 (.ops [⟨some 4,(.mv (.c (.int .i64 (0)))),none⟩,
 ⟨some 5,(.mv (.c (.int .i64 (0)))),none⟩]
 [] [4,5])
 (.seq
 (.seq
 (.ops [⟨some 6,(.mv (.t 0)),none⟩,
 ⟨some 7,(.mv (.t 1)),none⟩,
 ⟨some 8,(.call (.f 14) [(.t 6),(.t 7)]),none⟩,
 ⟨some 9,(.un .not (.t 8)),none⟩]
 [] [6,7,8])
 (.cond (.t 9)
 (.seq
 (.ops [⟨some 4,(.mv (.c (.int .i64 (0)))),none⟩,
 ⟨some 5,(.mv (.c (.int .i64 (2)))),none⟩]
 [] [0,1,9])
 .ret)
 .skip))
 (.seq
 (.seq
 (.ops [⟨some 10,(.mv (.t 0)),none⟩]
 [] [0,9])
 (.block 0
 (.seq
 (.ops [⟨some 12,(.bin .eql (.t 10) (.c (.int .i64 (1)))),none⟩,
 ⟨some 11,(.mv (.t 12)),none⟩]
 [] [12])
 (.cond (.t 11)
 (.seq
 (.ops [⟨some 4,(.mv (.c (.int .i64 (2)))),none⟩,
 ⟨some 5,(.mv (.c (.int .i64 (0)))),none⟩]
 [] [1,10,11])
 .ret)
 (.seq
 (.ops [⟨some 14,(.bin .eql (.t 10) (.c (.int .i64 (2)))),none⟩,
 ⟨some 13,(.mv (.t 14)),none⟩]
 [] [11,14])
 (.cond (.t 13)
 (.seq
 (.ops [⟨some 15,(.mv (.t 1)),none⟩,
 ⟨some 16,(.call (.f 16) [(.t 15)]),none⟩,
 ⟨some 17,(.ext (.t 16) 0),none⟩,
 ⟨some 18,(.ext (.t 16) 1),none⟩,
 ⟨some 4,(.mv (.t 17)),none⟩,
 ⟨some 5,(.mv (.t 18)),none⟩]
 [] [1,10,13,15,16,17,18])
 .ret)
 (.seq
 (.ops [⟨some 20,(.bin .eql (.t 10) (.c (.int .i64 (3)))),none⟩,
 ⟨some 19,(.mv (.t 20)),none⟩]
 [] [13,20])
 (.cond (.t 19)
 (.seq
 (.ops [⟨some 21,(.mv (.t 1)),none⟩,
 ⟨some 22,(.call (.f 17) [(.t 21)]),none⟩,
 ⟨some 23,(.ext (.t 22) 0),none⟩,
 ⟨some 24,(.ext (.t 22) 1),none⟩,
 ⟨some 4,(.mv (.t 23)),none⟩,
 ⟨some 5,(.mv (.t 24)),none⟩]
 [] [1,10,19,21,22,23,24])
 .ret)
 (.seq
 (.ops [⟨some 26,(.bin .eql (.t 10) (.c (.int .i64 (4)))),none⟩,
 ⟨some 25,(.mv (.t 26)),none⟩]
 [] [19,26])
 (.cond (.t 25)
 (.seq
 (.ops [⟨some 27,(.call (.f 18) []),none⟩,
 ⟨some 4,(.mv (.t 27)),none⟩,
 ⟨some 5,(.mv (.c (.int .i64 (0)))),none⟩]
 [] [1,10,25,27])
 .ret)
 (.seq
 (.ops [⟨some 29,(.bin .eql (.t 10) (.c (.int .i64 (5)))),none⟩,
 ⟨some 28,(.mv (.t 29)),none⟩]
 [] [10,25,29])
 (.cond (.t 28)
 (.seq
 (.ops [⟨some 30,(.mv (.t 1)),none⟩,
 ⟨some 31,(.mv (.t 1)),none⟩,
 ⟨some 32,(.bin .add (.t 31) (.c (.int .i64 (1)))),none⟩,
 ⟨some 33,(.bin .mul (.t 30) (.t 32)),none⟩,
 ⟨some 34,(.bin .quo (.t 33) (.c (.int .i64 (2)))),none⟩,
 ⟨some 35,(.bin .sub (.t 34) (.c (.int .i64 (1)))),none⟩,
 ⟨some 4,(.mv (.t 35)),none⟩,
 ⟨some 5,(.mv (.c (.int .i64 (0)))),none⟩]
 [] [1,28,30,31,32,33,34,35])
 .ret)
 .skip))))))))))))
 (.seq
 (.ops [⟨some 4,(.mv (.c (.int .i64 (0)))),none⟩,
 ⟨some 5,(.mv (.c (.int .i64 (0)))),none⟩]
 [] [1,28])
 .ret))))⟩
def yp5:List Nat:=[]
def fg11:List (Nat×List Nat):=[(14,[1,28]),(13,[1,28,30,31,32,33,34,35]),(12,[10,25,29]),(11,[1,10,25,27]),(10,[19,26]),(9,[1,10,19,21,22,23,24]),(8,[13,20]),(7,[1,10,13,15,16,17,18]),(6,[11,14]),(5,[1,10,11]),(4,[12]),(3,[0,9]),(2,[0,1,9]),(1,[6,7,8]),(0,[4,5])]
theorem ynB:yaa Tryz.prog yp5 (fun i=>(fg11.lookup i).getD []) Tryz.f11=some ylU:=by kernel_rfl

-- parcener/sim.Divide
def ylV:AFn:=⟨2,[.cell 4 true 1,.tmp 5,.tmp 6],
 (.seq
 (.ops [⟨some 4,(.allocL (.agg [.nils])),none⟩,
 ⟨some 5,(.mv (.c .nils)),none⟩,
 ⟨some 6,(.mv (.c (.int .i64 (0)))),none⟩]
 [] [6])
 (.seq
 (.seq
 (.ops [⟨some 8,(.mv (.t 1)),none⟩]
 [] [1])
 (.block 0
 (.seq
 (.ops [⟨some 10,(.bin .eql (.t 8) (.c (.int .i64 (1)))),none⟩,
 ⟨some 9,(.mv (.t 10)),none⟩]
 [] [10])
 (.cond (.t 9)
 (.ops [⟨some 12,(.mv (.t 0)),none⟩,
 ⟨some 13,(.call (.f 19) [(.t 12),(.c (.int .i64 (0)))]),none⟩,
 ⟨some 11,(.mv (.t 13)),none⟩,
 ⟨some 14,(.ext (.t 11) 0),none⟩,
 ⟨some 15,(.ext (.t 11) 1),none⟩,
 ⟨some 16,(.ext (.t 11) 2),none⟩,
 ⟨none,(.store 1 (.t 4) (.t 14)),none⟩,
 ⟨some 5,(.mv (.t 15)),none⟩,
 ⟨some 6,(.mv (.t 16)),none⟩]
 [] [0,8,9,11,12,13,14,15,16])
 (.seq
 (.ops [⟨some 18,(.bin .eql (.t 8) (.c (.int .i64 (2)))),none⟩,
 ⟨some 17,(.mv (.t 18)),none⟩]
 [] [9,18])
 (.cond (.t 17)
 (.ops [⟨some 20,(.mv (.t 0)),none⟩,
 ⟨some 21,(.call (.f 20) [(.t 20)]),none⟩,
 ⟨some 19,(.mv (.t 21)),none⟩,
 ⟨some 22,(.ext (.t 19) 0),none⟩,
 ⟨some 23,(.ext (.t 19) 1),none⟩,
 ⟨some 24,(.ext (.t 19) 2),none⟩,
 ⟨some 25,(.ext (.t 19) 3),none⟩,
 ⟨none,(.store 1 (.t 4) (.t 22)),none⟩,
 ⟨some 5,(.mv (.t 24)),none⟩,
 ⟨some 6,(.mv (.t 25)),none⟩]
 [] [0,8,17,19,20,21,22,23,24,25])
 (.seq
 (.ops [⟨some 27,(.bin .eql (.t 8) (.c (.int .i64 (3)))),none⟩,
 ⟨some 26,(.mv (.t 27)),none⟩]
 [] [17,27])
 (.cond (.t 26)
 (.ops [⟨some 29,(.mv (.t 0)),none⟩,
 ⟨some 30,(.call (.f 21) [(.t 29)]),none⟩,
 ⟨some 28,(.mv (.t 30)),none⟩,
 ⟨some 31,(.ext (.t 28) 0),none⟩,
 ⟨some 32,(.ext (.t 28) 1),none⟩,
 ⟨some 33,(.ext (.t 28) 2),none⟩,
 ⟨none,(.store 1 (.t 4) (.t 31)),none⟩,
 ⟨some 5,(.mv (.t 32)),none⟩,
 ⟨some 6,(.mv (.t 33)),none⟩]
 [] [0,8,26,28,29,30,31,32,33])
 (.seq
 (.ops [⟨some 35,(.bin .eql (.t 8) (.c (.int .i64 (4)))),none⟩,
 ⟨some 34,(.mv (.t 35)),none⟩]
 [] [26,35])
 (.cond (.t 34)
 (.ops [⟨some 37,(.mv (.t 0)),none⟩,
 ⟨some 38,(.call (.f 22) [(.t 37)]),none⟩,
 ⟨some 36,(.mv (.t 38)),none⟩,
 ⟨some 39,(.ext (.t 36) 0),none⟩,
 ⟨some 40,(.ext (.t 36) 1),none⟩,
 ⟨some 41,(.ext (.t 36) 2),none⟩,
 ⟨some 42,(.ext (.t 36) 3),none⟩,
 ⟨none,(.store 1 (.t 4) (.t 39)),none⟩,
 ⟨some 5,(.mv (.t 41)),none⟩,
 ⟨some 6,(.mv (.t 42)),none⟩]
 [] [0,8,34,36,37,38,39,40,41,42])
 (.seq
 (.ops [⟨some 44,(.bin .eql (.t 8) (.c (.int .i64 (5)))),none⟩,
 ⟨some 43,(.mv (.t 44)),none⟩]
 [] [34,44])
 (.cond (.t 43)
 (.ops [⟨some 46,(.mv (.t 0)),none⟩,
 ⟨some 47,(.call (.f 23) [(.t 46)]),none⟩,
 ⟨some 45,(.mv (.t 47)),none⟩,
 ⟨some 48,(.ext (.t 45) 0),none⟩,
 ⟨some 49,(.ext (.t 45) 1),none⟩,
 ⟨some 50,(.ext (.t 45) 2),none⟩,
 ⟨some 51,(.ext (.t 45) 3),none⟩,
 ⟨none,(.store 1 (.t 4) (.t 48)),none⟩,
 ⟨some 5,(.mv (.t 50)),none⟩,
 ⟨some 6,(.mv (.t 51)),none⟩]
 [] [0,8,43,45,46,47,48,49,50,51])
 (.seq
 (.ops [⟨some 53,(.bin .eql (.t 8) (.c (.int .i64 (6)))),none⟩,
 ⟨some 52,(.mv (.t 53)),none⟩]
 [] [8,43,53])
 (.cond (.t 52)
 (.seq
 (.ops [⟨some 7,(.mv (.c .nils)),none⟩]
 [] [7,52])
 (.seq
 (.ops [⟨some 55,(.mv (.t 0)),none⟩,
 ⟨some 56,(.call (.f 24) [(.t 55)]),none⟩,
 ⟨some 54,(.mv (.t 56)),none⟩,
 ⟨some 57,(.ext (.t 54) 0),none⟩,
 ⟨some 58,(.ext (.t 54) 1),none⟩,
 ⟨some 59,(.ext (.t 54) 2),none⟩,
 ⟨some 7,(.mv (.t 57)),none⟩,
 ⟨some 6,(.mv (.t 59)),none⟩]
 [] [54,55,56,57,58,59])
 (.seq
 (.ops [⟨some 60,(.mv (.t 6)),none⟩,
 ⟨some 61,(.bin .eql (.t 60) (.c (.int .i64 (0)))),none⟩]
 [] [60])
 (.cond (.t 61)
 (.ops [⟨some 63,(.mv (.t 0)),none⟩,
 ⟨some 64,(.mv (.t 7)),none⟩,
 ⟨some 65,(.call (.f 25) [(.t 63),(.t 64)]),none⟩,
 ⟨some 62,(.mv (.t 65)),none⟩,
 ⟨some 66,(.ext (.t 62) 0),none⟩,
 ⟨some 67,(.ext (.t 62) 1),none⟩,
 ⟨none,(.store 1 (.t 4) (.t 66)),none⟩,
 ⟨some 6,(.mv (.t 67)),none⟩]
 [] [0,7,61,62,63,64,65,66,67])
 .skip))))
 (.ops [⟨some 6,(.mv (.c (.int .i64 (2)))),none⟩]
 [] [0,52])))))))))))))))
 (.seq
 (.ops [⟨some 68,(.load true 1 (.t 4)),none⟩,
 ⟨some 69,(.mv (.t 5)),none⟩,
 ⟨some 70,(.mv (.t 6)),none⟩,
 ⟨none,(.store 1 (.t 4) (.t 68)),none⟩,
 ⟨some 5,(.mv (.t 69)),none⟩,
 ⟨some 6,(.mv (.t 70)),none⟩]
 [] [0,7,61,68,69,70])
 .ret)))⟩
def yp6:List Nat:=[4]
def fg12:List (Nat×List Nat):=[(18,[0,7,61,68,69,70]),(2,[0,52]),(17,[0,7,61,62,63,64,65,66,67]),(16,[60]),(15,[54,55,56,57,58,59]),(14,[7,52]),(13,[8,43,53]),(12,[0,8,43,45,46,47,48,49,50,51]),(11,[34,44]),(10,[0,8,34,36,37,38,39,40,41,42]),(9,[26,35]),(8,[0,8,26,28,29,30,31,32,33]),(7,[17,27]),(6,[0,8,17,19,20,21,22,23,24,25]),(5,[9,18]),(4,[0,8,9,11,12,13,14,15,16]),(3,[10]),(1,[1]),(0,[6])]
theorem ynC:yaa Tryz.prog yp6 (fun i=>(fg12.lookup i).getD []) Tryz.f12=some ylV:=by kernel_rfl

-- parcener/ask.Check
def ylW:AFn:=⟨1,[.tmp 2],
 (.seq
 (.ops [⟨some 1,(.boxL (.t 0)),none⟩,
 ⟨some 2,(.mv (.c (.int .i64 (0)))),none⟩]
 [] [0,2])
 (.seq
 (.seq
 (.ops [⟨some 8,(.fad 0 (.t 1)),none⟩,
 ⟨some 9,(.load false 1 (.t 8)),none⟩,
 ⟨some 10,(.len (.t 9)),none⟩,
 ⟨some 11,(.bin .gtr (.t 10) (.c (.int .i64 (6)))),none⟩,
 ⟨some 12,(.mv (.t 11)),none⟩,
 ⟨some 13,(.fad 1 (.t 1)),some (12,false)⟩,
 ⟨some 14,(.load false 1 (.t 13)),some (12,false)⟩,
 ⟨some 15,(.len (.t 14)),some (12,false)⟩,
 ⟨some 16,(.bin .gtr (.t 15) (.c (.int .i64 (2000)))),some (12,false)⟩,
 ⟨some 17,(.pick (.t 12) (.c (.bool true)) (.t 16)),none⟩]
 [] [8,9,10,11,12,13,14,15,16])
 (.cond (.t 17)
 (.seq
 (.ops [⟨some 2,(.mv (.c (.int .i64 (4)))),none⟩]
 [] [1,17])
 .ret)
 .skip))
 (.seq
 (.seq
 (.ops [⟨some 18,(.fad 0 (.t 1)),none⟩,
 ⟨some 19,(.load false 1 (.t 18)),none⟩,
 ⟨some 20,(.len (.t 19)),none⟩,
 ⟨some 21,(.bin .eql (.t 20) (.c (.int .i64 (0)))),none⟩]
 [] [17,18,19,20])
 (.cond (.t 21)
 (.seq
 (.ops [⟨some 2,(.mv (.c (.int .i64 (8)))),none⟩]
 [] [1,21])
 .ret)
 .skip))
 (.seq
 (.seq
 (.ops [⟨some 22,(.fad 0 (.t 1)),none⟩,
 ⟨some 23,(.load false 1 (.t 22)),none⟩,
 ⟨some 24,(.len (.t 23)),none⟩,
 ⟨some 25,(.mv (.c (.int .i64 (0)))),none⟩]
 [] [21,22])
 (.block 0
 (.loop
 (.seq
 (.ops [⟨some 26,(.bin .lss (.t 25) (.t 24)),none⟩]
 [] [])
 (.seq
 (.cond (.t 26)
 .skip
 (.exit 0))
 (.seq
 (.block 1
 (.seq
 (.ops [⟨some 27,(.iad 3 (.t 23) (.t 25)),none⟩,
 ⟨some 28,(.load true 3 (.t 27)),none⟩,
 ⟨some 4,(.allocL (.agg [(.int .i64 (0)),.nils,.nils])),none⟩,
 ⟨none,(.store 3 (.t 4) (.t 28)),none⟩]
 [] [26,27,28])
 (.seq
 (.ops [⟨some 29,(.load true 3 (.t 4)),none⟩,
 ⟨some 30,(.call (.f 26) [(.t 29)]),none⟩,
 ⟨some 5,(.mv (.t 30)),none⟩]
 [] [4,29,30])
 (.seq
 (.ops [⟨some 31,(.mv (.t 5)),none⟩,
 ⟨some 32,(.bin .neq (.t 31) (.c (.int .i64 (0)))),none⟩]
 [] [31])
 (.cond (.t 32)
 (.seq
 (.ops [⟨some 33,(.mv (.t 5)),none⟩,
 ⟨some 2,(.mv (.t 33)),none⟩]
 [] [1,5,23,24,25,32,33])
 .ret)
 .skip)))))
 (.ops [⟨some 34,(.bin .add (.t 25) (.c (.int .i64 (1)))),none⟩,
 ⟨some 25,(.mv (.t 34)),none⟩]
 [] [5,32,34])))))))
 (.seq
 (.seq
 (.ops [⟨some 35,(.fad 0 (.t 1)),none⟩,
 ⟨some 36,(.load false 1 (.t 35)),none⟩,
 ⟨some 37,(.len (.t 36)),none⟩,
 ⟨some 38,(.mv (.c (.int .i64 (0)))),none⟩]
 [] [23,24,25,26,35])
 (.block 2
 (.loop
 (.seq
 (.ops [⟨some 39,(.bin .lss (.t 38) (.t 37)),none⟩]
 [] [])
 (.seq
 (.cond (.t 39)
 .skip
 (.exit 2))
 (.seq
 (.block 3
 (.seq
 (.ops [⟨some 40,(.iad 3 (.t 36) (.t 38)),none⟩,
 ⟨some 41,(.load true 3 (.t 40)),none⟩,
 ⟨some 7,(.allocL (.agg [(.int .i64 (0)),.nils,.nils])),none⟩,
 ⟨none,(.store 3 (.t 7) (.t 41)),none⟩]
 [] [39,40,41])
 (.seq
 (.ops [⟨some 42,(.fad 0 (.t 7)),none⟩,
 ⟨some 43,(.load false 1 (.t 42)),none⟩,
 ⟨some 44,(.fad 0 (.t 1)),none⟩,
 ⟨some 45,(.load false 1 (.t 44)),none⟩,
 ⟨some 46,(.iad 3 (.t 45) (.c (.int .i64 (0)))),none⟩,
 ⟨some 47,(.fad 0 (.t 46)),none⟩,
 ⟨some 48,(.load false 1 (.t 47)),none⟩,
 ⟨some 49,(.bin .neq (.t 43) (.t 48)),none⟩]
 [(0,2),(1,2),(0,3),(1,3),(0,4),(1,4),(0,5),(1,5),(0,6),(1,6)] [7,42,43,44,45,46,47,48])
 (.cond (.t 49)
 (.seq
 (.ops [⟨some 2,(.mv (.c (.int .i64 (8)))),none⟩]
 [] [1,36,37,38,49])
 .ret)
 .skip))))
 (.ops [⟨some 50,(.bin .add (.t 38) (.c (.int .i64 (1)))),none⟩,
 ⟨some 38,(.mv (.t 50)),none⟩]
 [] [49,50])))))))
 (.seq
 (.ops [⟨some 2,(.mv (.c (.int .i64 (0)))),none⟩]
 [] [1,36,37,38,39])
 .ret))))))⟩
def yp7:List Nat:=[1,4,7]
def fg13:List (Nat×List Nat):=[(18,[1,36,37,38,39]),(17,[49,50]),(16,[1,36,37,38,49]),(15,[7,42,43,44,45,46,47,48]),(14,[39,40,41]),(12,[23,24,25,26,35]),(11,[5,32,34]),(10,[1,5,23,24,25,32,33]),(9,[31]),(8,[4,29,30]),(7,[26,27,28]),(5,[21,22]),(4,[1,21]),(3,[17,18,19,20]),(2,[1,17]),(1,[8,9,10,11,12,13,14,15,16]),(0,[0,2])]
theorem ynD:yaa Tryz.prog yp7 (fun i=>(fg13.lookup i).getD []) Tryz.f13=some ylW:=by kernel_rfl

-- parcener/bounds.fits
def ylX:AFn:=⟨2,[.tmp 4],
 (.seq
 (.ops [⟨some 4,(.mv (.c (.bool false))),none⟩]
 [] [4])
 (.seq
 (.ops [⟨some 5,(.mv (.c (.int .i64 (1)))),none⟩,
 ⟨some 6,(.mv (.c (.int .i64 (6)))),none⟩]
 [] [])
 (.seq
 (.seq
 (.ops [⟨some 7,(.mv (.t 0)),none⟩]
 [] [0])
 (.block 0
 (.seq
 (.ops [⟨some 9,(.bin .eql (.t 7) (.c (.int .i64 (1)))),none⟩,
 ⟨some 8,(.mv (.t 9)),none⟩]
 [] [9])
 (.cond (.t 8)
 (.ops [⟨some 5,(.mv (.c (.int .i64 (2)))),none⟩,
 ⟨some 6,(.mv (.c (.int .i64 (2)))),none⟩]
 [] [7,8])
 (.seq
 (.seq
 (.ops [⟨some 11,(.bin .eql (.t 7) (.c (.int .i64 (2)))),none⟩,
 ⟨some 10,(.mv (.t 11)),none⟩]
 [] [8,11])
 (.cond (.t 10)
 .skip
 (.seq
 (.ops [⟨some 12,(.bin .eql (.t 7) (.c (.int .i64 (3)))),none⟩,
 ⟨some 10,(.mv (.t 12)),none⟩]
 [] [12])
 (.cond (.t 10)
 .skip
 (.ops [⟨some 13,(.bin .eql (.t 7) (.c (.int .i64 (5)))),none⟩,
 ⟨some 10,(.mv (.t 13)),none⟩]
 [] [13])))))
 (.cond (.t 10)
 .skip
 (.seq
 (.ops [⟨some 15,(.bin .eql (.t 7) (.c (.int .i64 (4)))),none⟩,
 ⟨some 14,(.mv (.t 15)),none⟩]
 [] [6,10,15])
 (.cond (.t 14)
 (.ops [⟨some 5,(.mv (.c (.int .i64 (3)))),none⟩,
 ⟨some 6,(.mv (.c (.int .i64 (3)))),none⟩]
 [] [7,14])
 (.seq
 (.ops [⟨some 17,(.bin .eql (.t 7) (.c (.int .i64 (6)))),none⟩,
 ⟨some 16,(.mv (.t 17)),none⟩]
 [] [7,14,17])
 (.cond (.t 16)
 (.ops [⟨some 6,(.mv (.c (.int .i64 (4)))),none⟩]
 [] [16])
 (.seq
 (.ops [⟨some 4,(.mv (.c (.bool false))),none⟩]
 [] [1,5,16])
 .ret)))))))))))
 (.seq
 (.ops [⟨some 18,(.mv (.t 1)),none⟩,
 ⟨some 19,(.mv (.t 5)),none⟩,
 ⟨some 20,(.bin .geq (.t 18) (.t 19)),none⟩,
 ⟨some 21,(.mv (.t 20)),none⟩,
 ⟨some 22,(.mv (.t 1)),some (21,true)⟩,
 ⟨some 23,(.mv (.t 6)),some (21,true)⟩,
 ⟨some 24,(.bin .leq (.t 22) (.t 23)),some (21,true)⟩,
 ⟨some 25,(.pick (.t 21) (.t 24) (.c (.bool false))),none⟩,
 ⟨some 4,(.mv (.t 25)),none⟩]
 [] [1,5,6,7,10,18,19,20,21,22,23,24,25])
 .ret))))⟩
def yp8:List Nat:=[]
def fg14:List (Nat×List Nat):=[(13,[1,5,6,7,10,18,19,20,21,22,23,24,25]),(3,[1,5,16]),(12,[16]),(11,[7,14,17]),(10,[7,14]),(9,[6,10,15]),(8,[13]),(7,[12]),(6,[8,11]),(5,[7,8]),(4,[9]),(2,[0]),(0,[4])]
theorem ynE:yaa Tryz.prog yp8 (fun i=>(fg14.lookup i).getD []) Tryz.f14=some ylX:=by kernel_rfl

-- parcener/bounds.hand
def ylY:AFn:=⟨3,[.tmp 6],
 (.seq
 (.ops [⟨some 6,(.mv (.c .nils)),none⟩]
 [] [6])
 (.seq
 (.ops [⟨some 9,(.mv (.t 2)),none⟩,
 ⟨some 10,(.mkSl true 1 8 (.int .i64 (0)) (.t 9) (.t 9)),none⟩,
 ⟨some 7,(.mv (.t 10)),none⟩]
 [] [9,10])
 (.seq
 (.seq
 (.ops [⟨some 11,(.mv (.t 2)),none⟩,
 ⟨some 12,(.bin .sub (.t 11) (.c (.int .i64 (1)))),none⟩,
 ⟨some 8,(.mv (.t 12)),none⟩]
 [] [2,11,12])
 (.block 0
 (.loop
 (.seq
 (.seq
 (.ops [⟨some 13,(.mv (.t 8)),none⟩,
 ⟨some 14,(.bin .geq (.t 13) (.c (.int .i64 (0)))),none⟩]
 [] [13])
 (.cond (.t 14)
 .skip
 (.exit 0)))
 (.seq
 (.block 1
 (.seq
 (.ops [⟨some 17,(.mv (.t 7)),none⟩,
 ⟨some 18,(.mv (.t 8)),none⟩,
 ⟨some 19,(.mv (.t 0)),none⟩,
 ⟨some 20,(.mv (.t 1)),none⟩,
 ⟨some 21,(.bin .rem (.t 19) (.t 20)),none⟩,
 ⟨some 22,(.iad 1 (.t 17) (.t 18)),none⟩,
 ⟨none,(.store 1 (.t 22) (.t 21)),none⟩]
 [] [14,17,18,19,20,21,22])
 (.ops [⟨some 23,(.mv (.t 0)),none⟩,
 ⟨some 24,(.mv (.t 1)),none⟩,
 ⟨some 25,(.bin .quo (.t 23) (.t 24)),none⟩,
 ⟨some 0,(.mv (.t 25)),none⟩]
 [] [23,24,25])))
 (.ops [⟨some 15,(.mv (.t 8)),none⟩,
 ⟨some 16,(.bin .sub (.t 15) (.c (.int .i64 (1)))),none⟩,
 ⟨some 8,(.mv (.t 16)),none⟩]
 [] [15,16]))))))
 (.seq
 (.ops [⟨some 26,(.mv (.t 7)),none⟩,
 ⟨some 6,(.mv (.t 26)),none⟩]
 [] [0,1,7,8,14,26])
 .ret))))⟩
def yp9:List Nat:=[]
def fg15:List (Nat×List Nat):=[(7,[0,1,7,8,14,26]),(4,[15,16]),(6,[23,24,25]),(5,[14,17,18,19,20,21,22]),(3,[13]),(2,[2,11,12]),(1,[9,10]),(0,[6])]
theorem ynF:yaa Tryz.prog yp9 (fun i=>(fg15.lookup i).getD []) Tryz.f15=some ylY:=by kernel_rfl

-- parcener/trim.Bound
def ylZ:AFn:=⟨1,[.tmp 2,.tmp 3],
 (.seq
 (.ops [⟨some 2,(.mv (.c (.int .i64 (0)))),none⟩,
 ⟨some 3,(.mv (.c (.int .i64 (0)))),none⟩]
 [] [2,3])
 (.seq
 (.seq
 (.ops [⟨some 4,(.mv (.t 0)),none⟩,
 ⟨some 5,(.bin .lss (.t 4) (.c (.int .i64 (1)))),none⟩,
 ⟨some 6,(.mv (.t 5)),none⟩,
 ⟨some 7,(.mv (.t 0)),some (6,false)⟩,
 ⟨some 8,(.bin .gtr (.t 7) (.c (.int .i64 (6)))),some (6,false)⟩,
 ⟨some 9,(.pick (.t 6) (.c (.bool true)) (.t 8)),none⟩]
 [] [4,5,6,7,8])
 (.cond (.t 9)
 (.seq
 (.ops [⟨some 2,(.mv (.c (.int .i64 (0)))),none⟩,
 ⟨some 3,(.mv (.c (.int .i64 (2)))),none⟩]
 [] [0,9])
 .ret)
 .skip))
 (.seq
 (.ops [⟨some 10,(.mv (.t 0)),none⟩,
 ⟨some 11,(.mv (.t 0)),none⟩,
 ⟨some 12,(.bin .mul (.t 10) (.t 11)),none⟩,
 ⟨some 13,(.bin .sub (.t 12) (.c (.int .i64 (1)))),none⟩,
 ⟨some 2,(.mv (.t 13)),none⟩,
 ⟨some 3,(.mv (.c (.int .i64 (0)))),none⟩]
 [] [0,9,10,11,12,13])
 .ret)))⟩
def yqa:List Nat:=[]
def fg16:List (Nat×List Nat):=[(3,[0,9,10,11,12,13]),(2,[0,9]),(1,[4,5,6,7,8]),(0,[2,3])]
theorem ynG:yaa Tryz.prog yqa (fun i=>(fg16.lookup i).getD []) Tryz.f16=some ylZ:=by kernel_rfl

-- parcener/halve.Bound
def yl0:AFn:=⟨1,[.tmp 2,.tmp 3],
 (.seq
 (.ops [⟨some 2,(.mv (.c (.int .i64 (0)))),none⟩,
 ⟨some 3,(.mv (.c (.int .i64 (0)))),none⟩]
 [] [2,3])
 (.seq
 (.seq
 (.ops [⟨some 4,(.mv (.t 0)),none⟩,
 ⟨some 5,(.bin .lss (.t 4) (.c (.int .i64 (1)))),none⟩,
 ⟨some 6,(.mv (.t 5)),none⟩,
 ⟨some 7,(.mv (.t 0)),some (6,false)⟩,
 ⟨some 8,(.bin .gtr (.t 7) (.c (.int .i64 (6)))),some (6,false)⟩,
 ⟨some 9,(.pick (.t 6) (.c (.bool true)) (.t 8)),none⟩]
 [] [4,5,6,7,8])
 (.cond (.t 9)
 (.seq
 (.ops [⟨some 2,(.mv (.c (.int .i64 (0)))),none⟩,
 ⟨some 3,(.mv (.c (.int .i64 (2)))),none⟩]
 [] [0,9])
 .ret)
 .skip))
 (.seq
 (.seq
 (.ops [⟨some 10,(.mv (.t 0)),none⟩,
 ⟨some 11,(.bin .eql (.t 10) (.c (.int .i64 (1)))),none⟩]
 [] [9,10])
 (.cond (.t 11)
 (.seq
 (.ops [⟨some 2,(.mv (.c (.int .i64 (0)))),none⟩,
 ⟨some 3,(.mv (.c (.int .i64 (0)))),none⟩]
 [] [0,11])
 .ret)
 .skip))
 (.seq
 (.ops [⟨some 12,(.mv (.t 0)),none⟩,
 ⟨some 13,(.mv (.t 0)),none⟩,
 ⟨some 14,(.bin .sub (.t 13) (.c (.int .i64 (1)))),none⟩,
 ⟨some 15,(.conv .u64 (.t 14)),none⟩,
 ⟨some 16,(.call (.f 27) [(.t 15)]),none⟩,
 ⟨some 17,(.bin .mul (.c (.int .i64 (2))) (.t 16)),none⟩,
 ⟨some 18,(.bin .sub (.t 17) (.c (.int .i64 (1)))),none⟩,
 ⟨some 19,(.bin .mul (.t 12) (.t 18)),none⟩,
 ⟨some 2,(.mv (.t 19)),none⟩,
 ⟨some 3,(.mv (.c (.int .i64 (0)))),none⟩]
 [] [0,11,12,13,14,15,16,17,18,19])
 .ret))))⟩
def yqb:List Nat:=[]
def fg17:List (Nat×List Nat):=[(5,[0,11,12,13,14,15,16,17,18,19]),(4,[0,11]),(3,[9,10]),(2,[0,9]),(1,[4,5,6,7,8]),(0,[2,3])]
theorem ynH:yaa Tryz.prog yqb (fun i=>(fg17.lookup i).getD []) Tryz.f17=some yl0:=by kernel_rfl

-- parcener/triple.Bound
def yl1:AFn:=⟨0,[.tmp 0],
 (.seq
 (.ops [⟨some 0,(.mv (.c (.int .i64 (0)))),none⟩]
 [] [0])
 (.seq
 (.ops [⟨some 0,(.mv (.c (.int .i64 (16)))),none⟩]
 [] [])
 .ret))⟩
def yqc:List Nat:=[]
def fg18:List (Nat×List Nat):=[(0,[0])]
theorem ynI:yaa Tryz.prog yqc (fun i=>(fg18.lookup i).getD []) Tryz.f18=some yl1:=by kernel_rfl

-- parcener/choose.Run
def yl2:AFn:=⟨2,[.cell 4 true 1,.tmp 5,.tmp 6],
 (.seq
 (.ops [⟨some 4,(.allocL (.agg [.nils])),none⟩,
 ⟨some 5,(.mv (.c .nils)),none⟩,
 ⟨some 6,(.mv (.c (.int .i64 (0)))),none⟩]
 [] [5,6])
 (.seq
 (.ops [⟨some 9,(.mv (.t 0)),none⟩,
 ⟨some 10,(.mv (.t 1)),none⟩,
 ⟨some 11,(.call (.f 28) [(.t 9),(.t 10)]),none⟩,
 ⟨some 8,(.mv (.t 11)),none⟩,
 ⟨some 12,(.ext (.t 8) 0),none⟩,
 ⟨some 13,(.ext (.t 8) 1),none⟩,
 ⟨some 7,(.allocL (.agg [.nils,.nils,(.int .i64 (0)),(.int .i64 (0)),(.int .i64 (0)),(.int .i64 (0)),(.bool false)])),none⟩,
 ⟨none,(.store 7 (.t 7) (.t 12)),none⟩,
 ⟨some 6,(.mv (.t 13)),none⟩]
 [] [0,1,8,9,10,11,12,13])
 (.seq
 (.seq
 (.ops [⟨some 14,(.mv (.t 6)),none⟩,
 ⟨some 15,(.bin .neq (.t 14) (.c (.int .i64 (0)))),none⟩]
 [] [14])
 (.cond (.t 15)
 (.seq
 (.ops [⟨some 16,(.build [.nils] []),none⟩,
 ⟨some 17,(.mv (.t 6)),none⟩,
 ⟨none,(.store 1 (.t 4) (.t 16)),none⟩,
 ⟨some 5,(.mv (.c .nils)),none⟩,
 ⟨some 6,(.mv (.t 17)),none⟩]
 [] [7,15,16,17])
 .ret)
 .skip))
 (.seq
 (.ops [⟨some 18,(.load true 7 (.t 7)),none⟩,
 ⟨some 19,(.call (.f 29) [(.t 18)]),none⟩,
 ⟨some 20,(.call (.f 29) [(.t 19)]),none⟩,
 ⟨none,(.store 7 (.t 7) (.t 20)),none⟩]
 [] [6,15,18,19,20])
 (.seq
 (.ops [⟨some 22,(.load true 7 (.t 7)),none⟩,
 ⟨some 23,(.call (.f 30) [(.t 22)]),none⟩,
 ⟨some 21,(.mv (.t 23)),none⟩,
 ⟨some 24,(.ext (.t 21) 0),none⟩,
 ⟨some 25,(.ext (.t 21) 1),none⟩,
 ⟨none,(.store 1 (.t 4) (.t 24)),none⟩,
 ⟨some 6,(.mv (.t 25)),none⟩]
 [] [21,22,23,24,25])
 (.seq
 (.ops [⟨some 26,(.load true 1 (.t 4)),none⟩,
 ⟨some 27,(.fad 0 (.t 7)),none⟩,
 ⟨some 28,(.fad 1 (.t 27)),none⟩,
 ⟨some 29,(.load false 1 (.t 28)),none⟩,
 ⟨some 30,(.mv (.t 6)),none⟩,
 ⟨none,(.store 1 (.t 4) (.t 26)),none⟩,
 ⟨some 5,(.mv (.t 29)),none⟩,
 ⟨some 6,(.mv (.t 30)),none⟩]
 [(0,1),(0,2),(0,3),(0,4),(1,4),(2,4),(3,4),(1,5),(2,5),(3,5),(4,5),(4,6)] [7,26,27,28,29,30])
 .ret))))))⟩
def yqd:List Nat:=[4,7]
def fg19:List (Nat×List Nat):=[(6,[7,26,27,28,29,30]),(5,[21,22,23,24,25]),(4,[6,15,18,19,20]),(3,[7,15,16,17]),(2,[14]),(1,[0,1,8,9,10,11,12,13]),(0,[5,6])]
theorem ynJ:yaa Tryz.prog yqd (fun i=>(fg19.lookup i).getD []) Tryz.f19=some yl2:=by kernel_rfl

-- parcener/trim.Run
def yl3:AFn:=⟨1,[.cell 2 true 1,.cell 3 false 1,.cell 4 false 1,.cell 5 false 1],
 (.seq
 (.ops [⟨some 1,(.boxH false 1 (.t 0)),none⟩,
 ⟨some 2,(.allocH false 1 (.agg [.nils])),none⟩,
 ⟨some 3,(.allocH false 1 .nils),none⟩,
 ⟨some 4,(.allocH false 1 .nils),none⟩,
 ⟨some 5,(.allocH false 1 (.int .i64 (0))),none⟩]
 [] [0])
 (.seq
 (.ops [⟨some 10,(.load false 1 (.t 1)),none⟩,
 ⟨some 11,(.call (.f 31) [(.t 10)]),none⟩,
 ⟨some 9,(.mv (.t 11)),none⟩,
 ⟨some 12,(.ext (.t 9) 0),none⟩,
 ⟨some 13,(.ext (.t 9) 1),none⟩,
 ⟨some 6,(.allocL (.agg [.nils,.nils])),none⟩,
 ⟨none,(.store 2 (.t 6) (.t 12)),none⟩,
 ⟨none,(.store 1 (.t 5) (.t 13)),none⟩]
 [] [9,10,11,12,13])
 (.seq
 (.seq
 (.ops [⟨some 14,(.load false 1 (.t 5)),none⟩,
 ⟨some 15,(.bin .neq (.t 14) (.c (.int .i64 (0)))),none⟩]
 [] [14])
 (.cond (.t 15)
 (.seq
 (.ops [⟨some 16,(.build [.nils] []),none⟩,
 ⟨some 17,(.load false 1 (.t 5)),none⟩,
 ⟨none,(.store 1 (.t 2) (.t 16)),none⟩,
 ⟨none,(.store 1 (.t 3) (.c .nils)),none⟩,
 ⟨none,(.store 1 (.t 4) (.c .nils)),none⟩,
 ⟨none,(.store 1 (.t 5) (.t 17)),none⟩]
 [(0,1),(1,2),(1,3),(1,4)] [1,6,15,16,17])
 .ret)
 .skip))
 (.seq
 (.ops [⟨some 18,(.load false 1 (.t 1)),none⟩,
 ⟨some 19,(.len (.t 18)),none⟩,
 ⟨some 20,(.mkSl false 1 24 .nils (.t 19) (.t 19)),none⟩,
 ⟨some 21,(.fad 0 (.t 2)),none⟩,
 ⟨none,(.store 1 (.t 21) (.t 20)),none⟩]
 [] [15,18,19,20,21])
 (.seq
 .skip
 (.seq
 (.seq
 (.ops [⟨some 22,(.load true 2 (.t 6)),none⟩,
 ⟨some 23,(.mkFn (.func 33) [] [(.t 5)]),none⟩,
 ⟨some 24,(.call (.f 32) [(.t 22),(.t 23)]),none⟩]
 [] [6,22,23])
 (.block 0
 (.rangeF (.t 24) [25,26]
 (.seq
 (.ops [⟨some 7,(.allocH false 2 (.agg [.nils,.nils])),none⟩,
 ⟨none,(.store 2 (.t 7) (.t 25)),none⟩]
 [] [24,25])
 (.ops [⟨some 8,(.allocH false 6 (.agg [(.int .i64 (0)),(.int .i64 (0)),(.int .i64 (0)),(.int .i64 (0)),(.int .i64 (0)),(.int .i64 (0))])),none⟩,
 ⟨none,(.store 6 (.t 8) (.t 26)),none⟩]
 [] [26]))
 (.block 1
 (.seq
 (.ops [⟨some 27,(.load false 1 (.t 3)),none⟩,
 ⟨some 28,(.load true 6 (.t 8)),none⟩,
 ⟨some 29,(.buildD 6 (.agg [(.int .i64 (0)),(.int .i64 (0)),(.int .i64 (0)),(.int .i64 (0)),(.int .i64 (0)),(.int .i64 (0))]) 1 [(0,(.t 28))]),none⟩,
 ⟨some 30,(.app true 6 48 (.t 27) (.t 29)),none⟩,
 ⟨none,(.store 1 (.t 3) (.t 30)),none⟩]
 [] [27,28,29,30])
 (.seq
 (.ops [⟨some 31,(.fad 1 (.t 7)),none⟩,
 ⟨some 32,(.load false 1 (.t 31)),none⟩,
 ⟨none,(.store 1 (.t 4) (.t 32)),none⟩]
 [] [7,31,32])
 (.seq
 (.ops [⟨some 33,(.fad 0 (.t 2)),none⟩,
 ⟨some 34,(.load false 1 (.t 33)),none⟩,
 ⟨some 35,(.fad 0 (.t 8)),none⟩,
 ⟨some 36,(.load false 1 (.t 35)),none⟩,
 ⟨some 37,(.fad 1 (.t 8)),none⟩,
 ⟨some 38,(.load true 2 (.t 37)),none⟩,
 ⟨some 39,(.fad 3 (.t 8)),none⟩,
 ⟨some 40,(.load true 2 (.t 39)),none⟩,
 ⟨some 41,(.build [(.int .i64 (0)),(.int .i64 (0)),(.int .i64 (0)),(.int .i64 (0))] [(0,2,(.t 38)),(2,2,(.t 40))]),none⟩,
 ⟨some 42,(.buildD 4 (.agg [(.int .i64 (0)),(.int .i64 (0)),(.int .i64 (0)),(.int .i64 (0))]) 1 [(0,(.t 41))]),none⟩,
 ⟨some 43,(.iad 1 (.t 34) (.t 36)),none⟩,
 ⟨none,(.store 1 (.t 43) (.t 42)),none⟩]
 [] [8,33,34,35,36,37,38,39,40,41,42,43])
 (.seq
 (.ops [⟨some 44,(.load false 1 (.t 3)),none⟩,
 ⟨some 45,(.len (.t 44)),none⟩,
 ⟨some 46,(.load false 1 (.t 1)),none⟩,
 ⟨some 47,(.len (.t 46)),none⟩,
 ⟨some 48,(.bin .eql (.t 45) (.t 47)),none⟩]
 [] [1,44,45,46,47])
 (.cond (.t 48)
 (.exit 0)
 .skip)))))))))
 (.seq
 (.seq
 (.ops [⟨some 49,(.load false 1 (.t 5)),none⟩,
 ⟨some 50,(.bin .neq (.t 49) (.c (.int .i64 (0)))),none⟩]
 [] [1,24,48,49])
 (.cond (.t 50)
 (.seq
 (.ops [⟨some 51,(.build [.nils] []),none⟩,
 ⟨some 52,(.load false 1 (.t 5)),none⟩,
 ⟨none,(.store 1 (.t 2) (.t 51)),none⟩,
 ⟨none,(.store 1 (.t 3) (.c .nils)),none⟩,
 ⟨none,(.store 1 (.t 4) (.c .nils)),none⟩,
 ⟨none,(.store 1 (.t 5) (.t 52)),none⟩]
 [(0,1),(1,2),(1,3),(1,4)] [50,51,52])
 .ret)
 .skip))
 (.seq
 (.ops [⟨some 53,(.load true 1 (.t 2)),none⟩,
 ⟨some 54,(.load false 1 (.t 3)),none⟩,
 ⟨some 55,(.load false 1 (.t 4)),none⟩,
 ⟨none,(.store 1 (.t 2) (.t 53)),none⟩,
 ⟨none,(.store 1 (.t 3) (.t 54)),none⟩,
 ⟨none,(.store 1 (.t 4) (.t 55)),none⟩,
 ⟨none,(.store 1 (.t 5) (.c (.int .i64 (0)))),none⟩]
 [(0,1),(0,2),(1,2),(1,3),(2,3),(2,4)] [50,53,54,55])
 .ret))))))))⟩
def yqe:List Nat:=[29,42,6,1000001,1000002,1000003,1000004,1000005,1000006,1000020,1000007,1000008]
def fg20:List (Nat×List Nat):=[(14,[50,53,54,55]),(13,[50,51,52]),(12,[1,24,48,49]),(11,[1,44,45,46,47]),(10,[8,33,34,35,36,37,38,39,40,41,42,43]),(9,[7,31,32]),(8,[27,28,29,30]),(7,[26]),(6,[24,25]),(5,[6,22,23]),(4,[15,18,19,20,21]),(3,[1,6,15,16,17]),(2,[14]),(1,[9,10,11,12,13]),(0,[0])]
theorem ynK:yaa Tryz.prog yqe (fun i=>(fg20.lookup i).getD []) Tryz.f20=some yl3:=by kernel_rfl

-- parcener/halve.Run
def yl4:AFn:=⟨1,[.cell 2 true 1,.tmp 3,.tmp 4],
 (.seq
 (.ops [⟨some 2,(.allocL (.agg [.nils])),none⟩,
 ⟨some 3,(.mv (.c .nils)),none⟩,
 ⟨some 4,(.mv (.c (.int .i64 (0)))),none⟩]
 [] [3,4])
 (.seq
 (.ops [⟨some 16,(.mv (.t 0)),none⟩,
 ⟨some 17,(.call (.f 31) [(.t 16)]),none⟩,
 ⟨some 15,(.mv (.t 17)),none⟩,
 ⟨some 18,(.ext (.t 15) 0),none⟩,
 ⟨some 19,(.ext (.t 15) 1),none⟩,
 ⟨some 5,(.allocL (.agg [.nils,.nils])),none⟩,
 ⟨none,(.store 2 (.t 5) (.t 18)),none⟩,
 ⟨some 4,(.mv (.t 19)),none⟩]
 [] [15,16,17,18,19])
 (.seq
 (.seq
 (.ops [⟨some 20,(.mv (.t 4)),none⟩,
 ⟨some 21,(.bin .neq (.t 20) (.c (.int .i64 (0)))),none⟩]
 [] [20])
 (.cond (.t 21)
 (.seq
 (.ops [⟨some 22,(.build [.nils] []),none⟩,
 ⟨some 23,(.mv (.t 4)),none⟩,
 ⟨none,(.store 1 (.t 2) (.t 22)),none⟩,
 ⟨some 3,(.mv (.c .nils)),none⟩,
 ⟨some 4,(.mv (.t 23)),none⟩]
 [] [0,5,21,22,23])
 .ret)
 .skip))
 (.seq
 (.ops [⟨some 24,(.mv (.t 0)),none⟩,
 ⟨some 25,(.iad 3 (.t 24) (.c (.int .i64 (0)))),none⟩,
 ⟨some 26,(.fad 0 (.t 25)),none⟩,
 ⟨some 27,(.load false 1 (.t 26)),none⟩,
 ⟨some 28,(.call (.f 34) [(.t 27)]),none⟩,
 ⟨some 29,(.call (.f 34) [(.c (.int .i64 (0)))]),none⟩,
 ⟨some 30,(.build [.nils,(.int .i64 (0)),(.int .i64 (0)),(.int .i64 (0)),(.int .i64 (0))] [(3,2,(.t 28)),(1,2,(.t 29))]),none⟩,
 ⟨some 6,(.allocL (.agg [.nils,(.int .i64 (0)),(.int .i64 (0)),(.int .i64 (0)),(.int .i64 (0))])),none⟩,
 ⟨none,(.store 5 (.t 6) (.t 30)),none⟩]
 [] [4,21,24,25,26,27,28,29,30])
 (.seq
 (.seq
 (.ops [⟨some 31,(.mv (.t 0)),none⟩,
 ⟨some 32,(.len (.t 31)),none⟩,
 ⟨some 33,(.mv (.c (.int .i64 (0)))),none⟩]
 [] [31])
 (.block 0
 (.loop
 (.seq
 (.ops [⟨some 34,(.bin .lss (.t 33) (.t 32)),none⟩]
 [] [])
 (.seq
 (.cond (.t 34)
 .skip
 (.exit 0))
 (.seq
 (.block 1
 (.seq
 (.ops [⟨some 35,(.mv (.t 33)),none⟩,
 ⟨some 7,(.mv (.t 35)),none⟩]
 [] [34,35])
 (.ops [⟨some 36,(.fad 0 (.t 6)),none⟩,
 ⟨some 37,(.load false 1 (.t 36)),none⟩,
 ⟨some 38,(.mv (.t 7)),none⟩,
 ⟨some 39,(.buildD 1 (.int .i64 (0)) 1 [(0,(.t 38))]),none⟩,
 ⟨some 40,(.app true 1 8 (.t 37) (.t 39)),none⟩,
 ⟨some 41,(.fad 0 (.t 6)),none⟩,
 ⟨none,(.store 1 (.t 41) (.t 40)),none⟩]
 [] [7,36,37,38,39,40,41])))
 (.ops [⟨some 42,(.bin .add (.t 33) (.c (.int .i64 (1)))),none⟩,
 ⟨some 33,(.mv (.t 42)),none⟩]
 [] [42])))))))
 (.seq
 (.ops [⟨some 43,(.mv (.t 0)),none⟩,
 ⟨some 44,(.len (.t 43)),none⟩,
 ⟨some 45,(.mkSl true 1 24 (.data []) (.t 44) (.t 44)),none⟩,
 ⟨some 46,(.fad 0 (.t 2)),none⟩,
 ⟨none,(.store 1 (.t 46) (.t 45)),none⟩]
 [] [0,32,33,34,43,44,45,46])
 (.seq
 (.seq
 (.ops [⟨some 47,(.load true 5 (.t 6)),none⟩,
 ⟨some 48,(.buildSl true 5 (.agg [(.data []),(.int .i64 (0)),(.int .i64 (0)),(.int .i64 (0)),(.int .i64 (0))]) 1 [(0,(.t 47))]),none⟩,
 ⟨some 8,(.mv (.t 48)),none⟩]
 [] [6,47,48])
 (.block 2
 (.loop
 (.seq
 (.seq
 (.ops [⟨some 49,(.mv (.t 8)),none⟩,
 ⟨some 50,(.len (.t 49)),none⟩,
 ⟨some 51,(.bin .gtr (.t 50) (.c (.int .i64 (0)))),none⟩]
 [] [49,50])
 (.cond (.t 51)
 .skip
 (.exit 2)))
 (.block 3
 (.seq
 (.ops [⟨some 52,(.mv (.t 8)),none⟩,
 ⟨some 53,(.mv (.t 8)),none⟩,
 ⟨some 54,(.len (.t 53)),none⟩,
 ⟨some 55,(.bin .sub (.t 54) (.c (.int .i64 (1)))),none⟩,
 ⟨some 56,(.iad 5 (.t 52) (.t 55)),none⟩,
 ⟨some 57,(.load true 5 (.t 56)),none⟩,
 ⟨some 9,(.allocL (.agg [.nils,(.int .i64 (0)),(.int .i64 (0)),(.int .i64 (0)),(.int .i64 (0))])),none⟩,
 ⟨none,(.store 5 (.t 9) (.t 57)),none⟩]
 [] [51,52,53,54,55,56,57])
 (.seq
 (.ops [⟨some 58,(.mv (.t 8)),none⟩,
 ⟨some 59,(.mv (.t 8)),none⟩,
 ⟨some 60,(.len (.t 59)),none⟩,
 ⟨some 61,(.bin .sub (.t 60) (.c (.int .i64 (1)))),none⟩,
 ⟨some 62,(.slc 5 (.t 58) none (some (.t 61)) none),none⟩,
 ⟨some 8,(.mv (.t 62)),none⟩]
 [] [58,59,60,61,62])
 (.seq
 (.seq
 (.ops [⟨some 63,(.fad 0 (.t 9)),none⟩,
 ⟨some 64,(.load false 1 (.t 63)),none⟩,
 ⟨some 65,(.len (.t 64)),none⟩,
 ⟨some 66,(.bin .eql (.t 65) (.c (.int .i64 (1)))),none⟩]
 [] [63,64,65])
 (.cond (.t 66)
 (.seq
 (.ops [⟨some 67,(.fad 0 (.t 2)),none⟩,
 ⟨some 68,(.load false 1 (.t 67)),none⟩,
 ⟨some 69,(.fad 0 (.t 9)),none⟩,
 ⟨some 70,(.load false 1 (.t 69)),none⟩,
 ⟨some 71,(.iad 1 (.t 70) (.c (.int .i64 (0)))),none⟩,
 ⟨some 72,(.load false 1 (.t 71)),none⟩,
 ⟨some 73,(.fad 1 (.t 9)),none⟩,
 ⟨some 74,(.load true 2 (.t 73)),none⟩,
 ⟨some 75,(.fad 3 (.t 9)),none⟩,
 ⟨some 76,(.load true 2 (.t 75)),none⟩,
 ⟨some 77,(.build [(.int .i64 (0)),(.int .i64 (0)),(.int .i64 (0)),(.int .i64 (0))] [(0,2,(.t 74)),(2,2,(.t 76))]),none⟩,
 ⟨some 78,(.buildD 4 (.agg [(.int .i64 (0)),(.int .i64 (0)),(.int .i64 (0)),(.int .i64 (0))]) 1 [(0,(.t 77))]),none⟩,
 ⟨some 79,(.iad 1 (.t 68) (.t 72)),none⟩,
 ⟨none,(.store 1 (.t 79) (.t 78)),none⟩]
 [(0,2),(1,2),(0,3),(1,3),(0,4),(1,4),(0,5),(1,5),(0,6),(1,6),(2,6),(3,6),(4,6),(5,6),(0,7),(1,7),(2,7),(3,7),(4,7),(5,7),(0,8),(1,8),(2,8),(3,8),(4,8),(5,8),(6,8),(7,8),(0,9),(1,9),(2,9),(3,9),(4,9),(5,9),(6,9),(7,9),(0,10),(1,10),(2,10),(3,10),(4,10),(5,10),(0,11),(1,11),(2,11),(3,11),(4,11),(5,11)] [9,66,67,68,69,70,71,72,73,74,75,76,77,78,79])
 (.exit 3))
 .skip))
 (.seq
 (.ops [⟨some 81,(.load true 2 (.t 5)),none⟩,
 ⟨some 82,(.fad 0 (.t 9)),none⟩,
 ⟨some 83,(.load false 1 (.t 82)),none⟩,
 ⟨some 84,(.fad 1 (.t 9)),none⟩,
 ⟨some 85,(.load true 2 (.t 84)),none⟩,
 ⟨some 86,(.fad 3 (.t 9)),none⟩,
 ⟨some 87,(.load true 2 (.t 86)),none⟩,
 ⟨some 88,(.call (.f 35) [(.t 81),(.t 83),(.t 85),(.t 87)]),none⟩,
 ⟨some 80,(.mv (.t 88)),none⟩,
 ⟨some 89,(.ext (.t 80) 0),none⟩,
 ⟨some 90,(.ext (.t 80) 1),none⟩,
 ⟨some 91,(.ext (.t 80) 2),none⟩,
 ⟨some 92,(.ext (.t 80) 3),none⟩,
 ⟨some 93,(.ext (.t 80) 4),none⟩,
 ⟨some 10,(.allocL (.agg [.nils,.nils])),none⟩,
 ⟨some 11,(.allocL (.agg [(.int .i64 (0)),(.int .i64 (0))])),none⟩,
 ⟨none,(.store 2 (.t 10) (.t 89)),none⟩,
 ⟨none,(.store 2 (.t 11) (.t 90)),none⟩,
 ⟨some 12,(.mv (.t 91)),none⟩,
 ⟨some 13,(.mv (.t 92)),none⟩,
 ⟨some 14,(.mv (.t 93)),none⟩]
 [] [66,80,81,82,83,84,85,86,87,88,89,90,91,92,93])
 (.seq
 (.seq
 (.ops [⟨some 94,(.mv (.t 14)),none⟩,
 ⟨some 95,(.bin .neq (.t 94) (.c (.int .i64 (0)))),none⟩]
 [] [94])
 (.cond (.t 95)
 (.seq
 (.ops [⟨some 96,(.build [.nils] []),none⟩,
 ⟨some 97,(.mv (.t 14)),none⟩,
 ⟨none,(.store 1 (.t 2) (.t 96)),none⟩,
 ⟨some 3,(.mv (.c .nils)),none⟩,
 ⟨some 4,(.mv (.t 97)),none⟩]
 [] [5,8,9,10,11,12,13,14,95,96,97])
 .ret)
 .skip))
 (.seq
 (.ops [⟨some 98,(.load true 2 (.t 10)),none⟩,
 ⟨none,(.store 2 (.t 5) (.t 98)),none⟩]
 [] [10,14,95,98])
 (.ops [⟨some 99,(.mv (.t 8)),none⟩,
 ⟨some 100,(.mv (.t 13)),none⟩,
 ⟨some 101,(.load true 2 (.t 11)),none⟩,
 ⟨some 102,(.fad 3 (.t 9)),none⟩,
 ⟨some 103,(.load true 2 (.t 102)),none⟩,
 ⟨some 104,(.build [.nils,(.int .i64 (0)),(.int .i64 (0)),(.int .i64 (0)),(.int .i64 (0))] [(0,1,(.t 100)),(1,2,(.t 101)),(3,2,(.t 103))]),none⟩,
 ⟨some 105,(.mv (.t 12)),none⟩,
 ⟨some 106,(.fad 1 (.t 9)),none⟩,
 ⟨some 107,(.load true 2 (.t 106)),none⟩,
 ⟨some 108,(.load true 2 (.t 11)),none⟩,
 ⟨some 109,(.build [.nils,(.int .i64 (0)),(.int .i64 (0)),(.int .i64 (0)),(.int .i64 (0))] [(0,1,(.t 105)),(1,2,(.t 107)),(3,2,(.t 108))]),none⟩,
 ⟨some 110,(.buildD 5 (.agg [(.data []),(.int .i64 (0)),(.int .i64 (0)),(.int .i64 (0)),(.int .i64 (0))]) 2 [(0,(.t 104)),(1,(.t 109))]),none⟩,
 ⟨some 111,(.app true 5 56 (.t 99) (.t 110)),none⟩,
 ⟨some 8,(.mv (.t 111)),none⟩]
 [] [9,11,12,13,99,100,101,102,103,104,105,106,107,108,109,110,111]))))))))))))
 (.seq
 (.ops [⟨some 112,(.load true 1 (.t 2)),none⟩,
 ⟨some 113,(.fad 1 (.t 5)),none⟩,
 ⟨some 114,(.load false 1 (.t 113)),none⟩,
 ⟨none,(.store 1 (.t 2) (.t 112)),none⟩,
 ⟨some 3,(.mv (.t 114)),none⟩,
 ⟨some 4,(.mv (.c (.int .i64 (0)))),none⟩]
 [(0,1),(0,2),(1,3),(2,3)] [5,8,51,112,113,114])
 .ret))))))))⟩
def yqf:List Nat:=[39,78,110,2,5,6,9,10,11]
def fg21:List (Nat×List Nat):=[(22,[5,8,51,112,113,114]),(21,[9,11,12,13,99,100,101,102,103,104,105,106,107,108,109,110,111]),(20,[10,14,95,98]),(19,[5,8,9,10,11,12,13,14,95,96,97]),(18,[94]),(17,[66,80,81,82,83,84,85,86,87,88,89,90,91,92,93]),(16,[9,66,67,68,69,70,71,72,73,74,75,76,77,78,79]),(15,[63,64,65]),(14,[58,59,60,61,62]),(13,[51,52,53,54,55,56,57]),(12,[49,50]),(11,[6,47,48]),(10,[0,32,33,34,43,44,45,46]),(9,[42]),(8,[7,36,37,38,39,40,41]),(7,[34,35]),(5,[31]),(4,[4,21,24,25,26,27,28,29,30]),(3,[0,5,21,22,23]),(2,[20]),(1,[15,16,17,18,19]),(0,[3,4])]
theorem ynL:yaa Tryz.prog yqf (fun i=>(fg21.lookup i).getD []) Tryz.f21=some yl4:=by kernel_rfl

-- parcener/triple.Run
def yl5:AFn:=⟨1,[.cell 2 true 1,.cell 3 true 20,.tmp 4,.cell 5 false 1],
 (.seq
 (.ops [⟨some 2,(.allocH false 1 (.agg [.nils])),none⟩,
 ⟨some 3,(.allocH false 20 (.agg [(.int .i64 (0)),(.int .i64 (0)),(.int .i64 (0)),(.int .i64 (0)),(.int .i64 (0)),(.int .i64 (0)),(.int .i64 (0)),(.int .i64 (0)),(.int .i64 (0)),(.int .i64 (0)),(.int .i64 (0)),(.int .i64 (0)),(.int .i64 (0)),(.int .i64 (0)),(.int .i64 (0)),(.int .i64 (0)),(.int .i64 (0)),(.int .i64 (0)),(.int .i64 (0)),(.int .i64 (0))])),none⟩,
 ⟨some 4,(.mv (.c .nils)),none⟩,
 ⟨some 5,(.allocH false 1 (.int .i64 (0))),none⟩]
 [] [4])
 (.seq
 (.seq
 (.ops [⟨some 8,(.mv (.t 0)),none⟩,
 ⟨some 9,(.build [.nils,.nils] [(0,1,(.t 8))]),none⟩,
 ⟨some 10,(.call (.f 36) [(.t 9)]),none⟩,
 ⟨some 6,(.mv (.t 10)),none⟩]
 [] [8,9,10])
 (.seq
 (.ops [⟨some 11,(.mv (.t 6)),none⟩,
 ⟨some 12,(.bin .neq (.t 11) (.c (.int .i64 (0)))),none⟩]
 [] [11])
 (.cond (.t 12)
 (.seq
 (.ops [⟨some 13,(.build [.nils] []),none⟩,
 ⟨some 14,(.build [(.int .i64 (0)),(.int .i64 (0)),(.int .i64 (0)),(.int .i64 (0)),(.int .i64 (0)),(.int .i64 (0)),(.int .i64 (0)),(.int .i64 (0)),(.int .i64 (0)),(.int .i64 (0)),(.int .i64 (0)),(.int .i64 (0)),(.int .i64 (0)),(.int .i64 (0)),(.int .i64 (0)),(.int .i64 (0)),(.int .i64 (0)),(.int .i64 (0)),(.int .i64 (0)),(.int .i64 (0))] []),none⟩,
 ⟨some 15,(.mv (.t 6)),none⟩,
 ⟨none,(.store 1 (.t 2) (.t 13)),none⟩,
 ⟨none,(.store 20 (.t 3) (.t 14)),none⟩,
 ⟨some 4,(.mv (.c .nils)),none⟩,
 ⟨none,(.store 1 (.t 5) (.t 15)),none⟩]
 [] [0,6,12,13,14,15])
 .ret)
 .skip)))
 (.seq
 (.ops [⟨some 16,(.mv (.t 0)),none⟩,
 ⟨some 17,(.build [.nils,.nils] [(0,1,(.t 16))]),none⟩,
 ⟨some 18,(.build [.nils,.nils] [(0,2,(.t 17))]),none⟩,
 ⟨some 7,(.allocH false 2 (.agg [.nils,.nils])),none⟩,
 ⟨none,(.store 2 (.t 7) (.t 18)),none⟩]
 [] [0,6,12,16,17,18])
 (.seq
 (.ops [⟨some 19,(.mkFn (.func 37) [] [(.t 5),(.t 7),(.t 3),(.t 2)]),none⟩,
 ⟨some 20,(.call (.t 19) []),none⟩]
 [] [19,20])
 (.seq
 (.seq
 (.ops [⟨some 21,(.load false 1 (.t 5)),none⟩,
 ⟨some 22,(.bin .neq (.t 21) (.c (.int .i64 (0)))),none⟩]
 [] [21])
 (.cond (.t 22)
 (.seq
 (.ops [⟨some 23,(.build [.nils] []),none⟩,
 ⟨some 24,(.build [(.int .i64 (0)),(.int .i64 (0)),(.int .i64 (0)),(.int .i64 (0)),(.int .i64 (0)),(.int .i64 (0)),(.int .i64 (0)),(.int .i64 (0)),(.int .i64 (0)),(.int .i64 (0)),(.int .i64 (0)),(.int .i64 (0)),(.int .i64 (0)),(.int .i64 (0)),(.int .i64 (0)),(.int .i64 (0)),(.int .i64 (0)),(.int .i64 (0)),(.int .i64 (0)),(.int .i64 (0))] []),none⟩,
 ⟨some 25,(.load false 1 (.t 5)),none⟩,
 ⟨none,(.store 1 (.t 2) (.t 23)),none⟩,
 ⟨none,(.store 20 (.t 3) (.t 24)),none⟩,
 ⟨some 4,(.mv (.c .nils)),none⟩,
 ⟨none,(.store 1 (.t 5) (.t 25)),none⟩]
 [(0,1),(0,2),(1,2),(1,3),(2,3),(2,4),(2,5)] [7,22,23,24,25])
 .ret)
 .skip))
 (.seq
 (.ops [⟨some 26,(.load true 1 (.t 2)),none⟩,
 ⟨some 27,(.load true 20 (.t 3)),none⟩,
 ⟨some 28,(.fad 0 (.t 7)),none⟩,
 ⟨some 29,(.fad 1 (.t 28)),none⟩,
 ⟨some 30,(.load false 1 (.t 29)),none⟩,
 ⟨none,(.store 1 (.t 2) (.t 26)),none⟩,
 ⟨none,(.store 20 (.t 3) (.t 27)),none⟩,
 ⟨some 4,(.mv (.t 30)),none⟩,
 ⟨none,(.store 1 (.t 5) (.c (.int .i64 (0)))),none⟩]
 [(0,1),(0,2),(1,2),(0,3),(1,3),(0,4),(1,4),(1,5),(2,5),(3,5),(4,5),(2,6),(3,6),(4,6)] [7,22,26,27,28,29,30])
 .ret))))))⟩
def yqg:List Nat:=[1000002,1000003,1000005,1000007]
def fg22:List (Nat×List Nat):=[(8,[7,22,26,27,28,29,30]),(7,[7,22,23,24,25]),(6,[21]),(5,[19,20]),(4,[0,6,12,16,17,18]),(3,[0,6,12,13,14,15]),(2,[11]),(1,[8,9,10]),(0,[4])]
theorem ynM:yaa Tryz.prog yqg (fun i=>(fg22.lookup i).getD []) Tryz.f22=some yl5:=by kernel_rfl

-- parcener/knife.Spans
def yl6:AFn:=⟨1,[.cell 2 true 1,.tmp 3,.tmp 4,.tmp 5],
 (.seq
 (.ops [⟨some 2,(.allocL (.agg [.nils])),none⟩,
 ⟨some 3,(.mv (.c .nils)),none⟩,
 ⟨some 4,(.mv (.c .nils)),none⟩,
 ⟨some 5,(.mv (.c (.int .i64 (0)))),none⟩]
 [] [4,5])
 (.seq
 (.ops [⟨some 19,(.mv (.t 0)),none⟩,
 ⟨some 20,(.call (.f 31) [(.t 19)]),none⟩,
 ⟨some 18,(.mv (.t 20)),none⟩,
 ⟨some 21,(.ext (.t 18) 0),none⟩,
 ⟨some 22,(.ext (.t 18) 1),none⟩,
 ⟨some 6,(.allocL (.agg [.nils,.nils])),none⟩,
 ⟨none,(.store 2 (.t 6) (.t 21)),none⟩,
 ⟨some 5,(.mv (.t 22)),none⟩]
 [] [18,19,20,21,22])
 (.seq
 (.seq
 (.ops [⟨some 23,(.mv (.t 5)),none⟩,
 ⟨some 24,(.bin .neq (.t 23) (.c (.int .i64 (0)))),none⟩]
 [] [23])
 (.cond (.t 24)
 (.seq
 (.ops [⟨some 25,(.build [.nils] []),none⟩,
 ⟨some 26,(.mv (.t 5)),none⟩,
 ⟨none,(.store 1 (.t 2) (.t 25)),none⟩,
 ⟨some 3,(.mv (.c .nils)),none⟩,
 ⟨some 4,(.mv (.c .nils)),none⟩,
 ⟨some 5,(.mv (.t 26)),none⟩]
 [] [0,6,24,25,26])
 .ret)
 .skip))
 (.seq
 (.ops [⟨some 27,(.mv (.t 0)),none⟩,
 ⟨some 28,(.len (.t 27)),none⟩,
 ⟨some 29,(.mkSl true 1 8 (.int .i64 (0)) (.c (.int .i64 (0))) (.t 28)),none⟩,
 ⟨some 7,(.mv (.t 29)),none⟩]
 [] [5,24,27,28,29])
 (.seq
 (.seq
 (.ops [⟨some 30,(.mv (.t 0)),none⟩,
 ⟨some 31,(.len (.t 30)),none⟩,
 ⟨some 32,(.mv (.c (.int .i64 (0)))),none⟩]
 [] [30])
 (.block 0
 (.loop
 (.seq
 (.ops [⟨some 33,(.bin .lss (.t 32) (.t 31)),none⟩]
 [] [])
 (.seq
 (.cond (.t 33)
 .skip
 (.exit 0))
 (.seq
 (.block 1
 (.seq
 (.ops [⟨some 34,(.mv (.t 32)),none⟩,
 ⟨some 8,(.mv (.t 34)),none⟩]
 [] [33,34])
 (.ops [⟨some 35,(.mv (.t 7)),none⟩,
 ⟨some 36,(.mv (.t 8)),none⟩,
 ⟨some 37,(.buildD 1 (.int .i64 (0)) 1 [(0,(.t 36))]),none⟩,
 ⟨some 38,(.app true 1 8 (.t 35) (.t 37)),none⟩,
 ⟨some 7,(.mv (.t 38)),none⟩]
 [] [8,35,36,37,38])))
 (.ops [⟨some 39,(.bin .add (.t 32) (.c (.int .i64 (1)))),none⟩,
 ⟨some 32,(.mv (.t 39)),none⟩]
 [] [39])))))))
 (.seq
 (.ops [⟨some 40,(.mv (.t 0)),none⟩,
 ⟨some 41,(.len (.t 40)),none⟩,
 ⟨some 42,(.mkSl true 1 24 (.data []) (.t 41) (.t 41)),none⟩,
 ⟨some 43,(.fad 0 (.t 2)),none⟩,
 ⟨none,(.store 1 (.t 43) (.t 42)),none⟩]
 [] [31,32,33,40,41,42,43])
 (.seq
 (.ops [⟨some 44,(.call (.f 43) [(.c (.int .i64 (0)))]),none⟩,
 ⟨some 9,(.allocL (.agg [(.int .i64 (0)),(.int .i64 (0))])),none⟩,
 ⟨none,(.store 2 (.t 9) (.t 44)),none⟩]
 [] [44])
 (.seq
 (.block 2
 (.loop
 (.seq
 (.seq
 (.ops [⟨some 45,(.mv (.t 7)),none⟩,
 ⟨some 46,(.len (.t 45)),none⟩,
 ⟨some 47,(.bin .gtr (.t 46) (.c (.int .i64 (1)))),none⟩]
 [] [45,46])
 (.cond (.t 47)
 .skip
 (.exit 2)))
 (.block 3
 (.seq
 (.ops [⟨some 48,(.build [(.int .i64 (0)),(.int .i64 (0))] []),none⟩,
 ⟨some 11,(.allocL (.agg [(.int .i64 (0)),(.int .i64 (0))])),none⟩,
 ⟨some 10,(.mv (.c (.int .i64 (0)))),none⟩,
 ⟨none,(.store 2 (.t 11) (.t 48)),none⟩]
 [] [47,48])
 (.seq
 (.seq
 (.ops [⟨some 49,(.mv (.t 7)),none⟩,
 ⟨some 50,(.len (.t 49)),none⟩,
 ⟨some 51,(.mv (.c (.int .i64 (0)))),none⟩]
 [] [])
 (.block 4
 (.loop
 (.seq
 (.ops [⟨some 52,(.bin .lss (.t 51) (.t 50)),none⟩]
 [] [])
 (.seq
 (.cond (.t 52)
 .skip
 (.exit 4))
 (.seq
 (.block 5
 (.seq
 (.ops [⟨some 53,(.mv (.t 51)),none⟩,
 ⟨some 54,(.iad 1 (.t 49) (.t 51)),none⟩,
 ⟨some 55,(.load false 1 (.t 54)),none⟩,
 ⟨some 12,(.mv (.t 53)),none⟩,
 ⟨some 13,(.mv (.t 55)),none⟩]
 [] [52,53,54,55])
 (.seq
 (.ops [⟨some 57,(.load true 2 (.t 6)),none⟩,
 ⟨some 58,(.mv (.t 13)),none⟩,
 ⟨some 59,(.load true 2 (.t 9)),none⟩,
 ⟨some 60,(.mv (.t 0)),none⟩,
 ⟨some 61,(.mv (.t 13)),none⟩,
 ⟨some 62,(.iad 3 (.t 60) (.t 61)),none⟩,
 ⟨some 63,(.load true 3 (.t 62)),none⟩,
 ⟨some 64,(.mv (.t 0)),none⟩,
 ⟨some 65,(.len (.t 64)),none⟩,
 ⟨some 66,(.call (.f 45) [(.t 63),(.t 65)]),none⟩,
 ⟨some 67,(.call (.f 44) [(.t 57),(.t 58),(.t 59),(.t 66)]),none⟩,
 ⟨some 56,(.mv (.t 67)),none⟩,
 ⟨some 68,(.ext (.t 56) 0),none⟩,
 ⟨some 69,(.ext (.t 56) 1),none⟩,
 ⟨some 70,(.ext (.t 56) 2),none⟩,
 ⟨some 14,(.allocL (.agg [.nils,.nils])),none⟩,
 ⟨some 15,(.allocL (.agg [(.int .i64 (0)),(.int .i64 (0))])),none⟩,
 ⟨none,(.store 2 (.t 14) (.t 68)),none⟩,
 ⟨none,(.store 2 (.t 15) (.t 69)),none⟩,
 ⟨some 16,(.mv (.t 70)),none⟩]
 [(0,1),(0,2),(1,2),(0,3),(1,3),(2,3),(0,4),(1,4),(2,4),(3,4),(0,5),(1,5),(2,5),(0,6),(1,6),(2,6),(0,7),(1,7),(2,7),(3,7),(4,7),(5,7),(6,7),(0,8),(1,8),(2,8),(3,8),(4,8),(5,8),(6,8),(0,9),(1,9),(2,9),(12,13),(12,14),(13,14),(0,15),(1,15),(2,15),(3,15),(4,15),(5,15),(6,15),(7,15),(8,15),(9,15),(10,15),(11,15),(12,15),(13,15),(14,15),(0,16),(1,16),(2,16),(3,16),(4,16),(5,16),(6,16),(7,16),(8,16),(9,16),(10,16),(11,16),(12,16),(13,16),(14,16),(15,16),(13,17),(14,17),(14,18)] [13,56,57,58,59,60,61,62,63,64,65,66,67,68,69,70])
 (.seq
 (.seq
 (.ops [⟨some 71,(.mv (.t 16)),none⟩,
 ⟨some 72,(.bin .neq (.t 71) (.c (.int .i64 (0)))),none⟩]
 [] [71])
 (.cond (.t 72)
 (.seq
 (.ops [⟨some 73,(.build [.nils] []),none⟩,
 ⟨some 74,(.mv (.t 16)),none⟩,
 ⟨none,(.store 1 (.t 2) (.t 73)),none⟩,
 ⟨some 3,(.mv (.c .nils)),none⟩,
 ⟨some 4,(.mv (.c .nils)),none⟩,
 ⟨some 5,(.mv (.t 74)),none⟩]
 [] [0,6,7,9,10,11,12,14,15,16,49,50,51,72,73,74])
 .ret)
 .skip))
 (.seq
 (.ops [⟨some 75,(.load true 2 (.t 14)),none⟩,
 ⟨none,(.store 2 (.t 6) (.t 75)),none⟩]
 [] [14,16,72,75])
 (.seq
 (.ops [⟨some 76,(.mv (.t 12)),none⟩,
 ⟨some 77,(.bin .eql (.t 76) (.c (.int .i64 (0)))),none⟩,
 ⟨some 78,(.mv (.t 77)),none⟩,
 ⟨some 79,(.load true 2 (.t 15)),some (78,false)⟩,
 ⟨some 80,(.load true 2 (.t 11)),some (78,false)⟩,
 ⟨some 81,(.call (.f 46) [(.t 79),(.t 80)]),some (78,false)⟩,
 ⟨some 82,(.pick (.t 78) (.c (.bool true)) (.t 81)),none⟩]
 [] [76,77,78,79,80,81])
 (.cond (.t 82)
 (.ops [⟨some 83,(.mv (.t 12)),none⟩,
 ⟨some 84,(.load true 2 (.t 15)),none⟩,
 ⟨some 10,(.mv (.t 83)),none⟩,
 ⟨none,(.store 2 (.t 11) (.t 84)),none⟩]
 [(0,1),(1,2)] [12,15,82,83,84])
 .skip)))))))
 (.ops [⟨some 85,(.bin .add (.t 51) (.c (.int .i64 (1)))),none⟩,
 ⟨some 51,(.mv (.t 85)),none⟩]
 [] [12,15,82,85])))))))
 (.seq
 (.ops [⟨some 86,(.mv (.t 7)),none⟩,
 ⟨some 87,(.mv (.t 10)),none⟩,
 ⟨some 88,(.iad 1 (.t 86) (.t 87)),none⟩,
 ⟨some 89,(.load false 1 (.t 88)),none⟩,
 ⟨some 17,(.mv (.t 89)),none⟩]
 [] [49,50,51,52,86,87,88,89])
 (.seq
 (.ops [⟨some 90,(.fad 0 (.t 2)),none⟩,
 ⟨some 91,(.load false 1 (.t 90)),none⟩,
 ⟨some 92,(.mv (.t 17)),none⟩,
 ⟨some 93,(.load true 2 (.t 9)),none⟩,
 ⟨some 94,(.load true 2 (.t 11)),none⟩,
 ⟨some 95,(.build [(.int .i64 (0)),(.int .i64 (0)),(.int .i64 (0)),(.int .i64 (0))] [(0,2,(.t 93)),(2,2,(.t 94))]),none⟩,
 ⟨some 96,(.buildD 4 (.agg [(.int .i64 (0)),(.int .i64 (0)),(.int .i64 (0)),(.int .i64 (0))]) 1 [(0,(.t 95))]),none⟩,
 ⟨some 97,(.iad 1 (.t 91) (.t 92)),none⟩,
 ⟨none,(.store 1 (.t 97) (.t 96)),none⟩]
 [] [90,91,92,93,94,95,96,97])
 (.seq
 (.ops [⟨some 98,(.mv (.t 3)),none⟩,
 ⟨some 99,(.mv (.t 17)),none⟩,
 ⟨some 100,(.buildD 1 (.int .i64 (0)) 1 [(0,(.t 99))]),none⟩,
 ⟨some 101,(.app true 1 8 (.t 98) (.t 100)),none⟩,
 ⟨some 3,(.mv (.t 101)),none⟩]
 [] [17,98,99,100,101])
 (.seq
 (.ops [⟨some 102,(.mv (.t 7)),none⟩,
 ⟨some 103,(.mv (.t 10)),none⟩,
 ⟨some 104,(.slc 1 (.t 102) none (some (.t 103)) none),none⟩,
 ⟨some 105,(.mv (.t 7)),none⟩,
 ⟨some 106,(.mv (.t 10)),none⟩,
 ⟨some 107,(.bin .add (.t 106) (.c (.int .i64 (1)))),none⟩,
 ⟨some 108,(.slc 1 (.t 105) (some (.t 107)) none none),none⟩,
 ⟨some 109,(.app true 1 8 (.t 104) (.t 108)),none⟩,
 ⟨some 7,(.mv (.t 109)),none⟩]
 [(0,1),(0,3),(1,3),(2,3),(0,4),(1,4),(2,4),(3,4),(0,5),(1,5),(2,5),(3,5),(0,6),(1,6),(2,6)] [10,102,103,104,105,106,107,108,109])
 (.ops [⟨some 110,(.load true 2 (.t 11)),none⟩,
 ⟨none,(.store 2 (.t 9) (.t 110)),none⟩]
 [] [11,110])))))))))))
 (.seq
 (.ops [⟨some 111,(.fad 0 (.t 2)),none⟩,
 ⟨some 112,(.load false 1 (.t 111)),none⟩,
 ⟨some 113,(.mv (.t 7)),none⟩,
 ⟨some 114,(.iad 1 (.t 113) (.c (.int .i64 (0)))),none⟩,
 ⟨some 115,(.load false 1 (.t 114)),none⟩,
 ⟨some 116,(.load true 2 (.t 9)),none⟩,
 ⟨some 117,(.mv (.t 0)),none⟩,
 ⟨some 118,(.iad 3 (.t 117) (.c (.int .i64 (0)))),none⟩,
 ⟨some 119,(.fad 0 (.t 118)),none⟩,
 ⟨some 120,(.load false 1 (.t 119)),none⟩,
 ⟨some 121,(.call (.f 43) [(.t 120)]),none⟩,
 ⟨some 122,(.build [(.int .i64 (0)),(.int .i64 (0)),(.int .i64 (0)),(.int .i64 (0))] [(0,2,(.t 116)),(2,2,(.t 121))]),none⟩,
 ⟨some 123,(.buildD 4 (.agg [(.int .i64 (0)),(.int .i64 (0)),(.int .i64 (0)),(.int .i64 (0))]) 1 [(0,(.t 122))]),none⟩,
 ⟨some 124,(.iad 1 (.t 112) (.t 115)),none⟩,
 ⟨none,(.store 1 (.t 124) (.t 123)),none⟩]
 [(0,2),(1,2),(0,3),(1,3),(0,4),(1,4),(0,5),(1,5),(2,5),(3,5),(4,5),(0,6),(1,6),(2,6),(3,6),(4,6),(5,6),(0,7),(1,7),(2,7),(3,7),(4,7),(5,7),(0,8),(1,8),(2,8),(3,8),(4,8),(5,8),(0,9),(1,9),(2,9),(3,9),(4,9),(5,9),(0,10),(1,10),(2,10),(3,10),(4,10),(5,10),(0,11),(1,11),(2,11),(3,11),(4,11),(0,12),(1,12),(2,12),(3,12),(4,12)] [0,9,47,111,112,113,114,115,116,117,118,119,120,121,122,123,124])
 (.seq
 (.ops [⟨some 125,(.load true 1 (.t 2)),none⟩,
 ⟨some 126,(.mv (.t 3)),none⟩,
 ⟨some 127,(.mv (.t 7)),none⟩,
 ⟨some 128,(.iad 1 (.t 127) (.c (.int .i64 (0)))),none⟩,
 ⟨some 129,(.load false 1 (.t 128)),none⟩,
 ⟨some 130,(.buildD 1 (.int .i64 (0)) 1 [(0,(.t 129))]),none⟩,
 ⟨some 131,(.app true 1 8 (.t 126) (.t 130)),none⟩,
 ⟨some 132,(.fad 1 (.t 6)),none⟩,
 ⟨some 133,(.load false 1 (.t 132)),none⟩,
 ⟨none,(.store 1 (.t 2) (.t 125)),none⟩,
 ⟨some 3,(.mv (.t 131)),none⟩,
 ⟨some 4,(.mv (.t 133)),none⟩,
 ⟨some 5,(.mv (.c (.int .i64 (0)))),none⟩]
 [(0,1),(0,2),(1,2),(0,3),(1,3),(0,4),(1,4),(0,5),(1,5),(0,6),(0,7),(1,7),(2,7),(3,7),(4,7),(5,7),(6,7),(0,8),(1,8),(2,8),(3,8),(4,8),(5,8),(6,8),(7,9),(8,9),(7,10),(8,10)] [6,7,125,126,127,128,129,130,131,132,133])
 .ret))))))))))⟩
def yqh:List Nat:=[37,96,100,123,130,2,6,9,11,14,15]
def fg23:List (Nat×List Nat):=[(30,[6,7,125,126,127,128,129,130,131,132,133]),(29,[0,9,47,111,112,113,114,115,116,117,118,119,120,121,122,123,124]),(28,[11,110]),(27,[10,102,103,104,105,106,107,108,109]),(26,[17,98,99,100,101]),(25,[90,91,92,93,94,95,96,97]),(24,[49,50,51,52,86,87,88,89]),(23,[12,15,82,85]),(22,[12,15,82,83,84]),(21,[76,77,78,79,80,81]),(20,[14,16,72,75]),(19,[0,6,7,9,10,11,12,14,15,16,49,50,51,72,73,74]),(18,[71]),(17,[13,56,57,58,59,60,61,62,63,64,65,66,67,68,69,70]),(16,[52,53,54,55]),(13,[47,48]),(12,[45,46]),(11,[44]),(10,[31,32,33,40,41,42,43]),(9,[39]),(8,[8,35,36,37,38]),(7,[33,34]),(5,[30]),(4,[5,24,27,28,29]),(3,[0,6,24,25,26]),(2,[23]),(1,[18,19,20,21,22]),(0,[4,5])]
theorem ynN:yaa Tryz.prog yqh (fun i=>(fg23.lookup i).getD []) Tryz.f23=some yl6:=by kernel_rfl

-- parcener/equal.Best
def yl7:AFn:=⟨1,[.cell 2 false 1,.cell 3 true 2,.tmp 4],
 (.seq
 (.ops [⟨some 1,(.boxH false 1 (.t 0)),none⟩,
 ⟨some 2,(.allocH false 1 .nils),none⟩,
 ⟨some 3,(.allocH false 2 (.agg [(.int .i64 (0)),(.int .i64 (0))])),none⟩,
 ⟨some 4,(.mv (.c (.int .i64 (0)))),none⟩]
 [] [0])
 (.seq
 (.seq
 (.ops [⟨some 8,(.load false 1 (.t 1)),none⟩,
 ⟨some 9,(.call (.f 47) [(.t 8)]),none⟩,
 ⟨some 5,(.mv (.t 9)),none⟩]
 [] [8,9])
 (.seq
 (.ops [⟨some 10,(.mv (.t 5)),none⟩,
 ⟨some 11,(.bin .neq (.t 10) (.c (.int .i64 (0)))),none⟩]
 [] [10])
 (.cond (.t 11)
 (.seq
 (.ops [⟨some 12,(.build [(.int .i64 (0)),(.int .i64 (0))] []),none⟩,
 ⟨some 13,(.mv (.t 5)),none⟩,
 ⟨none,(.store 1 (.t 2) (.c .nils)),none⟩,
 ⟨none,(.store 2 (.t 3) (.t 12)),none⟩,
 ⟨some 4,(.mv (.t 13)),none⟩]
 [] [1,5,11,12,13])
 .ret)
 .skip)))
 (.seq
 (.seq
 (.ops [⟨some 14,(.load false 1 (.t 1)),none⟩,
 ⟨some 15,(.len (.t 14)),none⟩,
 ⟨some 16,(.call (.f 48) [(.t 15)]),none⟩]
 [] [5,11,14,15])
 (.block 0
 (.rangeF (.t 16) [17]
 (.ops [⟨some 6,(.mv (.t 17)),none⟩]
 [] [4,16,17])
 (.block 1
 (.seq
 (.ops [⟨some 18,(.load false 1 (.t 1)),none⟩,
 ⟨some 19,(.mv (.t 6)),none⟩,
 ⟨some 20,(.call (.f 49) [(.t 18),(.t 19)]),none⟩,
 ⟨some 7,(.allocH false 2 (.agg [(.int .i64 (0)),(.int .i64 (0))])),none⟩,
 ⟨none,(.store 2 (.t 7) (.t 20)),none⟩]
 [] [1,18,19,20])
 (.seq
 (.ops [⟨some 21,(.load false 1 (.t 2)),none⟩,
 ⟨some 22,(.eqN false (.t 21)),none⟩,
 ⟨some 23,(.mv (.t 22)),none⟩,
 ⟨some 24,(.load true 2 (.t 3)),some (23,false)⟩,
 ⟨some 25,(.load true 2 (.t 7)),some (23,false)⟩,
 ⟨some 26,(.call (.f 50) [(.t 24),(.t 25)]),some (23,false)⟩,
 ⟨some 27,(.pick (.t 23) (.c (.bool true)) (.t 26)),none⟩]
 [] [21,22,23,24,25,26])
 (.cond (.t 27)
 (.ops [⟨some 28,(.mv (.t 6)),none⟩,
 ⟨some 29,(.load true 2 (.t 7)),none⟩,
 ⟨none,(.store 1 (.t 2) (.t 28)),none⟩,
 ⟨none,(.store 2 (.t 3) (.t 29)),none⟩]
 [(0,1),(1,2)] [2,3,6,7,27,28,29])
 .skip)))))))
 (.seq
 (.ops [⟨some 30,(.load false 1 (.t 2)),none⟩,
 ⟨some 31,(.load true 2 (.t 3)),none⟩,
 ⟨none,(.store 1 (.t 2) (.t 30)),none⟩,
 ⟨none,(.store 2 (.t 3) (.t 31)),none⟩,
 ⟨some 4,(.mv (.c (.int .i64 (0)))),none⟩]
 [(0,1),(1,2)] [1,16,30,31])
 .ret))))⟩
def yqi:List Nat:=[1000001,1000002,1000003,1000007]
def fg24:List (Nat×List Nat):=[(9,[1,16,30,31]),(8,[2,3,6,7,27,28,29]),(7,[21,22,23,24,25,26]),(6,[1,18,19,20]),(5,[4,16,17]),(4,[5,11,14,15]),(3,[1,5,11,12,13]),(2,[10]),(1,[8,9]),(0,[0])]
theorem ynO:yaa Tryz.prog yqi (fun i=>(fg24.lookup i).getD []) Tryz.f24=some yl7:=by kernel_rfl

-- parcener/equal.Divide
def yl8:AFn:=⟨2,[.cell 4 true 1,.tmp 5],
 (.seq
 (.ops [⟨some 4,(.allocL (.agg [.nils])),none⟩,
 ⟨some 5,(.mv (.c (.int .i64 (0)))),none⟩]
 [] [5])
 (.seq
 (.seq
 (.ops [⟨some 13,(.mv (.t 0)),none⟩,
 ⟨some 14,(.mv (.t 1)),none⟩,
 ⟨some 15,(.call (.f 51) [(.t 13),(.t 14)]),none⟩,
 ⟨some 6,(.mv (.t 15)),none⟩]
 [] [13,14,15])
 (.seq
 (.ops [⟨some 16,(.mv (.t 6)),none⟩,
 ⟨some 17,(.bin .neq (.t 16) (.c (.int .i64 (0)))),none⟩]
 [] [16])
 (.cond (.t 17)
 (.seq
 (.ops [⟨some 18,(.build [.nils] []),none⟩,
 ⟨some 19,(.mv (.t 6)),none⟩,
 ⟨none,(.store 1 (.t 4) (.t 18)),none⟩,
 ⟨some 5,(.mv (.t 19)),none⟩]
 [] [0,1,6,17,18,19])
 .ret)
 .skip)))
 (.seq
 (.ops [⟨some 21,(.mv (.t 0)),none⟩,
 ⟨some 22,(.mv (.t 1)),none⟩,
 ⟨some 23,(.mv (.t 0)),none⟩,
 ⟨some 24,(.mv (.t 1)),none⟩,
 ⟨some 25,(.call (.f 49) [(.t 23),(.t 24)]),none⟩,
 ⟨some 26,(.call (.f 52) [(.t 21),(.t 22),(.t 25)]),none⟩,
 ⟨some 20,(.mv (.t 26)),none⟩,
 ⟨some 27,(.ext (.t 20) 0),none⟩,
 ⟨some 28,(.ext (.t 20) 1),none⟩,
 ⟨some 7,(.mv (.t 27)),none⟩,
 ⟨some 8,(.mv (.t 28)),none⟩]
 [] [6,17,20,21,22,23,24,25,26,27,28])
 (.seq
 (.seq
 (.ops [⟨some 29,(.mv (.t 8)),none⟩,
 ⟨some 30,(.bin .neq (.t 29) (.c (.int .i64 (0)))),none⟩]
 [] [29])
 (.cond (.t 30)
 (.seq
 (.ops [⟨some 31,(.build [.nils] []),none⟩,
 ⟨some 32,(.mv (.t 8)),none⟩,
 ⟨none,(.store 1 (.t 4) (.t 31)),none⟩,
 ⟨some 5,(.mv (.t 32)),none⟩]
 [] [0,1,7,8,30,31,32])
 .ret)
 .skip))
 (.seq
 (.ops [⟨some 33,(.mv (.t 0)),none⟩,
 ⟨some 34,(.len (.t 33)),none⟩,
 ⟨some 35,(.mkSl true 1 24 (.data []) (.t 34) (.t 34)),none⟩,
 ⟨some 36,(.build [.nils] [(0,1,(.t 35))]),none⟩,
 ⟨some 9,(.allocL (.agg [.nils])),none⟩,
 ⟨none,(.store 1 (.t 9) (.t 36)),none⟩]
 [] [0,8,30,33,34,35,36])
 (.seq
 (.ops [⟨some 37,(.call (.f 53) [(.c (.int .i64 (0)))]),none⟩,
 ⟨some 10,(.allocL (.agg [(.int .i64 (0)),(.int .i64 (0))])),none⟩,
 ⟨none,(.store 2 (.t 10) (.t 37)),none⟩]
 [] [37])
 (.seq
 (.seq
 (.ops [⟨some 38,(.mv (.t 1)),none⟩,
 ⟨some 39,(.len (.t 38)),none⟩,
 ⟨some 40,(.mv (.c (.int .i64 (0)))),none⟩]
 [] [1])
 (.block 0
 (.loop
 (.seq
 (.ops [⟨some 41,(.bin .lss (.t 40) (.t 39)),none⟩]
 [] [])
 (.seq
 (.cond (.t 41)
 .skip
 (.exit 0))
 (.seq
 (.block 1
 (.seq
 (.ops [⟨some 42,(.mv (.t 40)),none⟩,
 ⟨some 43,(.iad 1 (.t 38) (.t 40)),none⟩,
 ⟨some 44,(.load false 1 (.t 43)),none⟩,
 ⟨some 11,(.mv (.t 42)),none⟩,
 ⟨some 12,(.mv (.t 44)),none⟩]
 [] [41,42,43,44])
 (.seq
 (.ops [⟨some 45,(.fad 0 (.t 9)),none⟩,
 ⟨some 46,(.load false 1 (.t 45)),none⟩,
 ⟨some 47,(.mv (.t 12)),none⟩,
 ⟨some 48,(.load true 2 (.t 10)),none⟩,
 ⟨some 49,(.mv (.t 7)),none⟩,
 ⟨some 50,(.mv (.t 11)),none⟩,
 ⟨some 51,(.iad 2 (.t 49) (.t 50)),none⟩,
 ⟨some 52,(.load true 2 (.t 51)),none⟩,
 ⟨some 53,(.build [(.int .i64 (0)),(.int .i64 (0)),(.int .i64 (0)),(.int .i64 (0))] [(0,2,(.t 48)),(2,2,(.t 52))]),none⟩,
 ⟨some 54,(.buildD 4 (.agg [(.int .i64 (0)),(.int .i64 (0)),(.int .i64 (0)),(.int .i64 (0))]) 1 [(0,(.t 53))]),none⟩,
 ⟨some 55,(.iad 1 (.t 46) (.t 47)),none⟩,
 ⟨none,(.store 1 (.t 55) (.t 54)),none⟩]
 [(0,2),(1,2),(0,3),(1,3),(2,3),(0,4),(1,4),(2,4),(3,4),(0,5),(1,5),(2,5),(3,5),(4,5),(0,6),(1,6),(2,6),(3,6),(0,7),(1,7),(2,7),(3,7),(0,8),(1,8),(2,8),(0,9),(1,9),(2,9)] [12,45,46,47,48,49,50,51,52,53,54,55])
 (.ops [⟨some 56,(.mv (.t 7)),none⟩,
 ⟨some 57,(.mv (.t 11)),none⟩,
 ⟨some 58,(.iad 2 (.t 56) (.t 57)),none⟩,
 ⟨some 59,(.load true 2 (.t 58)),none⟩,
 ⟨none,(.store 2 (.t 10) (.t 59)),none⟩]
 [] [11,56,57,58,59]))))
 (.ops [⟨some 60,(.bin .add (.t 40) (.c (.int .i64 (1)))),none⟩,
 ⟨some 40,(.mv (.t 60)),none⟩]
 [] [60])))))))
 (.seq
 (.ops [⟨some 61,(.load true 1 (.t 9)),none⟩,
 ⟨none,(.store 1 (.t 4) (.t 61)),none⟩,
 ⟨some 5,(.mv (.c (.int .i64 (0)))),none⟩]
 [] [7,9,10,38,39,40,41,61])
 .ret))))))))⟩
def yqj:List Nat:=[54,4,9,10,1000004,1000009,1000010]
def fg25:List (Nat×List Nat):=[(15,[7,9,10,38,39,40,41,61]),(14,[60]),(13,[11,56,57,58,59]),(12,[12,45,46,47,48,49,50,51,52,53,54,55]),(11,[41,42,43,44]),(9,[1]),(8,[37]),(7,[0,8,30,33,34,35,36]),(6,[0,1,7,8,30,31,32]),(5,[29]),(4,[6,17,20,21,22,23,24,25,26,27,28]),(3,[0,1,6,17,18,19]),(2,[16]),(1,[13,14,15]),(0,[5])]
theorem ynP:yaa Tryz.prog yqj (fun i=>(fg25.lookup i).getD []) Tryz.f25=some yl8:=by kernel_rfl

-- parcener/cake.Check
def yl9:AFn:=⟨1,[.tmp 2],
 (.seq
 (.ops [⟨some 1,(.boxL (.t 0)),none⟩,
 ⟨some 2,(.mv (.c (.int .i64 (0)))),none⟩]
 [] [0,2])
 (.seq
 (.ops [⟨some 5,(.fad 1 (.t 1)),none⟩,
 ⟨some 6,(.load false 1 (.t 5)),none⟩,
 ⟨some 7,(.len (.t 6)),none⟩,
 ⟨some 3,(.mv (.t 7)),none⟩]
 [] [5,6,7])
 (.seq
 (.seq
 (.ops [⟨some 8,(.fad 0 (.t 1)),none⟩,
 ⟨some 9,(.load false 1 (.t 8)),none⟩,
 ⟨some 10,(.bin .gtr (.t 9) (.c (.int .i64 (1000)))),none⟩,
 ⟨some 11,(.mv (.t 10)),none⟩,
 ⟨some 12,(.mv (.t 3)),some (11,false)⟩,
 ⟨some 13,(.bin .gtr (.t 12) (.c (.int .i64 (40)))),some (11,false)⟩,
 ⟨some 14,(.pick (.t 11) (.c (.bool true)) (.t 13)),none⟩]
 [] [8,9,10,11,12,13])
 (.cond (.t 14)
 (.seq
 (.ops [⟨some 2,(.mv (.c (.int .i64 (4)))),none⟩]
 [] [1,3,14])
 .ret)
 .skip))
 (.seq
 (.seq
 (.ops [⟨some 15,(.fad 0 (.t 1)),none⟩,
 ⟨some 16,(.load false 1 (.t 15)),none⟩,
 ⟨some 17,(.bin .lss (.t 16) (.c (.int .i64 (1)))),none⟩,
 ⟨some 18,(.mv (.t 17)),none⟩,
 ⟨some 19,(.mv (.t 3)),some (18,false)⟩,
 ⟨some 20,(.bin .lss (.t 19) (.c (.int .i64 (2)))),some (18,false)⟩,
 ⟨some 21,(.pick (.t 18) (.c (.bool true)) (.t 20)),none⟩,
 ⟨some 22,(.mv (.t 21)),none⟩,
 ⟨some 23,(.fad 2 (.t 1)),some (22,false)⟩,
 ⟨some 24,(.load false 1 (.t 23)),some (22,false)⟩,
 ⟨some 25,(.len (.t 24)),some (22,false)⟩,
 ⟨some 26,(.mv (.t 3)),some (22,false)⟩,
 ⟨some 27,(.bin .sub (.t 26) (.c (.int .i64 (1)))),some (22,false)⟩,
 ⟨some 28,(.bin .neq (.t 25) (.t 27)),some (22,false)⟩,
 ⟨some 29,(.pick (.t 22) (.c (.bool true)) (.t 28)),none⟩,
 ⟨some 30,(.mv (.t 29)),none⟩,
 ⟨some 31,(.fad 1 (.t 1)),some (30,false)⟩,
 ⟨some 32,(.load false 1 (.t 31)),some (30,false)⟩,
 ⟨some 33,(.iad 1 (.t 32) (.c (.int .i64 (0)))),some (30,false)⟩,
 ⟨some 34,(.load false 1 (.t 33)),some (30,false)⟩,
 ⟨some 35,(.bin .neq (.t 34) (.c (.int .i64 (0)))),some (30,false)⟩,
 ⟨some 36,(.pick (.t 30) (.c (.bool true)) (.t 35)),none⟩,
 ⟨some 37,(.mv (.t 36)),none⟩,
 ⟨some 38,(.fad 1 (.t 1)),some (37,false)⟩,
 ⟨some 39,(.load false 1 (.t 38)),some (37,false)⟩,
 ⟨some 40,(.mv (.t 3)),some (37,false)⟩,
 ⟨some 41,(.bin .sub (.t 40) (.c (.int .i64 (1)))),some (37,false)⟩,
 ⟨some 42,(.iad 1 (.t 39) (.t 41)),some (37,false)⟩,
 ⟨some 43,(.load false 1 (.t 42)),some (37,false)⟩,
 ⟨some 44,(.fad 0 (.t 1)),some (37,false)⟩,
 ⟨some 45,(.load false 1 (.t 44)),some (37,false)⟩,
 ⟨some 46,(.bin .neq (.t 43) (.t 45)),some (37,false)⟩,
 ⟨some 47,(.pick (.t 37) (.c (.bool true)) (.t 46)),none⟩]
 [(8,11),(9,11),(10,11),(8,12),(9,12),(10,12),(23,25),(24,25),(23,26),(24,26),(23,29),(24,29),(25,29),(26,29),(27,29),(28,29),(23,30),(24,30),(25,30),(26,30),(27,30),(28,30)] [14,15,16,17,18,19,20,21,22,23,24,25,26,27,28,29,30,31,32,33,34,35,36,37,38,39,40,41,42,43,44,45,46])
 (.cond (.t 47)
 (.seq
 (.ops [⟨some 2,(.mv (.c (.int .i64 (8)))),none⟩]
 [] [1,3,47])
 .ret)
 .skip))
 (.seq
 (.seq
 (.ops [⟨some 48,(.mv (.t 3)),none⟩,
 ⟨some 49,(.bin .sub (.t 48) (.c (.int .i64 (1)))),none⟩,
 ⟨some 50,(.mv (.c (.int .i64 (0)))),none⟩]
 [] [3,47,48])
 (.block 0
 (.loop
 (.seq
 (.ops [⟨some 51,(.bin .lss (.t 50) (.t 49)),none⟩]
 [] [])
 (.seq
 (.cond (.t 51)
 .skip
 (.exit 0))
 (.seq
 (.block 1
 (.seq
 (.ops [⟨some 52,(.mv (.t 50)),none⟩,
 ⟨some 4,(.mv (.t 52)),none⟩]
 [] [51,52])
 (.seq
 (.ops [⟨some 53,(.fad 1 (.t 1)),none⟩,
 ⟨some 54,(.load false 1 (.t 53)),none⟩,
 ⟨some 55,(.mv (.t 4)),none⟩,
 ⟨some 56,(.iad 1 (.t 54) (.t 55)),none⟩,
 ⟨some 57,(.load false 1 (.t 56)),none⟩,
 ⟨some 58,(.fad 1 (.t 1)),none⟩,
 ⟨some 59,(.load false 1 (.t 58)),none⟩,
 ⟨some 60,(.mv (.t 4)),none⟩,
 ⟨some 61,(.bin .add (.t 60) (.c (.int .i64 (1)))),none⟩,
 ⟨some 62,(.iad 1 (.t 59) (.t 61)),none⟩,
 ⟨some 63,(.load false 1 (.t 62)),none⟩,
 ⟨some 64,(.bin .geq (.t 57) (.t 63)),none⟩]
 [(0,2),(1,2),(0,5),(1,5),(2,5),(3,5),(4,5),(0,6),(1,6),(2,6),(3,6),(4,6),(0,7),(1,7),(2,7),(3,7),(4,7),(5,7),(6,7),(0,8),(1,8),(2,8),(3,8),(4,8),(5,8),(6,8),(0,9),(1,9),(2,9),(3,9),(4,9),(0,10),(1,10),(2,10),(3,10),(4,10)] [4,53,54,55,56,57,58,59,60,61,62,63])
 (.cond (.t 64)
 (.seq
 (.ops [⟨some 2,(.mv (.c (.int .i64 (8)))),none⟩]
 [] [1,49,50,64])
 .ret)
 .skip))))
 (.ops [⟨some 65,(.bin .add (.t 50) (.c (.int .i64 (1)))),none⟩,
 ⟨some 50,(.mv (.t 65)),none⟩]
 [] [64,65])))))))
 (.seq
 (.seq
 (.ops [⟨some 66,(.fad 2 (.t 1)),none⟩,
 ⟨some 67,(.load false 1 (.t 66)),none⟩,
 ⟨some 68,(.call (.f 54) [(.t 67)]),none⟩,
 ⟨some 69,(.bin .lss (.t 68) (.c (.int .i64 (0)))),none⟩,
 ⟨some 70,(.mv (.t 69)),none⟩,
 ⟨some 71,(.fad 2 (.t 1)),some (70,false)⟩,
 ⟨some 72,(.load false 1 (.t 71)),some (70,false)⟩,
 ⟨some 73,(.call (.f 55) [(.t 72)]),some (70,false)⟩,
 ⟨some 74,(.bin .gtr (.t 73) (.c (.int .i64 (12)))),some (70,false)⟩,
 ⟨some 75,(.pick (.t 70) (.c (.bool true)) (.t 74)),none⟩,
 ⟨some 76,(.mv (.t 75)),none⟩,
 ⟨some 77,(.fad 2 (.t 1)),some (76,false)⟩,
 ⟨some 78,(.load false 1 (.t 77)),some (76,false)⟩,
 ⟨some 79,(.call (.f 55) [(.t 78)]),some (76,false)⟩,
 ⟨some 80,(.bin .eql (.t 79) (.c (.int .i64 (0)))),some (76,false)⟩,
 ⟨some 81,(.pick (.t 76) (.c (.bool true)) (.t 80)),none⟩]
 [] [1,49,50,51,66,67,68,69,70,71,72,73,74,75,76,77,78,79,80])
 (.cond (.t 81)
 (.seq
 (.ops [⟨some 2,(.mv (.c (.int .i64 (8)))),none⟩]
 [] [81])
 .ret)
 .skip))
 (.seq
 (.ops [⟨some 2,(.mv (.c (.int .i64 (0)))),none⟩]
 [] [81])
 .ret)))))))⟩
def yqk:List Nat:=[1]
def fg26:List (Nat×List Nat):=[(14,[81]),(13,[81]),(12,[1,49,50,51,66,67,68,69,70,71,72,73,74,75,76,77,78,79,80]),(11,[64,65]),(10,[1,49,50,64]),(9,[4,53,54,55,56,57,58,59,60,61,62,63]),(8,[51,52]),(6,[3,47,48]),(5,[1,3,47]),(4,[14,15,16,17,18,19,20,21,22,23,24,25,26,27,28,29,30,31,32,33,34,35,36,37,38,39,40,41,42,43,44,45,46]),(3,[1,3,14]),(2,[8,9,10,11,12,13]),(1,[5,6,7]),(0,[0,2])]
theorem ynQ:yaa Tryz.prog yqk (fun i=>(fg26.lookup i).getD []) Tryz.f26=some yl9:=by kernel_rfl

-- math/bits.Len
def yma:AFn:=⟨1,[.tmp 2],
 (.seq
 (.ops [⟨some 2,(.mv (.c (.int .i64 (0)))),none⟩]
 [] [2])
 (.seq
 (.cond (.c (.bool false))
 (.seq
 (.ops [⟨some 3,(.mv (.t 0)),none⟩,
 ⟨some 4,(.conv .u32 (.t 3)),none⟩,
 ⟨some 5,(.call (.f 56) [(.t 4)]),none⟩,
 ⟨some 2,(.mv (.t 5)),none⟩]
 [] [0,3,4,5])
 .ret)
 .skip)
 (.seq
 (.ops [⟨some 6,(.mv (.t 0)),none⟩,
 ⟨some 7,(.call (.f 57) [(.t 6)]),none⟩,
 ⟨some 2,(.mv (.t 7)),none⟩]
 [] [0,6,7])
 .ret)))⟩
def yql:List Nat:=[]
def fg27:List (Nat×List Nat):=[(2,[0,6,7]),(1,[0,3,4,5]),(0,[2])]
theorem ynR:yaa Tryz.prog yql (fun i=>(fg27.lookup i).getD []) Tryz.f27=some yma:=by kernel_rfl

-- parcener/choose.Start
def ymb:AFn:=⟨2,[.cell 4 true 7,.tmp 5],
 (.seq
 (.ops [⟨some 4,(.allocL (.agg [.nils,.nils,(.int .i64 (0)),(.int .i64 (0)),(.int .i64 (0)),(.int .i64 (0)),(.bool false)])),none⟩,
 ⟨some 5,(.mv (.c (.int .i64 (0)))),none⟩]
 [] [5])
 (.seq
 (.ops [⟨some 9,(.mv (.t 0)),none⟩,
 ⟨some 10,(.call (.f 31) [(.t 9)]),none⟩,
 ⟨some 8,(.mv (.t 10)),none⟩,
 ⟨some 11,(.ext (.t 8) 0),none⟩,
 ⟨some 12,(.ext (.t 8) 1),none⟩,
 ⟨some 6,(.allocL (.agg [.nils,.nils])),none⟩,
 ⟨none,(.store 2 (.t 6) (.t 11)),none⟩,
 ⟨some 7,(.mv (.t 12)),none⟩]
 [] [8,9,10,11,12])
 (.seq
 (.seq
 (.ops [⟨some 13,(.mv (.t 7)),none⟩,
 ⟨some 14,(.bin .neq (.t 13) (.c (.int .i64 (0)))),none⟩]
 [] [13])
 (.cond (.t 14)
 (.seq
 (.ops [⟨some 15,(.build [.nils,.nils,(.int .i64 (0)),(.int .i64 (0)),(.int .i64 (0)),(.int .i64 (0)),(.bool false)] []),none⟩,
 ⟨some 16,(.mv (.t 7)),none⟩,
 ⟨none,(.store 7 (.t 4) (.t 15)),none⟩,
 ⟨some 5,(.mv (.t 16)),none⟩]
 [] [0,1,6,7,14,15,16])
 .ret)
 .skip))
 (.seq
 (.seq
 (.ops [⟨some 17,(.mv (.t 0)),none⟩,
 ⟨some 18,(.len (.t 17)),none⟩,
 ⟨some 19,(.bin .neq (.t 18) (.c (.int .i64 (2)))),none⟩,
 ⟨some 20,(.mv (.t 19)),none⟩,
 ⟨some 21,(.mv (.t 1)),some (20,false)⟩,
 ⟨some 22,(.bin .lss (.t 21) (.c (.int .i64 (0)))),some (20,false)⟩,
 ⟨some 23,(.pick (.t 20) (.c (.bool true)) (.t 22)),none⟩,
 ⟨some 24,(.mv (.t 23)),none⟩,
 ⟨some 25,(.mv (.t 1)),some (24,false)⟩,
 ⟨some 26,(.bin .gtr (.t 25) (.c (.int .i64 (1)))),some (24,false)⟩,
 ⟨some 27,(.pick (.t 24) (.c (.bool true)) (.t 26)),none⟩]
 [] [0,7,14,17,18,19,20,21,22,23,24,25,26])
 (.cond (.t 27)
 (.seq
 (.ops [⟨some 28,(.build [.nils,.nils,(.int .i64 (0)),(.int .i64 (0)),(.int .i64 (0)),(.int .i64 (0)),(.bool false)] []),none⟩,
 ⟨none,(.store 7 (.t 4) (.t 28)),none⟩,
 ⟨some 5,(.mv (.c (.int .i64 (2)))),none⟩]
 [] [1,6,27,28])
 .ret)
 .skip))
 (.seq
 (.ops [⟨some 29,(.load true 2 (.t 6)),none⟩,
 ⟨some 30,(.mv (.t 1)),none⟩,
 ⟨some 31,(.load true 2 (.g 0)),none⟩,
 ⟨some 32,(.build [.nils,.nils,(.int .i64 (0)),(.int .i64 (0)),(.int .i64 (0)),(.int .i64 (0)),(.bool false)] [(0,2,(.t 29)),(2,1,(.t 30)),(4,2,(.t 31))]),none⟩,
 ⟨none,(.store 7 (.t 4) (.t 32)),none⟩,
 ⟨some 5,(.mv (.c (.int .i64 (0)))),none⟩]
 [] [1,6,27,29,30,31,32])
 .ret)))))⟩
def yqm:List Nat:=[4,6]
def fg28:List (Nat×List Nat):=[(6,[1,6,27,29,30,31,32]),(5,[1,6,27,28]),(4,[0,7,14,17,18,19,20,21,22,23,24,25,26]),(3,[0,1,6,7,14,15,16]),(2,[13]),(1,[8,9,10,11,12]),(0,[5])]
theorem ynS:yaa Tryz.prog yqm (fun i=>(fg28.lookup i).getD []) Tryz.f28=some ymb:=by kernel_rfl

-- parcener/choose.step
def ymc:AFn:=⟨1,[.cell 2 true 7],
 (.seq
 (.ops [⟨some 1,(.boxL (.t 0)),none⟩,
 ⟨some 2,(.allocL (.agg [.nils,.nils,(.int .i64 (0)),(.int .i64 (0)),(.int .i64 (0)),(.int .i64 (0)),(.bool false)])),none⟩]
 [] [0])
 (.seq
 (.seq
 (.ops [⟨some 9,(.fad 3 (.t 1)),none⟩,
 ⟨some 10,(.load false 1 (.t 9)),none⟩,
 ⟨some 11,(.bin .eql (.t 10) (.c (.int .i64 (0)))),none⟩]
 [] [9,10])
 (.cond (.t 11)
 (.seq
 (.ops [⟨some 13,(.fad 0 (.t 1)),none⟩,
 ⟨some 14,(.load true 2 (.t 13)),none⟩,
 ⟨some 15,(.fad 2 (.t 1)),none⟩,
 ⟨some 16,(.load false 1 (.t 15)),none⟩,
 ⟨some 17,(.load true 2 (.g 0)),none⟩,
 ⟨some 18,(.fad 0 (.t 1)),none⟩,
 ⟨some 19,(.fad 0 (.t 18)),none⟩,
 ⟨some 20,(.load false 1 (.t 19)),none⟩,
 ⟨some 21,(.fad 2 (.t 1)),none⟩,
 ⟨some 22,(.load false 1 (.t 21)),none⟩,
 ⟨some 23,(.iad 3 (.t 20) (.t 22)),none⟩,
 ⟨some 24,(.load true 3 (.t 23)),none⟩,
 ⟨some 25,(.call (.f 58) [(.t 24)]),none⟩,
 ⟨some 26,(.call (.f 44) [(.t 14),(.t 16),(.t 17),(.t 25)]),none⟩,
 ⟨some 12,(.mv (.t 26)),none⟩,
 ⟨some 27,(.ext (.t 12) 0),none⟩,
 ⟨some 28,(.ext (.t 12) 1),none⟩,
 ⟨some 29,(.ext (.t 12) 2),none⟩,
 ⟨some 30,(.fad 0 (.t 1)),none⟩,
 ⟨none,(.store 2 (.t 30) (.t 27)),none⟩,
 ⟨some 31,(.fad 4 (.t 1)),none⟩,
 ⟨none,(.store 2 (.t 31) (.t 28)),none⟩]
 [(0,2),(1,2),(0,3),(1,3),(0,4),(1,4),(2,4),(3,4),(0,5),(1,5),(2,5),(3,5),(4,5),(0,6),(1,6),(2,6),(3,6),(4,6),(0,7),(1,7),(2,7),(3,7),(4,7),(0,8),(1,8),(2,8),(3,8),(4,8),(5,8),(6,8),(7,8),(0,9),(1,9),(2,9),(3,9),(4,9),(5,9),(6,9),(7,9),(0,10),(1,10),(2,10),(3,10),(4,10),(0,11),(1,11),(2,11),(3,11),(4,11),(0,12),(1,12),(2,12),(3,12),(4,12),(15,16),(15,17),(16,17),(16,18),(17,18),(16,19),(17,19),(17,20),(17,21)] [11,12,13,14,15,16,17,18,19,20,21,22,23,24,25,26,27,28,29,30,31])
 (.seq
 (.ops [⟨some 32,(.fad 3 (.t 1)),none⟩,
 ⟨none,(.store 1 (.t 32) (.c (.int .i64 (1)))),none⟩]
 [] [32])
 (.seq
 (.ops [⟨some 33,(.load true 7 (.t 1)),none⟩,
 ⟨none,(.store 7 (.t 2) (.t 33)),none⟩]
 [] [1,33])
 .ret)))
 .skip))
 (.seq
 (.ops [⟨some 34,(.fad 2 (.t 1)),none⟩,
 ⟨some 35,(.load false 1 (.t 34)),none⟩,
 ⟨some 36,(.bin .sub (.c (.int .i64 (1))) (.t 35)),none⟩,
 ⟨some 3,(.mv (.t 36)),none⟩]
 [] [11,34,35,36])
 (.seq
 (.ops [⟨some 38,(.fad 0 (.t 1)),none⟩,
 ⟨some 39,(.load true 2 (.t 38)),none⟩,
 ⟨some 40,(.mv (.t 3)),none⟩,
 ⟨some 41,(.load true 2 (.g 0)),none⟩,
 ⟨some 42,(.fad 4 (.t 1)),none⟩,
 ⟨some 43,(.load true 2 (.t 42)),none⟩,
 ⟨some 44,(.call (.f 59) [(.t 39),(.t 40),(.t 41),(.t 43)]),none⟩,
 ⟨some 37,(.mv (.t 44)),none⟩,
 ⟨some 45,(.ext (.t 37) 0),none⟩,
 ⟨some 46,(.ext (.t 37) 1),none⟩,
 ⟨some 47,(.ext (.t 37) 2),none⟩,
 ⟨some 4,(.allocL (.agg [.nils,.nils])),none⟩,
 ⟨some 5,(.allocL (.agg [(.int .i64 (0)),(.int .i64 (0))])),none⟩,
 ⟨none,(.store 2 (.t 4) (.t 45)),none⟩,
 ⟨none,(.store 2 (.t 5) (.t 46)),none⟩,
 ⟨some 6,(.mv (.t 47)),none⟩]
 [] [6,37,38,39,40,41,42,43,44,45,46,47])
 (.seq
 (.ops [⟨some 49,(.load true 2 (.t 5)),none⟩,
 ⟨some 50,(.fad 0 (.t 1)),none⟩,
 ⟨some 51,(.fad 0 (.t 50)),none⟩,
 ⟨some 52,(.load false 1 (.t 51)),none⟩,
 ⟨some 53,(.mv (.t 3)),none⟩,
 ⟨some 54,(.iad 3 (.t 52) (.t 53)),none⟩,
 ⟨some 55,(.load true 3 (.t 54)),none⟩,
 ⟨some 56,(.call (.f 58) [(.t 55)]),none⟩,
 ⟨some 57,(.call (.f 60) [(.t 49),(.t 56)]),none⟩,
 ⟨some 48,(.mv (.t 57)),none⟩,
 ⟨some 58,(.ext (.t 48) 0),none⟩,
 ⟨some 59,(.ext (.t 48) 1),none⟩,
 ⟨some 7,(.mv (.t 58)),none⟩,
 ⟨some 8,(.mv (.t 59)),none⟩]
 [(0,1),(0,2),(0,3),(0,4),(1,4),(2,4),(3,4),(0,5),(0,6),(0,7),(10,11),(11,12)] [3,5,8,48,49,50,51,52,53,54,55,56,57,58,59])
 (.seq
 (.ops [⟨some 60,(.load true 2 (.t 4)),none⟩,
 ⟨some 61,(.mv (.t 7)),none⟩,
 ⟨some 62,(.bin .geq (.t 61) (.c (.int .i64 (0)))),none⟩,
 ⟨some 63,(.fad 0 (.t 1)),none⟩,
 ⟨none,(.store 2 (.t 63) (.t 60)),none⟩,
 ⟨some 64,(.fad 3 (.t 1)),none⟩,
 ⟨none,(.store 1 (.t 64) (.c (.int .i64 (2)))),none⟩,
 ⟨some 65,(.fad 6 (.t 1)),none⟩,
 ⟨none,(.store 1 (.t 65) (.t 62)),none⟩]
 [] [4,7,60,61,62,63,64,65])
 (.seq
 (.ops [⟨some 66,(.load true 7 (.t 1)),none⟩,
 ⟨none,(.store 7 (.t 2) (.t 66)),none⟩]
 [] [1,66])
 .ret)))))))⟩
def yqn:List Nat:=[1,2,4,5]
def fg29:List (Nat×List Nat):=[(9,[1,66]),(8,[4,7,60,61,62,63,64,65]),(7,[3,5,8,48,49,50,51,52,53,54,55,56,57,58,59]),(6,[6,37,38,39,40,41,42,43,44,45,46,47]),(5,[11,34,35,36]),(4,[1,33]),(3,[32]),(2,[11,12,13,14,15,16,17,18,19,20,21,22,23,24,25,26,27,28,29,30,31]),(1,[9,10]),(0,[0])]
theorem ynT:yaa Tryz.prog yqn (fun i=>(fg29.lookup i).getD []) Tryz.f29=some ymc:=by kernel_rfl

-- parcener/choose.Division
def ymd:AFn:=⟨1,[.cell 2 true 1,.tmp 3],
 (.seq
 (.ops [⟨some 1,(.boxL (.t 0)),none⟩,
 ⟨some 2,(.allocL (.agg [.nils])),none⟩,
 ⟨some 3,(.mv (.c (.int .i64 (0)))),none⟩]
 [] [0,3])
 (.seq
 (.seq
 (.ops [⟨some 7,(.load true 7 (.t 1)),none⟩,
 ⟨some 8,(.call (.f 61) [(.t 7)]),none⟩,
 ⟨some 4,(.mv (.t 8)),none⟩]
 [] [7,8])
 (.seq
 (.ops [⟨some 9,(.mv (.t 4)),none⟩,
 ⟨some 10,(.bin .neq (.t 9) (.c (.int .i64 (0)))),none⟩]
 [] [9])
 (.cond (.t 10)
 (.seq
 (.ops [⟨some 11,(.build [.nils] []),none⟩,
 ⟨some 12,(.mv (.t 4)),none⟩,
 ⟨none,(.store 1 (.t 2) (.t 11)),none⟩,
 ⟨some 3,(.mv (.t 12)),none⟩]
 [] [1,4,10,11,12])
 .ret)
 .skip)))
 (.seq
 (.seq
 (.ops [⟨some 13,(.fad 3 (.t 1)),none⟩,
 ⟨some 14,(.load false 1 (.t 13)),none⟩,
 ⟨some 15,(.bin .lss (.t 14) (.c (.int .i64 (2)))),none⟩]
 [] [4,10,13,14])
 (.cond (.t 15)
 (.seq
 (.ops [⟨some 16,(.build [.nils] []),none⟩,
 ⟨none,(.store 1 (.t 2) (.t 16)),none⟩,
 ⟨some 3,(.mv (.c (.int .i64 (36)))),none⟩]
 [] [1,15,16])
 .ret)
 .skip))
 (.seq
 (.ops [⟨some 17,(.fad 2 (.t 1)),none⟩,
 ⟨some 18,(.load false 1 (.t 17)),none⟩,
 ⟨some 5,(.mv (.t 18)),none⟩]
 [] [15,17,18])
 (.seq
 (.seq
 (.ops [⟨some 19,(.fad 6 (.t 1)),none⟩,
 ⟨some 20,(.load false 1 (.t 19)),none⟩]
 [] [19])
 (.cond (.t 20)
 (.ops [⟨some 21,(.mv (.t 5)),none⟩,
 ⟨some 22,(.bin .sub (.c (.int .i64 (1))) (.t 21)),none⟩,
 ⟨some 5,(.mv (.t 22)),none⟩]
 [] [20,21,22])
 .skip))
 (.seq
 (.ops [⟨some 23,(.mkSl true 1 24 (.data []) (.c (.int .i64 (2))) (.c (.int .i64 (2)))),none⟩,
 ⟨some 24,(.build [.nils] [(0,1,(.t 23))]),none⟩,
 ⟨some 6,(.allocL (.agg [.nils])),none⟩,
 ⟨none,(.store 1 (.t 6) (.t 24)),none⟩]
 [] [20,23,24])
 (.seq
 (.ops [⟨some 25,(.fad 0 (.t 6)),none⟩,
 ⟨some 26,(.load false 1 (.t 25)),none⟩,
 ⟨some 27,(.mv (.t 5)),none⟩,
 ⟨some 28,(.load true 2 (.g 0)),none⟩,
 ⟨some 29,(.fad 4 (.t 1)),none⟩,
 ⟨some 30,(.load true 2 (.t 29)),none⟩,
 ⟨some 31,(.build [(.int .i64 (0)),(.int .i64 (0)),(.int .i64 (0)),(.int .i64 (0))] [(0,2,(.t 28)),(2,2,(.t 30))]),none⟩,
 ⟨some 32,(.buildD 4 (.agg [(.int .i64 (0)),(.int .i64 (0)),(.int .i64 (0)),(.int .i64 (0))]) 1 [(0,(.t 31))]),none⟩,
 ⟨some 33,(.iad 1 (.t 26) (.t 27)),none⟩,
 ⟨none,(.store 1 (.t 33) (.t 32)),none⟩]
 [] [25,26,27,28,29,30,31,32,33])
 (.seq
 (.ops [⟨some 34,(.fad 0 (.t 6)),none⟩,
 ⟨some 35,(.load false 1 (.t 34)),none⟩,
 ⟨some 36,(.mv (.t 5)),none⟩,
 ⟨some 37,(.bin .sub (.c (.int .i64 (1))) (.t 36)),none⟩,
 ⟨some 38,(.fad 4 (.t 1)),none⟩,
 ⟨some 39,(.load true 2 (.t 38)),none⟩,
 ⟨some 40,(.fad 0 (.t 1)),none⟩,
 ⟨some 41,(.fad 0 (.t 40)),none⟩,
 ⟨some 42,(.load false 1 (.t 41)),none⟩,
 ⟨some 43,(.iad 3 (.t 42) (.c (.int .i64 (0)))),none⟩,
 ⟨some 44,(.fad 0 (.t 43)),none⟩,
 ⟨some 45,(.load false 1 (.t 44)),none⟩,
 ⟨some 46,(.build [(.int .i64 (0)),(.int .i64 (0))] [(0,1,(.t 45)),(1,1,(.c (.int .i64 (1))))]),none⟩,
 ⟨some 47,(.build [(.int .i64 (0)),(.int .i64 (0)),(.int .i64 (0)),(.int .i64 (0))] [(0,2,(.t 39)),(2,2,(.t 46))]),none⟩,
 ⟨some 48,(.buildD 4 (.agg [(.int .i64 (0)),(.int .i64 (0)),(.int .i64 (0)),(.int .i64 (0))]) 1 [(0,(.t 47))]),none⟩,
 ⟨some 49,(.iad 1 (.t 35) (.t 37)),none⟩,
 ⟨none,(.store 1 (.t 49) (.t 48)),none⟩]
 [(0,2),(1,2),(0,3),(1,3),(0,4),(1,4),(2,4),(3,4),(0,5),(1,5),(2,5),(3,5),(0,6),(1,6),(2,6),(3,6),(4,6),(5,6),(0,7),(1,7),(2,7),(3,7),(4,7),(5,7),(0,8),(1,8),(2,8),(3,8),(4,8),(5,8),(0,9),(1,9),(2,9),(3,9),(4,9),(5,9),(0,10),(1,10),(2,10),(3,10),(4,10),(5,10),(0,11),(1,11),(2,11),(3,11),(4,11),(5,11),(0,12),(1,12),(2,12),(3,12),(4,12),(5,12),(0,13),(1,13),(2,13),(3,13),(0,14),(1,14),(2,14),(3,14)] [1,5,34,35,36,37,38,39,40,41,42,43,44,45,46,47,48,49])
 (.seq
 (.ops [⟨some 50,(.load true 1 (.t 6)),none⟩,
 ⟨none,(.store 1 (.t 2) (.t 50)),none⟩,
 ⟨some 3,(.mv (.c (.int .i64 (0)))),none⟩]
 [] [6,50])
 .ret)))))))))⟩
def yqo:List Nat:=[32,48,1,2,6]
def fg30:List (Nat×List Nat):=[(12,[6,50]),(11,[1,5,34,35,36,37,38,39,40,41,42,43,44,45,46,47,48,49]),(10,[25,26,27,28,29,30,31,32,33]),(9,[20,23,24]),(8,[20,21,22]),(7,[19]),(6,[15,17,18]),(5,[1,15,16]),(4,[4,10,13,14]),(3,[1,4,10,11,12]),(2,[9]),(1,[7,8]),(0,[0,3])]
theorem ynU:yaa Tryz.prog yqo (fun i=>(fg30.lookup i).getD []) Tryz.f30=some ymd:=by kernel_rfl

-- parcener/ask.Open
def yme:AFn:=⟨1,[.cell 2 true 2,.tmp 3],
 (.seq
 (.ops [⟨some 2,(.allocL (.agg [.nils,.nils])),none⟩,
 ⟨some 3,(.mv (.c (.int .i64 (0)))),none⟩]
 [] [3])
 (.seq
 (.seq
 (.ops [⟨some 5,(.mv (.t 0)),none⟩,
 ⟨some 6,(.build [.nils,.nils] [(0,1,(.t 5))]),none⟩,
 ⟨some 7,(.call (.f 13) [(.t 6)]),none⟩,
 ⟨some 4,(.mv (.t 7)),none⟩]
 [] [5,6,7])
 (.seq
 (.ops [⟨some 8,(.mv (.t 4)),none⟩,
 ⟨some 9,(.bin .neq (.t 8) (.c (.int .i64 (0)))),none⟩]
 [] [8])
 (.cond (.t 9)
 (.seq
 (.ops [⟨some 10,(.build [.nils,.nils] []),none⟩,
 ⟨some 11,(.mv (.t 4)),none⟩,
 ⟨none,(.store 2 (.t 2) (.t 10)),none⟩,
 ⟨some 3,(.mv (.t 11)),none⟩]
 [] [0,4,9,10,11])
 .ret)
 .skip)))
 (.seq
 (.ops [⟨some 12,(.mv (.t 0)),none⟩,
 ⟨some 13,(.call (.f 62) [(.t 12)]),none⟩,
 ⟨some 14,(.build [.nils,.nils] [(0,1,(.t 13))]),none⟩,
 ⟨none,(.store 2 (.t 2) (.t 14)),none⟩,
 ⟨some 3,(.mv (.c (.int .i64 (0)))),none⟩]
 [] [0,4,9,12,13,14])
 .ret)))⟩
def yqp:List Nat:=[2]
def fg31:List (Nat×List Nat):=[(4,[0,4,9,12,13,14]),(3,[0,4,9,10,11]),(2,[8]),(1,[5,6,7]),(0,[3])]
theorem ynV:yaa Tryz.prog yqp (fun i=>(fg31.lookup i).getD []) Tryz.f31=some yme:=by kernel_rfl

-- parcener/trim.rounds
def ymf:AFn:=⟨2,[.tmp 4],
 (.seq
 (.ops [⟨some 2,(.boxH true 2 (.t 0)),none⟩,
 ⟨some 3,(.boxH false 1 (.t 1)),none⟩,
 ⟨some 4,(.mv (.c .nilf)),none⟩]
 [] [0,1,4])
 (.seq
 (.ops [⟨some 5,(.mkFn (.func 63) [] [(.t 2),(.t 3)]),none⟩,
 ⟨some 4,(.mv (.t 5)),none⟩]
 [] [2,3,5])
 .ret))⟩
def yqq:List Nat:=[]
def fg32:List (Nat×List Nat):=[(1,[2,3,5]),(0,[0,1,4])]
theorem ynW:yaa Tryz.prog yqq (fun i=>(fg32.lookup i).getD []) Tryz.f32=some ymf:=by kernel_rfl

-- parcener/halve.whole
def ymg:AFn:=⟨1,[.cell 2 true 2],
 (.seq
 (.ops [⟨some 2,(.allocL (.agg [(.int .i64 (0)),(.int .i64 (0))])),none⟩]
 [] [])
 (.seq
 (.ops [⟨some 3,(.mv (.t 0)),none⟩,
 ⟨some 4,(.build [(.int .i64 (0)),(.int .i64 (0))] [(0,1,(.t 3)),(1,1,(.c (.int .i64 (1))))]),none⟩,
 ⟨none,(.store 2 (.t 2) (.t 4)),none⟩]
 [] [0,3,4])
 .ret))⟩
def yqr:List Nat:=[2]
def fg34:List (Nat×List Nat):=[(1,[0,3,4])]
theorem ynX:yaa Tryz.prog yqr (fun i=>(fg34.lookup i).getD []) Tryz.f34=some ymg:=by kernel_rfl

-- parcener/halve.Split
def ymh:AFn:=⟨4,[.cell 8 true 2,.cell 9 true 2,.tmp 10,.tmp 11,.tmp 12],
 (.seq
 (.ops [⟨some 4,(.boxL (.t 0)),none⟩,
 ⟨some 6,(.boxL (.t 2)),none⟩,
 ⟨some 7,(.boxL (.t 3)),none⟩,
 ⟨some 8,(.allocL (.agg [.nils,.nils])),none⟩,
 ⟨some 9,(.allocL (.agg [(.int .i64 (0)),(.int .i64 (0))])),none⟩,
 ⟨some 10,(.mv (.c .nils)),none⟩,
 ⟨some 11,(.mv (.c .nils)),none⟩,
 ⟨some 12,(.mv (.c (.int .i64 (0)))),none⟩]
 [] [0,2,3,12])
 (.seq
 (.seq
 (.ops [⟨some 27,(.load true 2 (.t 4)),none⟩,
 ⟨some 28,(.call (.f 13) [(.t 27)]),none⟩,
 ⟨some 13,(.mv (.t 28)),none⟩]
 [] [27,28])
 (.seq
 (.ops [⟨some 29,(.mv (.t 13)),none⟩,
 ⟨some 30,(.bin .neq (.t 29) (.c (.int .i64 (0)))),none⟩]
 [] [29])
 (.cond (.t 30)
 (.seq
 (.ops [⟨some 31,(.build [.nils,.nils] []),none⟩,
 ⟨some 32,(.build [(.int .i64 (0)),(.int .i64 (0))] []),none⟩,
 ⟨some 33,(.mv (.t 13)),none⟩,
 ⟨none,(.store 2 (.t 8) (.t 31)),none⟩,
 ⟨none,(.store 2 (.t 9) (.t 32)),none⟩,
 ⟨some 10,(.mv (.c .nils)),none⟩,
 ⟨some 11,(.mv (.c .nils)),none⟩,
 ⟨some 12,(.mv (.t 33)),none⟩]
 [] [1,4,6,7,13,30,31,32,33])
 .ret)
 .skip)))
 (.seq
 (.ops [⟨some 34,(.mv (.t 1)),none⟩,
 ⟨some 35,(.len (.t 34)),none⟩,
 ⟨some 36,(.bin .gtr (.t 35) (.c (.int .i64 (1)))),none⟩,
 ⟨some 37,(.mv (.t 36)),none⟩,
 ⟨some 38,(.mv (.t 1)),some (37,true)⟩,
 ⟨some 39,(.iad 1 (.t 38) (.c (.int .i64 (0)))),some (37,true)⟩,
 ⟨some 40,(.load false 1 (.t 39)),some (37,true)⟩,
 ⟨some 41,(.bin .geq (.t 40) (.c (.int .i64 (0)))),some (37,true)⟩,
 ⟨some 42,(.pick (.t 37) (.t 41) (.c (.bool false))),none⟩,
 ⟨some 43,(.mv (.t 42)),none⟩,
 ⟨some 44,(.mv (.t 1)),some (43,true)⟩,
 ⟨some 45,(.mv (.t 1)),some (43,true)⟩,
 ⟨some 46,(.len (.t 45)),some (43,true)⟩,
 ⟨some 47,(.bin .sub (.t 46) (.c (.int .i64 (1)))),some (43,true)⟩,
 ⟨some 48,(.iad 1 (.t 44) (.t 47)),some (43,true)⟩,
 ⟨some 49,(.load false 1 (.t 48)),some (43,true)⟩,
 ⟨some 50,(.fad 0 (.t 4)),some (43,true)⟩,
 ⟨some 51,(.load false 1 (.t 50)),some (43,true)⟩,
 ⟨some 52,(.len (.t 51)),some (43,true)⟩,
 ⟨some 53,(.bin .lss (.t 49) (.t 52)),some (43,true)⟩,
 ⟨some 54,(.pick (.t 43) (.t 53) (.c (.bool false))),none⟩,
 ⟨some 14,(.mv (.t 54)),none⟩]
 [(10,11),(10,12),(10,13),(10,16),(11,16),(12,16),(13,16),(14,16),(15,16),(10,17),(11,17),(12,17),(13,17),(14,17),(15,17),(10,18),(11,18),(12,18),(13,18),(14,18),(15,18)] [13,30,34,35,36,37,38,39,40,41,42,43,44,45,46,47,48,49,50,51,52,53,54])
 (.seq
 (.seq
 (.ops [⟨some 15,(.mv (.c (.int .i64 (1)))),none⟩]
 [] [])
 (.block 0
 (.loop
 (.seq
 (.seq
 (.ops [⟨some 55,(.mv (.t 15)),none⟩,
 ⟨some 56,(.mv (.t 1)),none⟩,
 ⟨some 57,(.len (.t 56)),none⟩,
 ⟨some 58,(.bin .lss (.t 55) (.t 57)),none⟩]
 [] [55,56,57])
 (.cond (.t 58)
 .skip
 (.exit 0)))
 (.seq
 (.block 1
 (.ops [⟨some 61,(.mv (.t 14)),none⟩,
 ⟨some 62,(.mv (.t 61)),none⟩,
 ⟨some 63,(.mv (.t 1)),some (62,true)⟩,
 ⟨some 64,(.mv (.t 15)),some (62,true)⟩,
 ⟨some 65,(.bin .sub (.t 64) (.c (.int .i64 (1)))),some (62,true)⟩,
 ⟨some 66,(.iad 1 (.t 63) (.t 65)),some (62,true)⟩,
 ⟨some 67,(.load false 1 (.t 66)),some (62,true)⟩,
 ⟨some 68,(.mv (.t 1)),some (62,true)⟩,
 ⟨some 69,(.mv (.t 15)),some (62,true)⟩,
 ⟨some 70,(.iad 1 (.t 68) (.t 69)),some (62,true)⟩,
 ⟨some 71,(.load false 1 (.t 70)),some (62,true)⟩,
 ⟨some 72,(.bin .lss (.t 67) (.t 71)),some (62,true)⟩,
 ⟨some 73,(.pick (.t 62) (.t 72) (.c (.bool false))),none⟩,
 ⟨some 14,(.mv (.t 73)),none⟩]
 [(2,3),(2,4),(2,7),(3,7),(4,7),(5,7),(6,7),(2,8),(3,8),(4,8),(5,8),(6,8),(7,8),(2,9),(3,9),(4,9),(5,9),(6,9),(2,10),(3,10),(4,10),(5,10),(6,10)] [58,61,62,63,64,65,66,67,68,69,70,71,72,73]))
 (.ops [⟨some 59,(.mv (.t 15)),none⟩,
 ⟨some 60,(.bin .add (.t 59) (.c (.int .i64 (1)))),none⟩,
 ⟨some 15,(.mv (.t 60)),none⟩]
 [] [59,60]))))))
 (.seq
 (.ops [⟨some 75,(.load true 2 (.t 6)),none⟩,
 ⟨some 76,(.load true 2 (.t 7)),none⟩,
 ⟨some 77,(.call (.f 60) [(.t 75),(.t 76)]),none⟩,
 ⟨some 74,(.mv (.t 77)),none⟩,
 ⟨some 78,(.ext (.t 74) 0),none⟩,
 ⟨some 79,(.ext (.t 74) 1),none⟩,
 ⟨some 16,(.mv (.t 78)),none⟩,
 ⟨some 17,(.mv (.t 79)),none⟩]
 [] [15,58,74,75,76,77,78,79])
 (.seq
 (.seq
 (.ops [⟨some 80,(.mv (.t 14)),none⟩,
 ⟨some 81,(.un .not (.t 80)),none⟩,
 ⟨some 82,(.mv (.t 81)),none⟩,
 ⟨some 83,(.mv (.t 17)),some (82,false)⟩,
 ⟨some 84,(.bin .neq (.t 83) (.c (.int .i64 (0)))),some (82,false)⟩,
 ⟨some 85,(.pick (.t 82) (.c (.bool true)) (.t 84)),none⟩,
 ⟨some 86,(.mv (.t 85)),none⟩,
 ⟨some 87,(.mv (.t 16)),some (86,false)⟩,
 ⟨some 88,(.bin .geq (.t 87) (.c (.int .i64 (0)))),some (86,false)⟩,
 ⟨some 89,(.pick (.t 86) (.c (.bool true)) (.t 88)),none⟩,
 ⟨some 90,(.mv (.t 89)),none⟩,
 ⟨some 91,(.fad 0 (.t 6)),some (90,false)⟩,
 ⟨some 92,(.load false 1 (.t 91)),some (90,false)⟩,
 ⟨some 93,(.bin .lss (.t 92) (.c (.int .i64 (0)))),some (90,false)⟩,
 ⟨some 94,(.pick (.t 90) (.c (.bool true)) (.t 93)),none⟩,
 ⟨some 95,(.mv (.t 94)),none⟩,
 ⟨some 96,(.load true 2 (.t 7)),some (95,false)⟩,
 ⟨some 97,(.fad 0 (.t 4)),some (95,false)⟩,
 ⟨some 98,(.load false 1 (.t 97)),some (95,false)⟩,
 ⟨some 99,(.iad 3 (.t 98) (.c (.int .i64 (0)))),some (95,false)⟩,
 ⟨some 100,(.fad 0 (.t 99)),some (95,false)⟩,
 ⟨some 101,(.load false 1 (.t 100)),some (95,false)⟩,
 ⟨some 102,(.call (.f 34) [(.t 101)]),some (95,false)⟩,
 ⟨some 103,(.call (.f 68) [(.t 96),(.t 102)]),some (95,false)⟩,
 ⟨some 104,(.bin .gtr (.t 103) (.c (.int .i64 (0)))),some (95,false)⟩,
 ⟨some 105,(.pick (.t 95) (.c (.bool true)) (.t 104)),none⟩]
 [(16,17),(16,18),(16,19),(16,20),(16,21),(16,22)] [14,16,17,80,81,82,83,84,85,86,87,88,89,90,91,92,93,94,95,96,97,98,99,100,101,102,103,104])
 (.cond (.t 105)
 (.seq
 (.ops [⟨some 106,(.build [.nils,.nils] []),none⟩,
 ⟨some 107,(.build [(.int .i64 (0)),(.int .i64 (0))] []),none⟩,
 ⟨none,(.store 2 (.t 8) (.t 106)),none⟩,
 ⟨none,(.store 2 (.t 9) (.t 107)),none⟩,
 ⟨some 10,(.mv (.c .nils)),none⟩,
 ⟨some 11,(.mv (.c .nils)),none⟩,
 ⟨some 12,(.mv (.c (.int .i64 (2)))),none⟩]
 [] [1,4,6,7,105,106,107])
 .ret)
 .skip))
 (.seq
 (.ops [⟨some 108,(.mv (.t 1)),none⟩,
 ⟨some 109,(.len (.t 108)),none⟩,
 ⟨some 110,(.bin .quo (.t 109) (.c (.int .i64 (2)))),none⟩,
 ⟨some 18,(.mv (.t 110)),none⟩]
 [] [105,108,109,110])
 (.seq
 (.ops [⟨some 112,(.mv (.t 18)),none⟩,
 ⟨some 113,(.mv (.t 1)),none⟩,
 ⟨some 114,(.len (.t 113)),none⟩,
 ⟨some 115,(.call (.f 69) [(.t 112),(.t 114)]),none⟩,
 ⟨some 111,(.mv (.t 115)),none⟩,
 ⟨some 116,(.ext (.t 111) 0),none⟩,
 ⟨some 117,(.ext (.t 111) 1),none⟩,
 ⟨some 19,(.allocL (.agg [(.int .i64 (0)),(.int .i64 (0))])),none⟩,
 ⟨none,(.store 2 (.t 19) (.t 116)),none⟩,
 ⟨some 20,(.mv (.t 117)),none⟩]
 [] [20,111,112,113,114,115,116,117])
 (.seq
 (.ops [⟨some 21,(.mv (.c .nils)),none⟩]
 [] [])
 (.seq
 (.seq
 (.ops [⟨some 118,(.mv (.t 1)),none⟩,
 ⟨some 119,(.len (.t 118)),none⟩,
 ⟨some 120,(.mv (.c (.int .i64 (0)))),none⟩]
 [] [1])
 (.block 2
 (.loop
 (.seq
 (.ops [⟨some 121,(.bin .lss (.t 120) (.t 119)),none⟩]
 [] [])
 (.seq
 (.cond (.t 121)
 .skip
 (.exit 2))
 (.seq
 (.block 3
 (.seq
 (.ops [⟨some 122,(.iad 1 (.t 118) (.t 120)),none⟩,
 ⟨some 123,(.load false 1 (.t 122)),none⟩,
 ⟨some 23,(.mv (.t 123)),none⟩]
 [] [121,122,123])
 (.seq
 (.ops [⟨some 24,(.allocL (.agg [(.int .i64 (0)),(.int .i64 (0))])),none⟩]
 [] [])
 (.seq
 (.seq
 (.ops [⟨some 125,(.load true 2 (.t 4)),none⟩,
 ⟨some 126,(.mv (.t 23)),none⟩,
 ⟨some 127,(.load true 2 (.t 6)),none⟩,
 ⟨some 128,(.load true 2 (.t 7)),none⟩,
 ⟨some 129,(.load true 2 (.t 19)),none⟩,
 ⟨some 130,(.call (.f 70) [(.t 125),(.t 126),(.t 127),(.t 128),(.t 129)]),none⟩,
 ⟨some 124,(.mv (.t 130)),none⟩,
 ⟨some 131,(.ext (.t 124) 0),none⟩,
 ⟨some 132,(.ext (.t 124) 1),none⟩,
 ⟨some 133,(.ext (.t 124) 2),none⟩,
 ⟨none,(.store 2 (.t 4) (.t 131)),none⟩,
 ⟨none,(.store 2 (.t 24) (.t 132)),none⟩,
 ⟨some 12,(.mv (.t 133)),none⟩]
 [] [124,125,126,127,128,129,130,131,132,133])
 (.seq
 (.ops [⟨some 134,(.mv (.t 12)),none⟩,
 ⟨some 135,(.bin .neq (.t 134) (.c (.int .i64 (0)))),none⟩]
 [] [134])
 (.cond (.t 135)
 (.seq
 (.ops [⟨some 136,(.build [.nils,.nils] []),none⟩,
 ⟨some 137,(.build [(.int .i64 (0)),(.int .i64 (0))] []),none⟩,
 ⟨some 138,(.mv (.t 12)),none⟩,
 ⟨none,(.store 2 (.t 8) (.t 136)),none⟩,
 ⟨none,(.store 2 (.t 9) (.t 137)),none⟩,
 ⟨some 10,(.mv (.c .nils)),none⟩,
 ⟨some 11,(.mv (.c .nils)),none⟩,
 ⟨some 12,(.mv (.t 138)),none⟩]
 [] [4,6,7,18,19,21,23,24,118,119,120,135,136,137,138])
 .ret)
 .skip)))
 (.ops [⟨some 139,(.mv (.t 21)),none⟩,
 ⟨some 140,(.mv (.t 23)),none⟩,
 ⟨some 141,(.load true 2 (.t 24)),none⟩,
 ⟨some 142,(.build [(.int .i64 (0)),(.int .i64 (0)),(.int .i64 (0))] [(0,1,(.t 140)),(1,2,(.t 141))]),none⟩,
 ⟨some 143,(.buildD 3 (.agg [(.int .i64 (0)),(.int .i64 (0)),(.int .i64 (0))]) 1 [(0,(.t 142))]),none⟩,
 ⟨some 144,(.app true 3 24 (.t 139) (.t 143)),none⟩,
 ⟨some 21,(.mv (.t 144)),none⟩]
 [] [12,23,24,135,139,140,141,142,143,144])))))
 (.ops [⟨some 145,(.bin .add (.t 120) (.c (.int .i64 (1)))),none⟩,
 ⟨some 120,(.mv (.t 145)),none⟩]
 [] [145])))))))
 (.seq
 (.ops [⟨some 146,(.mv (.t 21)),none⟩,
 ⟨some 147,(.call (.f 71) [(.t 146),(.f 72)]),none⟩]
 [] [6,7,19,118,119,120,121,146,147])
 (.seq
 (.seq
 (.ops [⟨some 148,(.mv (.t 21)),none⟩,
 ⟨some 149,(.len (.t 148)),none⟩,
 ⟨some 150,(.mv (.c (.int .i64 (0)))),none⟩]
 [] [])
 (.block 4
 (.loop
 (.seq
 (.ops [⟨some 151,(.bin .lss (.t 150) (.t 149)),none⟩]
 [] [])
 (.seq
 (.cond (.t 151)
 .skip
 (.exit 4))
 (.seq
 (.block 5
 (.seq
 (.ops [⟨some 152,(.mv (.t 150)),none⟩,
 ⟨some 153,(.iad 3 (.t 148) (.t 150)),none⟩,
 ⟨some 154,(.load true 3 (.t 153)),none⟩,
 ⟨some 26,(.allocL (.agg [(.int .i64 (0)),(.int .i64 (0)),(.int .i64 (0))])),none⟩,
 ⟨some 25,(.mv (.t 152)),none⟩,
 ⟨none,(.store 3 (.t 26) (.t 154)),none⟩]
 [] [151,152,153,154])
 (.seq
 (.ops [⟨some 155,(.mv (.t 25)),none⟩,
 ⟨some 156,(.mv (.t 18)),none⟩,
 ⟨some 157,(.bin .lss (.t 155) (.t 156)),none⟩]
 [] [25,155,156])
 (.cond (.t 157)
 (.ops [⟨some 158,(.mv (.t 10)),none⟩,
 ⟨some 159,(.fad 0 (.t 26)),none⟩,
 ⟨some 160,(.load false 1 (.t 159)),none⟩,
 ⟨some 161,(.buildD 1 (.int .i64 (0)) 1 [(0,(.t 160))]),none⟩,
 ⟨some 162,(.app true 1 8 (.t 158) (.t 161)),none⟩,
 ⟨some 10,(.mv (.t 162)),none⟩]
 [] [26,157,158,159,160,161,162])
 (.ops [⟨some 163,(.mv (.t 11)),none⟩,
 ⟨some 164,(.fad 0 (.t 26)),none⟩,
 ⟨some 165,(.load false 1 (.t 164)),none⟩,
 ⟨some 166,(.buildD 1 (.int .i64 (0)) 1 [(0,(.t 165))]),none⟩,
 ⟨some 167,(.app true 1 8 (.t 163) (.t 166)),none⟩,
 ⟨some 11,(.mv (.t 167)),none⟩]
 [] [26,157,163,164,165,166,167])))))
 (.ops [⟨some 168,(.bin .add (.t 150) (.c (.int .i64 (1)))),none⟩,
 ⟨some 150,(.mv (.t 168)),none⟩]
 [] [168])))))))
 (.seq
 (.ops [⟨some 169,(.mv (.t 10)),none⟩,
 ⟨some 170,(.call (.f 73) [(.t 169)]),none⟩]
 [] [148,149,150,151,169,170])
 (.seq
 (.ops [⟨some 171,(.mv (.t 11)),none⟩,
 ⟨some 172,(.call (.f 73) [(.t 171)]),none⟩]
 [] [171,172])
 (.seq
 (.ops [⟨some 173,(.load true 2 (.t 4)),none⟩,
 ⟨some 174,(.mv (.t 21)),none⟩,
 ⟨some 175,(.mv (.t 18)),none⟩,
 ⟨some 176,(.bin .sub (.t 175) (.c (.int .i64 (1)))),none⟩,
 ⟨some 177,(.iad 3 (.t 174) (.t 176)),none⟩,
 ⟨some 178,(.fad 1 (.t 177)),none⟩,
 ⟨some 179,(.load true 2 (.t 178)),none⟩,
 ⟨some 180,(.mv (.t 10)),none⟩,
 ⟨some 181,(.mv (.t 11)),none⟩,
 ⟨none,(.store 2 (.t 8) (.t 173)),none⟩,
 ⟨none,(.store 2 (.t 9) (.t 179)),none⟩,
 ⟨some 10,(.mv (.t 180)),none⟩,
 ⟨some 11,(.mv (.t 181)),none⟩,
 ⟨some 12,(.mv (.c (.int .i64 (0)))),none⟩]
 [(0,1),(0,2),(1,2),(0,3),(1,3),(0,4),(0,5),(0,6),(0,7),(1,7),(2,7),(3,7),(4,7),(5,7),(6,7),(0,8),(1,8),(2,8),(3,8),(4,8),(5,8),(6,8),(7,8),(1,9),(2,9),(3,9),(4,9),(5,9),(6,9),(7,9),(8,9),(7,10),(8,10),(8,11)] [4,18,21,173,174,175,176,177,178,179,180,181])
 .ret)))))))))))))))⟩
def yqs:List Nat:=[143,161,166,4,6,7,8,9,19,24,26]
def fg35:List (Nat×List Nat):=[(34,[4,18,21,173,174,175,176,177,178,179,180,181]),(33,[171,172]),(32,[148,149,150,151,169,170]),(31,[168]),(30,[26,157,163,164,165,166,167]),(29,[26,157,158,159,160,161,162]),(28,[25,155,156]),(27,[151,152,153,154]),(24,[6,7,19,118,119,120,121,146,147]),(23,[145]),(22,[12,23,24,135,139,140,141,142,143,144]),(21,[4,6,7,18,19,21,23,24,118,119,120,135,136,137,138]),(20,[134]),(19,[124,125,126,127,128,129,130,131,132,133]),(17,[121,122,123]),(15,[1]),(13,[20,111,112,113,114,115,116,117]),(12,[105,108,109,110]),(11,[1,4,6,7,105,106,107]),(10,[14,16,17,80,81,82,83,84,85,86,87,88,89,90,91,92,93,94,95,96,97,98,99,100,101,102,103,104]),(9,[15,58,74,75,76,77,78,79]),(7,[59,60]),(8,[58,61,62,63,64,65,66,67,68,69,70,71,72,73]),(6,[55,56,57]),(4,[13,30,34,35,36,37,38,39,40,41,42,43,44,45,46,47,48,49,50,51,52,53,54]),(3,[1,4,6,7,13,30,31,32,33]),(2,[29]),(1,[27,28]),(0,[0,2,3,12])]
theorem ynY:yaa Tryz.prog yqs (fun i=>(fg35.lookup i).getD []) Tryz.f35=some ymh:=by kernel_rfl

-- parcener/triple.seated
def ymi:AFn:=⟨1,[.tmp 2],
 (.seq
 (.ops [⟨some 1,(.boxL (.t 0)),none⟩,
 ⟨some 2,(.mv (.c (.int .i64 (0)))),none⟩]
 [] [0,2])
 (.seq
 (.seq
 (.ops [⟨some 4,(.load true 2 (.t 1)),none⟩,
 ⟨some 5,(.call (.f 13) [(.t 4)]),none⟩,
 ⟨some 3,(.mv (.t 5)),none⟩]
 [] [4,5])
 (.seq
 (.ops [⟨some 6,(.mv (.t 3)),none⟩,
 ⟨some 7,(.bin .neq (.t 6) (.c (.int .i64 (0)))),none⟩]
 [] [6])
 (.cond (.t 7)
 (.seq
 (.ops [⟨some 8,(.mv (.t 3)),none⟩,
 ⟨some 2,(.mv (.t 8)),none⟩]
 [] [1,3,7,8])
 .ret)
 .skip)))
 (.seq
 (.seq
 (.ops [⟨some 9,(.fad 0 (.t 1)),none⟩,
 ⟨some 10,(.load false 1 (.t 9)),none⟩,
 ⟨some 11,(.len (.t 10)),none⟩,
 ⟨some 12,(.bin .neq (.t 11) (.c (.int .i64 (3)))),none⟩]
 [] [1,3,7,9,10,11])
 (.cond (.t 12)
 (.seq
 (.ops [⟨some 2,(.mv (.c (.int .i64 (2)))),none⟩]
 [] [12])
 .ret)
 .skip))
 (.seq
 (.ops [⟨some 2,(.mv (.c (.int .i64 (0)))),none⟩]
 [] [12])
 .ret))))⟩
def yqt:List Nat:=[1]
def fg36:List (Nat×List Nat):=[(6,[12]),(5,[12]),(4,[1,3,7,9,10,11]),(3,[1,3,7,8]),(2,[6]),(1,[4,5]),(0,[0,2])]
theorem ynZ:yaa Tryz.prog yqt (fun i=>(fg36.lookup i).getD []) Tryz.f36=some ymi:=by kernel_rfl

-- parcener/triple.Run$1
def ymj:AFn:=⟨4,[],
 (.seq
 (.ops [⟨none,(.dfr 38),none⟩]
 [] [0])
 (.seq
 (.ops [⟨some 9,(.call (.f 39) [(.t 1)]),none⟩,
 ⟨none,(.store 20 (.t 2) (.t 9)),none⟩]
 [] [9])
 (.seq
 (.ops [⟨some 4,(.allocL (.agg [(.int .i64 (0)),(.int .i64 (0)),(.int .i64 (0)),(.int .i64 (0)),(.int .i64 (0)),(.int .i64 (0)),(.int .i64 (0)),(.int .i64 (0)),(.int .i64 (0)),(.int .i64 (0)),(.int .i64 (0)),(.int .i64 (0))])),none⟩]
 [] [])
 (.seq
 (.seq
 (.ops [⟨some 10,(.fad 12 (.t 2)),none⟩,
 ⟨some 11,(.load false 1 (.t 10)),none⟩,
 ⟨some 12,(.bin .geq (.t 11) (.c (.int .i64 (0)))),none⟩]
 [] [10,11])
 (.cond (.t 12)
 (.ops [⟨some 13,(.load true 20 (.t 2)),none⟩,
 ⟨some 14,(.call (.f 40) [(.t 1),(.t 13)]),none⟩,
 ⟨none,(.store 12 (.t 4) (.t 14)),none⟩]
 [] [1,12,13,14])
 .skip))
 (.seq
 (.ops [⟨some 15,(.mv (.c (.int .i64 (0)))),none⟩]
 [] [1,12])
 (.block 0
 (.loop
 (.seq
 (.ops [⟨some 16,(.bin .lss (.t 15) (.c (.int .i64 (3)))),none⟩]
 [] [])
 (.seq
 (.cond (.t 16)
 .skip
 (.exit 0))
 (.seq
 (.block 1
 (.seq
 (.ops [⟨some 17,(.mv (.t 15)),none⟩,
 ⟨some 5,(.mv (.t 17)),none⟩]
 [] [16,17])
 (.seq
 (.ops [⟨some 6,(.mv (.c .nils)),none⟩]
 [] [])
 (.seq
 (.seq
 (.ops [⟨some 18,(.mv (.t 5)),none⟩,
 ⟨some 19,(.fad 17 (.t 2)),none⟩,
 ⟨some 20,(.iadA 3 1 (.t 19) (.t 18)),none⟩,
 ⟨some 21,(.load false 1 (.t 20)),none⟩,
 ⟨some 22,(.fad 0 (.t 2)),none⟩,
 ⟨some 23,(.iadA 3 4 (.t 22) (.t 21)),none⟩,
 ⟨some 24,(.load true 4 (.t 23)),none⟩,
 ⟨some 25,(.mv (.t 5)),none⟩,
 ⟨some 26,(.iadA 3 4 (.t 4) (.t 25)),none⟩,
 ⟨some 27,(.load true 4 (.t 26)),none⟩,
 ⟨some 28,(.buildD 4 (.agg [(.int .i64 (0)),(.int .i64 (0)),(.int .i64 (0)),(.int .i64 (0))]) 2 [(0,(.t 24)),(1,(.t 27))]),none⟩,
 ⟨some 29,(.len (.t 28)),none⟩,
 ⟨some 30,(.mv (.c (.int .i64 (0)))),none⟩]
 [(0,1),(0,4),(1,4),(2,4),(3,4),(0,7),(1,7),(2,7),(3,7),(4,7),(5,7),(6,7),(0,8),(1,8),(2,8),(3,8),(4,8),(5,8),(6,8),(0,9),(1,9),(2,9),(3,9),(4,9),(5,9),(6,9),(0,12),(1,12),(2,12),(3,12),(4,12),(5,12),(6,12),(7,12),(8,12),(9,12),(10,12),(11,12)] [5,18,19,20,21,22,23,24,25,26,27])
 (.block 2
 (.loop
 (.seq
 (.ops [⟨some 31,(.bin .lss (.t 30) (.t 29)),none⟩]
 [] [])
 (.seq
 (.cond (.t 31)
 .skip
 (.exit 2))
 (.seq
 (.block 3
 (.seq
 (.ops [⟨some 32,(.iad 4 (.t 28) (.t 30)),none⟩,
 ⟨some 33,(.load true 4 (.t 32)),none⟩,
 ⟨some 8,(.allocL (.agg [(.int .i64 (0)),(.int .i64 (0)),(.int .i64 (0)),(.int .i64 (0))])),none⟩,
 ⟨none,(.store 4 (.t 8) (.t 33)),none⟩]
 [] [31,32,33])
 (.seq
 (.ops [⟨some 34,(.fad 0 (.t 8)),none⟩,
 ⟨some 35,(.load true 2 (.t 34)),none⟩,
 ⟨some 36,(.fad 2 (.t 8)),none⟩,
 ⟨some 37,(.load true 2 (.t 36)),none⟩,
 ⟨some 38,(.eqA true 2 [(0,(some .i64)),(1,(some .i64))] (.t 35) (.t 37)),none⟩]
 [] [34,35,36,37])
 (.cond (.t 38)
 (.ops [⟨some 39,(.mv (.t 6)),none⟩,
 ⟨some 40,(.load true 4 (.t 8)),none⟩,
 ⟨some 41,(.buildD 4 (.agg [(.int .i64 (0)),(.int .i64 (0)),(.int .i64 (0)),(.int .i64 (0))]) 1 [(0,(.t 40))]),none⟩,
 ⟨some 42,(.app true 4 32 (.t 39) (.t 41)),none⟩,
 ⟨some 6,(.mv (.t 42)),none⟩]
 [] [8,38,39,40,41,42])
 .skip))))
 (.ops [⟨some 43,(.bin .add (.t 30) (.c (.int .i64 (1)))),none⟩,
 ⟨some 30,(.mv (.t 43)),none⟩]
 [] [8,38,43])))))))
 (.ops [⟨some 44,(.fad 0 (.t 3)),none⟩,
 ⟨some 45,(.load false 1 (.t 44)),none⟩,
 ⟨some 46,(.mv (.t 6)),none⟩,
 ⟨some 47,(.call (.f 42) [(.t 46)]),none⟩,
 ⟨some 48,(.ext (.t 47) 0),none⟩,
 ⟨some 49,(.ext (.t 47) 1),none⟩,
 ⟨some 50,(.call (.f 41) [(.t 48),(.t 49)]),none⟩,
 ⟨some 51,(.buildD 1 (.data []) 1 [(0,(.t 50))]),none⟩,
 ⟨some 52,(.app true 1 24 (.t 45) (.t 51)),none⟩,
 ⟨some 53,(.fad 0 (.t 3)),none⟩,
 ⟨none,(.store 1 (.t 53) (.t 52)),none⟩]
 [(0,2),(1,2),(0,3),(1,3),(0,4),(1,4),(0,5),(1,5),(4,5),(0,6),(1,6),(0,7),(1,7)] [6,28,29,30,31,44,45,46,47,48,49,50,51,52,53])))))
 (.ops [⟨some 54,(.bin .add (.t 15) (.c (.int .i64 (1)))),none⟩,
 ⟨some 15,(.mv (.t 54)),none⟩]
 [] [54])))))))))))⟩
def yqu:List Nat:=[28,41,51,4,8,1000004,1000008]
def fg37:List (Nat×List Nat):=[(16,[54]),(15,[6,28,29,30,31,44,45,46,47,48,49,50,51,52,53]),(14,[8,38,43]),(13,[8,38,39,40,41,42]),(12,[34,35,36,37]),(11,[31,32,33]),(9,[5,18,19,20,21,22,23,24,25,26,27]),(7,[16,17]),(5,[1,12]),(4,[1,12,13,14]),(3,[10,11]),(1,[9]),(0,[0])]
theorem yn0:yaa Tryz.prog yqu (fun i=>(fg37.lookup i).getD []) Tryz.f37=some ymj:=by kernel_rfl

def tab0:List (Nat×AFn):=[(3,lit3),(4,lit4),(5,lit5),(6,lit6),(7,lit7),(8,lit8),(9,lit9),(10,ylT),(11,ylU),(12,ylV),(13,ylW),(14,ylX),(15,ylY),(16,ylZ),(17,yl0),(18,yl1),(19,yl2),(20,yl3),(21,yl4),(22,yl5),(23,yl6),(24,yl7),(25,yl8),(26,yl9),(27,yma),(28,ymb),(29,ymc),(30,ymd),(31,yme),(32,ymf),(34,ymg),(35,ymh),(36,ymi),(37,ymj)]
theorem yn1:yc1 Tryz.prog tab0:=⟨⟨_,_,_,Tryz.func3,ypX⟩,⟨_,_,_,Tryz.func4,ypY⟩,⟨_,_,_,Tryz.func5,ypZ⟩,⟨_,_,_,Tryz.func6,yp0⟩,⟨_,_,_,Tryz.func7,yp1⟩,⟨_,_,_,Tryz.func8,yp2⟩,⟨_,_,_,Tryz.func9,yp3⟩,⟨_,_,_,Tryz.func10,ynA⟩,⟨_,_,_,Tryz.func11,ynB⟩,⟨_,_,_,Tryz.func12,ynC⟩,⟨_,_,_,Tryz.func13,ynD⟩,⟨_,_,_,Tryz.func14,ynE⟩,⟨_,_,_,Tryz.func15,ynF⟩,⟨_,_,_,Tryz.func16,ynG⟩,⟨_,_,_,Tryz.func17,ynH⟩,⟨_,_,_,Tryz.func18,ynI⟩,⟨_,_,_,Tryz.func19,ynJ⟩,⟨_,_,_,Tryz.func20,ynK⟩,⟨_,_,_,Tryz.func21,ynL⟩,⟨_,_,_,Tryz.func22,ynM⟩,⟨_,_,_,Tryz.func23,ynN⟩,⟨_,_,_,Tryz.func24,ynO⟩,⟨_,_,_,Tryz.func25,ynP⟩,⟨_,_,_,Tryz.func26,ynQ⟩,⟨_,_,_,Tryz.func27,ynR⟩,⟨_,_,_,Tryz.func28,ynS⟩,⟨_,_,_,Tryz.func29,ynT⟩,⟨_,_,_,Tryz.func30,ynU⟩,⟨_,_,_,Tryz.func31,ynV⟩,⟨_,_,_,Tryz.func32,ynW⟩,⟨_,_,_,Tryz.func34,ynX⟩,⟨_,_,_,Tryz.func35,ynY⟩,⟨_,_,_,Tryz.func36,ynZ⟩,⟨_,_,_,Tryz.func37,yn0⟩,trivial⟩
end Go.Proofs.YtlooeiaiafmikaaGreatDoor.Bn
