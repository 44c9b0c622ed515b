/- The functions that the statement EqualNames runs, in the small code (part 0); each is what the framework makes of the program. -/
import Derived.Test.YteokncggklmilaaFw27
import Derived.Test.YteokncggklmilaaRows
namespace Go.Proofs.Yteokncggklmilaa.En
open Go Go.Pf
-- parcener/parcenerlaw12.EqualNames
def lit3 : AFn := ⟨0, [.tmp 0],
 (.seq
 (.ops [⟨some 0, (.mv (.c (.bool false))), none⟩]
 [] [0])
 (.seq
 (.ops [⟨some 39, (.call (.f 4) []), none⟩,
 ⟨some 40, (.iad 3 (.t 39) (.c (.int .i64 (0)))), none⟩,
 ⟨some 41, (.load true 3 (.t 40)), none⟩,
 ⟨some 1, (.allocL (.agg [(.int .i64 (0)), .nils, .nils])), none⟩,
 ⟨none, (.store 3 (.t 1) (.t 41)), none⟩]
 [] [39, 40, 41])
 (.seq
 (.ops [⟨some 43, (.load true 3 (.t 1)), none⟩,
 ⟨some 44, (.load true 3 (.t 1)), none⟩,
 ⟨some 45, (.load true 3 (.t 1)), none⟩,
 ⟨some 46, (.load true 3 (.t 1)), none⟩,
 ⟨some 47, (.buildD 3 (.agg [(.int .i64 (0)), (.data []), (.data [])]) 4 [(0, (.t 43)), (1, (.t 44)), (2, (.t 45)), (3, (.t 46))]), none⟩,
 ⟨some 48, (.buildD 1 (.int .i64 (0)) 4 [(0, (.c (.int .i64 (3)))), (1, (.c (.int .i64 (1)))), (2, (.c (.int .i64 (0)))), (3, (.c (.int .i64 (2))))]), none⟩,
 ⟨some 49, (.call (.f 5) [(.t 47), (.t 48)]), none⟩,
 ⟨some 42, (.mv (.t 49)), none⟩,
 ⟨some 50, (.ext (.t 42) 0), none⟩,
 ⟨some 51, (.ext (.t 42) 1), none⟩,
 ⟨some 2, (.allocL (.agg [.nils])), none⟩,
 ⟨none, (.store 1 (.t 2) (.t 50)), none⟩,
 ⟨some 3, (.mv (.t 51)), none⟩]
 [] [42, 43, 44, 45, 46, 47, 48, 49, 50, 51])
 (.seq
 (.ops [⟨some 52, (.load true 1 (.t 2)), none⟩,
 ⟨some 53, (.mv (.t 3)), none⟩,
 ⟨some 54, (.call (.f 6) [(.t 52), (.t 53)]), none⟩,
 ⟨some 4, (.mv (.t 54)), none⟩]
 [] [2, 3, 52, 53, 54])
 (.seq
 (.ops [⟨some 56, (.load true 3 (.t 1)), none⟩,
 ⟨some 57, (.load true 3 (.t 1)), none⟩,
 ⟨some 58, (.load true 3 (.t 1)), none⟩,
 ⟨some 59, (.buildD 3 (.agg [(.int .i64 (0)), (.data []), (.data [])]) 3 [(0, (.t 56)), (1, (.t 57)), (2, (.t 58))]), none⟩,
 ⟨some 60, (.call (.f 7) [(.t 59)]), none⟩,
 ⟨some 55, (.mv (.t 60)), none⟩,
 ⟨some 61, (.ext (.t 55) 0), none⟩,
 ⟨some 62, (.ext (.t 55) 1), none⟩,
 ⟨some 63, (.ext (.t 55) 2), none⟩,
 ⟨some 6, (.allocL (.agg [(.int .i64 (0)), (.int .i64 (0))])), none⟩,
 ⟨some 5, (.mv (.t 61)), none⟩,
 ⟨none, (.store 2 (.t 6) (.t 62)), none⟩,
 ⟨some 7, (.mv (.t 63)), none⟩]
 [] [55, 56, 57, 58, 59, 60, 61, 62, 63])
 (.seq
 (.ops [⟨some 65, (.call (.f 4) []), none⟩,
 ⟨some 66, (.slc 3 (.t 65) (some (.c (.int .i64 (1)))) none none), none⟩,
 ⟨some 67, (.buildD 1 (.int .i64 (0)) 1 [(0, (.c (.int .i64 (0))))]), none⟩,
 ⟨some 68, (.call (.f 8) [(.t 66), (.t 67)]), none⟩,
 ⟨some 64, (.mv (.t 68)), none⟩,
 ⟨some 69, (.ext (.t 64) 0), none⟩,
 ⟨some 70, (.ext (.t 64) 1), none⟩,
 ⟨some 8, (.allocL (.agg [(.int .i64 (0)), (.int .i64 (0))])), none⟩,
 ⟨none, (.store 2 (.t 8) (.t 69)), none⟩,
 ⟨some 9, (.mv (.t 70)), none⟩]
 [] [64, 65, 66, 67, 68, 69, 70])
 (.seq
 (.ops [⟨some 72, (.call (.f 4) []), none⟩,
 ⟨some 73, (.buildD 1 (.int .i64 (0)) 2 [(0, (.c (.int .i64 (1)))), (1, (.c (.int .i64 (0))))]), none⟩,
 ⟨some 74, (.call (.f 10) [(.c (.int .i64 (0)))]), none⟩,
 ⟨some 75, (.call (.f 9) [(.t 72), (.t 73), (.t 74)]), none⟩,
 ⟨some 71, (.mv (.t 75)), none⟩,
 ⟨some 76, (.ext (.t 71) 0), none⟩,
 ⟨some 77, (.ext (.t 71) 1), none⟩,
 ⟨some 10, (.mv (.t 76)), none⟩,
 ⟨some 11, (.mv (.t 77)), none⟩]
 [] [71, 72, 73, 74, 75, 76, 77])
 (.seq
 (.ops [⟨some 78, (.mv (.t 4)), none⟩,
 ⟨some 79, (.mv (.t 78)), none⟩,
 ⟨some 80, (.mv (.t 7)), some (79, true)⟩,
 ⟨some 81, (.bin .eql (.t 80) (.c (.int .i64 (0)))), some (79, true)⟩,
 ⟨some 82, (.pick (.t 79) (.t 81) (.c (.bool false))), none⟩,
 ⟨some 83, (.mv (.t 82)), none⟩,
 ⟨some 84, (.mv (.t 5)), some (83, true)⟩,
 ⟨some 85, (.buildD 1 (.int .i64 (0)) 3 [(0, (.c (.int .i64 (0)))), (1, (.c (.int .i64 (1)))), (2, (.c (.int .i64 (2))))]), some (83, true)⟩,
 ⟨some 86, (.call (.f 11) [(.t 84), (.t 85)]), some (83, true)⟩,
 ⟨some 87, (.pick (.t 83) (.t 86) (.c (.bool false))), none⟩,
 ⟨some 88, (.mv (.t 87)), none⟩,
 ⟨some 89, (.load true 2 (.t 6)), some (88, true)⟩,
 ⟨some 90, (.build [(.int .i64 (0)), (.int .i64 (0))] [(0, 1, (.c (.int .i64 (1)))), (1, 1, (.c (.int .i64 (3))))]), some (88, true)⟩,
 ⟨some 91, (.eqA false 2 [(0, (some .i64)), (1, (some .i64))] (.t 89) (.t 90)), some (88, true)⟩,
 ⟨some 92, (.pick (.t 88) (.t 91) (.c (.bool false))), none⟩,
 ⟨some 93, (.mv (.t 92)), none⟩,
 ⟨some 94, (.mv (.t 9)), some (93, true)⟩,
 ⟨some 95, (.bin .eql (.t 94) (.c (.int .i64 (0)))), some (93, true)⟩,
 ⟨some 96, (.pick (.t 93) (.t 95) (.c (.bool false))), none⟩,
 ⟨some 97, (.mv (.t 96)), none⟩,
 ⟨some 98, (.load true 2 (.t 8)), some (97, true)⟩,
 ⟨some 99, (.call (.f 10) [(.c (.int .i64 (1)))]), some (97, true)⟩,
 ⟨some 100, (.eqA false 2 [(0, (some .i64)), (1, (some .i64))] (.t 98) (.t 99)), some (97, true)⟩,
 ⟨some 101, (.pick (.t 97) (.t 100) (.c (.bool false))), none⟩,
 ⟨some 102, (.mv (.t 101)), none⟩,
 ⟨some 103, (.mv (.t 11)), some (102, true)⟩,
 ⟨some 104, (.bin .eql (.t 103) (.c (.int .i64 (0)))), some (102, true)⟩,
 ⟨some 105, (.pick (.t 102) (.t 104) (.c (.bool false))), none⟩,
 ⟨some 106, (.mv (.t 105)), none⟩,
 ⟨some 107, (.mv (.t 10)), some (106, true)⟩,
 ⟨some 108, (.call (.f 10) [(.c (.int .i64 (0)))]), some (106, true)⟩,
 ⟨some 109, (.call (.f 10) [(.c (.int .i64 (0)))]), some (106, true)⟩,
 ⟨some 110, (.buildD 2 (.agg [(.int .i64 (0)), (.int .i64 (0))]) 2 [(0, (.t 108)), (1, (.t 109))]), some (106, true)⟩,
 ⟨some 111, (.call (.f 12) [(.t 107), (.t 110)]), some (106, true)⟩,
 ⟨some 112, (.pick (.t 106) (.t 111) (.c (.bool false))), none⟩,
 ⟨some 12, (.mv (.t 112)), none⟩]
 [(6, 7), (11, 12), (20, 21), (29, 30), (29, 31), (29, 32)] [4, 5, 6, 7, 8, 9, 10, 11, 78, 79, 80, 81, 82, 83, 84, 85, 86, 87, 88, 89, 90, 91, 92, 93, 94, 95, 96, 97, 98, 99, 100, 101, 102, 103, 104, 105, 106, 107, 108, 109, 110, 111, 112])
 (.seq
 (.ops [⟨some 113, (.load true 3 (.t 1)), none⟩,
 ⟨some 114, (.buildD 1 (.int .i64 (0)) 3 [(0, (.c (.int .i64 (0)))), (1, (.c (.int .i64 (1)))), (2, (.c (.int .i64 (4))))]), none⟩,
 ⟨some 115, (.buildD 1 (.int .i64 (0)) 2 [(0, (.c (.int .i64 (0)))), (1, (.c (.int .i64 (1))))]), none⟩,
 ⟨some 116, (.build [(.int .i64 (0)), .nils, .nils] [(0, 1, (.c (.int .i64 (4)))), (1, 1, (.t 114)), (2, 1, (.t 115))]), none⟩,
 ⟨some 117, (.buildSl true 3 (.agg [(.int .i64 (0)), (.data []), (.data [])]) 2 [(0, (.t 113)), (1, (.t 116))]), none⟩,
 ⟨some 13, (.mv (.t 117)), none⟩]
 [] [113, 114, 115, 116, 117])
 (.seq
 (.ops [⟨some 119, (.mv (.t 13)), none⟩,
 ⟨some 120, (.buildD 1 (.int .i64 (0)) 2 [(0, (.c (.int .i64 (0)))), (1, (.c (.int .i64 (1))))]), none⟩,
 ⟨some 121, (.call (.f 8) [(.t 119), (.t 120)]), none⟩,
 ⟨some 118, (.mv (.t 121)), none⟩,
 ⟨some 122, (.ext (.t 118) 0), none⟩,
 ⟨some 123, (.ext (.t 118) 1), none⟩,
 ⟨some 14, (.allocL (.agg [(.int .i64 (0)), (.int .i64 (0))])), none⟩,
 ⟨none, (.store 2 (.t 14) (.t 122)), none⟩,
 ⟨some 15, (.mv (.t 123)), none⟩]
 [] [14, 118, 119, 120, 121, 122, 123])
 (.seq
 (.ops [⟨some 125, (.load true 3 (.t 1)), none⟩,
 ⟨some 126, (.load true 3 (.t 1)), none⟩,
 ⟨some 127, (.load true 3 (.t 1)), none⟩,
 ⟨some 128, (.load true 3 (.t 1)), none⟩,
 ⟨some 129, (.load true 3 (.t 1)), none⟩,
 ⟨some 130, (.buildD 3 (.agg [(.int .i64 (0)), (.data []), (.data [])]) 5 [(0, (.t 125)), (1, (.t 126)), (2, (.t 127)), (3, (.t 128)), (4, (.t 129))]), none⟩,
 ⟨some 131, (.buildD 1 (.int .i64 (0)) 5 [(0, (.c (.int .i64 (0)))), (1, (.c (.int .i64 (1)))), (2, (.c (.int .i64 (2)))), (3, (.c (.int .i64 (3)))), (4, (.c (.int .i64 (4))))]), none⟩,
 ⟨some 132, (.call (.f 8) [(.t 130), (.t 131)]), none⟩,
 ⟨some 124, (.mv (.t 132)), none⟩,
 ⟨some 133, (.ext (.t 124) 0), none⟩,
 ⟨some 134, (.ext (.t 124) 1), none⟩,
 ⟨some 16, (.allocL (.agg [(.int .i64 (0)), (.int .i64 (0))])), none⟩,
 ⟨none, (.store 2 (.t 16) (.t 133)), none⟩,
 ⟨some 17, (.mv (.t 134)), none⟩]
 [] [1, 16, 124, 125, 126, 127, 128, 129, 130, 131, 132, 133, 134])
 (.seq
 (.ops [⟨some 136, (.mkSl true 3 56 (.agg [(.int .i64 (0)), (.data []), (.data [])]) (.c (.int .i64 (7))) (.c (.int .i64 (7)))), none⟩,
 ⟨some 137, (.call (.f 7) [(.t 136)]), none⟩,
 ⟨some 135, (.mv (.t 137)), none⟩,
 ⟨some 138, (.ext (.t 135) 0), none⟩,
 ⟨some 139, (.ext (.t 135) 1), none⟩,
 ⟨some 140, (.ext (.t 135) 2), none⟩,
 ⟨some 19, (.allocL (.agg [(.int .i64 (0)), (.int .i64 (0))])), none⟩,
 ⟨some 18, (.mv (.t 138)), none⟩,
 ⟨none, (.store 2 (.t 19) (.t 139)), none⟩,
 ⟨some 20, (.mv (.t 140)), none⟩]
 [] [18, 19, 135, 136, 137, 138, 139, 140])
 (.seq
 (.ops [⟨some 142, (.call (.f 7) [(.c .nils)]), none⟩,
 ⟨some 141, (.mv (.t 142)), none⟩,
 ⟨some 143, (.ext (.t 141) 0), none⟩,
 ⟨some 144, (.ext (.t 141) 1), none⟩,
 ⟨some 145, (.ext (.t 141) 2), none⟩,
 ⟨some 22, (.allocL (.agg [(.int .i64 (0)), (.int .i64 (0))])), none⟩,
 ⟨some 21, (.mv (.t 143)), none⟩,
 ⟨none, (.store 2 (.t 22) (.t 144)), none⟩,
 ⟨some 23, (.mv (.t 145)), none⟩]
 [] [21, 22, 141, 142, 143, 144, 145])
 (.seq
 (.ops [⟨some 147, (.call (.f 4) []), none⟩,
 ⟨some 148, (.buildD 1 (.int .i64 (0)) 2 [(0, (.c (.int .i64 (0)))), (1, (.c (.int .i64 (0))))]), none⟩,
 ⟨some 149, (.call (.f 5) [(.t 147), (.t 148)]), none⟩,
 ⟨some 146, (.mv (.t 149)), none⟩,
 ⟨some 150, (.ext (.t 146) 0), none⟩,
 ⟨some 151, (.ext (.t 146) 1), none⟩,
 ⟨some 24, (.allocL (.agg [.nils])), none⟩,
 ⟨none, (.store 1 (.t 24) (.t 150)), none⟩,
 ⟨some 25, (.mv (.t 151)), none⟩]
 [] [24, 146, 147, 148, 149, 150, 151])
 (.seq
 (.ops [⟨some 153, (.call (.f 4) []), none⟩,
 ⟨some 154, (.buildD 1 (.int .i64 (0)) 1 [(0, (.c (.int .i64 (0))))]), none⟩,
 ⟨some 155, (.call (.f 5) [(.t 153), (.t 154)]), none⟩,
 ⟨some 152, (.mv (.t 155)), none⟩,
 ⟨some 156, (.ext (.t 152) 0), none⟩,
 ⟨some 157, (.ext (.t 152) 1), none⟩,
 ⟨some 26, (.allocL (.agg [.nils])), none⟩,
 ⟨none, (.store 1 (.t 26) (.t 156)), none⟩,
 ⟨some 27, (.mv (.t 157)), none⟩]
 [] [26, 152, 153, 154, 155, 156, 157])
 (.seq
 (.ops [⟨some 159, (.call (.f 4) []), none⟩,
 ⟨some 160, (.buildD 1 (.int .i64 (0)) 2 [(0, (.c (.int .i64 (0)))), (1, (.c (.int .i64 (2))))]), none⟩,
 ⟨some 161, (.call (.f 8) [(.t 159), (.t 160)]), none⟩,
 ⟨some 158, (.mv (.t 161)), none⟩,
 ⟨some 162, (.ext (.t 158) 0), none⟩,
 ⟨some 163, (.ext (.t 158) 1), none⟩,
 ⟨some 28, (.allocL (.agg [(.int .i64 (0)), (.int .i64 (0))])), none⟩,
 ⟨none, (.store 2 (.t 28) (.t 162)), none⟩,
 ⟨some 29, (.mv (.t 163)), none⟩]
 [] [28, 158, 159, 160, 161, 162, 163])
 (.seq
 (.ops [⟨some 165, (.call (.f 4) []), none⟩,
 ⟨some 166, (.buildD 1 (.int .i64 (0)) 3 [(0, (.c (.int .i64 (0)))), (1, (.c (.int .i64 (1)))), (2, (.c (.int .i64 (2))))]), none⟩,
 ⟨some 167, (.call (.f 8) [(.t 165), (.t 166)]), none⟩,
 ⟨some 164, (.mv (.t 167)), none⟩,
 ⟨some 168, (.ext (.t 164) 0), none⟩,
 ⟨some 169, (.ext (.t 164) 1), none⟩,
 ⟨some 30, (.allocL (.agg [(.int .i64 (0)), (.int .i64 (0))])), none⟩,
 ⟨none, (.store 2 (.t 30) (.t 168)), none⟩,
 ⟨some 31, (.mv (.t 169)), none⟩]
 [] [30, 164, 165, 166, 167, 168, 169])
 (.seq
 (.ops [⟨some 171, (.call (.f 4) []), none⟩,
 ⟨some 172, (.buildD 1 (.int .i64 (0)) 2 [(0, (.c (.int .i64 (0)))), (1, (.c (.int .i64 (1))))]), none⟩,
 ⟨some 173, (.call (.f 10) [(.c (.int .i64 (-1)))]), none⟩,
 ⟨some 174, (.call (.f 9) [(.t 171), (.t 172), (.t 173)]), none⟩,
 ⟨some 170, (.mv (.t 174)), none⟩,
 ⟨some 175, (.ext (.t 170) 0), none⟩,
 ⟨some 176, (.ext (.t 170) 1), none⟩,
 ⟨some 32, (.mv (.t 175)), none⟩,
 ⟨some 33, (.mv (.t 176)), none⟩]
 [] [32, 170, 171, 172, 173, 174, 175, 176])
 (.seq
 (.ops [⟨some 178, (.call (.f 4) []), none⟩,
 ⟨some 179, (.buildD 1 (.int .i64 (0)) 2 [(0, (.c (.int .i64 (0)))), (1, (.c (.int .i64 (1))))]), none⟩,
 ⟨some 180, (.build [(.int .i64 (0)), (.int .i64 (0))] []), none⟩,
 ⟨some 181, (.call (.f 9) [(.t 178), (.t 179), (.t 180)]), none⟩,
 ⟨some 177, (.mv (.t 181)), none⟩,
 ⟨some 182, (.ext (.t 177) 0), none⟩,
 ⟨some 183, (.ext (.t 177) 1), none⟩,
 ⟨some 34, (.mv (.t 182)), none⟩,
 ⟨some 35, (.mv (.t 183)), none⟩]
 [] [34, 177, 178, 179, 180, 181, 182, 183])
 (.seq
 (.ops [⟨some 185, (.mv (.t 13)), none⟩,
 ⟨some 186, (.build [(.int .i64 (0)), (.int .i64 (0))] []), none⟩,
 ⟨some 187, (.call (.f 9) [(.t 185), (.c .nils), (.t 186)]), none⟩,
 ⟨some 184, (.mv (.t 187)), none⟩,
 ⟨some 188, (.ext (.t 184) 0), none⟩,
 ⟨some 189, (.ext (.t 184) 1), none⟩,
 ⟨some 36, (.mv (.t 188)), none⟩,
 ⟨some 37, (.mv (.t 189)), none⟩]
 [] [13, 36, 184, 185, 186, 187, 188, 189])
 (.seq
 (.ops [⟨some 190, (.mv (.t 15)), none⟩,
 ⟨some 191, (.bin .eql (.t 190) (.c (.int .i64 (2)))), none⟩,
 ⟨some 192, (.mv (.t 191)), none⟩,
 ⟨some 193, (.mv (.t 17)), some (192, true)⟩,
 ⟨some 194, (.bin .eql (.t 193) (.c (.int .i64 (4)))), some (192, true)⟩,
 ⟨some 195, (.pick (.t 192) (.t 194) (.c (.bool false))), none⟩,
 ⟨some 196, (.mv (.t 195)), none⟩,
 ⟨some 197, (.mv (.t 20)), some (196, true)⟩,
 ⟨some 198, (.bin .eql (.t 197) (.c (.int .i64 (4)))), some (196, true)⟩,
 ⟨some 199, (.pick (.t 196) (.t 198) (.c (.bool false))), none⟩,
 ⟨some 200, (.mv (.t 199)), none⟩,
 ⟨some 201, (.mv (.t 23)), some (200, true)⟩,
 ⟨some 202, (.bin .eql (.t 201) (.c (.int .i64 (8)))), some (200, true)⟩,
 ⟨some 203, (.pick (.t 200) (.t 202) (.c (.bool false))), none⟩,
 ⟨some 204, (.mv (.t 203)), none⟩,
 ⟨some 205, (.mv (.t 25)), some (204, true)⟩,
 ⟨some 206, (.bin .eql (.t 205) (.c (.int .i64 (8)))), some (204, true)⟩,
 ⟨some 207, (.pick (.t 204) (.t 206) (.c (.bool false))), none⟩,
 ⟨some 208, (.mv (.t 207)), none⟩,
 ⟨some 209, (.mv (.t 27)), some (208, true)⟩,
 ⟨some 210, (.bin .eql (.t 209) (.c (.int .i64 (8)))), some (208, true)⟩,
 ⟨some 211, (.pick (.t 208) (.t 210) (.c (.bool false))), none⟩,
 ⟨some 212, (.mv (.t 211)), none⟩,
 ⟨some 213, (.mv (.t 29)), some (212, true)⟩,
 ⟨some 214, (.bin .eql (.t 213) (.c (.int .i64 (8)))), some (212, true)⟩,
 ⟨some 215, (.pick (.t 212) (.t 214) (.c (.bool false))), none⟩,
 ⟨some 216, (.mv (.t 215)), none⟩,
 ⟨some 217, (.mv (.t 31)), some (216, true)⟩,
 ⟨some 218, (.bin .eql (.t 217) (.c (.int .i64 (8)))), some (216, true)⟩,
 ⟨some 219, (.pick (.t 216) (.t 218) (.c (.bool false))), none⟩,
 ⟨some 220, (.mv (.t 219)), none⟩,
 ⟨some 221, (.mv (.t 33)), some (220, true)⟩,
 ⟨some 222, (.bin .eql (.t 221) (.c (.int .i64 (2)))), some (220, true)⟩,
 ⟨some 223, (.pick (.t 220) (.t 222) (.c (.bool false))), none⟩,
 ⟨some 224, (.mv (.t 223)), none⟩,
 ⟨some 225, (.mv (.t 35)), some (224, true)⟩,
 ⟨some 226, (.bin .eql (.t 225) (.c (.int .i64 (2)))), some (224, true)⟩,
 ⟨some 227, (.pick (.t 224) (.t 226) (.c (.bool false))), none⟩,
 ⟨some 228, (.mv (.t 227)), none⟩,
 ⟨some 229, (.mv (.t 37)), some (228, true)⟩,
 ⟨some 230, (.bin .eql (.t 229) (.c (.int .i64 (2)))), some (228, true)⟩,
 ⟨some 231, (.pick (.t 228) (.t 230) (.c (.bool false))), none⟩,
 ⟨some 38, (.mv (.t 231)), none⟩]
 [] [15, 17, 20, 23, 25, 27, 29, 31, 33, 35, 37, 190, 191, 192, 193, 194, 195, 196, 197, 198, 199, 200, 201, 202, 203, 204, 205, 206, 207, 208, 209, 210, 211, 212, 213, 214, 215, 216, 217, 218, 219, 220, 221, 222, 223, 224, 225, 226, 227, 228, 229, 230, 231])
 (.seq
 (.ops [⟨some 232, (.mv (.c (.bool true))), none⟩,
 ⟨some 233, (.mv (.t 12)), some (232, true)⟩,
 ⟨some 234, (.pick (.t 232) (.t 233) (.c (.bool false))), none⟩,
 ⟨some 235, (.mv (.t 234)), none⟩,
 ⟨some 236, (.mv (.t 38)), some (235, true)⟩,
 ⟨some 237, (.pick (.t 235) (.t 236) (.c (.bool false))), none⟩,
 ⟨some 238, (.mv (.t 237)), none⟩,
 ⟨some 239, (.call (.f 13) []), some (238, true)⟩,
 ⟨some 240, (.pick (.t 238) (.t 239) (.c (.bool false))), none⟩,
 ⟨some 0, (.mv (.t 240)), none⟩]
 [] [12, 38, 232, 233, 234, 235, 236, 237, 238, 239, 240])
 .ret))))))))))))))))))))))⟩
def loc3 : List Nat := [47, 48, 59, 67, 73, 85, 110, 114, 115, 120, 130, 131, 148, 154, 160, 166, 172, 179, 1, 2, 6, 8, 14, 16, 19, 22, 24, 26, 28, 30]
def fg3 : List (Nat × List Nat) := [(21, [12, 38, 232, 233, 234, 235, 236, 237, 238, 239, 240]), (20, [15, 17, 20, 23, 25, 27, 29, 31, 33, 35, 37, 190, 191, 192, 193, 194, 195, 196, 197, 198, 199, 200, 201, 202, 203, 204, 205, 206, 207, 208, 209, 210, 211, 212, 213, 214, 215, 216, 217, 218, 219, 220, 221, 222, 223, 224, 225, 226, 227, 228, 229, 230, 231]), (19, [13, 36, 184, 185, 186, 187, 188, 189]), (18, [34, 177, 178, 179, 180, 181, 182, 183]), (17, [32, 170, 171, 172, 173, 174, 175, 176]), (16, [30, 164, 165, 166, 167, 168, 169]), (15, [28, 158, 159, 160, 161, 162, 163]), (14, [26, 152, 153, 154, 155, 156, 157]), (13, [24, 146, 147, 148, 149, 150, 151]), (12, [21, 22, 141, 142, 143, 144, 145]), (11, [18, 19, 135, 136, 137, 138, 139, 140]), (10, [1, 16, 124, 125, 126, 127, 128, 129, 130, 131, 132, 133, 134]), (9, [14, 118, 119, 120, 121, 122, 123]), (8, [113, 114, 115, 116, 117]), (7, [4, 5, 6, 7, 8, 9, 10, 11, 78, 79, 80, 81, 82, 83, 84, 85, 86, 87, 88, 89, 90, 91, 92, 93, 94, 95, 96, 97, 98, 99, 100, 101, 102, 103, 104, 105, 106, 107, 108, 109, 110, 111, 112]), (6, [71, 72, 73, 74, 75, 76, 77]), (5, [64, 65, 66, 67, 68, 69, 70]), (4, [55, 56, 57, 58, 59, 60, 61, 62, 63]), (3, [2, 3, 52, 53, 54]), (2, [42, 43, 44, 45, 46, 47, 48, 49, 50, 51]), (1, [39, 40, 41]), (0, [0])]
theorem comp3 : compFn Try.prog loc3 (fun i => (fg3.lookup i).getD []) Try.f3 = some lit3 := by kernel_rfl

-- parcener/parcenerlaw12.two
def lit4 : AFn := ⟨0, [.tmp 0],
 (.seq
 (.ops [⟨some 0, (.mv (.c .nils)), none⟩]
 [] [0])
 (.seq
 (.ops [⟨some 1, (.buildD 1 (.int .i64 (0)) 2 [(0, (.c (.int .i64 (0)))), (1, (.c (.int .i64 (4))))]), none⟩,
 ⟨some 2, (.buildD 1 (.int .i64 (0)) 1 [(0, (.c (.int .i64 (1))))]), none⟩,
 ⟨some 3, (.build [(.int .i64 (0)), .nils, .nils] [(0, 1, (.c (.int .i64 (4)))), (1, 1, (.t 1)), (2, 1, (.t 2))]), none⟩,
 ⟨some 4, (.buildD 1 (.int .i64 (0)) 3 [(0, (.c (.int .i64 (0)))), (1, (.c (.int .i64 (1)))), (2, (.c (.int .i64 (4))))]), none⟩,
 ⟨some 5, (.buildD 1 (.int .i64 (0)) 2 [(0, (.c (.int .i64 (3)))), (1, (.c (.int .i64 (1))))]), none⟩,
 ⟨some 6, (.build [(.int .i64 (0)), .nils, .nils] [(0, 1, (.c (.int .i64 (4)))), (1, 1, (.t 4)), (2, 1, (.t 5))]), none⟩,
 ⟨some 7, (.buildSl true 3 (.agg [(.int .i64 (0)), (.data []), (.data [])]) 2 [(0, (.t 3)), (1, (.t 6))]), none⟩,
 ⟨some 0, (.mv (.t 7)), none⟩]
 [] [1, 2, 3, 4, 5, 6, 7])
 .ret))⟩
def loc4 : List Nat := [1, 2, 4, 5]
def fg4 : List (Nat × List Nat) := [(1, [1, 2, 3, 4, 5, 6, 7]), (0, [0])]
theorem comp4 : compFn Try.prog loc4 (fun i => (fg4.lookup i).getD []) Try.f4 = some lit4 := by kernel_rfl

-- parcener/equal.Divide
def lit5 : AFn := ⟨2, [.cell 4 true 1, .tmp 5],
 (.seq
 (.ops [⟨some 4, (.allocL (.agg [.nils])), none⟩,
 ⟨some 5, (.mv (.c (.int .i64 (0)))), none⟩]
 [] [5])
 (.seq
 (.seq
 (.ops [⟨some 13, (.mv (.t 0)), none⟩,
 ⟨some 14, (.mv (.t 1)), none⟩,
 ⟨some 15, (.call (.f 14) [(.t 13), (.t 14)]), none⟩,
 ⟨some 6, (.mv (.t 15)), none⟩]
 [] [13, 14, 15])
 (.seq
 (.ops [⟨some 16, (.mv (.t 6)), none⟩,
 ⟨some 17, (.bin .neq (.t 16) (.c (.int .i64 (0)))), none⟩]
 [] [16])
 (.cond (.t 17)
 (.seq
 (.ops [⟨some 18, (.build [.nils] []), none⟩,
 ⟨some 19, (.mv (.t 6)), none⟩,
 ⟨none, (.store 1 (.t 4) (.t 18)), none⟩,
 ⟨some 5, (.mv (.t 19)), none⟩]
 [] [0, 1, 6, 17, 18, 19])
 .ret)
 .skip)))
 (.seq
 (.ops [⟨some 21, (.mv (.t 0)), none⟩,
 ⟨some 22, (.mv (.t 1)), none⟩,
 ⟨some 23, (.mv (.t 0)), none⟩,
 ⟨some 24, (.mv (.t 1)), none⟩,
 ⟨some 25, (.call (.f 15) [(.t 23), (.t 24)]), none⟩,
 ⟨some 26, (.call (.f 9) [(.t 21), (.t 22), (.t 25)]), none⟩,
 ⟨some 20, (.mv (.t 26)), none⟩,
 ⟨some 27, (.ext (.t 20) 0), none⟩,
 ⟨some 28, (.ext (.t 20) 1), none⟩,
 ⟨some 7, (.mv (.t 27)), none⟩,
 ⟨some 8, (.mv (.t 28)), none⟩]
 [] [6, 17, 20, 21, 22, 23, 24, 25, 26, 27, 28])
 (.seq
 (.seq
 (.ops [⟨some 29, (.mv (.t 8)), none⟩,
 ⟨some 30, (.bin .neq (.t 29) (.c (.int .i64 (0)))), none⟩]
 [] [29])
 (.cond (.t 30)
 (.seq
 (.ops [⟨some 31, (.build [.nils] []), none⟩,
 ⟨some 32, (.mv (.t 8)), none⟩,
 ⟨none, (.store 1 (.t 4) (.t 31)), none⟩,
 ⟨some 5, (.mv (.t 32)), none⟩]
 [] [0, 1, 7, 8, 30, 31, 32])
 .ret)
 .skip))
 (.seq
 (.ops [⟨some 33, (.mv (.t 0)), none⟩,
 ⟨some 34, (.len (.t 33)), none⟩,
 ⟨some 35, (.mkSl true 1 24 (.data []) (.t 34) (.t 34)), none⟩,
 ⟨some 36, (.build [.nils] [(0, 1, (.t 35))]), none⟩,
 ⟨some 9, (.allocL (.agg [.nils])), none⟩,
 ⟨none, (.store 1 (.t 9) (.t 36)), none⟩]
 [] [0, 8, 30, 33, 34, 35, 36])
 (.seq
 (.ops [⟨some 37, (.call (.f 16) [(.c (.int .i64 (0)))]), none⟩,
 ⟨some 10, (.allocL (.agg [(.int .i64 (0)), (.int .i64 (0))])), none⟩,
 ⟨none, (.store 2 (.t 10) (.t 37)), none⟩]
 [] [37])
 (.seq
 (.seq
 (.ops [⟨some 38, (.mv (.t 1)), none⟩,
 ⟨some 39, (.len (.t 38)), none⟩,
 ⟨some 40, (.mv (.c (.int .i64 (0)))), none⟩]
 [] [1])
 (.block 0
 (.loop
 (.seq
 (.ops [⟨some 41, (.bin .lss (.t 40) (.t 39)), none⟩]
 [] [])
 (.seq
 (.cond (.t 41)
 .skip
 (.exit 0))
 (.seq
 (.block 1
 (.seq
 (.ops [⟨some 42, (.mv (.t 40)), none⟩,
 ⟨some 43, (.iad 1 (.t 38) (.t 40)), none⟩,
 ⟨some 44, (.load false 1 (.t 43)), none⟩,
 ⟨some 11, (.mv (.t 42)), none⟩,
 ⟨some 12, (.mv (.t 44)), none⟩]
 [] [41, 42, 43, 44])
 (.seq
 (.ops [⟨some 45, (.fad 0 (.t 9)), none⟩,
 ⟨some 46, (.load false 1 (.t 45)), none⟩,
 ⟨some 47, (.mv (.t 12)), none⟩,
 ⟨some 48, (.load true 2 (.t 10)), none⟩,
 ⟨some 49, (.mv (.t 7)), none⟩,
 ⟨some 50, (.mv (.t 11)), none⟩,
 ⟨some 51, (.iad 2 (.t 49) (.t 50)), none⟩,
 ⟨some 52, (.load true 2 (.t 51)), none⟩,
 ⟨some 53, (.build [(.int .i64 (0)), (.int .i64 (0)), (.int .i64 (0)), (.int .i64 (0))] [(0, 2, (.t 48)), (2, 2, (.t 52))]), none⟩,
 ⟨some 54, (.buildD 4 (.agg [(.int .i64 (0)), (.int .i64 (0)), (.int .i64 (0)), (.int .i64 (0))]) 1 [(0, (.t 53))]), none⟩,
 ⟨some 55, (.iad 1 (.t 46) (.t 47)), none⟩,
 ⟨none, (.store 1 (.t 55) (.t 54)), none⟩]
 [(0, 2), (1, 2), (0, 3), (1, 3), (2, 3), (0, 4), (1, 4), (2, 4), (3, 4), (0, 5), (1, 5), (2, 5), (3, 5), (4, 5), (0, 6), (1, 6), (2, 6), (3, 6), (0, 7), (1, 7), (2, 7), (3, 7), (0, 8), (1, 8), (2, 8), (0, 9), (1, 9), (2, 9)] [12, 45, 46, 47, 48, 49, 50, 51, 52, 53, 54, 55])
 (.ops [⟨some 56, (.mv (.t 7)), none⟩,
 ⟨some 57, (.mv (.t 11)), none⟩,
 ⟨some 58, (.iad 2 (.t 56) (.t 57)), none⟩,
 ⟨some 59, (.load true 2 (.t 58)), none⟩,
 ⟨none, (.store 2 (.t 10) (.t 59)), none⟩]
 [] [11, 56, 57, 58, 59]))))
 (.ops [⟨some 60, (.bin .add (.t 40) (.c (.int .i64 (1)))), none⟩,
 ⟨some 40, (.mv (.t 60)), none⟩]
 [] [60])))))))
 (.seq
 (.ops [⟨some 61, (.load true 1 (.t 9)), none⟩,
 ⟨none, (.store 1 (.t 4) (.t 61)), none⟩,
 ⟨some 5, (.mv (.c (.int .i64 (0)))), none⟩]
 [] [7, 9, 10, 38, 39, 40, 41, 61])
 .ret))))))))⟩
def loc5 : List Nat := [54, 4, 9, 10, 1000004, 1000009, 1000010]
def fg5 : List (Nat × List Nat) := [(15, [7, 9, 10, 38, 39, 40, 41, 61]), (14, [60]), (13, [11, 56, 57, 58, 59]), (12, [12, 45, 46, 47, 48, 49, 50, 51, 52, 53, 54, 55]), (11, [41, 42, 43, 44]), (9, [1]), (8, [37]), (7, [0, 8, 30, 33, 34, 35, 36]), (6, [0, 1, 7, 8, 30, 31, 32]), (5, [29]), (4, [6, 17, 20, 21, 22, 23, 24, 25, 26, 27, 28]), (3, [0, 1, 6, 17, 18, 19]), (2, [16]), (1, [13, 14, 15]), (0, [5])]
theorem comp5 : compFn Try.prog loc5 (fun i => (fg5.lookup i).getD []) Try.f5 = some lit5 := by kernel_rfl

-- parcener/parcenerlaw12.fourth
def lit6 : AFn := ⟨2, [.tmp 4],
 (.seq
 (.ops [⟨some 2, (.boxL (.t 0)), none⟩,
 ⟨some 4, (.mv (.c (.bool false))), none⟩]
 [] [0, 4])
 (.seq
 (.ops [⟨some 5, (.mv (.t 1)), none⟩,
 ⟨some 6, (.bin .eql (.t 5) (.c (.int .i64 (0)))), none⟩,
 ⟨some 7, (.mv (.t 6)), none⟩,
 ⟨some 8, (.load true 1 (.t 2)), some (7, true)⟩,
 ⟨some 9, (.call (.f 10) [(.c (.int .i64 (2)))]), some (7, true)⟩,
 ⟨some 10, (.call (.f 10) [(.c (.int .i64 (3)))]), some (7, true)⟩,
 ⟨some 11, (.build [(.int .i64 (0)), (.int .i64 (0)), (.int .i64 (0)), (.int .i64 (0))] [(0, 2, (.t 9)), (2, 2, (.t 10))]), some (7, true)⟩,
 ⟨some 12, (.buildD 4 (.agg [(.int .i64 (0)), (.int .i64 (0)), (.int .i64 (0)), (.int .i64 (0))]) 1 [(0, (.t 11))]), some (7, true)⟩,
 ⟨some 13, (.call (.f 10) [(.c (.int .i64 (1)))]), some (7, true)⟩,
 ⟨some 14, (.call (.f 10) [(.c (.int .i64 (2)))]), some (7, true)⟩,
 ⟨some 15, (.build [(.int .i64 (0)), (.int .i64 (0)), (.int .i64 (0)), (.int .i64 (0))] [(0, 2, (.t 13)), (2, 2, (.t 14))]), some (7, true)⟩,
 ⟨some 16, (.buildD 4 (.agg [(.int .i64 (0)), (.int .i64 (0)), (.int .i64 (0)), (.int .i64 (0))]) 1 [(0, (.t 15))]), some (7, true)⟩,
 ⟨some 17, (.call (.f 10) [(.c (.int .i64 (3)))]), some (7, true)⟩,
 ⟨some 18, (.call (.f 10) [(.c (.int .i64 (4)))]), some (7, true)⟩,
 ⟨some 19, (.build [(.int .i64 (0)), (.int .i64 (0)), (.int .i64 (0)), (.int .i64 (0))] [(0, 2, (.t 17)), (2, 2, (.t 18))]), some (7, true)⟩,
 ⟨some 20, (.buildD 4 (.agg [(.int .i64 (0)), (.int .i64 (0)), (.int .i64 (0)), (.int .i64 (0))]) 1 [(0, (.t 19))]), some (7, true)⟩,
 ⟨some 21, (.call (.f 10) [(.c (.int .i64 (0)))]), some (7, true)⟩,
 ⟨some 22, (.call (.f 10) [(.c (.int .i64 (1)))]), some (7, true)⟩,
 ⟨some 23, (.build [(.int .i64 (0)), (.int .i64 (0)), (.int .i64 (0)), (.int .i64 (0))] [(0, 2, (.t 21)), (2, 2, (.t 22))]), some (7, true)⟩,
 ⟨some 24, (.buildD 4 (.agg [(.int .i64 (0)), (.int .i64 (0)), (.int .i64 (0)), (.int .i64 (0))]) 1 [(0, (.t 23))]), some (7, true)⟩,
 ⟨some 25, (.buildD 1 (.data []) 4 [(0, (.t 12)), (1, (.t 16)), (2, (.t 20)), (3, (.t 24))]), some (7, true)⟩,
 ⟨some 26, (.build [.nils] [(0, 1, (.t 25))]), some (7, true)⟩,
 ⟨some 27, (.call (.f 17) [(.t 8), (.t 26)]), some (7, true)⟩,
 ⟨some 28, (.pick (.t 7) (.t 27) (.c (.bool false))), none⟩,
 ⟨some 4, (.mv (.t 28)), none⟩]
 [(3, 4), (3, 5), (3, 6), (3, 7), (3, 8), (6, 8), (7, 8), (3, 9), (6, 9), (7, 9), (3, 10), (6, 10), (7, 10), (3, 11), (6, 11), (7, 11), (3, 12), (6, 12), (7, 12), (10, 12), (11, 12), (3, 13), (6, 13), (7, 13), (10, 13), (11, 13), (3, 14), (6, 14), (7, 14), (10, 14), (11, 14), (3, 15), (6, 15), (7, 15), (10, 15), (11, 15), (3, 16), (6, 16), (7, 16), (10, 16), (11, 16), (14, 16), (15, 16), (3, 17), (6, 17), (7, 17), (10, 17), (11, 17), (14, 17), (15, 17), (3, 18), (6, 18), (7, 18), (10, 18), (11, 18), (14, 18), (15, 18), (3, 19), (6, 19), (7, 19), (10, 19), (11, 19), (14, 19), (15, 19), (3, 20), (3, 21)] [1, 2, 5, 6, 7, 8, 9, 10, 11, 12, 13, 14, 15, 16, 17, 18, 19, 20, 21, 22, 23, 24, 25, 26, 27, 28])
 .ret))⟩
def loc6 : List Nat := [12, 16, 20, 24, 25, 2]
def fg6 : List (Nat × List Nat) := [(1, [1, 2, 5, 6, 7, 8, 9, 10, 11, 12, 13, 14, 15, 16, 17, 18, 19, 20, 21, 22, 23, 24, 25, 26, 27, 28]), (0, [0, 4])]
theorem comp6 : compFn Try.prog loc6 (fun i => (fg6.lookup i).getD []) Try.f6 = some lit6 := by kernel_rfl

-- parcener/equal.Best
def lit7 : AFn := ⟨1, [.cell 2 false 1, .cell 3 true 2, .tmp 4],
 (.seq
 (.ops [⟨some 1, (.boxH false 1 (.t 0)), none⟩,
 ⟨some 2, (.allocH false 1 .nils), none⟩,
 ⟨some 3, (.allocH false 2 (.agg [(.int .i64 (0)), (.int .i64 (0))])), none⟩,
 ⟨some 4, (.mv (.c (.int .i64 (0)))), none⟩]
 [] [0])
 (.seq
 (.seq
 (.ops [⟨some 8, (.load false 1 (.t 1)), none⟩,
 ⟨some 9, (.call (.f 18) [(.t 8)]), none⟩,
 ⟨some 5, (.mv (.t 9)), none⟩]
 [] [8, 9])
 (.seq
 (.ops [⟨some 10, (.mv (.t 5)), none⟩,
 ⟨some 11, (.bin .neq (.t 10) (.c (.int .i64 (0)))), none⟩]
 [] [10])
 (.cond (.t 11)
 (.seq
 (.ops [⟨some 12, (.build [(.int .i64 (0)), (.int .i64 (0))] []), none⟩,
 ⟨some 13, (.mv (.t 5)), none⟩,
 ⟨none, (.store 1 (.t 2) (.c .nils)), none⟩,
 ⟨none, (.store 2 (.t 3) (.t 12)), none⟩,
 ⟨some 4, (.mv (.t 13)), none⟩]
 [] [1, 5, 11, 12, 13])
 .ret)
 .skip)))
 (.seq
 (.seq
 (.ops [⟨some 14, (.load false 1 (.t 1)), none⟩,
 ⟨some 15, (.len (.t 14)), none⟩,
 ⟨some 16, (.call (.f 19) [(.t 15)]), none⟩]
 [] [5, 11, 14, 15])
 (.block 0
 (.rangeF (.t 16) [17]
 (.ops [⟨some 6, (.mv (.t 17)), none⟩]
 [] [4, 16, 17])
 (.block 1
 (.seq
 (.ops [⟨some 18, (.load false 1 (.t 1)), none⟩,
 ⟨some 19, (.mv (.t 6)), none⟩,
 ⟨some 20, (.call (.f 15) [(.t 18), (.t 19)]), none⟩,
 ⟨some 7, (.allocH false 2 (.agg [(.int .i64 (0)), (.int .i64 (0))])), none⟩,
 ⟨none, (.store 2 (.t 7) (.t 20)), none⟩]
 [] [1, 18, 19, 20])
 (.seq
 (.ops [⟨some 21, (.load false 1 (.t 2)), none⟩,
 ⟨some 22, (.eqN false (.t 21)), none⟩,
 ⟨some 23, (.mv (.t 22)), none⟩,
 ⟨some 24, (.load true 2 (.t 3)), some (23, false)⟩,
 ⟨some 25, (.load true 2 (.t 7)), some (23, false)⟩,
 ⟨some 26, (.call (.f 20) [(.t 24), (.t 25)]), some (23, false)⟩,
 ⟨some 27, (.pick (.t 23) (.c (.bool true)) (.t 26)), none⟩]
 [] [21, 22, 23, 24, 25, 26])
 (.cond (.t 27)
 (.ops [⟨some 28, (.mv (.t 6)), none⟩,
 ⟨some 29, (.load true 2 (.t 7)), none⟩,
 ⟨none, (.store 1 (.t 2) (.t 28)), none⟩,
 ⟨none, (.store 2 (.t 3) (.t 29)), none⟩]
 [(0, 1), (1, 2)] [2, 3, 6, 7, 27, 28, 29])
 .skip)))))))
 (.seq
 (.ops [⟨some 30, (.load false 1 (.t 2)), none⟩,
 ⟨some 31, (.load true 2 (.t 3)), none⟩,
 ⟨none, (.store 1 (.t 2) (.t 30)), none⟩,
 ⟨none, (.store 2 (.t 3) (.t 31)), none⟩,
 ⟨some 4, (.mv (.c (.int .i64 (0)))), none⟩]
 [(0, 1), (1, 2)] [1, 16, 30, 31])
 .ret))))⟩
def loc7 : List Nat := [1000001, 1000002, 1000003, 1000007]
def fg7 : List (Nat × List Nat) := [(9, [1, 16, 30, 31]), (8, [2, 3, 6, 7, 27, 28, 29]), (7, [21, 22, 23, 24, 25, 26]), (6, [1, 18, 19, 20]), (5, [4, 16, 17]), (4, [5, 11, 14, 15]), (3, [1, 5, 11, 12, 13]), (2, [10]), (1, [8, 9]), (0, [0])]
theorem comp7 : compFn Try.prog loc7 (fun i => (fg7.lookup i).getD []) Try.f7 = some lit7 := by kernel_rfl

-- parcener/equal.Part
def lit8 : AFn := ⟨2, [.cell 4 true 2, .tmp 5],
 (.seq
 (.ops [⟨some 4, (.allocL (.agg [(.int .i64 (0)), (.int .i64 (0))])), none⟩,
 ⟨some 5, (.mv (.c (.int .i64 (0)))), none⟩]
 [] [5])
 (.seq
 (.seq
 (.ops [⟨some 7, (.mv (.t 0)), none⟩,
 ⟨some 8, (.mv (.t 1)), none⟩,
 ⟨some 9, (.call (.f 14) [(.t 7), (.t 8)]), none⟩,
 ⟨some 6, (.mv (.t 9)), none⟩]
 [] [7, 8, 9])
 (.seq
 (.ops [⟨some 10, (.mv (.t 6)), none⟩,
 ⟨some 11, (.bin .neq (.t 10) (.c (.int .i64 (0)))), none⟩]
 [] [10])
 (.cond (.t 11)
 (.seq
 (.ops [⟨some 12, (.build [(.int .i64 (0)), (.int .i64 (0))] []), none⟩,
 ⟨some 13, (.mv (.t 6)), none⟩,
 ⟨none, (.store 2 (.t 4) (.t 12)), none⟩,
 ⟨some 5, (.mv (.t 13)), none⟩]
 [] [0, 1, 6, 11, 12, 13])
 .ret)
 .skip)))
 (.seq
 (.ops [⟨some 14, (.mv (.t 0)), none⟩,
 ⟨some 15, (.mv (.t 1)), none⟩,
 ⟨some 16, (.call (.f 15) [(.t 14), (.t 15)]), none⟩,
 ⟨none, (.store 2 (.t 4) (.t 16)), none⟩,
 ⟨some 5, (.mv (.c (.int .i64 (0)))), none⟩]
 [] [0, 1, 6, 11, 14, 15, 16])
 .ret)))⟩
def loc8 : List Nat := [4, 1000004]
def fg8 : List (Nat × List Nat) := [(4, [0, 1, 6, 11, 14, 15, 16]), (3, [0, 1, 6, 11, 12, 13]), (2, [10]), (1, [7, 8, 9]), (0, [5])]
theorem comp8 : compFn Try.prog loc8 (fun i => (fg8.lookup i).getD []) Try.f8 = some lit8 := by kernel_rfl

-- parcener/equal.Ends
def lit9 : AFn := ⟨3, [.tmp 6, .tmp 7],
 (.seq
 (.ops [⟨some 5, (.boxL (.t 2)), none⟩,
 ⟨some 6, (.mv (.c .nils)), none⟩,
 ⟨some 7, (.mv (.c (.int .i64 (0)))), none⟩]
 [] [2, 6, 7])
 (.seq
 (.seq
 (.ops [⟨some 17, (.mv (.t 0)), none⟩,
 ⟨some 18, (.mv (.t 1)), none⟩,
 ⟨some 19, (.call (.f 14) [(.t 17), (.t 18)]), none⟩,
 ⟨some 8, (.mv (.t 19)), none⟩]
 [] [17, 18, 19])
 (.seq
 (.ops [⟨some 20, (.mv (.t 8)), none⟩,
 ⟨some 21, (.bin .neq (.t 20) (.c (.int .i64 (0)))), none⟩]
 [] [20])
 (.cond (.t 21)
 (.seq
 (.ops [⟨some 22, (.mv (.t 8)), none⟩,
 ⟨some 6, (.mv (.c .nils)), none⟩,
 ⟨some 7, (.mv (.t 22)), none⟩]
 [] [0, 1, 5, 8, 21, 22])
 .ret)
 .skip)))
 (.seq
 (.seq
 (.ops [⟨some 23, (.load true 2 (.t 5)), none⟩,
 ⟨some 24, (.call (.f 21) [(.t 23)]), none⟩,
 ⟨some 25, (.bin .neq (.t 24) (.c (.int .i64 (0)))), none⟩,
 ⟨some 26, (.mv (.t 25)), none⟩,
 ⟨some 27, (.fad 0 (.t 5)), some (26, false)⟩,
 ⟨some 28, (.load false 1 (.t 27)), some (26, false)⟩,
 ⟨some 29, (.bin .lss (.t 28) (.c (.int .i64 (0)))), some (26, false)⟩,
 ⟨some 30, (.pick (.t 26) (.c (.bool true)) (.t 29)), none⟩]
 [] [8, 21, 23, 24, 25, 26, 27, 28, 29])
 (.cond (.t 30)
 (.seq
 (.ops [⟨some 6, (.mv (.c .nils)), none⟩,
 ⟨some 7, (.mv (.c (.int .i64 (2)))), none⟩]
 [] [0, 1, 5, 30])
 .ret)
 .skip))
 (.seq
 (.ops [⟨some 31, (.call (.f 16) [(.c (.int .i64 (0)))]), none⟩,
 ⟨some 9, (.allocL (.agg [(.int .i64 (0)), (.int .i64 (0))])), none⟩,
 ⟨none, (.store 2 (.t 9) (.t 31)), none⟩]
 [] [30, 31])
 (.seq
 (.ops [⟨some 10, (.mv (.c .nils)), none⟩]
 [] [])
 (.seq
 (.seq
 (.ops [⟨some 32, (.mv (.t 1)), none⟩,
 ⟨some 33, (.len (.t 32)), none⟩,
 ⟨some 34, (.mv (.c (.int .i64 (0)))), none⟩]
 [] [1])
 (.block 0
 (.loop
 (.seq
 (.ops [⟨some 35, (.bin .lss (.t 34) (.t 33)), none⟩]
 [] [])
 (.seq
 (.cond (.t 35)
 .skip
 (.exit 0))
 (.seq
 (.block 1
 (.seq
 (.ops [⟨some 36, (.iad 1 (.t 32) (.t 34)), none⟩,
 ⟨some 37, (.load false 1 (.t 36)), none⟩,
 ⟨some 12, (.mv (.t 37)), none⟩]
 [] [35, 36, 37])
 (.seq
 (.ops [⟨some 39, (.mv (.t 0)), none⟩,
 ⟨some 40, (.mv (.t 12)), none⟩,
 ⟨some 41, (.iad 3 (.t 39) (.t 40)), none⟩,
 ⟨some 42, (.load true 3 (.t 41)), none⟩,
 ⟨some 43, (.call (.f 22) [(.t 42)]), none⟩,
 ⟨some 38, (.mv (.t 43)), none⟩,
 ⟨some 44, (.ext (.t 38) 0), none⟩,
 ⟨some 45, (.ext (.t 38) 1), none⟩,
 ⟨some 13, (.mv (.t 44)), none⟩,
 ⟨some 14, (.mv (.t 45)), none⟩]
 [] [14, 38, 39, 40, 41, 42, 43, 44, 45])
 (.seq
 (.ops [⟨some 47, (.load true 2 (.t 5)), none⟩,
 ⟨some 48, (.mv (.t 13)), none⟩,
 ⟨some 49, (.call (.f 16) [(.t 48)]), none⟩,
 ⟨some 50, (.call (.f 23) [(.t 47), (.t 49)]), none⟩,
 ⟨some 46, (.mv (.t 50)), none⟩,
 ⟨some 51, (.ext (.t 46) 0), none⟩,
 ⟨some 52, (.ext (.t 46) 1), none⟩,
 ⟨some 15, (.allocL (.agg [(.int .i64 (0)), (.int .i64 (0))])), none⟩,
 ⟨none, (.store 2 (.t 15) (.t 51)), none⟩,
 ⟨some 16, (.mv (.t 52)), none⟩]
 [(0, 1), (0, 2), (5, 6), (0, 7), (1, 7), (2, 7), (3, 7), (4, 7), (5, 7), (6, 7), (6, 8)] [13, 46, 47, 48, 49, 50, 51, 52])
 (.seq
 (.seq
 (.ops [⟨some 53, (.mv (.t 16)), none⟩,
 ⟨some 54, (.bin .eql (.t 53) (.c (.int .i64 (0)))), none⟩]
 [] [53])
 (.cond (.t 54)
 (.ops [⟨some 56, (.mv (.t 0)), none⟩,
 ⟨some 57, (.mv (.t 12)), none⟩,
 ⟨some 58, (.iad 3 (.t 56) (.t 57)), none⟩,
 ⟨some 59, (.load true 3 (.t 58)), none⟩,
 ⟨some 60, (.load true 2 (.t 9)), none⟩,
 ⟨some 61, (.load true 2 (.t 15)), none⟩,
 ⟨some 62, (.call (.f 24) [(.t 59), (.t 60), (.t 61)]), none⟩,
 ⟨some 55, (.mv (.t 62)), none⟩,
 ⟨some 63, (.ext (.t 55) 0), none⟩,
 ⟨some 64, (.ext (.t 55) 1), none⟩,
 ⟨none, (.store 2 (.t 9) (.t 63)), none⟩,
 ⟨some 16, (.mv (.t 64)), none⟩]
 [(0, 1), (0, 4), (1, 4), (2, 4), (3, 4), (0, 5), (1, 5), (2, 5), (3, 5), (4, 5), (8, 9), (9, 10)] [12, 15, 54, 55, 56, 57, 58, 59, 60, 61, 62, 63, 64])
 .skip))
 (.seq
 (.seq
 (.ops [⟨some 65, (.mv (.t 16)), none⟩,
 ⟨some 66, (.bin .neq (.t 65) (.c (.int .i64 (0)))), none⟩]
 [] [12, 15, 54, 65])
 (.cond (.t 66)
 (.seq
 (.ops [⟨some 67, (.mv (.t 16)), none⟩,
 ⟨some 6, (.mv (.c .nils)), none⟩,
 ⟨some 7, (.mv (.t 67)), none⟩]
 [] [0, 5, 9, 10, 16, 32, 33, 34, 66, 67])
 .ret)
 .skip))
 (.ops [⟨some 68, (.mv (.t 10)), none⟩,
 ⟨some 69, (.load true 2 (.t 9)), none⟩,
 ⟨some 70, (.buildD 2 (.agg [(.int .i64 (0)), (.int .i64 (0))]) 1 [(0, (.t 69))]), none⟩,
 ⟨some 71, (.app true 2 16 (.t 68) (.t 70)), none⟩,
 ⟨some 10, (.mv (.t 71)), none⟩]
 [] [16, 66, 68, 69, 70, 71])))))))
 (.ops [⟨some 72, (.bin .add (.t 34) (.c (.int .i64 (1)))), none⟩,
 ⟨some 34, (.mv (.t 72)), none⟩]
 [] [72])))))))
 (.seq
 (.ops [⟨some 73, (.mv (.t 10)), none⟩,
 ⟨some 6, (.mv (.t 73)), none⟩,
 ⟨some 7, (.mv (.c (.int .i64 (0)))), none⟩]
 [] [0, 5, 9, 10, 32, 33, 34, 35, 73])
 .ret)))))))⟩
def loc9 : List Nat := [70, 5, 9, 15, 1000005, 1000009, 1000015]
def fg9 : List (Nat × List Nat) := [(19, [0, 5, 9, 10, 32, 33, 34, 35, 73]), (18, [72]), (17, [16, 66, 68, 69, 70, 71]), (16, [0, 5, 9, 10, 16, 32, 33, 34, 66, 67]), (15, [12, 15, 54, 65]), (14, [12, 15, 54, 55, 56, 57, 58, 59, 60, 61, 62, 63, 64]), (13, [53]), (12, [13, 46, 47, 48, 49, 50, 51, 52]), (11, [14, 38, 39, 40, 41, 42, 43, 44, 45]), (10, [35, 36, 37]), (8, [1]), (6, [30, 31]), (5, [0, 1, 5, 30]), (4, [8, 21, 23, 24, 25, 26, 27, 28, 29]), (3, [0, 1, 5, 8, 21, 22]), (2, [20]), (1, [17, 18, 19]), (0, [2, 6, 7])]
theorem comp9 : compFn Try.prog loc9 (fun i => (fg9.lookup i).getD []) Try.f9 = some lit9 := by kernel_rfl

-- parcener/parcenerlaw12.of
def lit10 : AFn := ⟨1, [.cell 2 true 2],
 (.seq
 (.ops [⟨some 2, (.allocL (.agg [(.int .i64 (0)), (.int .i64 (0))])), none⟩]
 [] [])
 (.seq
 (.ops [⟨some 3, (.mv (.t 0)), none⟩,
 ⟨some 4, (.call (.f 25) [(.t 3)]), none⟩,
 ⟨none, (.store 2 (.t 2) (.t 4)), none⟩]
 [] [0, 3, 4])
 .ret))⟩
def loc10 : List Nat := [2]
def fg10 : List (Nat × List Nat) := [(1, [0, 3, 4])]
theorem comp10 : compFn Try.prog loc10 (fun i => (fg10.lookup i).getD []) Try.f10 = some lit10 := by kernel_rfl

-- parcener/parcenerref09.Same
def lit11 : AFn := ⟨2, [.tmp 4],
 (.seq
 (.ops [⟨some 4, (.mv (.c (.bool false))), none⟩]
 [] [4])
 (.seq
 (.seq
 (.ops [⟨some 6, (.mv (.t 0)), none⟩,
 ⟨some 7, (.len (.t 6)), none⟩,
 ⟨some 8, (.mv (.t 1)), none⟩,
 ⟨some 9, (.len (.t 8)), none⟩,
 ⟨some 10, (.bin .neq (.t 7) (.t 9)), none⟩]
 [] [6, 7, 8, 9])
 (.cond (.t 10)
 (.seq
 (.ops [⟨some 4, (.mv (.c (.bool false))), none⟩]
 [] [0, 1, 10])
 .ret)
 .skip))
 (.seq
 (.seq
 (.ops [⟨some 5, (.mv (.c (.int .i64 (0)))), none⟩]
 [] [10])
 (.block 0
 (.loop
 (.seq
 (.seq
 (.ops [⟨some 11, (.mv (.t 5)), none⟩,
 ⟨some 12, (.mv (.t 0)), none⟩,
 ⟨some 13, (.len (.t 12)), none⟩,
 ⟨some 14, (.bin .lss (.t 11) (.t 13)), none⟩]
 [] [11, 12, 13])
 (.cond (.t 14)
 .skip
 (.exit 0)))
 (.seq
 (.block 1
 (.seq
 (.ops [⟨some 17, (.mv (.t 0)), none⟩,
 ⟨some 18, (.mv (.t 5)), none⟩,
 ⟨some 19, (.iad 1 (.t 17) (.t 18)), none⟩,
 ⟨some 20, (.load false 1 (.t 19)), none⟩,
 ⟨some 21, (.mv (.t 1)), none⟩,
 ⟨some 22, (.mv (.t 5)), none⟩,
 ⟨some 23, (.iad 1 (.t 21) (.t 22)), none⟩,
 ⟨some 24, (.load false 1 (.t 23)), none⟩,
 ⟨some 25, (.bin .neq (.t 20) (.t 24)), none⟩]
 [(0, 1), (0, 4), (1, 4), (2, 4), (3, 4), (0, 5), (1, 5), (2, 5), (3, 5), (4, 5), (0, 6), (1, 6), (2, 6), (3, 6), (0, 7), (1, 7), (2, 7), (3, 7)] [14, 17, 18, 19, 20, 21, 22, 23, 24])
 (.cond (.t 25)
 (.seq
 (.ops [⟨some 4, (.mv (.c (.bool false))), none⟩]
 [] [0, 1, 5, 25])
 .ret)
 .skip)))
 (.ops [⟨some 15, (.mv (.t 5)), none⟩,
 ⟨some 16, (.bin .add (.t 15) (.c (.int .i64 (1)))), none⟩,
 ⟨some 5, (.mv (.t 16)), none⟩]
 [] [15, 16, 25]))))))
 (.seq
 (.ops [⟨some 4, (.mv (.c (.bool true))), none⟩]
 [] [0, 1, 5, 14])
 .ret))))⟩
def loc11 : List Nat := []
def fg11 : List (Nat × List Nat) := [(8, [0, 1, 5, 14]), (5, [15, 16, 25]), (7, [0, 1, 5, 25]), (6, [14, 17, 18, 19, 20, 21, 22, 23, 24]), (4, [11, 12, 13]), (3, [10]), (2, [0, 1, 10]), (1, [6, 7, 8, 9]), (0, [4])]
theorem comp11 : compFn Try.prog loc11 (fun i => (fg11.lookup i).getD []) Try.f11 = some lit11 := by kernel_rfl

-- parcener/parcenerref12.SameEnds
def lit12 : AFn := ⟨2, [.tmp 4],
 (.seq
 (.ops [⟨some 4, (.mv (.c (.bool false))), none⟩]
 [] [4])
 (.seq
 (.seq
 (.ops [⟨some 6, (.mv (.t 0)), none⟩,
 ⟨some 7, (.len (.t 6)), none⟩,
 ⟨some 8, (.mv (.t 1)), none⟩,
 ⟨some 9, (.len (.t 8)), none⟩,
 ⟨some 10, (.bin .neq (.t 7) (.t 9)), none⟩]
 [] [6, 7, 8, 9])
 (.cond (.t 10)
 (.seq
 (.ops [⟨some 4, (.mv (.c (.bool false))), none⟩]
 [] [0, 1, 10])
 .ret)
 .skip))
 (.seq
 (.seq
 (.ops [⟨some 5, (.mv (.c (.int .i64 (0)))), none⟩]
 [] [10])
 (.block 0
 (.loop
 (.seq
 (.seq
 (.ops [⟨some 11, (.mv (.t 5)), none⟩,
 ⟨some 12, (.mv (.t 0)), none⟩,
 ⟨some 13, (.len (.t 12)), none⟩,
 ⟨some 14, (.bin .lss (.t 11) (.t 13)), none⟩]
 [] [11, 12, 13])
 (.cond (.t 14)
 .skip
 (.exit 0)))
 (.seq
 (.block 1
 (.seq
 (.ops [⟨some 17, (.mv (.t 0)), none⟩,
 ⟨some 18, (.mv (.t 5)), none⟩,
 ⟨some 19, (.iad 2 (.t 17) (.t 18)), none⟩,
 ⟨some 20, (.load true 2 (.t 19)), none⟩,
 ⟨some 21, (.mv (.t 1)), none⟩,
 ⟨some 22, (.mv (.t 5)), none⟩,
 ⟨some 23, (.iad 2 (.t 21) (.t 22)), none⟩,
 ⟨some 24, (.load true 2 (.t 23)), none⟩,
 ⟨some 25, (.eqA true 2 [(0, (some .i64)), (1, (some .i64))] (.t 20) (.t 24)), none⟩]
 [(0, 1), (0, 4), (1, 4), (2, 4), (3, 4), (0, 5), (1, 5), (2, 5), (3, 5), (4, 5), (0, 6), (1, 6), (2, 6), (3, 6), (0, 7), (1, 7), (2, 7), (3, 7)] [14, 17, 18, 19, 20, 21, 22, 23, 24])
 (.cond (.t 25)
 (.seq
 (.ops [⟨some 4, (.mv (.c (.bool false))), none⟩]
 [] [0, 1, 5, 25])
 .ret)
 .skip)))
 (.ops [⟨some 15, (.mv (.t 5)), none⟩,
 ⟨some 16, (.bin .add (.t 15) (.c (.int .i64 (1)))), none⟩,
 ⟨some 5, (.mv (.t 16)), none⟩]
 [] [15, 16, 25]))))))
 (.seq
 (.ops [⟨some 4, (.mv (.c (.bool true))), none⟩]
 [] [0, 1, 5, 14])
 .ret))))⟩
def loc12 : List Nat := []
def fg12 : List (Nat × List Nat) := [(8, [0, 1, 5, 14]), (5, [15, 16, 25]), (7, [0, 1, 5, 25]), (6, [14, 17, 18, 19, 20, 21, 22, 23, 24]), (4, [11, 12, 13]), (3, [10]), (2, [0, 1, 10]), (1, [6, 7, 8, 9]), (0, [4])]
theorem comp12 : compFn Try.prog loc12 (fun i => (fg12.lookup i).getD []) Try.f12 = some lit12 := by kernel_rfl

-- parcener/parcenerlaw12.alive
def lit13 : AFn := ⟨0, [.tmp 0],
 (.seq
 (.ops [⟨some 0, (.mv (.c (.bool false))), none⟩]
 [] [0])
 (.seq
 (.ops [⟨some 16, (.call (.f 4) []), none⟩,
 ⟨some 17, (.buildD 1 (.int .i64 (0)) 2 [(0, (.c (.int .i64 (0)))), (1, (.c (.int .i64 (1))))]), none⟩,
 ⟨some 18, (.call (.f 8) [(.t 16), (.t 17)]), none⟩,
 ⟨some 15, (.mv (.t 18)), none⟩,
 ⟨some 19, (.ext (.t 15) 0), none⟩,
 ⟨some 20, (.ext (.t 15) 1), none⟩,
 ⟨some 1, (.allocL (.agg [(.int .i64 (0)), (.int .i64 (0))])), none⟩,
 ⟨none, (.store 2 (.t 1) (.t 19)), none⟩,
 ⟨some 2, (.mv (.t 20)), none⟩]
 [] [15, 16, 17, 18, 19, 20])
 (.seq
 (.ops [⟨some 22, (.call (.f 4) []), none⟩,
 ⟨some 23, (.buildD 1 (.int .i64 (0)) 2 [(0, (.c (.int .i64 (0)))), (1, (.c (.int .i64 (1))))]), none⟩,
 ⟨some 24, (.load true 2 (.t 1)), none⟩,
 ⟨some 25, (.call (.f 9) [(.t 22), (.t 23), (.t 24)]), none⟩,
 ⟨some 21, (.mv (.t 25)), none⟩,
 ⟨some 26, (.ext (.t 21) 0), none⟩,
 ⟨some 27, (.ext (.t 21) 1), none⟩,
 ⟨some 3, (.mv (.t 26)), none⟩,
 ⟨some 4, (.mv (.t 27)), none⟩]
 [(0, 1), (0, 2), (1, 2), (5, 6), (6, 7)] [21, 22, 23, 24, 25, 26, 27])
 (.seq
 (.ops [⟨some 29, (.call (.f 4) []), none⟩,
 ⟨some 30, (.buildD 1 (.int .i64 (0)) 2 [(0, (.c (.int .i64 (1)))), (1, (.c (.int .i64 (0))))]), none⟩,
 ⟨some 31, (.call (.f 8) [(.t 29), (.t 30)]), none⟩,
 ⟨some 28, (.mv (.t 31)), none⟩,
 ⟨some 32, (.ext (.t 28) 0), none⟩,
 ⟨some 33, (.ext (.t 28) 1), none⟩,
 ⟨some 5, (.allocL (.agg [(.int .i64 (0)), (.int .i64 (0))])), none⟩,
 ⟨none, (.store 2 (.t 5) (.t 32)), none⟩,
 ⟨some 6, (.mv (.t 33)), none⟩]
 [] [28, 29, 30, 31, 32, 33])
 (.seq
 (.ops [⟨some 35, (.call (.f 4) []), none⟩,
 ⟨some 36, (.buildD 1 (.int .i64 (0)) 2 [(0, (.c (.int .i64 (1)))), (1, (.c (.int .i64 (0))))]), none⟩,
 ⟨some 37, (.load true 2 (.t 5)), none⟩,
 ⟨some 38, (.call (.f 9) [(.t 35), (.t 36), (.t 37)]), none⟩,
 ⟨some 34, (.mv (.t 38)), none⟩,
 ⟨some 39, (.ext (.t 34) 0), none⟩,
 ⟨some 40, (.ext (.t 34) 1), none⟩,
 ⟨some 7, (.mv (.t 39)), none⟩,
 ⟨some 8, (.mv (.t 40)), none⟩]
 [(0, 1), (0, 2), (1, 2), (5, 6), (6, 7)] [34, 35, 36, 37, 38, 39, 40])
 (.seq
 (.ops [⟨some 42, (.call (.f 4) []), none⟩,
 ⟨some 43, (.call (.f 7) [(.t 42)]), none⟩,
 ⟨some 41, (.mv (.t 43)), none⟩,
 ⟨some 44, (.ext (.t 41) 0), none⟩,
 ⟨some 45, (.ext (.t 41) 1), none⟩,
 ⟨some 46, (.ext (.t 41) 2), none⟩,
 ⟨some 10, (.allocL (.agg [(.int .i64 (0)), (.int .i64 (0))])), none⟩,
 ⟨some 9, (.mv (.t 44)), none⟩,
 ⟨none, (.store 2 (.t 10) (.t 45)), none⟩,
 ⟨some 11, (.mv (.t 46)), none⟩]
 [] [41, 42, 43, 44, 45, 46])
 (.seq
 (.ops [⟨some 48, (.call (.f 4) []), none⟩,
 ⟨some 49, (.buildD 1 (.int .i64 (0)) 2 [(0, (.c (.int .i64 (0)))), (1, (.c (.int .i64 (1))))]), none⟩,
 ⟨some 50, (.build [(.int .i64 (0)), (.int .i64 (0))] [(0, 1, (.c (.int .i64 (1)))), (1, 1, (.c (.int .i64 (2))))]), none⟩,
 ⟨some 51, (.call (.f 9) [(.t 48), (.t 49), (.t 50)]), none⟩,
 ⟨some 47, (.mv (.t 51)), none⟩,
 ⟨some 52, (.ext (.t 47) 0), none⟩,
 ⟨some 53, (.ext (.t 47) 1), none⟩,
 ⟨some 12, (.mv (.t 52)), none⟩,
 ⟨some 13, (.mv (.t 53)), none⟩]
 [] [12, 47, 48, 49, 50, 51, 52, 53])
 (.seq
 (.ops [⟨some 54, (.build [(.int .i64 (0)), (.int .i64 (0))] [(0, 1, (.c (.int .i64 (8)))), (1, 1, (.c (.int .i64 (5))))]), none⟩,
 ⟨some 55, (.call (.f 10) [(.c (.int .i64 (4)))]), none⟩,
 ⟨some 56, (.buildSl true 2 (.agg [(.int .i64 (0)), (.int .i64 (0))]) 2 [(0, (.t 54)), (1, (.t 55))]), none⟩,
 ⟨some 14, (.mv (.t 56)), none⟩]
 [] [54, 55, 56])
 (.seq
 (.ops [⟨some 57, (.mv (.t 2)), none⟩,
 ⟨some 58, (.bin .eql (.t 57) (.c (.int .i64 (0)))), none⟩,
 ⟨some 59, (.mv (.t 58)), none⟩,
 ⟨some 60, (.load true 2 (.t 1)), some (59, true)⟩,
 ⟨some 61, (.build [(.int .i64 (0)), (.int .i64 (0))] [(0, 1, (.c (.int .i64 (2)))), (1, 1, (.c (.int .i64 (5))))]), some (59, true)⟩,
 ⟨some 62, (.eqA false 2 [(0, (some .i64)), (1, (some .i64))] (.t 60) (.t 61)), some (59, true)⟩,
 ⟨some 63, (.pick (.t 59) (.t 62) (.c (.bool false))), none⟩,
 ⟨some 64, (.mv (.t 63)), none⟩,
 ⟨some 65, (.mv (.t 4)), some (64, true)⟩,
 ⟨some 66, (.bin .eql (.t 65) (.c (.int .i64 (0)))), some (64, true)⟩,
 ⟨some 67, (.pick (.t 64) (.t 66) (.c (.bool false))), none⟩,
 ⟨some 68, (.mv (.t 67)), none⟩,
 ⟨some 69, (.mv (.t 3)), some (68, true)⟩,
 ⟨some 70, (.mv (.t 14)), some (68, true)⟩,
 ⟨some 71, (.call (.f 12) [(.t 69), (.t 70)]), some (68, true)⟩,
 ⟨some 72, (.pick (.t 68) (.t 71) (.c (.bool false))), none⟩,
 ⟨some 73, (.mv (.t 72)), none⟩,
 ⟨some 74, (.mv (.t 6)), some (73, true)⟩,
 ⟨some 75, (.bin .eql (.t 74) (.c (.int .i64 (0)))), some (73, true)⟩,
 ⟨some 76, (.pick (.t 73) (.t 75) (.c (.bool false))), none⟩,
 ⟨some 77, (.mv (.t 76)), none⟩,
 ⟨some 78, (.load true 2 (.t 5)), some (77, true)⟩,
 ⟨some 79, (.build [(.int .i64 (0)), (.int .i64 (0))] [(0, 1, (.c (.int .i64 (3)))), (1, 1, (.c (.int .i64 (5))))]), some (77, true)⟩,
 ⟨some 80, (.eqA false 2 [(0, (some .i64)), (1, (some .i64))] (.t 78) (.t 79)), some (77, true)⟩,
 ⟨some 81, (.pick (.t 77) (.t 80) (.c (.bool false))), none⟩,
 ⟨some 82, (.mv (.t 81)), none⟩,
 ⟨some 83, (.mv (.t 8)), some (82, true)⟩,
 ⟨some 84, (.bin .eql (.t 83) (.c (.int .i64 (0)))), some (82, true)⟩,
 ⟨some 85, (.pick (.t 82) (.t 84) (.c (.bool false))), none⟩,
 ⟨some 86, (.mv (.t 85)), none⟩,
 ⟨some 87, (.mv (.t 7)), some (86, true)⟩,
 ⟨some 88, (.mv (.t 14)), some (86, true)⟩,
 ⟨some 89, (.call (.f 12) [(.t 87), (.t 88)]), some (86, true)⟩,
 ⟨some 90, (.pick (.t 86) (.t 89) (.c (.bool false))), none⟩,
 ⟨some 91, (.mv (.t 90)), none⟩,
 ⟨some 92, (.mv (.t 11)), some (91, true)⟩,
 ⟨some 93, (.bin .eql (.t 92) (.c (.int .i64 (0)))), some (91, true)⟩,
 ⟨some 94, (.pick (.t 91) (.t 93) (.c (.bool false))), none⟩,
 ⟨some 95, (.mv (.t 94)), none⟩,
 ⟨some 96, (.load true 2 (.t 10)), some (95, true)⟩,
 ⟨some 97, (.load true 2 (.t 5)), some (95, true)⟩,
 ⟨some 98, (.eqA false 2 [(0, (some .i64)), (1, (some .i64))] (.t 96) (.t 97)), some (95, true)⟩,
 ⟨some 99, (.pick (.t 95) (.t 98) (.c (.bool false))), none⟩,
 ⟨some 100, (.mv (.t 99)), none⟩,
 ⟨some 101, (.mv (.t 9)), some (100, true)⟩,
 ⟨some 102, (.buildD 1 (.int .i64 (0)) 2 [(0, (.c (.int .i64 (1)))), (1, (.c (.int .i64 (0))))]), some (100, true)⟩,
 ⟨some 103, (.call (.f 11) [(.t 101), (.t 102)]), some (100, true)⟩,
 ⟨some 104, (.pick (.t 100) (.t 103) (.c (.bool false))), none⟩,
 ⟨some 105, (.mv (.t 104)), none⟩,
 ⟨some 106, (.mv (.t 13)), some (105, true)⟩,
 ⟨some 107, (.bin .eql (.t 106) (.c (.int .i64 (6)))), some (105, true)⟩,
 ⟨some 108, (.pick (.t 105) (.t 107) (.c (.bool false))), none⟩,
 ⟨some 0, (.mv (.t 108)), none⟩]
 [] [1, 2, 3, 4, 5, 6, 7, 8, 9, 10, 11, 13, 14, 57, 58, 59, 60, 61, 62, 63, 64, 65, 66, 67, 68, 69, 70, 71, 72, 73, 74, 75, 76, 77, 78, 79, 80, 81, 82, 83, 84, 85, 86, 87, 88, 89, 90, 91, 92, 93, 94, 95, 96, 97, 98, 99, 100, 101, 102, 103, 104, 105, 106, 107, 108])
 .ret)))))))))⟩
def loc13 : List Nat := [17, 23, 30, 36, 49, 102, 1, 5, 10]
def fg13 : List (Nat × List Nat) := [(8, [1, 2, 3, 4, 5, 6, 7, 8, 9, 10, 11, 13, 14, 57, 58, 59, 60, 61, 62, 63, 64, 65, 66, 67, 68, 69, 70, 71, 72, 73, 74, 75, 76, 77, 78, 79, 80, 81, 82, 83, 84, 85, 86, 87, 88, 89, 90, 91, 92, 93, 94, 95, 96, 97, 98, 99, 100, 101, 102, 103, 104, 105, 106, 107, 108]), (7, [54, 55, 56]), (6, [12, 47, 48, 49, 50, 51, 52, 53]), (5, [41, 42, 43, 44, 45, 46]), (4, [34, 35, 36, 37, 38, 39, 40]), (3, [28, 29, 30, 31, 32, 33]), (2, [21, 22, 23, 24, 25, 26, 27]), (1, [15, 16, 17, 18, 19, 20]), (0, [0])]
theorem comp13 : compFn Try.prog loc13 (fun i => (fg13.lookup i).getD []) Try.f13 = some lit13 := by kernel_rfl

-- parcener/equal.ordered
def lit14 : AFn := ⟨2, [.tmp 4],
 (.seq
 (.ops [⟨some 4, (.mv (.c (.int .i64 (0)))), none⟩]
 [] [4])
 (.seq
 (.seq
 (.ops [⟨some 9, (.mv (.t 0)), none⟩,
 ⟨some 10, (.call (.f 18) [(.t 9)]), none⟩,
 ⟨some 5, (.mv (.t 10)), none⟩]
 [] [9, 10])
 (.seq
 (.ops [⟨some 11, (.mv (.t 5)), none⟩,
 ⟨some 12, (.bin .neq (.t 11) (.c (.int .i64 (0)))), none⟩]
 [] [11])
 (.cond (.t 12)
 (.seq
 (.ops [⟨some 13, (.mv (.t 5)), none⟩,
 ⟨some 4, (.mv (.t 13)), none⟩]
 [] [0, 1, 5, 12, 13])
 .ret)
 .skip)))
 (.seq
 (.ops [⟨some 14, (.mv (.t 1)), none⟩,
 ⟨some 15, (.call (.f 27) [(.t 14)]), none⟩,
 ⟨some 16, (.call (.f 26) [(.t 15)]), none⟩,
 ⟨some 6, (.mv (.t 16)), none⟩]
 [] [5, 12, 14, 15, 16])
 (.seq
 (.seq
 (.ops [⟨some 17, (.mv (.t 6)), none⟩,
 ⟨some 18, (.len (.t 17)), none⟩,
 ⟨some 19, (.mv (.c (.int .i64 (0)))), none⟩]
 [] [6])
 (.block 0
 (.loop
 (.seq
 (.ops [⟨some 20, (.bin .lss (.t 19) (.t 18)), none⟩]
 [] [])
 (.seq
 (.cond (.t 20)
 .skip
 (.exit 0))
 (.seq
 (.block 1
 (.seq
 (.ops [⟨some 21, (.mv (.t 19)), none⟩,
 ⟨some 22, (.iad 1 (.t 17) (.t 19)), none⟩,
 ⟨some 23, (.load false 1 (.t 22)), none⟩,
 ⟨some 7, (.mv (.t 21)), none⟩,
 ⟨some 8, (.mv (.t 23)), none⟩]
 [] [20, 21, 22, 23])
 (.seq
 (.ops [⟨some 24, (.mv (.t 8)), none⟩,
 ⟨some 25, (.mv (.t 7)), none⟩,
 ⟨some 26, (.bin .neq (.t 24) (.t 25)), none⟩]
 [] [7, 8, 24, 25])
 (.cond (.t 26)
 (.seq
 (.ops [⟨some 4, (.mv (.c (.int .i64 (8)))), none⟩]
 [] [0, 1, 17, 18, 19, 26])
 .ret)
 .skip))))
 (.ops [⟨some 27, (.bin .add (.t 19) (.c (.int .i64 (1)))), none⟩,
 ⟨some 19, (.mv (.t 27)), none⟩]
 [] [26, 27])))))))
 (.seq
 (.seq
 (.ops [⟨some 28, (.mv (.t 1)), none⟩,
 ⟨some 29, (.len (.t 28)), none⟩,
 ⟨some 30, (.mv (.t 0)), none⟩,
 ⟨some 31, (.len (.t 30)), none⟩,
 ⟨some 32, (.bin .neq (.t 29) (.t 31)), none⟩]
 [] [0, 1, 17, 18, 19, 20, 28, 29, 30, 31])
 (.cond (.t 32)
 (.seq
 (.ops [⟨some 4, (.mv (.c (.int .i64 (8)))), none⟩]
 [] [32])
 .ret)
 .skip))
 (.seq
 (.ops [⟨some 4, (.mv (.c (.int .i64 (0)))), none⟩]
 [] [32])
 .ret))))))⟩
def loc14 : List Nat := []
def fg14 : List (Nat × List Nat) := [(13, [32]), (12, [32]), (11, [0, 1, 17, 18, 19, 20, 28, 29, 30, 31]), (10, [26, 27]), (9, [0, 1, 17, 18, 19, 26]), (8, [7, 8, 24, 25]), (7, [20, 21, 22, 23]), (5, [6]), (4, [5, 12, 14, 15, 16]), (3, [0, 1, 5, 12, 13]), (2, [11]), (1, [9, 10]), (0, [4])]
theorem comp14 : compFn Try.prog loc14 (fun i => (fg14.lookup i).getD []) Try.f14 = some lit14 := by kernel_rfl

-- parcener/equal.part
def lit15 : AFn := ⟨2, [.cell 4 true 2],
 (.seq
 (.ops [⟨some 4, (.allocL (.agg [(.int .i64 (0)), (.int .i64 (0))])), none⟩]
 [] [])
 (.seq
 (.ops [⟨some 5, (.allocH false 1 .nils), none⟩]
 [] [])
 (.seq
 (.seq
 (.ops [⟨some 22, (.mv (.t 1)), none⟩,
 ⟨some 23, (.len (.t 22)), none⟩,
 ⟨some 24, (.mv (.c (.int .i64 (0)))), none⟩]
 [] [1])
 (.block 0
 (.loop
 (.seq
 (.ops [⟨some 25, (.bin .lss (.t 24) (.t 23)), none⟩]
 [] [])
 (.seq
 (.cond (.t 25)
 .skip
 (.exit 0))
 (.seq
 (.block 1
 (.seq
 (.ops [⟨some 26, (.iad 1 (.t 22) (.t 24)), none⟩,
 ⟨some 27, (.load false 1 (.t 26)), none⟩,
 ⟨some 7, (.mv (.t 27)), none⟩]
 [] [25, 26, 27])
 (.seq
 (.ops [⟨some 28, (.mv (.t 0)), none⟩,
 ⟨some 29, (.mv (.t 7)), none⟩,
 ⟨some 30, (.iad 3 (.t 28) (.t 29)), none⟩,
 ⟨some 31, (.load true 3 (.t 30)), none⟩,
 ⟨some 32, (.buildSl true 1 (.int .i64 (0)) 1 [(0, (.c (.int .i64 (0))))]), none⟩,
 ⟨some 33, (.build [(.int .i64 (0)), .nils, .nils, .nils, (.int .i64 (0)), (.int .i64 (0)), (.int .i64 (0))] [(0, 3, (.t 31)), (3, 1, (.t 32))]), none⟩,
 ⟨some 34, (.boxH false 7 (.t 33)), none⟩,
 ⟨some 8, (.mv (.t 34)), none⟩]
 [] [7, 28, 29, 30, 31, 32, 33, 34])
 (.seq
 (.seq
 (.ops [⟨some 35, (.mv (.t 8)), none⟩,
 ⟨some 36, (.nilchk (.t 35)), none⟩,
 ⟨some 37, (.fad 0 (.t 36)), none⟩,
 ⟨some 38, (.fad 2 (.t 37)), none⟩,
 ⟨some 39, (.load false 1 (.t 38)), none⟩,
 ⟨some 40, (.len (.t 39)), none⟩,
 ⟨some 41, (.mv (.c (.int .i64 (0)))), none⟩]
 [] [35, 36, 37, 38])
 (.block 2
 (.loop
 (.seq
 (.ops [⟨some 42, (.bin .lss (.t 41) (.t 40)), none⟩]
 [] [])
 (.seq
 (.cond (.t 42)
 .skip
 (.exit 2))
 (.seq
 (.block 3
 (.seq
 (.ops [⟨some 43, (.mv (.t 41)), none⟩,
 ⟨some 44, (.iad 1 (.t 39) (.t 41)), none⟩,
 ⟨some 45, (.load false 1 (.t 44)), none⟩,
 ⟨some 9, (.mv (.t 43)), none⟩,
 ⟨some 10, (.mv (.t 45)), none⟩]
 [] [42, 43, 44, 45])
 (.seq
 (.ops [⟨some 46, (.mv (.t 8)), none⟩,
 ⟨some 47, (.nilchk (.t 46)), none⟩,
 ⟨some 48, (.fad 4 (.t 47)), none⟩,
 ⟨some 49, (.load false 1 (.t 48)), none⟩,
 ⟨some 50, (.mv (.t 10)), none⟩,
 ⟨some 51, (.mv (.t 8)), none⟩,
 ⟨some 52, (.nilchk (.t 51)), none⟩,
 ⟨some 53, (.fad 0 (.t 52)), none⟩,
 ⟨some 54, (.fad 1 (.t 53)), none⟩,
 ⟨some 55, (.load false 1 (.t 54)), none⟩,
 ⟨some 56, (.mv (.t 9)), none⟩,
 ⟨some 57, (.bin .add (.t 56) (.c (.int .i64 (1)))), none⟩,
 ⟨some 58, (.iad 1 (.t 55) (.t 57)), none⟩,
 ⟨some 59, (.load false 1 (.t 58)), none⟩,
 ⟨some 60, (.mv (.t 8)), none⟩,
 ⟨some 61, (.nilchk (.t 60)), none⟩,
 ⟨some 62, (.fad 0 (.t 61)), none⟩,
 ⟨some 63, (.fad 1 (.t 62)), none⟩,
 ⟨some 64, (.load false 1 (.t 63)), none⟩,
 ⟨some 65, (.mv (.t 9)), none⟩,
 ⟨some 66, (.iad 1 (.t 64) (.t 65)), none⟩,
 ⟨some 67, (.load false 1 (.t 66)), none⟩,
 ⟨some 68, (.bin .sub (.t 59) (.t 67)), none⟩,
 ⟨some 69, (.bin .mul (.t 50) (.t 68)), none⟩,
 ⟨some 70, (.bin .add (.t 49) (.t 69)), none⟩,
 ⟨some 71, (.nilchk (.t 46)), none⟩,
 ⟨some 72, (.fad 4 (.t 71)), none⟩,
 ⟨none, (.store 1 (.t 72) (.t 70)), none⟩]
 [(0, 4), (1, 4), (2, 4), (3, 4), (0, 5), (1, 5), (2, 5), (3, 5), (4, 5), (0, 6), (1, 6), (2, 6), (3, 6), (4, 6), (0, 7), (1, 7), (2, 7), (3, 7), (4, 7), (0, 8), (1, 8), (2, 8), (3, 8), (4, 8), (0, 9), (1, 9), (2, 9), (3, 9), (4, 9), (0, 10), (1, 10), (2, 10), (3, 10), (4, 10), (5, 10), (6, 10), (7, 10), (8, 10), (9, 10), (0, 11), (1, 11), (2, 11), (3, 11), (4, 11), (5, 11), (6, 11), (7, 11), (8, 11), (9, 11), (0, 12), (1, 12), (2, 12), (3, 12), (4, 12), (0, 13), (1, 13), (2, 13), (3, 13), (4, 13), (0, 14), (1, 14), (2, 14), (3, 14), (4, 14), (5, 14), (6, 14), (7, 14), (8, 14), (9, 14), (10, 14), (11, 14), (12, 14), (13, 14), (0, 15), (1, 15), (2, 15), (3, 15), (4, 15), (5, 15), (6, 15), (7, 15), (8, 15), (9, 15), (10, 15), (11, 15), (12, 15), (13, 15), (0, 16), (1, 16), (2, 16), (3, 16), (4, 16), (5, 16), (6, 16), (7, 16), (8, 16), (9, 16), (10, 16), (11, 16), (12, 16), (13, 16), (0, 17), (1, 17), (2, 17), (3, 17), (4, 17), (5, 17), (6, 17), (7, 17), (8, 17), (9, 17), (10, 17), (11, 17), (12, 17), (13, 17), (0, 18), (1, 18), (2, 18), (3, 18), (4, 18), (5, 18), (6, 18), (7, 18), (8, 18), (9, 18), (10, 18), (11, 18), (12, 18), (13, 18), (0, 19), (1, 19), (2, 19), (3, 19), (4, 19), (5, 19), (6, 19), (7, 19), (8, 19), (9, 19), (10, 19), (11, 19), (12, 19), (13, 19), (14, 19), (15, 19), (16, 19), (17, 19), (18, 19), (0, 20), (1, 20), (2, 20), (3, 20), (4, 20), (5, 20), (6, 20), (7, 20), (8, 20), (9, 20), (10, 20), (11, 20), (12, 20), (13, 20), (0, 21), (1, 21), (2, 21), (3, 21), (4, 21), (5, 21), (6, 21), (7, 21), (8, 21), (9, 21), (10, 21), (11, 21), (12, 21), (13, 21), (0, 22), (1, 22), (2, 22), (3, 22), (4, 22), (0, 23), (1, 23), (2, 23), (3, 23)] [9, 10, 46, 47, 48, 49, 50, 51, 52, 53, 54, 55, 56, 57, 58, 59, 60, 61, 62, 63, 64, 65, 66, 67, 68, 69, 70, 71, 72])
 (.ops [⟨some 73, (.mv (.t 8)), none⟩,
 ⟨some 74, (.mv (.t 8)), none⟩,
 ⟨some 75, (.nilchk (.t 74)), none⟩,
 ⟨some 76, (.fad 3 (.t 75)), none⟩,
 ⟨some 77, (.load false 1 (.t 76)), none⟩,
 ⟨some 78, (.mv (.t 8)), none⟩,
 ⟨some 79, (.nilchk (.t 78)), none⟩,
 ⟨some 80, (.fad 4 (.t 79)), none⟩,
 ⟨some 81, (.load false 1 (.t 80)), none⟩,
 ⟨some 82, (.buildSl true 1 (.int .i64 (0)) 1 [(0, (.t 81))]), none⟩,
 ⟨some 83, (.app true 1 8 (.t 77) (.t 82)), none⟩,
 ⟨some 84, (.nilchk (.t 73)), none⟩,
 ⟨some 85, (.fad 3 (.t 84)), none⟩,
 ⟨none, (.store 1 (.t 85) (.t 83)), none⟩]
 [(0, 1), (0, 2), (0, 3), (0, 4), (0, 5), (1, 5), (2, 5), (3, 5), (4, 5), (0, 6), (1, 6), (2, 6), (3, 6), (4, 6), (0, 7), (1, 7), (2, 7), (3, 7), (4, 7), (0, 8), (1, 8), (2, 8), (3, 8), (4, 8), (0, 9), (1, 9), (2, 9), (3, 9), (4, 9), (0, 10)] [73, 74, 75, 76, 77, 78, 79, 80, 81, 82, 83, 84, 85]))))
 (.ops [⟨some 86, (.bin .add (.t 41) (.c (.int .i64 (1)))), none⟩,
 ⟨some 41, (.mv (.t 86)), none⟩]
 [] [86])))))))
 (.ops [⟨some 87, (.load false 1 (.t 5)), none⟩,
 ⟨some 88, (.mv (.t 8)), none⟩,
 ⟨some 89, (.buildSl false 1 .nilp 1 [(0, (.t 88))]), none⟩,
 ⟨some 90, (.app false 1 8 (.t 87) (.t 89)), none⟩,
 ⟨none, (.store 1 (.t 5) (.t 90)), none⟩]
 [] [8, 39, 40, 41, 42, 87, 88, 89, 90])))))
 (.ops [⟨some 91, (.bin .add (.t 24) (.c (.int .i64 (1)))), none⟩,
 ⟨some 24, (.mv (.t 91)), none⟩]
 [] [91])))))))
 (.seq
 (.ops [⟨some 92, (.load false 1 (.t 5)), none⟩,
 ⟨some 93, (.len (.t 92)), none⟩,
 ⟨some 94, (.bin .sub (.t 93) (.c (.int .i64 (1)))), none⟩,
 ⟨some 11, (.allocH false 1 (.int .i64 (0))), none⟩,
 ⟨none, (.store 1 (.t 11) (.t 94)), none⟩]
 [] [22, 23, 24, 25, 92, 93, 94])
 (.seq
 .skip
 (.block 4
 (.loop
 (.block 5
 (.seq
 (.ops [⟨some 95, (.call (.f 16) [(.c (.int .i64 (0)))]), none⟩,
 ⟨some 96, (.call (.f 16) [(.c (.int .i64 (0)))]), none⟩,
 ⟨some 97, (.build [(.int .i64 (0)), (.int .i64 (0)), (.int .i64 (0)), (.int .i64 (0))] [(0, 2, (.t 95)), (2, 2, (.t 96))]), none⟩,
 ⟨some 12, (.allocL (.agg [(.int .i64 (0)), (.int .i64 (0)), (.int .i64 (0)), (.int .i64 (0))])), none⟩,
 ⟨none, (.store 4 (.t 12) (.t 97)), none⟩]
 [] [95, 96, 97, 136, 137, 138, 139])
 (.seq
 (.ops [⟨some 98, (.load false 1 (.t 5)), none⟩,
 ⟨some 99, (.len (.t 98)), none⟩,
 ⟨some 100, (.mkSl true 4 32 (.agg [(.int .i64 (0)), (.int .i64 (0)), (.int .i64 (0)), (.int .i64 (0))]) (.c (.int .i64 (0))) (.t 99)), none⟩,
 ⟨some 13, (.allocH false 1 .nils), none⟩,
 ⟨none, (.store 1 (.t 13) (.t 100)), none⟩]
 [] [98, 99, 100])
 (.seq
 (.seq
 (.ops [⟨some 101, (.load false 1 (.t 5)), none⟩,
 ⟨some 102, (.len (.t 101)), none⟩,
 ⟨some 103, (.mv (.c (.int .i64 (0)))), none⟩]
 [] [])
 (.block 6
 (.loop
 (.seq
 (.ops [⟨some 104, (.bin .lss (.t 103) (.t 102)), none⟩]
 [] [])
 (.seq
 (.cond (.t 104)
 .skip
 (.exit 6))
 (.seq
 (.block 7
 (.seq
 (.ops [⟨some 105, (.iad 1 (.t 101) (.t 103)), none⟩,
 ⟨some 106, (.load false 1 (.t 105)), none⟩,
 ⟨some 15, (.mv (.t 106)), none⟩]
 [] [104, 105, 106])
 (.seq
 (.ops [⟨some 107, (.mv (.t 15)), none⟩,
 ⟨some 108, (.load true 4 (.t 12)), none⟩,
 ⟨some 109, (.call (.f 28) [(.t 107), (.t 108)]), none⟩,
 ⟨none, (.store 4 (.t 12) (.t 109)), none⟩]
 [] [15, 107, 108, 109])
 (.ops [⟨some 110, (.load false 1 (.t 13)), none⟩,
 ⟨some 111, (.load true 4 (.t 12)), none⟩,
 ⟨some 112, (.buildSl true 4 (.agg [(.int .i64 (0)), (.int .i64 (0)), (.int .i64 (0)), (.int .i64 (0))]) 1 [(0, (.t 111))]), none⟩,
 ⟨some 113, (.app true 4 32 (.t 110) (.t 112)), none⟩,
 ⟨none, (.store 1 (.t 13) (.t 113)), none⟩]
 [] [110, 111, 112, 113]))))
 (.ops [⟨some 114, (.bin .add (.t 103) (.c (.int .i64 (1)))), none⟩,
 ⟨some 103, (.mv (.t 114)), none⟩]
 [] [114])))))))
 (.seq
 (.ops [⟨some 115, (.load false 1 (.t 13)), none⟩,
 ⟨some 116, (.load false 1 (.t 11)), none⟩,
 ⟨some 117, (.iad 4 (.t 115) (.t 116)), none⟩,
 ⟨some 118, (.load true 4 (.t 117)), none⟩,
 ⟨some 119, (.mv (.t 0)), none⟩,
 ⟨some 120, (.iad 3 (.t 119) (.c (.int .i64 (0)))), none⟩,
 ⟨some 121, (.fad 0 (.t 120)), none⟩,
 ⟨some 122, (.load false 1 (.t 121)), none⟩,
 ⟨some 123, (.call (.f 29) [(.t 118), (.t 122)]), none⟩,
 ⟨some 16, (.allocL (.agg [(.int .i64 (0)), (.int .i64 (0))])), none⟩,
 ⟨none, (.store 2 (.t 16) (.t 123)), none⟩]
 [(0, 1), (0, 4), (1, 4), (2, 4), (3, 4), (0, 5), (1, 5), (2, 5), (3, 5), (0, 6), (1, 6), (2, 6), (3, 6), (0, 7), (1, 7), (2, 7), (3, 7), (0, 9), (1, 9), (2, 9), (3, 9), (4, 9), (5, 9), (6, 9), (7, 9), (8, 9)] [12, 101, 102, 103, 104, 115, 116, 117, 118, 119, 120, 121, 122, 123])
 (.seq
 (.ops [⟨some 124, (.load true 2 (.t 16)), none⟩,
 ⟨some 17, (.allocH false 2 (.agg [(.int .i64 (0)), (.int .i64 (0))])), none⟩,
 ⟨none, (.store 2 (.t 17) (.t 124)), none⟩]
 [] [124])
 (.seq
 (.ops [⟨some 125, (.mkFn (.func 30) [] [(.t 5), (.t 13), (.t 11)]), none⟩,
 ⟨some 18, (.mv (.t 125)), none⟩]
 [] [13, 125])
 (.seq
 (.ops [⟨some 126, (.mv (.t 18)), none⟩,
 ⟨some 127, (.mkFn (.func 31) [] [(.t 17)]), none⟩,
 ⟨some 128, (.call (.t 126) [(.t 127)]), none⟩]
 [] [126, 127, 128])
 (.seq
 (.seq
 (.ops [⟨some 129, (.load true 2 (.t 17)), none⟩,
 ⟨some 130, (.load true 2 (.t 16)), none⟩,
 ⟨some 131, (.eqA false 2 [(0, (some .i64)), (1, (some .i64))] (.t 129) (.t 130)), none⟩]
 [] [16, 129, 130])
 (.cond (.t 131)
 (.seq
 (.ops [⟨some 132, (.load true 2 (.t 17)), none⟩,
 ⟨none, (.store 2 (.t 4) (.t 132)), none⟩]
 [] [0, 5, 11, 17, 18, 131, 132])
 .ret)
 .skip))
 (.seq
 (.ops [⟨some 19, (.allocH false 1 .nils), none⟩]
 [] [131])
 (.seq
 (.ops [⟨some 133, (.mv (.t 18)), none⟩,
 ⟨some 134, (.mkFn (.func 32) [] [(.t 17), (.t 19)]), none⟩,
 ⟨some 135, (.call (.t 133) [(.t 134)]), none⟩]
 [] [17, 18, 133, 134, 135])
 (.seq
 (.seq
 (.ops [⟨some 136, (.load false 1 (.t 19)), none⟩,
 ⟨some 137, (.len (.t 136)), none⟩,
 ⟨some 138, (.mv (.c (.int .i64 (0)))), none⟩]
 [] [19])
 (.block 8
 (.loop
 (.seq
 (.ops [⟨some 139, (.bin .lss (.t 138) (.t 137)), none⟩]
 [] [])
 (.seq
 (.cond (.t 139)
 .skip
 (.exit 8))
 (.seq
 (.block 9
 (.seq
 (.ops [⟨some 140, (.iad 1 (.t 136) (.t 138)), none⟩,
 ⟨some 141, (.load false 1 (.t 140)), none⟩,
 ⟨some 21, (.mv (.t 141)), none⟩]
 [] [139, 140, 141])
 (.ops [⟨some 142, (.mv (.t 21)), none⟩,
 ⟨some 143, (.nilchk (.t 142)), none⟩,
 ⟨some 144, (.load false 1 (.t 143)), none⟩,
 ⟨some 145, (.bin .add (.t 144) (.c (.int .i64 (1)))), none⟩,
 ⟨some 146, (.nilchk (.t 142)), none⟩,
 ⟨none, (.store 1 (.t 146) (.t 145)), none⟩]
 [] [21, 142, 143, 144, 145, 146])))
 (.ops [⟨some 147, (.bin .add (.t 138) (.c (.int .i64 (1)))), none⟩,
 ⟨some 138, (.mv (.t 147)), none⟩]
 [] [147])))))))
 (.exit 5))))))))))))))))))))⟩
def loc15 : List Nat := [4, 12, 16, 1000004, 1000005, 1000034, 1000011, 1000012, 1000013, 1000016, 1000017, 1000019]
def fg15 : List (Nat × List Nat) := [(35, [147]), (34, [21, 142, 143, 144, 145, 146]), (33, [139, 140, 141]), (31, [19]), (30, [17, 18, 133, 134, 135]), (29, [131]), (28, [0, 5, 11, 17, 18, 131, 132]), (27, [16, 129, 130]), (26, [126, 127, 128]), (25, [13, 125]), (24, [124]), (23, [12, 101, 102, 103, 104, 115, 116, 117, 118, 119, 120, 121, 122, 123]), (22, [114]), (21, [110, 111, 112, 113]), (20, [15, 107, 108, 109]), (19, [104, 105, 106]), (16, [98, 99, 100]), (15, [95, 96, 97, 136, 137, 138, 139]), (14, [22, 23, 24, 25, 92, 93, 94]), (13, [91]), (12, [8, 39, 40, 41, 42, 87, 88, 89, 90]), (11, [86]), (10, [73, 74, 75, 76, 77, 78, 79, 80, 81, 82, 83, 84, 85]), (9, [9, 10, 46, 47, 48, 49, 50, 51, 52, 53, 54, 55, 56, 57, 58, 59, 60, 61, 62, 63, 64, 65, 66, 67, 68, 69, 70, 71, 72]), (8, [42, 43, 44, 45]), (6, [35, 36, 37, 38]), (5, [7, 28, 29, 30, 31, 32, 33, 34]), (4, [25, 26, 27]), (2, [1])]
theorem comp15 : compFn Try.prog loc15 (fun i => (fg15.lookup i).getD []) Try.f15 = some lit15 := by kernel_rfl

-- parcener/equal.whole
def lit16 : AFn := ⟨1, [.cell 2 true 2],
 (.seq
 (.ops [⟨some 2, (.allocL (.agg [(.int .i64 (0)), (.int .i64 (0))])), none⟩]
 [] [])
 (.seq
 (.ops [⟨some 3, (.mv (.t 0)), none⟩,
 ⟨some 4, (.build [(.int .i64 (0)), (.int .i64 (0))] [(0, 1, (.t 3)), (1, 1, (.c (.int .i64 (1))))]), none⟩,
 ⟨none, (.store 2 (.t 2) (.t 4)), none⟩]
 [] [0, 3, 4])
 .ret))⟩
def loc16 : List Nat := [2, 1000002]
def fg16 : List (Nat × List Nat) := [(1, [0, 3, 4])]
theorem comp16 : compFn Try.prog loc16 (fun i => (fg16.lookup i).getD []) Try.f16 = some lit16 := by kernel_rfl

-- parcener/parcenerref06.Same
def lit17 : AFn := ⟨2, [.tmp 4],
 (.seq
 (.ops [⟨some 2, (.boxL (.t 0)), none⟩,
 ⟨some 3, (.boxL (.t 1)), none⟩,
 ⟨some 4, (.mv (.c (.bool false))), none⟩]
 [] [0, 1, 4])
 (.seq
 (.seq
 (.ops [⟨some 6, (.fad 0 (.t 2)), none⟩,
 ⟨some 7, (.load false 1 (.t 6)), none⟩,
 ⟨some 8, (.len (.t 7)), none⟩,
 ⟨some 9, (.fad 0 (.t 3)), none⟩,
 ⟨some 10, (.load false 1 (.t 9)), none⟩,
 ⟨some 11, (.len (.t 10)), none⟩,
 ⟨some 12, (.bin .neq (.t 8) (.t 11)), none⟩]
 [] [6, 7, 8, 9, 10, 11])
 (.cond (.t 12)
 (.seq
 (.ops [⟨some 4, (.mv (.c (.bool false))), none⟩]
 [] [2, 3, 12])
 .ret)
 .skip))
 (.seq
 (.seq
 (.ops [⟨some 5, (.mv (.c (.int .i64 (0)))), none⟩]
 [] [12])
 (.block 0
 (.loop
 (.seq
 (.seq
 (.ops [⟨some 13, (.mv (.t 5)), none⟩,
 ⟨some 14, (.fad 0 (.t 2)), none⟩,
 ⟨some 15, (.load false 1 (.t 14)), none⟩,
 ⟨some 16, (.len (.t 15)), none⟩,
 ⟨some 17, (.bin .lss (.t 13) (.t 16)), none⟩]
 [] [13, 14, 15, 16])
 (.cond (.t 17)
 .skip
 (.exit 0)))
 (.seq
 (.block 1
 (.seq
 (.ops [⟨some 20, (.fad 0 (.t 2)), none⟩,
 ⟨some 21, (.load false 1 (.t 20)), none⟩,
 ⟨some 22, (.mv (.t 5)), none⟩,
 ⟨some 23, (.iad 1 (.t 21) (.t 22)), none⟩,
 ⟨some 24, (.load false 1 (.t 23)), none⟩,
 ⟨some 25, (.fad 0 (.t 3)), none⟩,
 ⟨some 26, (.load false 1 (.t 25)), none⟩,
 ⟨some 27, (.mv (.t 5)), none⟩,
 ⟨some 28, (.iad 1 (.t 26) (.t 27)), none⟩,
 ⟨some 29, (.load false 1 (.t 28)), none⟩,
 ⟨some 30, (.call (.f 33) [(.t 24), (.t 29)]), none⟩,
 ⟨some 31, (.un .not (.t 30)), none⟩]
 [(0, 2), (1, 2), (0, 5), (1, 5), (2, 5), (3, 5), (4, 5), (0, 6), (1, 6), (2, 6), (3, 6), (4, 6), (0, 7), (1, 7), (2, 7), (3, 7), (4, 7), (5, 7), (6, 7), (0, 8), (1, 8), (2, 8), (3, 8), (4, 8), (0, 9), (1, 9), (2, 9), (3, 9), (4, 9)] [17, 20, 21, 22, 23, 24, 25, 26, 27, 28, 29, 30])
 (.cond (.t 31)
 (.seq
 (.ops [⟨some 4, (.mv (.c (.bool false))), none⟩]
 [] [2, 3, 5, 31])
 .ret)
 .skip)))
 (.ops [⟨some 18, (.mv (.t 5)), none⟩,
 ⟨some 19, (.bin .add (.t 18) (.c (.int .i64 (1)))), none⟩,
 ⟨some 5, (.mv (.t 19)), none⟩]
 [] [18, 19, 31]))))))
 (.seq
 (.ops [⟨some 4, (.mv (.c (.bool true))), none⟩]
 [] [2, 3, 5, 17])
 .ret))))⟩
def loc17 : List Nat := [2, 3]
def fg17 : List (Nat × List Nat) := [(8, [2, 3, 5, 17]), (5, [18, 19, 31]), (7, [2, 3, 5, 31]), (6, [17, 20, 21, 22, 23, 24, 25, 26, 27, 28, 29, 30]), (4, [13, 14, 15, 16]), (3, [12]), (2, [2, 3, 12]), (1, [6, 7, 8, 9, 10, 11]), (0, [0, 1, 4])]
theorem comp17 : compFn Try.prog loc17 (fun i => (fg17.lookup i).getD []) Try.f17 = some lit17 := by kernel_rfl

-- parcener/equal.check
def lit18 : AFn := ⟨1, [.tmp 2],
 (.seq
 (.ops [⟨some 2, (.mv (.c (.int .i64 (0)))), none⟩]
 [] [2])
 (.seq
 (.seq
 (.ops [⟨some 4, (.mv (.t 0)), none⟩,
 ⟨some 5, (.build [.nils, .nils] [(0, 1, (.t 4))]), none⟩,
 ⟨some 6, (.call (.f 34) [(.t 5)]), none⟩,
 ⟨some 3, (.mv (.t 6)), none⟩]
 [] [4, 5, 6])
 (.seq
 (.ops [⟨some 7, (.mv (.t 3)), none⟩,
 ⟨some 8, (.bin .neq (.t 7) (.c (.int .i64 (0)))), none⟩]
 [] [7])
 (.cond (.t 8)
 (.seq
 (.ops [⟨some 9, (.mv (.t 3)), none⟩,
 ⟨some 2, (.mv (.t 9)), none⟩]
 [] [0, 3, 8, 9])
 .ret)
 .skip)))
 (.seq
 (.seq
 (.ops [⟨some 10, (.mv (.t 0)), none⟩,
 ⟨some 11, (.len (.t 10)), none⟩,
 ⟨some 12, (.bin .gtr (.t 11) (.c (.int .i64 (4)))), none⟩]
 [] [3, 8, 10, 11])
 (.cond (.t 12)
 (.seq
 (.ops [⟨some 2, (.mv (.c (.int .i64 (4)))), none⟩]
 [] [0, 12])
 .ret)
 .skip))
 (.seq
 (.seq
 (.ops [⟨some 13, (.mv (.t 0)), none⟩,
 ⟨some 14, (.call (.f 35) [(.t 13), (.f 36)]), none⟩]
 [] [0, 12, 13])
 (.cond (.t 14)
 (.seq
 (.ops [⟨some 2, (.mv (.c (.int .i64 (2)))), none⟩]
 [] [14])
 .ret)
 .skip))
 (.seq
 (.ops [⟨some 2, (.mv (.c (.int .i64 (0)))), none⟩]
 [] [14])
 .ret)))))⟩
def loc18 : List Nat := []
def fg18 : List (Nat × List Nat) := [(8, [14]), (7, [14]), (6, [0, 12, 13]), (5, [0, 12]), (4, [3, 8, 10, 11]), (3, [0, 3, 8, 9]), (2, [7]), (1, [4, 5, 6]), (0, [2])]
theorem comp18 : compFn Try.prog loc18 (fun i => (fg18.lookup i).getD []) Try.f18 = some lit18 := by kernel_rfl

-- parcener/equal.orders
def lit19 : AFn := ⟨1, [.tmp 2],
 (.seq
 (.ops [⟨some 1, (.boxH false 1 (.t 0)), none⟩,
 ⟨some 2, (.mv (.c .nilf)), none⟩]
 [] [0, 2])
 (.seq
 (.ops [⟨some 3, (.mkFn (.func 38) [] [(.t 1)]), none⟩,
 ⟨some 2, (.mv (.t 3)), none⟩]
 [] [1, 3])
 .ret))⟩
def loc19 : List Nat := [1000001]
def fg19 : List (Nat × List Nat) := [(1, [1, 3]), (0, [0, 2])]
theorem comp19 : compFn Try.prog loc19 (fun i => (fg19.lookup i).getD []) Try.f19 = some lit19 := by kernel_rfl

-- parcener/equal.less
def lit20 : AFn := ⟨2, [.tmp 4],
 (.seq
 (.ops [⟨some 2, (.boxL (.t 0)), none⟩,
 ⟨some 3, (.boxL (.t 1)), none⟩,
 ⟨some 4, (.mv (.c (.bool false))), none⟩]
 [] [0, 1, 4])
 (.seq
 (.ops [⟨some 8, (.load true 2 (.t 2)), none⟩,
 ⟨some 9, (.load true 2 (.t 3)), none⟩,
 ⟨some 10, (.call (.f 40) [(.t 8), (.t 9)]), none⟩,
 ⟨some 7, (.mv (.t 10)), none⟩,
 ⟨some 11, (.ext (.t 7) 0), none⟩,
 ⟨some 12, (.ext (.t 7) 1), none⟩,
 ⟨some 5, (.mv (.t 11)), none⟩,
 ⟨some 6, (.mv (.t 12)), none⟩]
 [] [2, 3, 6, 7, 8, 9, 10, 11, 12])
 (.seq
 (.ops [⟨some 13, (.mv (.t 5)), none⟩,
 ⟨some 14, (.bin .lss (.t 13) (.c (.int .i64 (0)))), none⟩,
 ⟨some 4, (.mv (.t 14)), none⟩]
 [] [5, 13, 14])
 .ret)))⟩
def loc20 : List Nat := [2, 3, 1000002, 1000003]
def fg20 : List (Nat × List Nat) := [(2, [5, 13, 14]), (1, [2, 3, 6, 7, 8, 9, 10, 11, 12]), (0, [0, 1, 4])]
theorem comp20 : compFn Try.prog loc20 (fun i => (fg20.lookup i).getD []) Try.f20 = some lit20 := by kernel_rfl

-- parcener/ratio.Check
def lit21 : AFn := ⟨1, [.tmp 2],
 (.seq
 (.ops [⟨some 1, (.boxL (.t 0)), none⟩,
 ⟨some 2, (.mv (.c (.int .i64 (0)))), none⟩]
 [] [0, 2])
 (.seq
 (.seq
 (.ops [⟨some 3, (.fad 1 (.t 1)), none⟩,
 ⟨some 4, (.load false 1 (.t 3)), none⟩,
 ⟨some 5, (.bin .lss (.t 4) (.c (.int .i64 (1)))), none⟩,
 ⟨some 6, (.mv (.t 5)), none⟩,
 ⟨some 7, (.fad 0 (.t 1)), some (6, false)⟩,
 ⟨some 8, (.load false 1 (.t 7)), some (6, false)⟩,
 ⟨some 9, (.call (.f 41) [(.t 8)]), some (6, false)⟩,
 ⟨some 10, (.fad 1 (.t 1)), some (6, false)⟩,
 ⟨some 11, (.load false 1 (.t 10)), some (6, false)⟩,
 ⟨some 12, (.conv .u64 (.t 11)), some (6, false)⟩,
 ⟨some 13, (.minmax true [(.t 9), (.t 12)]), some (6, false)⟩,
 ⟨some 14, (.bin .gtr (.t 13) (.c (.int .u64 (1000000000000000000)))), some (6, false)⟩,
 ⟨some 15, (.pick (.t 6) (.c (.bool true)) (.t 14)), none⟩,
 ⟨some 16, (.mv (.t 15)), none⟩,
 ⟨some 17, (.fad 0 (.t 1)), some (16, false)⟩,
 ⟨some 18, (.load false 1 (.t 17)), some (16, false)⟩,
 ⟨some 19, (.call (.f 41) [(.t 18)]), some (16, false)⟩,
 ⟨some 20, (.fad 1 (.t 1)), some (16, false)⟩,
 ⟨some 21, (.load false 1 (.t 20)), some (16, false)⟩,
 ⟨some 22, (.conv .u64 (.t 21)), some (16, false)⟩,
 ⟨some 23, (.call (.f 42) [(.t 19), (.t 22)]), some (16, false)⟩,
 ⟨some 24, (.bin .gtr (.t 23) (.c (.int .u64 (1)))), some (16, false)⟩,
 ⟨some 25, (.pick (.t 16) (.c (.bool true)) (.t 24)), none⟩]
 [(4, 7), (5, 7), (6, 7), (4, 8), (5, 8), (6, 8), (4, 9), (5, 9), (6, 9), (14, 17), (15, 17), (16, 17), (14, 18), (15, 18), (16, 18), (14, 19), (15, 19), (16, 19)] [1, 3, 4, 5, 6, 7, 8, 9, 10, 11, 12, 13, 14, 15, 16, 17, 18, 19, 20, 21, 22, 23, 24])
 (.cond (.t 25)
 (.seq
 (.ops [⟨some 2, (.mv (.c (.int .i64 (8)))), none⟩]
 [] [25])
 .ret)
 .skip))
 (.seq
 (.ops [⟨some 2, (.mv (.c (.int .i64 (0)))), none⟩]
 [] [25])
 .ret)))⟩
def loc21 : List Nat := [1]
def fg21 : List (Nat × List Nat) := [(3, [25]), (2, [25]), (1, [1, 3, 4, 5, 6, 7, 8, 9, 10, 11, 12, 13, 14, 15, 16, 17, 18, 19, 20, 21, 22, 23, 24]), (0, [0, 2])]
theorem comp21 : compFn Try.prog loc21 (fun i => (fg21.lookup i).getD []) Try.f21 = some lit21 := by kernel_rfl

-- parcener/cake.Total
def lit22 : AFn := ⟨1, [.tmp 2, .tmp 3],
 (.seq
 (.ops [⟨some 1, (.boxL (.t 0)), none⟩,
 ⟨some 2, (.mv (.c (.int .i64 (0)))), none⟩,
 ⟨some 3, (.mv (.c (.int .i64 (0)))), none⟩]
 [] [0, 2, 3])
 (.seq
 (.seq
 (.ops [⟨some 8, (.load true 3 (.t 1)), none⟩,
 ⟨some 9, (.call (.f 43) [(.t 8)]), none⟩,
 ⟨some 4, (.mv (.t 9)), none⟩]
 [] [8, 9])
 (.seq
 (.ops [⟨some 10, (.mv (.t 4)), none⟩,
 ⟨some 11, (.bin .neq (.t 10) (.c (.int .i64 (0)))), none⟩]
 [] [10])
 (.cond (.t 11)
 (.seq
 (.ops [⟨some 12, (.mv (.t 4)), none⟩,
 ⟨some 2, (.mv (.c (.int .i64 (0)))), none⟩,
 ⟨some 3, (.mv (.t 12)), none⟩]
 [] [1, 4, 11, 12])
 .ret)
 .skip)))
 (.seq
 (.ops [⟨some 5, (.mv (.c (.int .i64 (0)))), none⟩]
 [] [4, 11])
 (.seq
 (.seq
 (.ops [⟨some 13, (.fad 2 (.t 1)), none⟩,
 ⟨some 14, (.load false 1 (.t 13)), none⟩,
 ⟨some 15, (.len (.t 14)), none⟩,
 ⟨some 16, (.mv (.c (.int .i64 (0)))), none⟩]
 [] [13])
 (.block 0
 (.loop
 (.seq
 (.ops [⟨some 17, (.bin .lss (.t 16) (.t 15)), none⟩]
 [] [])
 (.seq
 (.cond (.t 17)
 .skip
 (.exit 0))
 (.seq
 (.block 1
 (.seq
 (.ops [⟨some 18, (.mv (.t 16)), none⟩,
 ⟨some 19, (.iad 1 (.t 14) (.t 16)), none⟩,
 ⟨some 20, (.load false 1 (.t 19)), none⟩,
 ⟨some 6, (.mv (.t 18)), none⟩,
 ⟨some 7, (.mv (.t 20)), none⟩]
 [] [17, 18, 19, 20])
 (.ops [⟨some 21, (.mv (.t 5)), none⟩,
 ⟨some 22, (.mv (.t 7)), none⟩,
 ⟨some 23, (.fad 1 (.t 1)), none⟩,
 ⟨some 24, (.load false 1 (.t 23)), none⟩,
 ⟨some 25, (.mv (.t 6)), none⟩,
 ⟨some 26, (.bin .add (.t 25) (.c (.int .i64 (1)))), none⟩,
 ⟨some 27, (.iad 1 (.t 24) (.t 26)), none⟩,
 ⟨some 28, (.load false 1 (.t 27)), none⟩,
 ⟨some 29, (.fad 1 (.t 1)), none⟩,
 ⟨some 30, (.load false 1 (.t 29)), none⟩,
 ⟨some 31, (.mv (.t 6)), none⟩,
 ⟨some 32, (.iad 1 (.t 30) (.t 31)), none⟩,
 ⟨some 33, (.load false 1 (.t 32)), none⟩,
 ⟨some 34, (.bin .sub (.t 28) (.t 33)), none⟩,
 ⟨some 35, (.bin .mul (.t 22) (.t 34)), none⟩,
 ⟨some 36, (.bin .add (.t 21) (.t 35)), none⟩,
 ⟨some 5, (.mv (.t 36)), none⟩]
 [(0, 1), (0, 2), (1, 2), (0, 3), (1, 3), (0, 4), (1, 4), (2, 4), (3, 4), (0, 5), (1, 5), (2, 5), (3, 5), (0, 6), (1, 6), (0, 7), (1, 7), (0, 8), (1, 8), (2, 8), (3, 8), (4, 8), (5, 8), (6, 8), (7, 8), (0, 9), (1, 9), (2, 9), (3, 9), (4, 9), (5, 9), (6, 9), (7, 9), (0, 10), (1, 10), (2, 10), (3, 10), (4, 10), (5, 10), (6, 10), (7, 10), (8, 10), (9, 10), (0, 11), (1, 11), (2, 11), (3, 11), (4, 11), (5, 11), (6, 11), (7, 11), (0, 12), (1, 12), (2, 12), (3, 12), (4, 12), (5, 12), (6, 12), (7, 12), (0, 13), (1, 13), (0, 14)] [6, 7, 21, 22, 23, 24, 25, 26, 27, 28, 29, 30, 31, 32, 33, 34, 35, 36])))
 (.ops [⟨some 37, (.bin .add (.t 16) (.c (.int .i64 (1)))), none⟩,
 ⟨some 16, (.mv (.t 37)), none⟩]
 [] [37])))))))
 (.seq
 (.ops [⟨some 38, (.mv (.t 5)), none⟩,
 ⟨some 2, (.mv (.t 38)), none⟩,
 ⟨some 3, (.mv (.c (.int .i64 (0)))), none⟩]
 [] [1, 5, 14, 15, 16, 17, 38])
 .ret)))))⟩
def loc22 : List Nat := [1]
def fg22 : List (Nat × List Nat) := [(10, [1, 5, 14, 15, 16, 17, 38]), (9, [37]), (8, [6, 7, 21, 22, 23, 24, 25, 26, 27, 28, 29, 30, 31, 32, 33, 34, 35, 36]), (7, [17, 18, 19, 20]), (5, [13]), (4, [4, 11]), (3, [1, 4, 11, 12]), (2, [10]), (1, [8, 9]), (0, [0, 2, 3])]
theorem comp22 : compFn Try.prog loc22 (fun i => (fg22.lookup i).getD []) Try.f22 = some lit22 := by kernel_rfl

-- parcener/ratio.Mul
def lit23 : AFn := ⟨2, [.cell 4 true 2, .tmp 5],
 (.seq
 (.ops [⟨some 2, (.boxL (.t 0)), none⟩,
 ⟨some 3, (.boxL (.t 1)), none⟩,
 ⟨some 4, (.allocL (.agg [(.int .i64 (0)), (.int .i64 (0))])), none⟩,
 ⟨some 5, (.mv (.c (.int .i64 (0)))), none⟩]
 [] [0, 1, 5])
 (.seq
 (.seq
 (.ops [⟨some 17, (.load true 2 (.t 2)), none⟩,
 ⟨some 18, (.load true 2 (.t 3)), none⟩,
 ⟨some 19, (.call (.f 44) [(.t 17), (.t 18)]), none⟩,
 ⟨some 6, (.mv (.t 19)), none⟩]
 [] [17, 18, 19])
 (.seq
 (.ops [⟨some 20, (.mv (.t 6)), none⟩,
 ⟨some 21, (.bin .neq (.t 20) (.c (.int .i64 (0)))), none⟩]
 [] [20])
 (.cond (.t 21)
 (.seq
 (.ops [⟨some 22, (.build [(.int .i64 (0)), (.int .i64 (0))] []), none⟩,
 ⟨some 23, (.mv (.t 6)), none⟩,
 ⟨none, (.store 2 (.t 4) (.t 22)), none⟩,
 ⟨some 5, (.mv (.t 23)), none⟩]
 [] [2, 3, 6, 21, 22, 23])
 .ret)
 .skip)))
 (.seq
 (.ops [⟨some 24, (.fad 0 (.t 2)), none⟩,
 ⟨some 25, (.load false 1 (.t 24)), none⟩,
 ⟨some 26, (.call (.f 41) [(.t 25)]), none⟩,
 ⟨some 27, (.fad 1 (.t 2)), none⟩,
 ⟨some 28, (.load false 1 (.t 27)), none⟩,
 ⟨some 29, (.conv .u64 (.t 28)), none⟩,
 ⟨some 30, (.fad 0 (.t 3)), none⟩,
 ⟨some 31, (.load false 1 (.t 30)), none⟩,
 ⟨some 32, (.call (.f 41) [(.t 31)]), none⟩,
 ⟨some 33, (.fad 1 (.t 3)), none⟩,
 ⟨some 34, (.load false 1 (.t 33)), none⟩,
 ⟨some 35, (.conv .u64 (.t 34)), none⟩,
 ⟨some 7, (.mv (.t 26)), none⟩,
 ⟨some 8, (.mv (.t 29)), none⟩,
 ⟨some 9, (.mv (.t 32)), none⟩,
 ⟨some 10, (.mv (.t 35)), none⟩]
 [(0, 3), (1, 3), (2, 3), (0, 4), (1, 4), (2, 4), (0, 5), (1, 5), (2, 5), (0, 6), (1, 6), (2, 6), (3, 6), (4, 6), (5, 6), (0, 7), (1, 7), (2, 7), (3, 7), (4, 7), (5, 7), (3, 8), (4, 8), (5, 8), (0, 9), (1, 9), (2, 9), (3, 9), (4, 9), (5, 9), (6, 9), (7, 9), (8, 9), (0, 10), (1, 10), (2, 10), (3, 10), (4, 10), (5, 10), (6, 10), (7, 10), (8, 10), (0, 11), (1, 11), (2, 11), (3, 11), (4, 11), (5, 11), (6, 11), (7, 11), (8, 11), (3, 12), (4, 12), (5, 12), (9, 12), (10, 12), (11, 12), (9, 13), (10, 13), (11, 13), (9, 14), (10, 14), (11, 14)] [6, 21, 24, 25, 26, 27, 28, 29, 30, 31, 32, 33, 34, 35])
 (.seq
 (.ops [⟨some 36, (.mv (.t 7)), none⟩,
 ⟨some 37, (.mv (.t 10)), none⟩,
 ⟨some 38, (.call (.f 42) [(.t 36), (.t 37)]), none⟩,
 ⟨some 39, (.mv (.t 9)), none⟩,
 ⟨some 40, (.mv (.t 8)), none⟩,
 ⟨some 41, (.call (.f 42) [(.t 39), (.t 40)]), none⟩,
 ⟨some 11, (.mv (.t 38)), none⟩,
 ⟨some 12, (.mv (.t 41)), none⟩]
 [] [36, 37, 38, 39, 40, 41])
 (.seq
 (.ops [⟨some 43, (.mv (.t 7)), none⟩,
 ⟨some 44, (.mv (.t 11)), none⟩,
 ⟨some 45, (.bin .quo (.t 43) (.t 44)), none⟩,
 ⟨some 46, (.mv (.t 9)), none⟩,
 ⟨some 47, (.mv (.t 12)), none⟩,
 ⟨some 48, (.bin .quo (.t 46) (.t 47)), none⟩,
 ⟨some 49, (.call (.f 45) [(.t 45), (.t 48)]), none⟩,
 ⟨some 42, (.mv (.t 49)), none⟩,
 ⟨some 50, (.ext (.t 42) 0), none⟩,
 ⟨some 51, (.ext (.t 42) 1), none⟩,
 ⟨some 13, (.mv (.t 50)), none⟩,
 ⟨some 14, (.mv (.t 51)), none⟩]
 [(0, 1), (0, 3), (1, 3), (2, 3), (0, 4), (1, 4), (2, 4), (3, 4), (0, 5), (1, 5), (2, 5), (8, 9), (9, 10)] [7, 9, 42, 43, 44, 45, 46, 47, 48, 49, 50, 51])
 (.seq
 (.ops [⟨some 53, (.mv (.t 8)), none⟩,
 ⟨some 54, (.mv (.t 12)), none⟩,
 ⟨some 55, (.bin .quo (.t 53) (.t 54)), none⟩,
 ⟨some 56, (.mv (.t 10)), none⟩,
 ⟨some 57, (.mv (.t 11)), none⟩,
 ⟨some 58, (.bin .quo (.t 56) (.t 57)), none⟩,
 ⟨some 59, (.call (.f 45) [(.t 55), (.t 58)]), none⟩,
 ⟨some 52, (.mv (.t 59)), none⟩,
 ⟨some 60, (.ext (.t 52) 0), none⟩,
 ⟨some 61, (.ext (.t 52) 1), none⟩,
 ⟨some 15, (.mv (.t 60)), none⟩,
 ⟨some 16, (.mv (.t 61)), none⟩]
 [(0, 1), (0, 3), (1, 3), (2, 3), (0, 4), (1, 4), (2, 4), (3, 4), (0, 5), (1, 5), (2, 5), (8, 9), (9, 10)] [8, 10, 11, 12, 52, 53, 54, 55, 56, 57, 58, 59, 60, 61])
 (.seq
 (.seq
 (.ops [⟨some 62, (.mv (.t 13)), none⟩,
 ⟨some 63, (.mv (.t 15)), none⟩,
 ⟨some 64, (.bin .add (.t 62) (.t 63)), none⟩,
 ⟨some 65, (.bin .gtr (.t 64) (.c (.int .u64 (0)))), none⟩]
 [] [13, 15, 62, 63, 64])
 (.cond (.t 65)
 (.seq
 (.ops [⟨some 66, (.build [(.int .i64 (0)), (.int .i64 (0))] []), none⟩,
 ⟨none, (.store 2 (.t 4) (.t 66)), none⟩,
 ⟨some 5, (.mv (.c (.int .i64 (16)))), none⟩]
 [] [2, 3, 14, 16, 65, 66])
 .ret)
 .skip))
 (.seq
 (.ops [⟨some 67, (.mv (.t 14)), none⟩,
 ⟨some 68, (.bin .gtr (.t 67) (.c (.int .u64 (0)))), none⟩,
 ⟨some 69, (.mv (.t 68)), none⟩,
 ⟨some 70, (.fad 0 (.t 2)), some (69, true)⟩,
 ⟨some 71, (.load false 1 (.t 70)), some (69, true)⟩,
 ⟨some 72, (.bin .lss (.t 71) (.c (.int .i64 (0)))), some (69, true)⟩,
 ⟨some 73, (.fad 0 (.t 3)), some (69, true)⟩,
 ⟨some 74, (.load false 1 (.t 73)), some (69, true)⟩,
 ⟨some 75, (.bin .lss (.t 74) (.c (.int .i64 (0)))), some (69, true)⟩,
 ⟨some 76, (.eqB true (.t 72) (.t 75)), some (69, true)⟩,
 ⟨some 77, (.pick (.t 69) (.t 76) (.c (.bool false))), none⟩,
 ⟨some 78, (.mv (.t 14)), none⟩,
 ⟨some 79, (.mv (.t 16)), none⟩,
 ⟨some 80, (.call (.f 46) [(.t 77), (.t 78), (.t 79)]), none⟩,
 ⟨some 81, (.ext (.t 80) 0), none⟩,
 ⟨some 82, (.ext (.t 80) 1), none⟩,
 ⟨none, (.store 2 (.t 4) (.t 81)), none⟩,
 ⟨some 5, (.mv (.t 82)), none⟩]
 [] [2, 3, 14, 16, 65, 67, 68, 69, 70, 71, 72, 73, 74, 75, 76, 77, 78, 79, 80, 81, 82])
 .ret))))))))⟩
def loc23 : List Nat := [2, 3, 4]
def fg23 : List (Nat × List Nat) := [(10, [2, 3, 14, 16, 65, 67, 68, 69, 70, 71, 72, 73, 74, 75, 76, 77, 78, 79, 80, 81, 82]), (9, [2, 3, 14, 16, 65, 66]), (8, [13, 15, 62, 63, 64]), (7, [8, 10, 11, 12, 52, 53, 54, 55, 56, 57, 58, 59, 60, 61]), (6, [7, 9, 42, 43, 44, 45, 46, 47, 48, 49, 50, 51]), (5, [36, 37, 38, 39, 40, 41]), (4, [6, 21, 24, 25, 26, 27, 28, 29, 30, 31, 32, 33, 34, 35]), (3, [2, 3, 6, 21, 22, 23]), (2, [20]), (1, [17, 18, 19]), (0, [0, 1, 5])]
theorem comp23 : compFn Try.prog loc23 (fun i => (fg23.lookup i).getD []) Try.f23 = some lit23 := by kernel_rfl

-- parcener/cake.Mark
def lit24 : AFn := ⟨3, [.cell 6 true 2, .tmp 7],
 (.seq
 (.ops [⟨some 3, (.boxL (.t 0)), none⟩,
 ⟨some 4, (.boxL (.t 1)), none⟩,
 ⟨some 5, (.boxH true 2 (.t 2)), none⟩,
 ⟨some 6, (.allocL (.agg [(.int .i64 (0)), (.int .i64 (0))])), none⟩,
 ⟨some 7, (.mv (.c (.int .i64 (0)))), none⟩]
 [] [0, 1, 2, 7])
 (.seq
 (.seq
 (.ops [⟨some 12, (.load true 3 (.t 3)), none⟩,
 ⟨some 13, (.call (.f 43) [(.t 12)]), none⟩,
 ⟨some 8, (.mv (.t 13)), none⟩]
 [] [12, 13])
 (.seq
 (.ops [⟨some 14, (.mv (.t 8)), none⟩,
 ⟨some 15, (.bin .neq (.t 14) (.c (.int .i64 (0)))), none⟩]
 [] [14])
 (.cond (.t 15)
 (.seq
 (.ops [⟨some 16, (.build [(.int .i64 (0)), (.int .i64 (0))] []), none⟩,
 ⟨some 17, (.mv (.t 8)), none⟩,
 ⟨none, (.store 2 (.t 6) (.t 16)), none⟩,
 ⟨some 7, (.mv (.t 17)), none⟩]
 [] [3, 4, 5, 8, 15, 16, 17])
 .ret)
 .skip)))
 (.seq
 (.seq
 (.ops [⟨some 18, (.load true 3 (.t 3)), none⟩,
 ⟨some 19, (.load true 2 (.t 4)), none⟩,
 ⟨some 20, (.call (.f 47) [(.t 18), (.t 19)]), none⟩,
 ⟨some 21, (.un .not (.t 20)), none⟩,
 ⟨some 22, (.mv (.t 21)), none⟩,
 ⟨some 23, (.load true 2 (.t 5)), some (22, false)⟩,
 ⟨some 24, (.call (.f 21) [(.t 23)]), some (22, false)⟩,
 ⟨some 25, (.bin .neq (.t 24) (.c (.int .i64 (0)))), some (22, false)⟩,
 ⟨some 26, (.pick (.t 22) (.c (.bool true)) (.t 25)), none⟩,
 ⟨some 27, (.mv (.t 26)), none⟩,
 ⟨some 28, (.fad 0 (.t 5)), some (27, false)⟩,
 ⟨some 29, (.load false 1 (.t 28)), some (27, false)⟩,
 ⟨some 30, (.bin .lss (.t 29) (.c (.int .i64 (0)))), some (27, false)⟩,
 ⟨some 31, (.pick (.t 27) (.c (.bool true)) (.t 30)), none⟩]
 [] [8, 15, 18, 19, 20, 21, 22, 23, 24, 25, 26, 27, 28, 29, 30])
 (.cond (.t 31)
 (.seq
 (.ops [⟨some 32, (.build [(.int .i64 (0)), (.int .i64 (0))] []), none⟩,
 ⟨none, (.store 2 (.t 6) (.t 32)), none⟩,
 ⟨some 7, (.mv (.c (.int .i64 (2)))), none⟩]
 [] [3, 4, 5, 31, 32])
 .ret)
 .skip))
 (.seq
 (.seq
 (.ops [⟨some 33, (.fad 0 (.t 5)), none⟩,
 ⟨some 34, (.load false 1 (.t 33)), none⟩,
 ⟨some 35, (.bin .eql (.t 34) (.c (.int .i64 (0)))), none⟩]
 [] [31, 33, 34])
 (.cond (.t 35)
 (.seq
 (.ops [⟨some 36, (.load true 2 (.t 4)), none⟩,
 ⟨none, (.store 2 (.t 6) (.t 36)), none⟩,
 ⟨some 7, (.mv (.c (.int .i64 (0)))), none⟩]
 [] [3, 4, 5, 35, 36])
 .ret)
 .skip))
 (.seq
 (.ops [⟨some 9, (.allocH true 2 (.agg [(.int .i64 (0)), (.int .i64 (0))])), none⟩]
 [] [35])
 (.seq
 (.ops [⟨some 10, (.allocH true 1 (.int .i64 (0))), none⟩,
 ⟨none, (.store 1 (.t 10) (.c (.int .i64 (6)))), none⟩]
 [] [])
 (.seq
 (.ops [⟨some 37, (.load true 3 (.t 3)), none⟩,
 ⟨some 38, (.load true 2 (.t 4)), none⟩,
 ⟨some 39, (.mkFn (.func 49) [] [(.t 5), (.t 10), (.t 9)]), none⟩,
 ⟨some 40, (.call (.f 48) [(.t 37), (.t 38), (.t 39)]), none⟩,
 ⟨some 11, (.mv (.t 40)), none⟩]
 [] [3, 4, 5, 37, 38, 39, 40])
 (.seq
 (.seq
 (.ops [⟨some 41, (.mv (.t 11)), none⟩,
 ⟨some 42, (.bin .neq (.t 41) (.c (.int .i64 (0)))), none⟩]
 [] [41])
 (.cond (.t 42)
 (.ops [⟨some 43, (.mv (.t 11)), none⟩,
 ⟨none, (.store 1 (.t 10) (.t 43)), none⟩]
 [] [11, 42, 43])
 .skip))
 (.seq
 (.seq
 (.ops [⟨some 44, (.load false 1 (.t 10)), none⟩,
 ⟨some 45, (.bin .neq (.t 44) (.c (.int .i64 (0)))), none⟩]
 [] [11, 42, 44])
 (.cond (.t 45)
 (.seq
 (.ops [⟨some 46, (.build [(.int .i64 (0)), (.int .i64 (0))] []), none⟩,
 ⟨some 47, (.load false 1 (.t 10)), none⟩,
 ⟨none, (.store 2 (.t 6) (.t 46)), none⟩,
 ⟨some 7, (.mv (.t 47)), none⟩]
 [(0, 1), (1, 2)] [9, 10, 45, 46, 47])
 .ret)
 .skip))
 (.seq
 (.ops [⟨some 48, (.load true 2 (.t 9)), none⟩,
 ⟨none, (.store 2 (.t 6) (.t 48)), none⟩,
 ⟨some 7, (.mv (.c (.int .i64 (0)))), none⟩]
 [] [9, 10, 45, 48])
 .ret))))))))))⟩
def loc24 : List Nat := [3, 4, 6]
def fg24 : List (Nat × List Nat) := [(15, [9, 10, 45, 48]), (14, [9, 10, 45, 46, 47]), (13, [11, 42, 44]), (12, [11, 42, 43]), (11, [41]), (10, [3, 4, 5, 37, 38, 39, 40]), (8, [35]), (7, [3, 4, 5, 35, 36]), (6, [31, 33, 34]), (5, [3, 4, 5, 31, 32]), (4, [8, 15, 18, 19, 20, 21, 22, 23, 24, 25, 26, 27, 28, 29, 30]), (3, [3, 4, 5, 8, 15, 16, 17]), (2, [14]), (1, [12, 13]), (0, [0, 1, 2, 7])]
theorem comp24 : compFn Try.prog loc24 (fun i => (fg24.lookup i).getD []) Try.f24 = some lit24 := by kernel_rfl

-- parcener/parcenerref01.Of
def lit25 : AFn := ⟨1, [.cell 2 true 2],
 (.seq
 (.ops [⟨some 2, (.allocL (.agg [(.int .i64 (0)), (.int .i64 (0))])), none⟩]
 [] [])
 (.seq
 (.ops [⟨some 3, (.mv (.t 0)), none⟩,
 ⟨some 4, (.build [(.int .i64 (0)), (.int .i64 (0))] [(0, 1, (.t 3)), (1, 1, (.c (.int .i64 (1))))]), none⟩,
 ⟨none, (.store 2 (.t 2) (.t 4)), none⟩]
 [] [0, 3, 4])
 .ret))⟩
def loc25 : List Nat := [2]
def fg25 : List (Nat × List Nat) := [(1, [0, 3, 4])]
theorem comp25 : compFn Try.prog loc25 (fun i => (fg25.lookup i).getD []) Try.f25 = some lit25 := by kernel_rfl

-- slices.Sorted[int]
def lit26 : AFn := ⟨1, [.tmp 2],
 (.seq
 (.ops [⟨some 2, (.mv (.c .nils)), none⟩]
 [] [2])
 (.seq
 (.ops [⟨some 4, (.mv (.t 0)), none⟩,
 ⟨some 5, (.call (.f 55) [(.t 4)]), none⟩,
 ⟨some 3, (.mv (.t 5)), none⟩]
 [] [0, 4, 5])
 (.seq
 (.ops [⟨some 6, (.mv (.t 3)), none⟩,
 ⟨some 7, (.call (.f 56) [(.t 6)]), none⟩]
 [] [6, 7])
 (.seq
 (.ops [⟨some 8, (.mv (.t 3)), none⟩,
 ⟨some 2, (.mv (.t 8)), none⟩]
 [] [3, 8])
 .ret))))⟩
def loc26 : List Nat := []
def fg26 : List (Nat × List Nat) := [(3, [3, 8]), (2, [6, 7]), (1, [0, 4, 5]), (0, [2])]
theorem comp26 : compFn Try.prog loc26 (fun i => (fg26.lookup i).getD []) Try.f26 = some lit26 := by kernel_rfl

-- slices.Values[[]int,int]
def lit27 : AFn := ⟨1, [.tmp 2],
 (.seq
 (.ops [⟨some 1, (.boxH true 1 (.t 0)), none⟩,
 ⟨some 2, (.mv (.c .nilf)), none⟩]
 [] [0, 2])
 (.seq
 (.ops [⟨some 3, (.mkFn (.func 57) [] [(.t 1)]), none⟩,
 ⟨some 2, (.mv (.t 3)), none⟩]
 [] [1, 3])
 .ret))⟩
def loc27 : List Nat := []
def fg27 : List (Nat × List Nat) := [(1, [1, 3]), (0, [0, 2])]
theorem comp27 : compFn Try.prog loc27 (fun i => (fg27.lookup i).getD []) Try.f27 = some lit27 := by kernel_rfl

-- (*parcener/equal.seat).end
def lit28 : AFn := ⟨2, [.cell 4 true 4],
 (.seq
 (.ops [⟨some 3, (.boxL (.t 1)), none⟩,
 ⟨some 4, (.allocL (.agg [(.int .i64 (0)), (.int .i64 (0)), (.int .i64 (0)), (.int .i64 (0))])), none⟩]
 [] [1])
 (.seq
 (.ops [⟨some 11, (.mv (.t 0)), none⟩,
 ⟨some 12, (.nilchk (.t 11)), none⟩,
 ⟨some 13, (.fad 0 (.t 12)), none⟩,
 ⟨some 14, (.fad 2 (.t 13)), none⟩,
 ⟨some 15, (.load false 1 (.t 14)), none⟩,
 ⟨some 16, (.mv (.t 0)), none⟩,
 ⟨some 17, (.nilchk (.t 16)), none⟩,
 ⟨some 18, (.fad 5 (.t 17)), none⟩,
 ⟨some 19, (.load false 1 (.t 18)), none⟩,
 ⟨some 20, (.iad 1 (.t 15) (.t 19)), none⟩,
 ⟨some 21, (.load false 1 (.t 20)), none⟩,
 ⟨some 22, (.call (.f 16) [(.t 21)]), none⟩,
 ⟨some 23, (.mv (.t 0)), none⟩,
 ⟨some 24, (.nilchk (.t 23)), none⟩,
 ⟨some 25, (.fad 0 (.t 24)), none⟩,
 ⟨some 26, (.fad 2 (.t 25)), none⟩,
 ⟨some 27, (.load false 1 (.t 26)), none⟩,
 ⟨some 28, (.mv (.t 0)), none⟩,
 ⟨some 29, (.nilchk (.t 28)), none⟩,
 ⟨some 30, (.fad 6 (.t 29)), none⟩,
 ⟨some 31, (.load false 1 (.t 30)), none⟩,
 ⟨some 32, (.iad 1 (.t 27) (.t 31)), none⟩,
 ⟨some 33, (.load false 1 (.t 32)), none⟩,
 ⟨some 34, (.call (.f 16) [(.t 33)]), none⟩,
 ⟨some 5, (.allocL (.agg [(.int .i64 (0)), (.int .i64 (0))])), none⟩,
 ⟨some 6, (.allocL (.agg [(.int .i64 (0)), (.int .i64 (0))])), none⟩,
 ⟨none, (.store 2 (.t 5) (.t 22)), none⟩,
 ⟨none, (.store 2 (.t 6) (.t 34)), none⟩]
 [(0, 5), (1, 5), (2, 5), (3, 5), (4, 5), (0, 6), (1, 6), (2, 6), (3, 6), (4, 6), (0, 7), (1, 7), (2, 7), (3, 7), (4, 7), (0, 8), (1, 8), (2, 8), (3, 8), (4, 8), (0, 12), (1, 12), (2, 12), (3, 12), (4, 12), (5, 12), (6, 12), (7, 12), (8, 12), (9, 12), (10, 12), (11, 12), (0, 13), (1, 13), (2, 13), (3, 13), (4, 13), (5, 13), (6, 13), (7, 13), (8, 13), (9, 13), (10, 13), (11, 13), (0, 14), (1, 14), (2, 14), (3, 14), (4, 14), (5, 14), (6, 14), (7, 14), (8, 14), (9, 14), (10, 14), (11, 14), (0, 15), (1, 15), (2, 15), (3, 15), (4, 15), (5, 15), (6, 15), (7, 15), (8, 15), (9, 15), (10, 15), (11, 15), (0, 16), (1, 16), (2, 16), (3, 16), (4, 16), (5, 16), (6, 16), (7, 16), (8, 16), (9, 16), (10, 16), (11, 16), (0, 17), (1, 17), (2, 17), (3, 17), (4, 17), (5, 17), (6, 17), (7, 17), (8, 17), (9, 17), (10, 17), (11, 17), (12, 17), (13, 17), (14, 17), (15, 17), (16, 17), (0, 18), (1, 18), (2, 18), (3, 18), (4, 18), (5, 18), (6, 18), (7, 18), (8, 18), (9, 18), (10, 18), (11, 18), (12, 18), (13, 18), (14, 18), (15, 18), (16, 18), (0, 19), (1, 19), (2, 19), (3, 19), (4, 19), (5, 19), (6, 19), (7, 19), (8, 19), (9, 19), (10, 19), (11, 19), (12, 19), (13, 19), (14, 19), (15, 19), (16, 19), (0, 20), (1, 20), (2, 20), (3, 20), (4, 20), (5, 20), (6, 20), (7, 20), (8, 20), (9, 20), (10, 20), (11, 20), (12, 20), (13, 20), (14, 20), (15, 20), (16, 20), (0, 21), (1, 21), (2, 21), (3, 21), (4, 21), (5, 21), (6, 21), (7, 21), (8, 21), (9, 21), (10, 21), (11, 21), (0, 22), (1, 22), (2, 22), (3, 22), (4, 22), (5, 22), (6, 22), (7, 22), (8, 22), (9, 22), (10, 22), (11, 22), (0, 24), (1, 24), (2, 24), (3, 24), (4, 24), (5, 24), (6, 24), (7, 24), (8, 24), (9, 24), (10, 24), (11, 24), (12, 24), (13, 24), (14, 24), (15, 24), (16, 24), (17, 24), (18, 24), (19, 24), (20, 24), (21, 24), (22, 24), (23, 24), (0, 25), (1, 25), (2, 25), (3, 25), (4, 25), (5, 25), (6, 25), (7, 25), (8, 25), (9, 25), (10, 25), (11, 25), (12, 25), (13, 25), (14, 25), (15, 25), (16, 25), (17, 25), (18, 25), (19, 25), (20, 25), (21, 25), (22, 25), (23, 25), (24, 25)] [11, 12, 13, 14, 15, 16, 17, 18, 19, 20, 21, 22, 23, 24, 25, 26, 27, 28, 29, 30, 31, 32, 33, 34])
 (.seq
 (.ops [⟨some 36, (.fad 0 (.t 3)), none⟩,
 ⟨some 37, (.load true 2 (.t 36)), none⟩,
 ⟨some 38, (.mv (.t 0)), none⟩,
 ⟨some 39, (.nilchk (.t 38)), none⟩,
 ⟨some 40, (.fad 0 (.t 39)), none⟩,
 ⟨some 41, (.fad 1 (.t 40)), none⟩,
 ⟨some 42, (.load false 1 (.t 41)), none⟩,
 ⟨some 43, (.mv (.t 0)), none⟩,
 ⟨some 44, (.nilchk (.t 43)), none⟩,
 ⟨some 45, (.fad 5 (.t 44)), none⟩,
 ⟨some 46, (.load false 1 (.t 45)), none⟩,
 ⟨some 47, (.iad 1 (.t 42) (.t 46)), none⟩,
 ⟨some 48, (.load false 1 (.t 47)), none⟩,
 ⟨some 49, (.call (.f 16) [(.t 48)]), none⟩,
 ⟨some 50, (.call (.f 51) [(.t 37), (.t 49)]), none⟩,
 ⟨some 35, (.mv (.t 50)), none⟩,
 ⟨some 51, (.ext (.t 35) 0), none⟩,
 ⟨some 52, (.ext (.t 35) 1), none⟩,
 ⟨some 7, (.allocL (.agg [(.int .i64 (0)), (.int .i64 (0))])), none⟩,
 ⟨none, (.store 2 (.t 7) (.t 51)), none⟩,
 ⟨some 8, (.mv (.t 52)), none⟩]
 [(0, 2), (1, 2), (0, 3), (1, 3), (0, 4), (1, 4), (0, 5), (1, 5), (0, 6), (1, 6), (0, 7), (1, 7), (2, 7), (3, 7), (4, 7), (5, 7), (6, 7), (0, 8), (1, 8), (2, 8), (3, 8), (4, 8), (5, 8), (6, 8), (0, 9), (1, 9), (2, 9), (3, 9), (4, 9), (5, 9), (6, 9), (0, 10), (1, 10), (2, 10), (3, 10), (4, 10), (5, 10), (6, 10), (0, 11), (1, 11), (0, 12), (1, 12), (0, 13), (1, 13), (16, 17), (0, 18), (1, 18), (2, 18), (3, 18), (4, 18), (5, 18), (6, 18), (7, 18), (8, 18), (9, 18), (10, 18), (11, 18), (12, 18), (13, 18), (14, 18), (15, 18), (16, 18), (17, 18), (17, 19)] [8, 35, 36, 37, 38, 39, 40, 41, 42, 43, 44, 45, 46, 47, 48, 49, 50, 51, 52])
 (.seq
 (.ops [⟨some 54, (.load true 2 (.t 7)), none⟩,
 ⟨some 55, (.load true 2 (.t 5)), none⟩,
 ⟨some 56, (.call (.f 23) [(.t 54), (.t 55)]), none⟩,
 ⟨some 53, (.mv (.t 56)), none⟩,
 ⟨some 57, (.ext (.t 53) 0), none⟩,
 ⟨some 58, (.ext (.t 53) 1), none⟩,
 ⟨none, (.store 2 (.t 7) (.t 57)), none⟩]
 [] [53, 54, 55, 56, 57, 58])
 (.seq
 (.ops [⟨some 60, (.load true 2 (.t 7)), none⟩,
 ⟨some 61, (.mv (.t 0)), none⟩,
 ⟨some 62, (.nilchk (.t 61)), none⟩,
 ⟨some 63, (.fad 3 (.t 62)), none⟩,
 ⟨some 64, (.load false 1 (.t 63)), none⟩,
 ⟨some 65, (.mv (.t 0)), none⟩,
 ⟨some 66, (.nilchk (.t 65)), none⟩,
 ⟨some 67, (.fad 5 (.t 66)), none⟩,
 ⟨some 68, (.load false 1 (.t 67)), none⟩,
 ⟨some 69, (.iad 1 (.t 64) (.t 68)), none⟩,
 ⟨some 70, (.load false 1 (.t 69)), none⟩,
 ⟨some 71, (.mv (.t 0)), none⟩,
 ⟨some 72, (.nilchk (.t 71)), none⟩,
 ⟨some 73, (.fad 3 (.t 72)), none⟩,
 ⟨some 74, (.load false 1 (.t 73)), none⟩,
 ⟨some 75, (.mv (.t 0)), none⟩,
 ⟨some 76, (.nilchk (.t 75)), none⟩,
 ⟨some 77, (.fad 6 (.t 76)), none⟩,
 ⟨some 78, (.load false 1 (.t 77)), none⟩,
 ⟨some 79, (.iad 1 (.t 74) (.t 78)), none⟩,
 ⟨some 80, (.load false 1 (.t 79)), none⟩,
 ⟨some 81, (.bin .sub (.t 70) (.t 80)), none⟩,
 ⟨some 82, (.call (.f 16) [(.t 81)]), none⟩,
 ⟨some 83, (.call (.f 54) [(.t 60), (.t 82)]), none⟩,
 ⟨some 59, (.mv (.t 83)), none⟩,
 ⟨some 84, (.ext (.t 59) 0), none⟩,
 ⟨some 85, (.ext (.t 59) 1), none⟩,
 ⟨none, (.store 2 (.t 7) (.t 84)), none⟩]
 [(0, 1), (0, 2), (0, 3), (0, 4), (0, 5), (1, 5), (2, 5), (3, 5), (4, 5), (0, 6), (1, 6), (2, 6), (3, 6), (4, 6), (0, 7), (1, 7), (2, 7), (3, 7), (4, 7), (0, 8), (1, 8), (2, 8), (3, 8), (4, 8), (0, 9), (0, 10), (0, 11), (1, 11), (2, 11), (3, 11), (4, 11), (5, 11), (6, 11), (7, 11), (8, 11), (9, 11), (10, 11), (0, 12), (1, 12), (2, 12), (3, 12), (4, 12), (5, 12), (6, 12), (7, 12), (8, 12), (9, 12), (10, 12), (0, 13), (1, 13), (2, 13), (3, 13), (4, 13), (5, 13), (6, 13), (7, 13), (8, 13), (9, 13), (10, 13), (0, 14), (1, 14), (2, 14), (3, 14), (4, 14), (5, 14), (6, 14), (7, 14), (8, 14), (9, 14), (10, 14), (0, 15), (1, 15), (2, 15), (3, 15), (4, 15), (5, 15), (6, 15), (7, 15), (8, 15), (9, 15), (10, 15), (11, 15), (12, 15), (13, 15), (14, 15), (0, 16), (1, 16), (2, 16), (3, 16), (4, 16), (5, 16), (6, 16), (7, 16), (8, 16), (9, 16), (10, 16), (11, 16), (12, 16), (13, 16), (14, 16), (0, 17), (1, 17), (2, 17), (3, 17), (4, 17), (5, 17), (6, 17), (7, 17), (8, 17), (9, 17), (10, 17), (11, 17), (12, 17), (13, 17), (14, 17), (0, 18), (1, 18), (2, 18), (3, 18), (4, 18), (5, 18), (6, 18), (7, 18), (8, 18), (9, 18), (10, 18), (11, 18), (12, 18), (13, 18), (14, 18), (0, 19), (1, 19), (2, 19), (3, 19), (4, 19), (5, 19), (6, 19), (7, 19), (8, 19), (9, 19), (10, 19), (0, 20), (1, 20), (2, 20), (3, 20), (4, 20), (5, 20), (6, 20), (7, 20), (8, 20), (9, 20), (10, 20), (0, 21), (0, 22), (25, 26), (26, 27)] [59, 60, 61, 62, 63, 64, 65, 66, 67, 68, 69, 70, 71, 72, 73, 74, 75, 76, 77, 78, 79, 80, 81, 82, 83, 84, 85])
 (.seq
 (.ops [⟨some 87, (.fad 2 (.t 3)), none⟩,
 ⟨some 88, (.load true 2 (.t 87)), none⟩,
 ⟨some 89, (.load true 2 (.t 5)), none⟩,
 ⟨some 90, (.call (.f 23) [(.t 88), (.t 89)]), none⟩,
 ⟨some 86, (.mv (.t 90)), none⟩,
 ⟨some 91, (.ext (.t 86) 0), none⟩,
 ⟨some 92, (.ext (.t 86) 1), none⟩,
 ⟨some 9, (.allocL (.agg [(.int .i64 (0)), (.int .i64 (0))])), none⟩,
 ⟨none, (.store 2 (.t 9) (.t 91)), none⟩,
 ⟨some 10, (.mv (.t 92)), none⟩]
 [] [3, 5, 10, 86, 87, 88, 89, 90, 91, 92])
 (.seq
 (.ops [⟨some 94, (.load true 2 (.t 9)), none⟩,
 ⟨some 95, (.mv (.t 0)), none⟩,
 ⟨some 96, (.nilchk (.t 95)), none⟩,
 ⟨some 97, (.fad 4 (.t 96)), none⟩,
 ⟨some 98, (.load false 1 (.t 97)), none⟩,
 ⟨some 99, (.call (.f 16) [(.t 98)]), none⟩,
 ⟨some 100, (.call (.f 54) [(.t 94), (.t 99)]), none⟩,
 ⟨some 93, (.mv (.t 100)), none⟩,
 ⟨some 101, (.ext (.t 93) 0), none⟩,
 ⟨some 102, (.ext (.t 93) 1), none⟩,
 ⟨none, (.store 2 (.t 9) (.t 101)), none⟩]
 [(0, 1), (0, 2), (0, 3), (0, 4), (0, 5), (8, 9), (9, 10)] [93, 94, 95, 96, 97, 98, 99, 100, 101, 102])
 (.seq
 (.ops [⟨some 104, (.load true 2 (.t 7)), none⟩,
 ⟨some 105, (.load true 2 (.t 6)), none⟩,
 ⟨some 106, (.call (.f 52) [(.t 104), (.t 105)]), none⟩,
 ⟨some 103, (.mv (.t 106)), none⟩,
 ⟨some 107, (.ext (.t 103) 0), none⟩,
 ⟨some 108, (.ext (.t 103) 1), none⟩,
 ⟨none, (.store 2 (.t 7) (.t 107)), none⟩]
 [] [103, 104, 105, 106, 107, 108])
 (.seq
 (.ops [⟨some 110, (.load true 2 (.t 7)), none⟩,
 ⟨some 111, (.mv (.t 0)), none⟩,
 ⟨some 112, (.nilchk (.t 111)), none⟩,
 ⟨some 113, (.fad 0 (.t 112)), none⟩,
 ⟨some 114, (.fad 1 (.t 113)), none⟩,
 ⟨some 115, (.load false 1 (.t 114)), none⟩,
 ⟨some 116, (.mv (.t 0)), none⟩,
 ⟨some 117, (.nilchk (.t 116)), none⟩,
 ⟨some 118, (.fad 6 (.t 117)), none⟩,
 ⟨some 119, (.load false 1 (.t 118)), none⟩,
 ⟨some 120, (.iad 1 (.t 115) (.t 119)), none⟩,
 ⟨some 121, (.load false 1 (.t 120)), none⟩,
 ⟨some 122, (.call (.f 16) [(.t 121)]), none⟩,
 ⟨some 123, (.call (.f 54) [(.t 110), (.t 122)]), none⟩,
 ⟨some 109, (.mv (.t 123)), none⟩,
 ⟨some 124, (.ext (.t 109) 0), none⟩,
 ⟨some 125, (.ext (.t 109) 1), none⟩,
 ⟨none, (.store 2 (.t 7) (.t 124)), none⟩]
 [(0, 1), (0, 2), (0, 3), (0, 4), (0, 5), (0, 6), (1, 6), (2, 6), (3, 6), (4, 6), (5, 6), (0, 7), (1, 7), (2, 7), (3, 7), (4, 7), (5, 7), (0, 8), (1, 8), (2, 8), (3, 8), (4, 8), (5, 8), (0, 9), (1, 9), (2, 9), (3, 9), (4, 9), (5, 9), (0, 10), (0, 11), (0, 12), (15, 16), (16, 17)] [0, 109, 110, 111, 112, 113, 114, 115, 116, 117, 118, 119, 120, 121, 122, 123, 124, 125])
 (.seq
 (.ops [⟨some 127, (.load true 2 (.t 9)), none⟩,
 ⟨some 128, (.load true 2 (.t 6)), none⟩,
 ⟨some 129, (.call (.f 52) [(.t 127), (.t 128)]), none⟩,
 ⟨some 126, (.mv (.t 129)), none⟩,
 ⟨some 130, (.ext (.t 126) 0), none⟩,
 ⟨some 131, (.ext (.t 126) 1), none⟩,
 ⟨none, (.store 2 (.t 9) (.t 130)), none⟩]
 [] [6, 126, 127, 128, 129, 130, 131])
 (.seq
 (.ops [⟨some 132, (.load true 2 (.t 7)), none⟩,
 ⟨some 133, (.load true 2 (.t 9)), none⟩,
 ⟨some 134, (.build [(.int .i64 (0)), (.int .i64 (0)), (.int .i64 (0)), (.int .i64 (0))] [(0, 2, (.t 132)), (2, 2, (.t 133))]), none⟩,
 ⟨none, (.store 4 (.t 4) (.t 134)), none⟩]
 [] [7, 9, 132, 133, 134])
 .ret)))))))))))⟩
def loc28 : List Nat := [3, 4, 5, 6, 7, 9]
def fg28 : List (Nat × List Nat) := [(10, [7, 9, 132, 133, 134]), (9, [6, 126, 127, 128, 129, 130, 131]), (8, [0, 109, 110, 111, 112, 113, 114, 115, 116, 117, 118, 119, 120, 121, 122, 123, 124, 125]), (7, [103, 104, 105, 106, 107, 108]), (6, [93, 94, 95, 96, 97, 98, 99, 100, 101, 102]), (5, [3, 5, 10, 86, 87, 88, 89, 90, 91, 92]), (4, [59, 60, 61, 62, 63, 64, 65, 66, 67, 68, 69, 70, 71, 72, 73, 74, 75, 76, 77, 78, 79, 80, 81, 82, 83, 84, 85]), (3, [53, 54, 55, 56, 57, 58]), (2, [8, 35, 36, 37, 38, 39, 40, 41, 42, 43, 44, 45, 46, 47, 48, 49, 50, 51, 52]), (1, [11, 12, 13, 14, 15, 16, 17, 18, 19, 20, 21, 22, 23, 24, 25, 26, 27, 28, 29, 30, 31, 32, 33, 34]), (0, [1])]
theorem comp28 : compFn Try.prog loc28 (fun i => (fg28.lookup i).getD []) Try.f28 = some lit28 := by kernel_rfl

-- (parcener/equal.line).when
def lit29 : AFn := ⟨2, [.cell 4 true 2],
 (.seq
 (.ops [⟨some 2, (.boxL (.t 0)), none⟩,
 ⟨some 4, (.allocL (.agg [(.int .i64 (0)), (.int .i64 (0))])), none⟩]
 [] [0])
 (.seq
 (.ops [⟨some 10, (.mv (.t 1)), none⟩,
 ⟨some 11, (.call (.f 16) [(.t 10)]), none⟩,
 ⟨some 12, (.fad 0 (.t 2)), none⟩,
 ⟨some 13, (.load true 2 (.t 12)), none⟩,
 ⟨some 14, (.call (.f 51) [(.t 11), (.t 13)]), none⟩,
 ⟨some 9, (.mv (.t 14)), none⟩,
 ⟨some 15, (.ext (.t 9) 0), none⟩,
 ⟨some 16, (.ext (.t 9) 1), none⟩,
 ⟨some 5, (.allocL (.agg [(.int .i64 (0)), (.int .i64 (0))])), none⟩,
 ⟨none, (.store 2 (.t 5) (.t 15)), none⟩,
 ⟨some 6, (.mv (.t 16)), none⟩]
 [(0, 2), (1, 2), (0, 3), (1, 3), (6, 7), (0, 8), (1, 8), (2, 8), (3, 8), (4, 8), (5, 8), (6, 8), (7, 8), (7, 9)] [1, 6, 9, 10, 11, 12, 13, 14, 15, 16])
 (.seq
 (.ops [⟨some 18, (.load true 2 (.t 5)), none⟩,
 ⟨some 19, (.fad 2 (.t 2)), none⟩,
 ⟨some 20, (.load true 2 (.t 19)), none⟩,
 ⟨some 21, (.call (.f 52) [(.t 18), (.t 20)]), none⟩,
 ⟨some 17, (.mv (.t 21)), none⟩,
 ⟨some 22, (.ext (.t 17) 0), none⟩,
 ⟨some 23, (.ext (.t 17) 1), none⟩,
 ⟨some 7, (.allocL (.agg [(.int .i64 (0)), (.int .i64 (0))])), none⟩,
 ⟨none, (.store 2 (.t 7) (.t 22)), none⟩,
 ⟨some 8, (.mv (.t 23)), none⟩]
 [] [2, 5, 8, 17, 18, 19, 20, 21, 22, 23])
 (.seq
 (.ops [⟨some 24, (.load true 2 (.t 7)), none⟩,
 ⟨none, (.store 2 (.t 4) (.t 24)), none⟩]
 [] [7, 24])
 .ret))))⟩
def loc29 : List Nat := [2, 4, 5, 7]
def fg29 : List (Nat × List Nat) := [(3, [7, 24]), (2, [2, 5, 8, 17, 18, 19, 20, 21, 22, 23]), (1, [1, 6, 9, 10, 11, 12, 13, 14, 15, 16]), (0, [0])]
theorem comp29 : compFn Try.prog loc29 (fun i => (fg29.lookup i).getD []) Try.f29 = some lit29 := by kernel_rfl

-- parcener/equal.part$1
def lit30 : AFn := ⟨4, [],
 (.seq
 (.ops [⟨some 8, (.load false 1 (.t 1)), none⟩,
 ⟨some 9, (.len (.t 8)), none⟩,
 ⟨some 10, (.mv (.c (.int .i64 (0)))), none⟩]
 [] [])
 (.block 0
 (.loop
 (.seq
 (.ops [⟨some 11, (.bin .lss (.t 10) (.t 9)), none⟩]
 [] [])
 (.seq
 (.cond (.t 11)
 .skip
 (.exit 0))
 (.seq
 (.block 1
 (.seq
 (.ops [⟨some 12, (.mv (.t 10)), none⟩,
 ⟨some 13, (.iad 1 (.t 8) (.t 10)), none⟩,
 ⟨some 14, (.load false 1 (.t 13)), none⟩,
 ⟨some 5, (.mv (.t 12)), none⟩,
 ⟨some 6, (.mv (.t 14)), none⟩]
 [] [11, 12, 13, 14])
 (.seq
 (.ops [⟨some 15, (.mv (.t 0)), none⟩,
 ⟨some 16, (.load false 1 (.t 2)), none⟩,
 ⟨some 17, (.mv (.t 5)), none⟩,
 ⟨some 18, (.iad 4 (.t 16) (.t 17)), none⟩,
 ⟨some 19, (.load true 4 (.t 18)), none⟩,
 ⟨some 20, (.mv (.t 6)), none⟩,
 ⟨some 21, (.nilchk (.t 20)), none⟩,
 ⟨some 22, (.fad 0 (.t 21)), none⟩,
 ⟨some 23, (.fad 1 (.t 22)), none⟩,
 ⟨some 24, (.load false 1 (.t 23)), none⟩,
 ⟨some 25, (.mv (.t 6)), none⟩,
 ⟨some 26, (.nilchk (.t 25)), none⟩,
 ⟨some 27, (.fad 6 (.t 26)), none⟩,
 ⟨some 28, (.load false 1 (.t 27)), none⟩,
 ⟨some 29, (.bin .add (.t 28) (.c (.int .i64 (1)))), none⟩,
 ⟨some 30, (.iad 1 (.t 24) (.t 29)), none⟩,
 ⟨some 31, (.load false 1 (.t 30)), none⟩,
 ⟨some 32, (.call (.f 29) [(.t 19), (.t 31)]), none⟩,
 ⟨some 33, (.mv (.t 6)), none⟩,
 ⟨some 34, (.nilchk (.t 33)), none⟩,
 ⟨some 35, (.fad 6 (.t 34)), none⟩,
 ⟨some 36, (.call (.t 15) [(.t 32), (.t 35)]), none⟩]
 [(0, 1), (0, 2), (1, 2), (0, 3), (0, 4), (0, 5), (1, 5), (2, 5), (3, 5), (4, 5), (0, 6), (1, 6), (2, 6), (3, 6), (4, 6), (0, 7), (1, 7), (2, 7), (3, 7), (4, 7), (0, 8), (1, 8), (2, 8), (3, 8), (4, 8), (0, 9), (1, 9), (2, 9), (3, 9), (4, 9), (0, 10), (1, 10), (2, 10), (3, 10), (4, 10), (5, 10), (6, 10), (7, 10), (8, 10), (9, 10), (0, 11), (1, 11), (2, 11), (3, 11), (4, 11), (5, 11), (6, 11), (7, 11), (8, 11), (9, 11), (0, 12), (1, 12), (2, 12), (3, 12), (4, 12), (5, 12), (6, 12), (7, 12), (8, 12), (9, 12), (0, 13), (1, 13), (2, 13), (3, 13), (4, 13), (5, 13), (6, 13), (7, 13), (8, 13), (9, 13), (0, 14), (1, 14), (2, 14), (3, 14), (4, 14), (5, 14), (6, 14), (7, 14), (8, 14), (9, 14), (0, 15), (1, 15), (2, 15), (3, 15), (4, 15), (0, 16), (1, 16), (2, 16), (3, 16), (4, 16), (0, 17), (0, 18), (1, 18), (2, 18), (3, 18), (4, 18), (5, 18), (6, 18), (7, 18), (8, 18), (9, 18), (10, 18), (11, 18), (12, 18), (13, 18), (14, 18), (15, 18), (16, 18), (17, 18), (0, 19), (1, 19), (2, 19), (3, 19), (4, 19), (5, 19), (6, 19), (7, 19), (8, 19), (9, 19), (10, 19), (11, 19), (12, 19), (13, 19), (14, 19), (15, 19), (16, 19), (17, 19), (0, 20), (1, 20), (2, 20), (3, 20), (4, 20), (5, 20), (6, 20), (7, 20), (8, 20), (9, 20), (10, 20), (11, 20), (12, 20), (13, 20), (14, 20), (15, 20), (16, 20), (17, 20)] [6, 15, 16, 17, 18, 19, 20, 21, 22, 23, 24, 25, 26, 27, 28, 29, 30, 31, 32, 33, 34, 35, 36])
 (.seq
 (.ops [⟨some 37, (.mv (.t 5)), none⟩,
 ⟨some 38, (.load false 1 (.t 3)), none⟩,
 ⟨some 39, (.bin .lss (.t 37) (.t 38)), none⟩]
 [] [37, 38])
 (.cond (.t 39)
 (.seq
 (.ops [⟨some 40, (.load false 1 (.t 1)), none⟩,
 ⟨some 41, (.mv (.t 5)), none⟩,
 ⟨some 42, (.bin .add (.t 41) (.c (.int .i64 (1)))), none⟩,
 ⟨some 43, (.iad 1 (.t 40) (.t 42)), none⟩,
 ⟨some 44, (.load false 1 (.t 43)), none⟩,
 ⟨some 7, (.mv (.t 44)), none⟩]
 [] [39, 40, 41, 42, 43, 44])
 (.ops [⟨some 45, (.mv (.t 0)), none⟩,
 ⟨some 46, (.load false 1 (.t 2)), none⟩,
 ⟨some 47, (.mv (.t 5)), none⟩,
 ⟨some 48, (.iad 4 (.t 46) (.t 47)), none⟩,
 ⟨some 49, (.load true 4 (.t 48)), none⟩,
 ⟨some 50, (.mv (.t 7)), none⟩,
 ⟨some 51, (.nilchk (.t 50)), none⟩,
 ⟨some 52, (.fad 0 (.t 51)), none⟩,
 ⟨some 53, (.fad 1 (.t 52)), none⟩,
 ⟨some 54, (.load false 1 (.t 53)), none⟩,
 ⟨some 55, (.mv (.t 7)), none⟩,
 ⟨some 56, (.nilchk (.t 55)), none⟩,
 ⟨some 57, (.fad 5 (.t 56)), none⟩,
 ⟨some 58, (.load false 1 (.t 57)), none⟩,
 ⟨some 59, (.bin .add (.t 58) (.c (.int .i64 (1)))), none⟩,
 ⟨some 60, (.iad 1 (.t 54) (.t 59)), none⟩,
 ⟨some 61, (.load false 1 (.t 60)), none⟩,
 ⟨some 62, (.call (.f 29) [(.t 49), (.t 61)]), none⟩,
 ⟨some 63, (.mv (.t 7)), none⟩,
 ⟨some 64, (.nilchk (.t 63)), none⟩,
 ⟨some 65, (.fad 5 (.t 64)), none⟩,
 ⟨some 66, (.call (.t 45) [(.t 62), (.t 65)]), none⟩]
 [(0, 1), (0, 2), (1, 2), (0, 3), (0, 4), (0, 5), (1, 5), (2, 5), (3, 5), (4, 5), (0, 6), (1, 6), (2, 6), (3, 6), (4, 6), (0, 7), (1, 7), (2, 7), (3, 7), (4, 7), (0, 8), (1, 8), (2, 8), (3, 8), (4, 8), (0, 9), (1, 9), (2, 9), (3, 9), (4, 9), (0, 10), (1, 10), (2, 10), (3, 10), (4, 10), (5, 10), (6, 10), (7, 10), (8, 10), (9, 10), (0, 11), (1, 11), (2, 11), (3, 11), (4, 11), (5, 11), (6, 11), (7, 11), (8, 11), (9, 11), (0, 12), (1, 12), (2, 12), (3, 12), (4, 12), (5, 12), (6, 12), (7, 12), (8, 12), (9, 12), (0, 13), (1, 13), (2, 13), (3, 13), (4, 13), (5, 13), (6, 13), (7, 13), (8, 13), (9, 13), (0, 14), (1, 14), (2, 14), (3, 14), (4, 14), (5, 14), (6, 14), (7, 14), (8, 14), (9, 14), (0, 15), (1, 15), (2, 15), (3, 15), (4, 15), (0, 16), (1, 16), (2, 16), (3, 16), (4, 16), (0, 17), (0, 18), (1, 18), (2, 18), (3, 18), (4, 18), (5, 18), (6, 18), (7, 18), (8, 18), (9, 18), (10, 18), (11, 18), (12, 18), (13, 18), (14, 18), (15, 18), (16, 18), (17, 18), (0, 19), (1, 19), (2, 19), (3, 19), (4, 19), (5, 19), (6, 19), (7, 19), (8, 19), (9, 19), (10, 19), (11, 19), (12, 19), (13, 19), (14, 19), (15, 19), (16, 19), (17, 19), (0, 20), (1, 20), (2, 20), (3, 20), (4, 20), (5, 20), (6, 20), (7, 20), (8, 20), (9, 20), (10, 20), (11, 20), (12, 20), (13, 20), (14, 20), (15, 20), (16, 20), (17, 20)] [5, 7, 45, 46, 47, 48, 49, 50, 51, 52, 53, 54, 55, 56, 57, 58, 59, 60, 61, 62, 63, 64, 65, 66]))
 .skip)))))
 (.ops [⟨some 67, (.bin .add (.t 10) (.c (.int .i64 (1)))), none⟩,
 ⟨some 10, (.mv (.t 67)), none⟩]
 [] [5, 39, 67])))))))⟩
def loc30 : List Nat := []
def fg30 : List (Nat × List Nat) := [(7, [5, 39, 67]), (6, [5, 7, 45, 46, 47, 48, 49, 50, 51, 52, 53, 54, 55, 56, 57, 58, 59, 60, 61, 62, 63, 64, 65, 66]), (5, [39, 40, 41, 42, 43, 44]), (4, [37, 38]), (3, [6, 15, 16, 17, 18, 19, 20, 21, 22, 23, 24, 25, 26, 27, 28, 29, 30, 31, 32, 33, 34, 35, 36]), (2, [11, 12, 13, 14])]
theorem comp30 : compFn Try.prog loc30 (fun i => (fg30.lookup i).getD []) Try.f30 = some lit30 := by kernel_rfl

-- parcener/equal.part$2
def lit31 : AFn := ⟨3, [],
 (.seq
 (.ops [⟨some 3, (.boxL (.t 0)), none⟩]
 [] [0, 1])
 (.seq
 (.ops [⟨some 5, (.load true 2 (.t 3)), none⟩,
 ⟨some 6, (.load true 2 (.t 2)), none⟩,
 ⟨some 7, (.call (.f 20) [(.t 5), (.t 6)]), none⟩]
 [] [5, 6])
 (.cond (.t 7)
 (.ops [⟨some 8, (.load true 2 (.t 3)), none⟩,
 ⟨none, (.store 2 (.t 2) (.t 8)), none⟩]
 [] [2, 3, 7, 8])
 .skip)))⟩
def loc31 : List Nat := [3, 1000003]
def fg31 : List (Nat × List Nat) := [(2, [2, 3, 7, 8]), (1, [5, 6]), (0, [0, 1])]
theorem comp31 : compFn Try.prog loc31 (fun i => (fg31.lookup i).getD []) Try.f31 = some lit31 := by kernel_rfl

-- parcener/equal.part$3
def lit32 : AFn := ⟨4, [],
 (.seq
 (.ops [⟨some 4, (.boxL (.t 0)), none⟩]
 [] [0])
 (.seq
 (.ops [⟨some 6, (.load true 2 (.t 4)), none⟩,
 ⟨some 7, (.load true 2 (.t 2)), none⟩,
 ⟨some 8, (.eqA false 2 [(0, (some .i64)), (1, (some .i64))] (.t 6) (.t 7)), none⟩]
 [] [2, 4, 6, 7])
 (.cond (.t 8)
 (.ops [⟨some 9, (.load false 1 (.t 3)), none⟩,
 ⟨some 10, (.mv (.t 1)), none⟩,
 ⟨some 11, (.buildSl false 1 .nilp 1 [(0, (.t 10))]), none⟩,
 ⟨some 12, (.app false 1 8 (.t 9) (.t 11)), none⟩,
 ⟨none, (.store 1 (.t 3) (.t 12)), none⟩]
 [] [1, 3, 8, 9, 10, 11, 12])
 .skip)))⟩
def loc32 : List Nat := [11, 4, 1000004]
def fg32 : List (Nat × List Nat) := [(2, [1, 3, 8, 9, 10, 11, 12]), (1, [2, 4, 6, 7]), (0, [0])]
theorem comp32 : compFn Try.prog loc32 (fun i => (fg32.lookup i).getD []) Try.f32 = some lit32 := by kernel_rfl

-- parcener/parcenerref03.Same
def lit33 : AFn := ⟨2, [.tmp 4],
 (.seq
 (.ops [⟨some 4, (.mv (.c (.bool false))), none⟩]
 [] [4])
 (.seq
 (.seq
 (.ops [⟨some 6, (.mv (.t 0)), none⟩,
 ⟨some 7, (.len (.t 6)), none⟩,
 ⟨some 8, (.mv (.t 1)), none⟩,
 ⟨some 9, (.len (.t 8)), none⟩,
 ⟨some 10, (.bin .neq (.t 7) (.t 9)), none⟩]
 [] [6, 7, 8, 9])
 (.cond (.t 10)
 (.seq
 (.ops [⟨some 4, (.mv (.c (.bool false))), none⟩]
 [] [0, 1, 10])
 .ret)
 .skip))
 (.seq
 (.seq
 (.ops [⟨some 5, (.mv (.c (.int .i64 (0)))), none⟩]
 [] [10])
 (.block 0
 (.loop
 (.seq
 (.seq
 (.ops [⟨some 11, (.mv (.t 5)), none⟩,
 ⟨some 12, (.mv (.t 0)), none⟩,
 ⟨some 13, (.len (.t 12)), none⟩,
 ⟨some 14, (.bin .lss (.t 11) (.t 13)), none⟩]
 [] [11, 12, 13])
 (.cond (.t 14)
 .skip
 (.exit 0)))
 (.seq
 (.block 1
 (.seq
 (.ops [⟨some 17, (.mv (.t 0)), none⟩,
 ⟨some 18, (.mv (.t 5)), none⟩,
 ⟨some 19, (.iad 4 (.t 17) (.t 18)), none⟩,
 ⟨some 20, (.load true 4 (.t 19)), none⟩,
 ⟨some 21, (.mv (.t 1)), none⟩,
 ⟨some 22, (.mv (.t 5)), none⟩,
 ⟨some 23, (.iad 4 (.t 21) (.t 22)), none⟩,
 ⟨some 24, (.load true 4 (.t 23)), none⟩,
 ⟨some 25, (.eqA true 4 [(0, (some .i64)), (1, (some .i64)), (2, (some .i64)), (3, (some .i64))] (.t 20) (.t 24)), none⟩]
 [(0, 1), (0, 4), (1, 4), (2, 4), (3, 4), (0, 5), (1, 5), (2, 5), (3, 5), (4, 5), (0, 6), (1, 6), (2, 6), (3, 6), (0, 7), (1, 7), (2, 7), (3, 7)] [14, 17, 18, 19, 20, 21, 22, 23, 24])
 (.cond (.t 25)
 (.seq
 (.ops [⟨some 4, (.mv (.c (.bool false))), none⟩]
 [] [0, 1, 5, 25])
 .ret)
 .skip)))
 (.ops [⟨some 15, (.mv (.t 5)), none⟩,
 ⟨some 16, (.bin .add (.t 15) (.c (.int .i64 (1)))), none⟩,
 ⟨some 5, (.mv (.t 16)), none⟩]
 [] [15, 16, 25]))))))
 (.seq
 (.ops [⟨some 4, (.mv (.c (.bool true))), none⟩]
 [] [0, 1, 5, 14])
 .ret))))⟩
def loc33 : List Nat := []
def fg33 : List (Nat × List Nat) := [(8, [0, 1, 5, 14]), (5, [15, 16, 25]), (7, [0, 1, 5, 25]), (6, [14, 17, 18, 19, 20, 21, 22, 23, 24]), (4, [11, 12, 13]), (3, [10]), (2, [0, 1, 10]), (1, [6, 7, 8, 9]), (0, [4])]
theorem comp33 : compFn Try.prog loc33 (fun i => (fg33.lookup i).getD []) Try.f33 = some lit33 := by kernel_rfl

-- parcener/ask.Check
def lit34 : AFn := ⟨1, [.tmp 2],
 (.seq
 (.ops [⟨some 1, (.boxL (.t 0)), none⟩,
 ⟨some 2, (.mv (.c (.int .i64 (0)))), none⟩]
 [] [0, 2])
 (.seq
 (.seq
 (.ops [⟨some 8, (.fad 0 (.t 1)), none⟩,
 ⟨some 9, (.load false 1 (.t 8)), none⟩,
 ⟨some 10, (.len (.t 9)), none⟩,
 ⟨some 11, (.bin .gtr (.t 10) (.c (.int .i64 (6)))), none⟩,
 ⟨some 12, (.mv (.t 11)), none⟩,
 ⟨some 13, (.fad 1 (.t 1)), some (12, false)⟩,
 ⟨some 14, (.load false 1 (.t 13)), some (12, false)⟩,
 ⟨some 15, (.len (.t 14)), some (12, false)⟩,
 ⟨some 16, (.bin .gtr (.t 15) (.c (.int .i64 (2000)))), some (12, false)⟩,
 ⟨some 17, (.pick (.t 12) (.c (.bool true)) (.t 16)), none⟩]
 [] [8, 9, 10, 11, 12, 13, 14, 15, 16])
 (.cond (.t 17)
 (.seq
 (.ops [⟨some 2, (.mv (.c (.int .i64 (4)))), none⟩]
 [] [1, 17])
 .ret)
 .skip))
 (.seq
 (.seq
 (.ops [⟨some 18, (.fad 0 (.t 1)), none⟩,
 ⟨some 19, (.load false 1 (.t 18)), none⟩,
 ⟨some 20, (.len (.t 19)), none⟩,
 ⟨some 21, (.bin .eql (.t 20) (.c (.int .i64 (0)))), none⟩]
 [] [17, 18, 19, 20])
 (.cond (.t 21)
 (.seq
 (.ops [⟨some 2, (.mv (.c (.int .i64 (8)))), none⟩]
 [] [1, 21])
 .ret)
 .skip))
 (.seq
 (.seq
 (.ops [⟨some 22, (.fad 0 (.t 1)), none⟩,
 ⟨some 23, (.load false 1 (.t 22)), none⟩,
 ⟨some 24, (.len (.t 23)), none⟩,
 ⟨some 25, (.mv (.c (.int .i64 (0)))), none⟩]
 [] [21, 22])
 (.block 0
 (.loop
 (.seq
 (.ops [⟨some 26, (.bin .lss (.t 25) (.t 24)), none⟩]
 [] [])
 (.seq
 (.cond (.t 26)
 .skip
 (.exit 0))
 (.seq
 (.block 1
 (.seq
 (.ops [⟨some 27, (.iad 3 (.t 23) (.t 25)), none⟩,
 ⟨some 28, (.load true 3 (.t 27)), none⟩,
 ⟨some 4, (.allocL (.agg [(.int .i64 (0)), .nils, .nils])), none⟩,
 ⟨none, (.store 3 (.t 4) (.t 28)), none⟩]
 [] [26, 27, 28])
 (.seq
 (.ops [⟨some 29, (.load true 3 (.t 4)), none⟩,
 ⟨some 30, (.call (.f 43) [(.t 29)]), none⟩,
 ⟨some 5, (.mv (.t 30)), none⟩]
 [] [4, 29, 30])
 (.seq
 (.ops [⟨some 31, (.mv (.t 5)), none⟩,
 ⟨some 32, (.bin .neq (.t 31) (.c (.int .i64 (0)))), none⟩]
 [] [31])
 (.cond (.t 32)
 (.seq
 (.ops [⟨some 33, (.mv (.t 5)), none⟩,
 ⟨some 2, (.mv (.t 33)), none⟩]
 [] [1, 5, 23, 24, 25, 32, 33])
 .ret)
 .skip)))))
 (.ops [⟨some 34, (.bin .add (.t 25) (.c (.int .i64 (1)))), none⟩,
 ⟨some 25, (.mv (.t 34)), none⟩]
 [] [5, 32, 34])))))))
 (.seq
 (.seq
 (.ops [⟨some 35, (.fad 0 (.t 1)), none⟩,
 ⟨some 36, (.load false 1 (.t 35)), none⟩,
 ⟨some 37, (.len (.t 36)), none⟩,
 ⟨some 38, (.mv (.c (.int .i64 (0)))), none⟩]
 [] [23, 24, 25, 26, 35])
 (.block 2
 (.loop
 (.seq
 (.ops [⟨some 39, (.bin .lss (.t 38) (.t 37)), none⟩]
 [] [])
 (.seq
 (.cond (.t 39)
 .skip
 (.exit 2))
 (.seq
 (.block 3
 (.seq
 (.ops [⟨some 40, (.iad 3 (.t 36) (.t 38)), none⟩,
 ⟨some 41, (.load true 3 (.t 40)), none⟩,
 ⟨some 7, (.allocL (.agg [(.int .i64 (0)), .nils, .nils])), none⟩,
 ⟨none, (.store 3 (.t 7) (.t 41)), none⟩]
 [] [39, 40, 41])
 (.seq
 (.ops [⟨some 42, (.fad 0 (.t 7)), none⟩,
 ⟨some 43, (.load false 1 (.t 42)), none⟩,
 ⟨some 44, (.fad 0 (.t 1)), none⟩,
 ⟨some 45, (.load false 1 (.t 44)), none⟩,
 ⟨some 46, (.iad 3 (.t 45) (.c (.int .i64 (0)))), none⟩,
 ⟨some 47, (.fad 0 (.t 46)), none⟩,
 ⟨some 48, (.load false 1 (.t 47)), none⟩,
 ⟨some 49, (.bin .neq (.t 43) (.t 48)), none⟩]
 [(0, 2), (1, 2), (0, 3), (1, 3), (0, 4), (1, 4), (0, 5), (1, 5), (0, 6), (1, 6)] [7, 42, 43, 44, 45, 46, 47, 48])
 (.cond (.t 49)
 (.seq
 (.ops [⟨some 2, (.mv (.c (.int .i64 (8)))), none⟩]
 [] [1, 36, 37, 38, 49])
 .ret)
 .skip))))
 (.ops [⟨some 50, (.bin .add (.t 38) (.c (.int .i64 (1)))), none⟩,
 ⟨some 38, (.mv (.t 50)), none⟩]
 [] [49, 50])))))))
 (.seq
 (.ops [⟨some 2, (.mv (.c (.int .i64 (0)))), none⟩]
 [] [1, 36, 37, 38, 39])
 .ret))))))⟩
def loc34 : List Nat := [1, 4, 7]
def fg34 : List (Nat × List Nat) := [(18, [1, 36, 37, 38, 39]), (17, [49, 50]), (16, [1, 36, 37, 38, 49]), (15, [7, 42, 43, 44, 45, 46, 47, 48]), (14, [39, 40, 41]), (12, [23, 24, 25, 26, 35]), (11, [5, 32, 34]), (10, [1, 5, 23, 24, 25, 32, 33]), (9, [31]), (8, [4, 29, 30]), (7, [26, 27, 28]), (5, [21, 22]), (4, [1, 21]), (3, [17, 18, 19, 20]), (2, [1, 17]), (1, [8, 9, 10, 11, 12, 13, 14, 15, 16]), (0, [0, 2])]
theorem comp34 : compFn Try.prog loc34 (fun i => (fg34.lookup i).getD []) Try.f34 = some lit34 := by kernel_rfl

-- slices.ContainsFunc[[]parcener/api.Cake,parcener/api.Cake]
def lit35 : AFn := ⟨2, [.tmp 4],
 (.seq
 (.ops [⟨some 4, (.mv (.c (.bool false))), none⟩]
 [] [4])
 (.seq
 (.ops [⟨some 5, (.mv (.t 0)), none⟩,
 ⟨some 6, (.mv (.t 1)), none⟩,
 ⟨some 7, (.call (.f 58) [(.t 5), (.t 6)]), none⟩,
 ⟨some 8, (.bin .geq (.t 7) (.c (.int .i64 (0)))), none⟩,
 ⟨some 4, (.mv (.t 8)), none⟩]
 [] [0, 1, 5, 6, 7, 8])
 .ret))⟩
def loc35 : List Nat := []
def fg35 : List (Nat × List Nat) := [(1, [0, 1, 5, 6, 7, 8]), (0, [4])]
theorem comp35 : compFn Try.prog loc35 (fun i => (fg35.lookup i).getD []) Try.f35 = some lit35 := by kernel_rfl

-- parcener/equal.check$1
def lit36 : AFn := ⟨1, [.tmp 2],
 (.seq
 (.ops [⟨some 1, (.boxL (.t 0)), none⟩,
 ⟨some 2, (.mv (.c (.bool false))), none⟩]
 [] [0, 2])
 (.seq
 (.ops [⟨some 3, (.fad 2 (.t 1)), none⟩,
 ⟨some 4, (.load false 1 (.t 3)), none⟩,
 ⟨some 5, (.call (.f 37) [(.t 4), (.c (.int .i64 (0)))]), none⟩,
 ⟨some 2, (.mv (.t 5)), none⟩]
 [] [1, 3, 4, 5])
 .ret))⟩
def loc36 : List Nat := [1, 1000001]
def fg36 : List (Nat × List Nat) := [(1, [1, 3, 4, 5]), (0, [0, 2])]
theorem comp36 : compFn Try.prog loc36 (fun i => (fg36.lookup i).getD []) Try.f36 = some lit36 := by kernel_rfl

-- slices.Contains[[]int,int]
def lit37 : AFn := ⟨2, [.tmp 4],
 (.seq
 (.ops [⟨some 4, (.mv (.c (.bool false))), none⟩]
 [] [4])
 (.seq
 (.ops [⟨some 5, (.mv (.t 0)), none⟩,
 ⟨some 6, (.mv (.t 1)), none⟩,
 ⟨some 7, (.call (.f 59) [(.t 5), (.t 6)]), none⟩,
 ⟨some 8, (.bin .geq (.t 7) (.c (.int .i64 (0)))), none⟩,
 ⟨some 4, (.mv (.t 8)), none⟩]
 [] [0, 1, 5, 6, 7, 8])
 .ret))⟩
def loc37 : List Nat := []
def fg37 : List (Nat × List Nat) := [(1, [0, 1, 5, 6, 7, 8]), (0, [4])]
theorem comp37 : compFn Try.prog loc37 (fun i => (fg37.lookup i).getD []) Try.f37 = some lit37 := by kernel_rfl

-- parcener/equal.orders$1
def lit38 : AFn := ⟨2, [],
 (.seq
 (.ops [⟨some 2, (.boxH false 1 (.t 0)), none⟩]
 [] [0])
 (.seq
 (.ops [⟨some 3, (.allocH false 1 .nilf), none⟩]
 [] [])
 (.seq
 (.ops [⟨some 4, (.mkFn (.func 39) [] [(.t 1), (.t 2), (.t 3)]), none⟩,
 ⟨none, (.store 1 (.t 3) (.t 4)), none⟩]
 [] [1, 2, 4])
 (.ops [⟨some 5, (.load false 1 (.t 3)), none⟩,
 ⟨some 6, (.call (.t 5) [(.c .nils)]), none⟩]
 [] [3, 5, 6]))))⟩
def loc38 : List Nat := [1000002, 1000003]
def fg38 : List (Nat × List Nat) := [(3, [3, 5, 6]), (2, [1, 2, 4]), (0, [0])]
theorem comp38 : compFn Try.prog loc38 (fun i => (fg38.lookup i).getD []) Try.f38 = some lit38 := by kernel_rfl

-- parcener/equal.orders$1$1
def lit39 : AFn := ⟨4, [.tmp 5],
 (.seq
 (.ops [⟨some 5, (.mv (.c (.bool false))), none⟩]
 [] [5])
 (.seq
 (.seq
 (.ops [⟨some 7, (.mv (.t 0)), none⟩,
 ⟨some 8, (.len (.t 7)), none⟩,
 ⟨some 9, (.load false 1 (.t 1)), none⟩,
 ⟨some 10, (.bin .eql (.t 8) (.t 9)), none⟩]
 [] [7, 8, 9])
 (.cond (.t 10)
 (.seq
 (.ops [⟨some 11, (.load false 1 (.t 2)), none⟩,
 ⟨some 12, (.mv (.t 0)), none⟩,
 ⟨some 13, (.call (.t 11) [(.t 12)]), none⟩,
 ⟨some 5, (.mv (.t 13)), none⟩]
 [] [0, 1, 2, 3, 10, 11, 12, 13])
 .ret)
 .skip))
 (.seq
 (.seq
 (.ops [⟨some 14, (.load false 1 (.t 1)), none⟩,
 ⟨some 15, (.mv (.c (.int .i64 (0)))), none⟩]
 [] [1, 2, 10])
 (.block 0
 (.loop
 (.seq
 (.ops [⟨some 16, (.bin .lss (.t 15) (.t 14)), none⟩]
 [] [])
 (.seq
 (.cond (.t 16)
 .skip
 (.exit 0))
 (.seq
 (.block 1
 (.seq
 (.ops [⟨some 17, (.mv (.t 15)), none⟩,
 ⟨some 6, (.mv (.t 17)), none⟩]
 [] [16, 17])
 (.seq
 (.ops [⟨some 18, (.mv (.t 0)), none⟩,
 ⟨some 19, (.mv (.t 6)), none⟩,
 ⟨some 20, (.call (.f 37) [(.t 18), (.t 19)]), none⟩,
 ⟨some 21, (.un .not (.t 20)), none⟩,
 ⟨some 22, (.mv (.t 21)), none⟩,
 ⟨some 23, (.load false 1 (.t 3)), some (22, true)⟩,
 ⟨some 24, (.mv (.t 0)), some (22, true)⟩,
 ⟨some 25, (.mv (.t 0)), some (22, true)⟩,
 ⟨some 26, (.len (.t 25)), some (22, true)⟩,
 ⟨some 27, (.mv (.t 0)), some (22, true)⟩,
 ⟨some 28, (.len (.t 27)), some (22, true)⟩,
 ⟨some 29, (.slc 1 (.t 24) none (some (.t 26)) (some (.t 28))), some (22, true)⟩,
 ⟨some 30, (.mv (.t 6)), some (22, true)⟩,
 ⟨some 31, (.buildD 1 (.int .i64 (0)) 1 [(0, (.t 30))]), some (22, true)⟩,
 ⟨some 32, (.app true 1 8 (.t 29) (.t 31)), some (22, true)⟩,
 ⟨some 33, (.call (.t 23) [(.t 32)]), some (22, true)⟩,
 ⟨some 34, (.un .not (.t 33)), some (22, true)⟩,
 ⟨some 35, (.pick (.t 22) (.t 34) (.c (.bool false))), none⟩]
 [(0, 1), (5, 6), (5, 7), (6, 7), (5, 8), (6, 8), (5, 9), (6, 9), (7, 9), (8, 9), (5, 10), (6, 10), (7, 10), (8, 10), (5, 11), (5, 12), (6, 12), (7, 12), (8, 12), (9, 12), (10, 12), (11, 12), (5, 13), (6, 13), (7, 13), (8, 13), (9, 13), (10, 13), (11, 13), (5, 14)] [6, 18, 19, 20, 21, 22, 23, 24, 25, 26, 27, 28, 29, 30, 31, 32, 33, 34])
 (.cond (.t 35)
 (.seq
 (.ops [⟨some 5, (.mv (.c (.bool false))), none⟩]
 [] [0, 3, 14, 15, 35])
 .ret)
 .skip))))
 (.ops [⟨some 36, (.bin .add (.t 15) (.c (.int .i64 (1)))), none⟩,
 ⟨some 15, (.mv (.t 36)), none⟩]
 [] [35, 36])))))))
 (.seq
 (.ops [⟨some 5, (.mv (.c (.bool true))), none⟩]
 [] [0, 3, 14, 15, 16])
 .ret))))⟩
def loc39 : List Nat := [31]
def fg39 : List (Nat × List Nat) := [(9, [0, 3, 14, 15, 16]), (8, [35, 36]), (7, [0, 3, 14, 15, 35]), (6, [6, 18, 19, 20, 21, 22, 23, 24, 25, 26, 27, 28, 29, 30, 31, 32, 33, 34]), (5, [16, 17]), (3, [1, 2, 10]), (2, [0, 1, 2, 3, 10, 11, 12, 13]), (1, [7, 8, 9]), (0, [5])]
theorem comp39 : compFn Try.prog loc39 (fun i => (fg39.lookup i).getD []) Try.f39 = some lit39 := by kernel_rfl

-- parcener/ratio.Cmp
def lit40 : AFn := ⟨2, [.tmp 4, .tmp 5],
 (.seq
 (.ops [⟨some 2, (.boxL (.t 0)), none⟩,
 ⟨some 3, (.boxL (.t 1)), none⟩,
 ⟨some 4, (.mv (.c (.int .i64 (0)))), none⟩,
 ⟨some 5, (.mv (.c (.int .i64 (0)))), none⟩]
 [] [0, 1, 4, 5])
 (.seq
 (.seq
 (.ops [⟨some 12, (.load true 2 (.t 2)), none⟩,
 ⟨some 13, (.load true 2 (.t 3)), none⟩,
 ⟨some 14, (.call (.f 44) [(.t 12), (.t 13)]), none⟩,
 ⟨some 6, (.mv (.t 14)), none⟩]
 [] [12, 13, 14])
 (.seq
 (.ops [⟨some 15, (.mv (.t 6)), none⟩,
 ⟨some 16, (.bin .neq (.t 15) (.c (.int .i64 (0)))), none⟩]
 [] [15])
 (.cond (.t 16)
 (.seq
 (.ops [⟨some 17, (.mv (.t 6)), none⟩,
 ⟨some 4, (.mv (.c (.int .i64 (0)))), none⟩,
 ⟨some 5, (.mv (.t 17)), none⟩]
 [] [2, 3, 6, 16, 17])
 .ret)
 .skip)))
 (.seq
 (.seq
 (.ops [⟨some 18, (.fad 0 (.t 2)), none⟩,
 ⟨some 19, (.load false 1 (.t 18)), none⟩,
 ⟨some 20, (.bin .lss (.t 19) (.c (.int .i64 (0)))), none⟩,
 ⟨some 21, (.fad 0 (.t 3)), none⟩,
 ⟨some 22, (.load false 1 (.t 21)), none⟩,
 ⟨some 23, (.bin .lss (.t 22) (.c (.int .i64 (0)))), none⟩,
 ⟨some 24, (.eqB true (.t 20) (.t 23)), none⟩]
 [] [6, 16, 18, 19, 20, 21, 22, 23])
 (.cond (.t 24)
 (.seq
 (.ops [⟨some 25, (.fad 0 (.t 2)), none⟩,
 ⟨some 26, (.load false 1 (.t 25)), none⟩,
 ⟨some 27, (.fad 0 (.t 3)), none⟩,
 ⟨some 28, (.load false 1 (.t 27)), none⟩,
 ⟨some 29, (.call (.f 60) [(.t 26), (.t 28)]), none⟩,
 ⟨some 4, (.mv (.t 29)), none⟩,
 ⟨some 5, (.mv (.c (.int .i64 (0)))), none⟩]
 [] [2, 3, 24, 25, 26, 27, 28, 29])
 .ret)
 .skip))
 (.seq
 (.ops [⟨some 31, (.fad 0 (.t 2)), none⟩,
 ⟨some 32, (.load false 1 (.t 31)), none⟩,
 ⟨some 33, (.call (.f 41) [(.t 32)]), none⟩,
 ⟨some 34, (.fad 1 (.t 3)), none⟩,
 ⟨some 35, (.load false 1 (.t 34)), none⟩,
 ⟨some 36, (.conv .u64 (.t 35)), none⟩,
 ⟨some 37, (.call (.f 45) [(.t 33), (.t 36)]), none⟩,
 ⟨some 30, (.mv (.t 37)), none⟩,
 ⟨some 38, (.ext (.t 30) 0), none⟩,
 ⟨some 39, (.ext (.t 30) 1), none⟩,
 ⟨some 7, (.mv (.t 38)), none⟩,
 ⟨some 8, (.mv (.t 39)), none⟩]
 [(0, 3), (1, 3), (2, 3), (0, 4), (1, 4), (2, 4), (0, 5), (1, 5), (2, 5), (8, 9), (9, 10)] [24, 30, 31, 32, 33, 34, 35, 36, 37, 38, 39])
 (.seq
 (.ops [⟨some 41, (.fad 0 (.t 3)), none⟩,
 ⟨some 42, (.load false 1 (.t 41)), none⟩,
 ⟨some 43, (.call (.f 41) [(.t 42)]), none⟩,
 ⟨some 44, (.fad 1 (.t 2)), none⟩,
 ⟨some 45, (.load false 1 (.t 44)), none⟩,
 ⟨some 46, (.conv .u64 (.t 45)), none⟩,
 ⟨some 47, (.call (.f 45) [(.t 43), (.t 46)]), none⟩,
 ⟨some 40, (.mv (.t 47)), none⟩,
 ⟨some 48, (.ext (.t 40) 0), none⟩,
 ⟨some 49, (.ext (.t 40) 1), none⟩,
 ⟨some 9, (.mv (.t 48)), none⟩,
 ⟨some 10, (.mv (.t 49)), none⟩]
 [(0, 3), (1, 3), (2, 3), (0, 4), (1, 4), (2, 4), (0, 5), (1, 5), (2, 5), (8, 9), (9, 10)] [3, 40, 41, 42, 43, 44, 45, 46, 47, 48, 49])
 (.seq
 (.ops [⟨some 50, (.mv (.t 7)), none⟩,
 ⟨some 51, (.mv (.t 9)), none⟩,
 ⟨some 52, (.call (.f 62) [(.t 50), (.t 51)]), none⟩,
 ⟨some 53, (.mv (.t 8)), none⟩,
 ⟨some 54, (.mv (.t 10)), none⟩,
 ⟨some 55, (.call (.f 62) [(.t 53), (.t 54)]), none⟩,
 ⟨some 56, (.buildD 1 (.int .i64 (0)) 2 [(0, (.t 52)), (1, (.t 55))]), none⟩,
 ⟨some 57, (.call (.f 61) [(.t 56)]), none⟩,
 ⟨some 11, (.mv (.t 57)), none⟩]
 [] [7, 8, 9, 10, 50, 51, 52, 53, 54, 55, 56, 57])
 (.seq
 (.seq
 (.ops [⟨some 58, (.fad 0 (.t 2)), none⟩,
 ⟨some 59, (.load false 1 (.t 58)), none⟩,
 ⟨some 60, (.bin .lss (.t 59) (.c (.int .i64 (0)))), none⟩]
 [] [2, 58, 59])
 (.cond (.t 60)
 (.ops [⟨some 61, (.mv (.t 11)), none⟩,
 ⟨some 62, (.un .neg (.t 61)), none⟩,
 ⟨some 11, (.mv (.t 62)), none⟩]
 [] [60, 61, 62])
 .skip))
 (.seq
 (.ops [⟨some 63, (.mv (.t 11)), none⟩,
 ⟨some 4, (.mv (.t 63)), none⟩,
 ⟨some 5, (.mv (.c (.int .i64 (0)))), none⟩]
 [] [11, 60, 63])
 .ret))))))))⟩
def loc40 : List Nat := [56, 2, 3]
def fg40 : List (Nat × List Nat) := [(11, [11, 60, 63]), (10, [60, 61, 62]), (9, [2, 58, 59]), (8, [7, 8, 9, 10, 50, 51, 52, 53, 54, 55, 56, 57]), (7, [3, 40, 41, 42, 43, 44, 45, 46, 47, 48, 49]), (6, [24, 30, 31, 32, 33, 34, 35, 36, 37, 38, 39]), (5, [2, 3, 24, 25, 26, 27, 28, 29]), (4, [6, 16, 18, 19, 20, 21, 22, 23]), (3, [2, 3, 6, 16, 17]), (2, [15]), (1, [12, 13, 14]), (0, [0, 1, 4, 5])]
theorem comp40 : compFn Try.prog loc40 (fun i => (fg40.lookup i).getD []) Try.f40 = some lit40 := by kernel_rfl

-- parcener/ratio.size
def lit41 : AFn := ⟨1, [.tmp 2],
 (.seq
 (.ops [⟨some 2, (.mv (.c (.int .u64 (0)))), none⟩]
 [] [2])
 (.seq
 (.seq
 (.ops [⟨some 3, (.mv (.t 0)), none⟩,
 ⟨some 4, (.bin .lss (.t 3) (.c (.int .i64 (0)))), none⟩]
 [] [3])
 (.cond (.t 4)
 (.seq
 (.ops [⟨some 5, (.mv (.t 0)), none⟩,
 ⟨some 6, (.conv .u64 (.t 5)), none⟩,
 ⟨some 7, (.un .neg (.t 6)), none⟩,
 ⟨some 2, (.mv (.t 7)), none⟩]
 [] [0, 4, 5, 6, 7])
 .ret)
 .skip))
 (.seq
 (.ops [⟨some 8, (.mv (.t 0)), none⟩,
 ⟨some 9, (.conv .u64 (.t 8)), none⟩,
 ⟨some 2, (.mv (.t 9)), none⟩]
 [] [0, 4, 8, 9])
 .ret)))⟩
def loc41 : List Nat := []
def fg41 : List (Nat × List Nat) := [(3, [0, 4, 8, 9]), (2, [0, 4, 5, 6, 7]), (1, [3]), (0, [2])]
theorem comp41 : compFn Try.prog loc41 (fun i => (fg41.lookup i).getD []) Try.f41 = some lit41 := by kernel_rfl

-- parcener/ratio.gcd
def lit42 : AFn := ⟨2, [.tmp 4],
 (.seq
 (.ops [⟨some 4, (.mv (.c (.int .u64 (0)))), none⟩]
 [] [4])
 (.seq
 (.block 0
 (.loop
 (.seq
 (.seq
 (.ops [⟨some 5, (.mv (.t 1)), none⟩,
 ⟨some 6, (.bin .gtr (.t 5) (.c (.int .u64 (0)))), none⟩]
 [] [5])
 (.cond (.t 6)
 .skip
 (.exit 0)))
 (.block 1
 (.ops [⟨some 7, (.mv (.t 1)), none⟩,
 ⟨some 8, (.mv (.t 0)), none⟩,
 ⟨some 9, (.mv (.t 1)), none⟩,
 ⟨some 10, (.bin .rem (.t 8) (.t 9)), none⟩,
 ⟨some 0, (.mv (.t 7)), none⟩,
 ⟨some 1, (.mv (.t 10)), none⟩]
 [(0, 1), (0, 2), (1, 2), (0, 3), (2, 4), (3, 4)] [6, 7, 8, 9, 10])))))
 (.seq
 (.ops [⟨some 11, (.mv (.t 0)), none⟩,
 ⟨some 4, (.mv (.t 11)), none⟩]
 [] [0, 1, 6, 11])
 .ret)))⟩
def loc42 : List Nat := []
def fg42 : List (Nat × List Nat) := [(3, [0, 1, 6, 11]), (2, [6, 7, 8, 9, 10]), (1, [5]), (0, [4])]
theorem comp42 : compFn Try.prog loc42 (fun i => (fg42.lookup i).getD []) Try.f42 = some lit42 := by kernel_rfl

-- parcener/cake.Check
def lit43 : AFn := ⟨1, [.tmp 2],
 (.seq
 (.ops [⟨some 1, (.boxL (.t 0)), none⟩,
 ⟨some 2, (.mv (.c (.int .i64 (0)))), none⟩]
 [] [0, 2])
 (.seq
 (.ops [⟨some 5, (.fad 1 (.t 1)), none⟩,
 ⟨some 6, (.load false 1 (.t 5)), none⟩,
 ⟨some 7, (.len (.t 6)), none⟩,
 ⟨some 3, (.mv (.t 7)), none⟩]
 [] [5, 6, 7])
 (.seq
 (.seq
 (.ops [⟨some 8, (.fad 0 (.t 1)), none⟩,
 ⟨some 9, (.load false 1 (.t 8)), none⟩,
 ⟨some 10, (.bin .gtr (.t 9) (.c (.int .i64 (1000)))), none⟩,
 ⟨some 11, (.mv (.t 10)), none⟩,
 ⟨some 12, (.mv (.t 3)), some (11, false)⟩,
 ⟨some 13, (.bin .gtr (.t 12) (.c (.int .i64 (40)))), some (11, false)⟩,
 ⟨some 14, (.pick (.t 11) (.c (.bool true)) (.t 13)), none⟩]
 [] [8, 9, 10, 11, 12, 13])
 (.cond (.t 14)
 (.seq
 (.ops [⟨some 2, (.mv (.c (.int .i64 (4)))), none⟩]
 [] [1, 3, 14])
 .ret)
 .skip))
 (.seq
 (.seq
 (.ops [⟨some 15, (.fad 0 (.t 1)), none⟩,
 ⟨some 16, (.load false 1 (.t 15)), none⟩,
 ⟨some 17, (.bin .lss (.t 16) (.c (.int .i64 (1)))), none⟩,
 ⟨some 18, (.mv (.t 17)), none⟩,
 ⟨some 19, (.mv (.t 3)), some (18, false)⟩,
 ⟨some 20, (.bin .lss (.t 19) (.c (.int .i64 (2)))), some (18, false)⟩,
 ⟨some 21, (.pick (.t 18) (.c (.bool true)) (.t 20)), none⟩,
 ⟨some 22, (.mv (.t 21)), none⟩,
 ⟨some 23, (.fad 2 (.t 1)), some (22, false)⟩,
 ⟨some 24, (.load false 1 (.t 23)), some (22, false)⟩,
 ⟨some 25, (.len (.t 24)), some (22, false)⟩,
 ⟨some 26, (.mv (.t 3)), some (22, false)⟩,
 ⟨some 27, (.bin .sub (.t 26) (.c (.int .i64 (1)))), some (22, false)⟩,
 ⟨some 28, (.bin .neq (.t 25) (.t 27)), some (22, false)⟩,
 ⟨some 29, (.pick (.t 22) (.c (.bool true)) (.t 28)), none⟩,
 ⟨some 30, (.mv (.t 29)), none⟩,
 ⟨some 31, (.fad 1 (.t 1)), some (30, false)⟩,
 ⟨some 32, (.load false 1 (.t 31)), some (30, false)⟩,
 ⟨some 33, (.iad 1 (.t 32) (.c (.int .i64 (0)))), some (30, false)⟩,
 ⟨some 34, (.load false 1 (.t 33)), some (30, false)⟩,
 ⟨some 35, (.bin .neq (.t 34) (.c (.int .i64 (0)))), some (30, false)⟩,
 ⟨some 36, (.pick (.t 30) (.c (.bool true)) (.t 35)), none⟩,
 ⟨some 37, (.mv (.t 36)), none⟩,
 ⟨some 38, (.fad 1 (.t 1)), some (37, false)⟩,
 ⟨some 39, (.load false 1 (.t 38)), some (37, false)⟩,
 ⟨some 40, (.mv (.t 3)), some (37, false)⟩,
 ⟨some 41, (.bin .sub (.t 40) (.c (.int .i64 (1)))), some (37, false)⟩,
 ⟨some 42, (.iad 1 (.t 39) (.t 41)), some (37, false)⟩,
 ⟨some 43, (.load false 1 (.t 42)), some (37, false)⟩,
 ⟨some 44, (.fad 0 (.t 1)), some (37, false)⟩,
 ⟨some 45, (.load false 1 (.t 44)), some (37, false)⟩,
 ⟨some 46, (.bin .neq (.t 43) (.t 45)), some (37, false)⟩,
 ⟨some 47, (.pick (.t 37) (.c (.bool true)) (.t 46)), none⟩]
 [(8, 11), (9, 11), (10, 11), (8, 12), (9, 12), (10, 12), (23, 25), (24, 25), (23, 26), (24, 26), (23, 29), (24, 29), (25, 29), (26, 29), (27, 29), (28, 29), (23, 30), (24, 30), (25, 30), (26, 30), (27, 30), (28, 30)] [14, 15, 16, 17, 18, 19, 20, 21, 22, 23, 24, 25, 26, 27, 28, 29, 30, 31, 32, 33, 34, 35, 36, 37, 38, 39, 40, 41, 42, 43, 44, 45, 46])
 (.cond (.t 47)
 (.seq
 (.ops [⟨some 2, (.mv (.c (.int .i64 (8)))), none⟩]
 [] [1, 3, 47])
 .ret)
 .skip))
 (.seq
 (.seq
 (.ops [⟨some 48, (.mv (.t 3)), none⟩,
 ⟨some 49, (.bin .sub (.t 48) (.c (.int .i64 (1)))), none⟩,
 ⟨some 50, (.mv (.c (.int .i64 (0)))), none⟩]
 [] [3, 47, 48])
 (.block 0
 (.loop
 (.seq
 (.ops [⟨some 51, (.bin .lss (.t 50) (.t 49)), none⟩]
 [] [])
 (.seq
 (.cond (.t 51)
 .skip
 (.exit 0))
 (.seq
 (.block 1
 (.seq
 (.ops [⟨some 52, (.mv (.t 50)), none⟩,
 ⟨some 4, (.mv (.t 52)), none⟩]
 [] [51, 52])
 (.seq
 (.ops [⟨some 53, (.fad 1 (.t 1)), none⟩,
 ⟨some 54, (.load false 1 (.t 53)), none⟩,
 ⟨some 55, (.mv (.t 4)), none⟩,
 ⟨some 56, (.iad 1 (.t 54) (.t 55)), none⟩,
 ⟨some 57, (.load false 1 (.t 56)), none⟩,
 ⟨some 58, (.fad 1 (.t 1)), none⟩,
 ⟨some 59, (.load false 1 (.t 58)), none⟩,
 ⟨some 60, (.mv (.t 4)), none⟩,
 ⟨some 61, (.bin .add (.t 60) (.c (.int .i64 (1)))), none⟩,
 ⟨some 62, (.iad 1 (.t 59) (.t 61)), none⟩,
 ⟨some 63, (.load false 1 (.t 62)), none⟩,
 ⟨some 64, (.bin .geq (.t 57) (.t 63)), none⟩]
 [(0, 2), (1, 2), (0, 5), (1, 5), (2, 5), (3, 5), (4, 5), (0, 6), (1, 6), (2, 6), (3, 6), (4, 6), (0, 7), (1, 7), (2, 7), (3, 7), (4, 7), (5, 7), (6, 7), (0, 8), (1, 8), (2, 8), (3, 8), (4, 8), (5, 8), (6, 8), (0, 9), (1, 9), (2, 9), (3, 9), (4, 9), (0, 10), (1, 10), (2, 10), (3, 10), (4, 10)] [4, 53, 54, 55, 56, 57, 58, 59, 60, 61, 62, 63])
 (.cond (.t 64)
 (.seq
 (.ops [⟨some 2, (.mv (.c (.int .i64 (8)))), none⟩]
 [] [1, 49, 50, 64])
 .ret)
 .skip))))
 (.ops [⟨some 65, (.bin .add (.t 50) (.c (.int .i64 (1)))), none⟩,
 ⟨some 50, (.mv (.t 65)), none⟩]
 [] [64, 65])))))))
 (.seq
 (.seq
 (.ops [⟨some 66, (.fad 2 (.t 1)), none⟩,
 ⟨some 67, (.load false 1 (.t 66)), none⟩,
 ⟨some 68, (.call (.f 63) [(.t 67)]), none⟩,
 ⟨some 69, (.bin .lss (.t 68) (.c (.int .i64 (0)))), none⟩,
 ⟨some 70, (.mv (.t 69)), none⟩,
 ⟨some 71, (.fad 2 (.t 1)), some (70, false)⟩,
 ⟨some 72, (.load false 1 (.t 71)), some (70, false)⟩,
 ⟨some 73, (.call (.f 64) [(.t 72)]), some (70, false)⟩,
 ⟨some 74, (.bin .gtr (.t 73) (.c (.int .i64 (12)))), some (70, false)⟩,
 ⟨some 75, (.pick (.t 70) (.c (.bool true)) (.t 74)), none⟩,
 ⟨some 76, (.mv (.t 75)), none⟩,
 ⟨some 77, (.fad 2 (.t 1)), some (76, false)⟩,
 ⟨some 78, (.load false 1 (.t 77)), some (76, false)⟩,
 ⟨some 79, (.call (.f 64) [(.t 78)]), some (76, false)⟩,
 ⟨some 80, (.bin .eql (.t 79) (.c (.int .i64 (0)))), some (76, false)⟩,
 ⟨some 81, (.pick (.t 76) (.c (.bool true)) (.t 80)), none⟩]
 [] [1, 49, 50, 51, 66, 67, 68, 69, 70, 71, 72, 73, 74, 75, 76, 77, 78, 79, 80])
 (.cond (.t 81)
 (.seq
 (.ops [⟨some 2, (.mv (.c (.int .i64 (8)))), none⟩]
 [] [81])
 .ret)
 .skip))
 (.seq
 (.ops [⟨some 2, (.mv (.c (.int .i64 (0)))), none⟩]
 [] [81])
 .ret)))))))⟩
def loc43 : List Nat := [1]
def fg43 : List (Nat × List Nat) := [(14, [81]), (13, [81]), (12, [1, 49, 50, 51, 66, 67, 68, 69, 70, 71, 72, 73, 74, 75, 76, 77, 78, 79, 80]), (11, [64, 65]), (10, [1, 49, 50, 64]), (9, [4, 53, 54, 55, 56, 57, 58, 59, 60, 61, 62, 63]), (8, [51, 52]), (6, [3, 47, 48]), (5, [1, 3, 47]), (4, [14, 15, 16, 17, 18, 19, 20, 21, 22, 23, 24, 25, 26, 27, 28, 29, 30, 31, 32, 33, 34, 35, 36, 37, 38, 39, 40, 41, 42, 43, 44, 45, 46]), (3, [1, 3, 14]), (2, [8, 9, 10, 11, 12, 13]), (1, [5, 6, 7]), (0, [0, 2])]
theorem comp43 : compFn Try.prog loc43 (fun i => (fg43.lookup i).getD []) Try.f43 = some lit43 := by kernel_rfl

-- parcener/ratio.check
def lit44 : AFn := ⟨2, [.tmp 4],
 (.seq
 (.ops [⟨some 2, (.boxL (.t 0)), none⟩,
 ⟨some 3, (.boxL (.t 1)), none⟩,
 ⟨some 4, (.mv (.c (.int .i64 (0)))), none⟩]
 [] [0, 1, 4])
 (.seq
 (.ops [⟨some 5, (.load true 2 (.t 2)), none⟩,
 ⟨some 6, (.call (.f 21) [(.t 5)]), none⟩,
 ⟨some 7, (.load true 2 (.t 3)), none⟩,
 ⟨some 8, (.call (.f 21) [(.t 7)]), none⟩,
 ⟨some 9, (.buildD 1 (.int .i64 (0)) 2 [(0, (.t 6)), (1, (.t 8))]), none⟩,
 ⟨some 10, (.call (.f 65) [(.t 9)]), none⟩,
 ⟨some 4, (.mv (.t 10)), none⟩]
 [(0, 2), (1, 2)] [2, 3, 5, 6, 7, 8, 9, 10])
 .ret))⟩
def loc44 : List Nat := [9, 2, 3]
def fg44 : List (Nat × List Nat) := [(1, [2, 3, 5, 6, 7, 8, 9, 10]), (0, [0, 1, 4])]
theorem comp44 : compFn Try.prog loc44 (fun i => (fg44.lookup i).getD []) Try.f44 = some lit44 := by kernel_rfl

-- math/bits.Mul64
def lit45 : AFn := ⟨2, [.tmp 4, .tmp 5],
 (.seq
 (.ops [⟨some 4, (.mv (.c (.int .u64 (0)))), none⟩,
 ⟨some 5, (.mv (.c (.int .u64 (0)))), none⟩]
 [] [4, 5])
 (.seq
 (.ops [⟨some 14, (.mv (.t 0)), none⟩,
 ⟨some 15, (.bin .and (.t 14) (.c (.int .u64 (4294967295)))), none⟩,
 ⟨some 6, (.mv (.t 15)), none⟩]
 [] [14, 15])
 (.seq
 (.ops [⟨some 16, (.mv (.t 0)), none⟩,
 ⟨some 17, (.bin .shr (.t 16) (.c (.int .u64 (32)))), none⟩,
 ⟨some 7, (.mv (.t 17)), none⟩]
 [] [16, 17])
 (.seq
 (.ops [⟨some 18, (.mv (.t 1)), none⟩,
 ⟨some 19, (.bin .and (.t 18) (.c (.int .u64 (4294967295)))), none⟩,
 ⟨some 8, (.mv (.t 19)), none⟩]
 [] [18, 19])
 (.seq
 (.ops [⟨some 20, (.mv (.t 1)), none⟩,
 ⟨some 21, (.bin .shr (.t 20) (.c (.int .u64 (32)))), none⟩,
 ⟨some 9, (.mv (.t 21)), none⟩]
 [] [20, 21])
 (.seq
 (.ops [⟨some 22, (.mv (.t 6)), none⟩,
 ⟨some 23, (.mv (.t 8)), none⟩,
 ⟨some 24, (.bin .mul (.t 22) (.t 23)), none⟩,
 ⟨some 10, (.mv (.t 24)), none⟩]
 [] [22, 23, 24])
 (.seq
 (.ops [⟨some 25, (.mv (.t 7)), none⟩,
 ⟨some 26, (.mv (.t 8)), none⟩,
 ⟨some 27, (.bin .mul (.t 25) (.t 26)), none⟩,
 ⟨some 28, (.mv (.t 10)), none⟩,
 ⟨some 29, (.bin .shr (.t 28) (.c (.int .u64 (32)))), none⟩,
 ⟨some 30, (.bin .add (.t 27) (.t 29)), none⟩,
 ⟨some 11, (.mv (.t 30)), none⟩]
 [] [8, 10, 25, 26, 27, 28, 29, 30])
 (.seq
 (.ops [⟨some 31, (.mv (.t 11)), none⟩,
 ⟨some 32, (.bin .and (.t 31) (.c (.int .u64 (4294967295)))), none⟩,
 ⟨some 12, (.mv (.t 32)), none⟩]
 [] [31, 32])
 (.seq
 (.ops [⟨some 33, (.mv (.t 11)), none⟩,
 ⟨some 34, (.bin .shr (.t 33) (.c (.int .u64 (32)))), none⟩,
 ⟨some 13, (.mv (.t 34)), none⟩]
 [] [11, 33, 34])
 (.seq
 (.ops [⟨some 35, (.mv (.t 12)), none⟩,
 ⟨some 36, (.mv (.t 6)), none⟩,
 ⟨some 37, (.mv (.t 9)), none⟩,
 ⟨some 38, (.bin .mul (.t 36) (.t 37)), none⟩,
 ⟨some 39, (.bin .add (.t 35) (.t 38)), none⟩,
 ⟨some 12, (.mv (.t 39)), none⟩]
 [] [6, 35, 36, 37, 38, 39])
 (.seq
 (.ops [⟨some 40, (.mv (.t 7)), none⟩,
 ⟨some 41, (.mv (.t 9)), none⟩,
 ⟨some 42, (.bin .mul (.t 40) (.t 41)), none⟩,
 ⟨some 43, (.mv (.t 13)), none⟩,
 ⟨some 44, (.bin .add (.t 42) (.t 43)), none⟩,
 ⟨some 45, (.mv (.t 12)), none⟩,
 ⟨some 46, (.bin .shr (.t 45) (.c (.int .u64 (32)))), none⟩,
 ⟨some 47, (.bin .add (.t 44) (.t 46)), none⟩,
 ⟨some 4, (.mv (.t 47)), none⟩]
 [] [7, 9, 12, 13, 40, 41, 42, 43, 44, 45, 46, 47])
 (.seq
 (.ops [⟨some 48, (.mv (.t 0)), none⟩,
 ⟨some 49, (.mv (.t 1)), none⟩,
 ⟨some 50, (.bin .mul (.t 48) (.t 49)), none⟩,
 ⟨some 5, (.mv (.t 50)), none⟩]
 [] [0, 1, 48, 49, 50])
 .ret))))))))))))⟩
def loc45 : List Nat := []
def fg45 : List (Nat × List Nat) := [(11, [0, 1, 48, 49, 50]), (10, [7, 9, 12, 13, 40, 41, 42, 43, 44, 45, 46, 47]), (9, [6, 35, 36, 37, 38, 39]), (8, [11, 33, 34]), (7, [31, 32]), (6, [8, 10, 25, 26, 27, 28, 29, 30]), (5, [22, 23, 24]), (4, [20, 21]), (3, [18, 19]), (2, [16, 17]), (1, [14, 15]), (0, [4, 5])]
theorem comp45 : compFn Try.prog loc45 (fun i => (fg45.lookup i).getD []) Try.f45 = some lit45 := by kernel_rfl

-- parcener/ratio.signed
def lit46 : AFn := ⟨3, [.cell 6 true 2, .tmp 7],
 (.seq
 (.ops [⟨some 6, (.allocL (.agg [(.int .i64 (0)), (.int .i64 (0))])), none⟩,
 ⟨some 7, (.mv (.c (.int .i64 (0)))), none⟩]
 [] [7])
 (.seq
 (.seq
 (.ops [⟨some 8, (.mv (.t 1)), none⟩,
 ⟨some 9, (.mv (.t 2)), none⟩,
 ⟨some 10, (.minmax true [(.t 8), (.t 9)]), none⟩,
 ⟨some 11, (.bin .gtr (.t 10) (.c (.int .u64 (1000000000000000000)))), none⟩]
 [] [8, 9, 10])
 (.cond (.t 11)
 (.seq
 (.ops [⟨some 12, (.build [(.int .i64 (0)), (.int .i64 (0))] []), none⟩,
 ⟨none, (.store 2 (.t 6) (.t 12)), none⟩,
 ⟨some 7, (.mv (.c (.int .i64 (16)))), none⟩]
 [] [0, 1, 2, 11, 12])
 .ret)
 .skip))
 (.seq
 (.seq
 (.ops [⟨some 13, (.mv (.t 0)), none⟩]
 [] [0, 11])
 (.cond (.t 13)
 (.seq
 (.ops [⟨some 14, (.mv (.t 1)), none⟩,
 ⟨some 15, (.conv .i64 (.t 14)), none⟩,
 ⟨some 16, (.un .neg (.t 15)), none⟩,
 ⟨some 17, (.mv (.t 2)), none⟩,
 ⟨some 18, (.conv .i64 (.t 17)), none⟩,
 ⟨some 19, (.build [(.int .i64 (0)), (.int .i64 (0))] [(0, 1, (.t 16)), (1, 1, (.t 18))]), none⟩,
 ⟨none, (.store 2 (.t 6) (.t 19)), none⟩,
 ⟨some 7, (.mv (.c (.int .i64 (0)))), none⟩]
 [] [1, 2, 13, 14, 15, 16, 17, 18, 19])
 .ret)
 .skip))
 (.seq
 (.ops [⟨some 20, (.mv (.t 1)), none⟩,
 ⟨some 21, (.conv .i64 (.t 20)), none⟩,
 ⟨some 22, (.mv (.t 2)), none⟩,
 ⟨some 23, (.conv .i64 (.t 22)), none⟩,
 ⟨some 24, (.build [(.int .i64 (0)), (.int .i64 (0))] [(0, 1, (.t 21)), (1, 1, (.t 23))]), none⟩,
 ⟨none, (.store 2 (.t 6) (.t 24)), none⟩,
 ⟨some 7, (.mv (.c (.int .i64 (0)))), none⟩]
 [] [1, 2, 13, 20, 21, 22, 23, 24])
 .ret))))⟩
def loc46 : List Nat := [6]
def fg46 : List (Nat × List Nat) := [(5, [1, 2, 13, 20, 21, 22, 23, 24]), (4, [1, 2, 13, 14, 15, 16, 17, 18, 19]), (3, [0, 11]), (2, [0, 1, 2, 11, 12]), (1, [8, 9, 10]), (0, [7])]
theorem comp46 : compFn Try.prog loc46 (fun i => (fg46.lookup i).getD []) Try.f46 = some lit46 := by kernel_rfl

-- parcener/cake.point
def lit47 : AFn := ⟨2, [.tmp 4],
 (.seq
 (.ops [⟨some 2, (.boxL (.t 0)), none⟩,
 ⟨some 3, (.boxL (.t 1)), none⟩,
 ⟨some 4, (.mv (.c (.bool false))), none⟩]
 [] [0, 1, 4])
 (.seq
 (.ops [⟨some 5, (.load true 2 (.t 3)), none⟩,
 ⟨some 6, (.call (.f 21) [(.t 5)]), none⟩,
 ⟨some 7, (.bin .eql (.t 6) (.c (.int .i64 (0)))), none⟩,
 ⟨some 8, (.mv (.t 7)), none⟩,
 ⟨some 9, (.fad 0 (.t 3)), some (8, true)⟩,
 ⟨some 10, (.load false 1 (.t 9)), some (8, true)⟩,
 ⟨some 11, (.bin .geq (.t 10) (.c (.int .i64 (0)))), some (8, true)⟩,
 ⟨some 12, (.pick (.t 8) (.t 11) (.c (.bool false))), none⟩,
 ⟨some 13, (.mv (.t 12)), none⟩,
 ⟨some 14, (.fad 0 (.t 2)), some (13, true)⟩,
 ⟨some 15, (.load false 1 (.t 14)), some (13, true)⟩,
 ⟨some 16, (.call (.f 53) [(.t 15)]), some (13, true)⟩,
 ⟨some 17, (.load true 2 (.t 3)), some (13, true)⟩,
 ⟨some 18, (.call (.f 50) [(.t 16), (.t 17)]), some (13, true)⟩,
 ⟨some 19, (.un .not (.t 18)), some (13, true)⟩,
 ⟨some 20, (.pick (.t 13) (.t 19) (.c (.bool false))), none⟩,
 ⟨some 4, (.mv (.t 20)), none⟩]
 [(9, 12), (10, 12), (11, 12)] [2, 3, 5, 6, 7, 8, 9, 10, 11, 12, 13, 14, 15, 16, 17, 18, 19, 20])
 .ret))⟩
def loc47 : List Nat := [2, 3]
def fg47 : List (Nat × List Nat) := [(1, [2, 3, 5, 6, 7, 8, 9, 10, 11, 12, 13, 14, 15, 16, 17, 18, 19, 20]), (0, [0, 1, 4])]
theorem comp47 : compFn Try.prog loc47 (fun i => (fg47.lookup i).getD []) Try.f47 = some lit47 := by kernel_rfl

def tab0 : List (Nat × AFn) := [(3, lit3), (4, lit4), (5, lit5), (6, lit6), (7, lit7), (8, lit8), (9, lit9), (10, lit10), (11, lit11), (12, lit12), (13, lit13), (14, lit14), (15, lit15), (16, lit16), (17, lit17), (18, lit18), (19, lit19), (20, lit20), (21, lit21), (22, lit22), (23, lit23), (24, lit24), (25, lit25), (26, lit26), (27, lit27), (28, lit28), (29, lit29), (30, lit30), (31, lit31), (32, lit32), (33, lit33), (34, lit34), (35, lit35), (36, lit36), (37, lit37), (38, lit38), (39, lit39), (40, lit40), (41, lit41), (42, lit42), (43, lit43), (44, lit44), (45, lit45), (46, lit46), (47, lit47)]
theorem tabOk0 : AllOk Try.prog tab0 := ⟨⟨_, _, _, Try.func3, comp3⟩, ⟨_, _, _, Try.func4, comp4⟩, ⟨_, _, _, Try.func5, comp5⟩, ⟨_, _, _, Try.func6, comp6⟩, ⟨_, _, _, Try.func7, comp7⟩, ⟨_, _, _, Try.func8, comp8⟩, ⟨_, _, _, Try.func9, comp9⟩, ⟨_, _, _, Try.func10, comp10⟩, ⟨_, _, _, Try.func11, comp11⟩, ⟨_, _, _, Try.func12, comp12⟩, ⟨_, _, _, Try.func13, comp13⟩, ⟨_, _, _, Try.func14, comp14⟩, ⟨_, _, _, Try.func15, comp15⟩, ⟨_, _, _, Try.func16, comp16⟩, ⟨_, _, _, Try.func17, comp17⟩, ⟨_, _, _, Try.func18, comp18⟩, ⟨_, _, _, Try.func19, comp19⟩, ⟨_, _, _, Try.func20, comp20⟩, ⟨_, _, _, Try.func21, comp21⟩, ⟨_, _, _, Try.func22, comp22⟩, ⟨_, _, _, Try.func23, comp23⟩, ⟨_, _, _, Try.func24, comp24⟩, ⟨_, _, _, Try.func25, comp25⟩, ⟨_, _, _, Try.func26, comp26⟩, ⟨_, _, _, Try.func27, comp27⟩, ⟨_, _, _, Try.func28, comp28⟩, ⟨_, _, _, Try.func29, comp29⟩, ⟨_, _, _, Try.func30, comp30⟩, ⟨_, _, _, Try.func31, comp31⟩, ⟨_, _, _, Try.func32, comp32⟩, ⟨_, _, _, Try.func33, comp33⟩, ⟨_, _, _, Try.func34, comp34⟩, ⟨_, _, _, Try.func35, comp35⟩, ⟨_, _, _, Try.func36, comp36⟩, ⟨_, _, _, Try.func37, comp37⟩, ⟨_, _, _, Try.func38, comp38⟩, ⟨_, _, _, Try.func39, comp39⟩, ⟨_, _, _, Try.func40, comp40⟩, ⟨_, _, _, Try.func41, comp41⟩, ⟨_, _, _, Try.func42, comp42⟩, ⟨_, _, _, Try.func43, comp43⟩, ⟨_, _, _, Try.func44, comp44⟩, ⟨_, _, _, Try.func45, comp45⟩, ⟨_, _, _, Try.func46, comp46⟩, ⟨_, _, _, Try.func47, comp47⟩, trivial⟩
end Go.Proofs.Yteokncggklmilaa.En
