/- The functions that the statement TripleNames runs, in the small code (part 0); each is what the framework makes of the program. -/
import Derived.Test.YthlajkcfbpfmdaaFw27
import Derived.Test.YthlajkcfbpfmdaaRows
namespace Go.Proofs.Ythlajkcfbpfmdaa.Tz
open Go Go.Pf
-- parcener/parcenerlaw10.TripleNames
def lit3 : AFn := ⟨0, [.tmp 0],
 (.seq
 (.ops [⟨some 0, (.mv (.c (.bool false))), none⟩]
 [] [0])
 (.seq
 (.ops [⟨some 38, (.call (.f 4) []), none⟩,
 ⟨some 39, (.iad 3 (.t 38) (.c (.int .i64 (0)))), none⟩,
 ⟨some 40, (.load true 3 (.t 39)), none⟩,
 ⟨some 1, (.allocL (.agg [(.int .i64 (0)), .nils, .nils])), none⟩,
 ⟨none, (.store 3 (.t 1) (.t 40)), none⟩]
 [] [38, 39, 40])
 (.seq
 (.ops [⟨some 42, (.load true 3 (.t 1)), none⟩,
 ⟨some 43, (.load true 3 (.t 1)), none⟩,
 ⟨some 44, (.load true 3 (.t 1)), none⟩,
 ⟨some 45, (.buildD 3 (.agg [(.int .i64 (0)), (.data []), (.data [])]) 3 [(0, (.t 42)), (1, (.t 43)), (2, (.t 44))]), none⟩,
 ⟨some 46, (.call (.f 5) [(.t 45)]), none⟩,
 ⟨some 41, (.mv (.t 46)), none⟩,
 ⟨some 47, (.ext (.t 41) 0), none⟩,
 ⟨some 48, (.ext (.t 41) 1), none⟩,
 ⟨some 49, (.ext (.t 41) 2), none⟩,
 ⟨some 50, (.ext (.t 41) 3), none⟩,
 ⟨some 2, (.allocL (.agg [.nils])), none⟩,
 ⟨some 3, (.allocL (.agg [(.int .i64 (0)), (.int .i64 (0)), (.int .i64 (0)), (.int .i64 (0)), (.int .i64 (0)), (.int .i64 (0)), (.int .i64 (0)), (.int .i64 (0)), (.int .i64 (0)), (.int .i64 (0)), (.int .i64 (0)), (.int .i64 (0)), (.int .i64 (0)), (.int .i64 (0)), (.int .i64 (0)), (.int .i64 (0)), (.int .i64 (0)), (.int .i64 (0)), (.int .i64 (0)), (.int .i64 (0))])), none⟩,
 ⟨none, (.store 1 (.t 2) (.t 47)), none⟩,
 ⟨none, (.store 20 (.t 3) (.t 48)), none⟩,
 ⟨some 4, (.mv (.t 49)), none⟩,
 ⟨some 5, (.mv (.t 50)), none⟩]
 [] [41, 42, 43, 44, 45, 46, 47, 48, 49, 50])
 (.seq
 (.ops [⟨some 51, (.mv (.t 5)), none⟩,
 ⟨some 52, (.bin .eql (.t 51) (.c (.int .i64 (0)))), none⟩,
 ⟨some 53, (.mv (.t 52)), none⟩,
 ⟨some 54, (.mv (.t 4)), some (53, true)⟩,
 ⟨some 55, (.len (.t 54)), some (53, true)⟩,
 ⟨some 56, (.bin .eql (.t 55) (.c (.int .i64 (7)))), some (53, true)⟩,
 ⟨some 57, (.pick (.t 53) (.t 56) (.c (.bool false))), none⟩,
 ⟨some 58, (.mv (.t 57)), none⟩,
 ⟨some 59, (.fad 12 (.t 3)), some (58, true)⟩,
 ⟨some 60, (.load false 1 (.t 59)), some (58, true)⟩,
 ⟨some 61, (.bin .eql (.t 60) (.c (.int .i64 (-1)))), some (58, true)⟩,
 ⟨some 62, (.pick (.t 58) (.t 61) (.c (.bool false))), none⟩,
 ⟨some 63, (.mv (.t 62)), none⟩,
 ⟨some 64, (.fad 17 (.t 3)), some (63, true)⟩,
 ⟨some 65, (.load true 3 (.t 64)), some (63, true)⟩,
 ⟨some 66, (.build [(.int .i64 (0)), (.int .i64 (0)), (.int .i64 (0))] [(0, 1, (.c (.int .i64 (2)))), (1, 1, (.c (.int .i64 (1)))), (2, 1, (.c (.int .i64 (0))))]), some (63, true)⟩,
 ⟨some 67, (.eqA false 3 [(0, (some .i64)), (1, (some .i64)), (2, (some .i64))] (.t 65) (.t 66)), some (63, true)⟩,
 ⟨some 68, (.pick (.t 63) (.t 67) (.c (.bool false))), none⟩,
 ⟨some 69, (.mv (.t 68)), none⟩,
 ⟨some 70, (.fad 13 (.t 3)), some (69, true)⟩,
 ⟨some 71, (.load true 4 (.t 70)), some (69, true)⟩,
 ⟨some 72, (.build [(.int .i64 (0)), (.int .i64 (0)), (.int .i64 (0)), (.int .i64 (0))] []), some (69, true)⟩,
 ⟨some 73, (.eqA false 4 [(0, (some .i64)), (1, (some .i64)), (2, (some .i64)), (3, (some .i64))] (.t 71) (.t 72)), some (69, true)⟩,
 ⟨some 74, (.pick (.t 69) (.t 73) (.c (.bool false))), none⟩,
 ⟨some 75, (.mv (.t 74)), none⟩,
 ⟨some 76, (.load true 1 (.t 2)), some (75, true)⟩,
 ⟨some 77, (.call (.f 7) [(.c (.int .i64 (4)))]), some (75, true)⟩,
 ⟨some 78, (.call (.f 7) [(.c (.int .i64 (6)))]), some (75, true)⟩,
 ⟨some 79, (.build [(.int .i64 (0)), (.int .i64 (0)), (.int .i64 (0)), (.int .i64 (0))] [(0, 2, (.t 77)), (2, 2, (.t 78))]), some (75, true)⟩,
 ⟨some 80, (.buildD 4 (.agg [(.int .i64 (0)), (.int .i64 (0)), (.int .i64 (0)), (.int .i64 (0))]) 1 [(0, (.t 79))]), some (75, true)⟩,
 ⟨some 81, (.call (.f 7) [(.c (.int .i64 (2)))]), some (75, true)⟩,
 ⟨some 82, (.call (.f 7) [(.c (.int .i64 (4)))]), some (75, true)⟩,
 ⟨some 83, (.build [(.int .i64 (0)), (.int .i64 (0)), (.int .i64 (0)), (.int .i64 (0))] [(0, 2, (.t 81)), (2, 2, (.t 82))]), some (75, true)⟩,
 ⟨some 84, (.buildD 4 (.agg [(.int .i64 (0)), (.int .i64 (0)), (.int .i64 (0)), (.int .i64 (0))]) 1 [(0, (.t 83))]), some (75, true)⟩,
 ⟨some 85, (.call (.f 7) [(.c (.int .i64 (0)))]), some (75, true)⟩,
 ⟨some 86, (.call (.f 7) [(.c (.int .i64 (2)))]), some (75, true)⟩,
 ⟨some 87, (.build [(.int .i64 (0)), (.int .i64 (0)), (.int .i64 (0)), (.int .i64 (0))] [(0, 2, (.t 85)), (2, 2, (.t 86))]), some (75, true)⟩,
 ⟨some 88, (.buildD 4 (.agg [(.int .i64 (0)), (.int .i64 (0)), (.int .i64 (0)), (.int .i64 (0))]) 1 [(0, (.t 87))]), some (75, true)⟩,
 ⟨some 89, (.buildD 1 (.data []) 3 [(0, (.t 80)), (1, (.t 84)), (2, (.t 88))]), some (75, true)⟩,
 ⟨some 90, (.build [.nils] [(0, 1, (.t 89))]), some (75, true)⟩,
 ⟨some 91, (.call (.f 6) [(.t 76), (.t 90)]), some (75, true)⟩,
 ⟨some 92, (.pick (.t 75) (.t 91) (.c (.bool false))), none⟩,
 ⟨some 6, (.mv (.t 92)), none⟩]
 [(13, 15), (14, 15), (19, 21), (20, 21), (25, 26), (25, 27), (25, 28), (25, 29), (25, 30), (28, 30), (29, 30), (25, 31), (28, 31), (29, 31), (25, 32), (28, 32), (29, 32), (25, 33), (28, 33), (29, 33), (25, 34), (28, 34), (29, 34), (32, 34), (33, 34), (25, 35), (28, 35), (29, 35), (32, 35), (33, 35), (25, 36), (28, 36), (29, 36), (32, 36), (33, 36), (25, 37), (28, 37), (29, 37), (32, 37), (33, 37), (25, 38), (25, 39)] [2, 3, 4, 5, 51, 52, 53, 54, 55, 56, 57, 58, 59, 60, 61, 62, 63, 64, 65, 66, 67, 68, 69, 70, 71, 72, 73, 74, 75, 76, 77, 78, 79, 80, 81, 82, 83, 84, 85, 86, 87, 88, 89, 90, 91, 92])
 (.seq
 (.ops [⟨some 93, (.buildD 1 (.int .i64 (0)) 3 [(0, (.c (.int .i64 (0)))), (1, (.c (.int .i64 (1)))), (2, (.c (.int .i64 (6))))]), none⟩,
 ⟨some 94, (.buildD 1 (.int .i64 (0)) 2 [(0, (.c (.int .i64 (3)))), (1, (.c (.int .i64 (0))))]), none⟩,
 ⟨some 95, (.build [(.int .i64 (0)), .nils, .nils] [(0, 1, (.c (.int .i64 (6)))), (1, 1, (.t 93)), (2, 1, (.t 94))]), none⟩,
 ⟨some 7, (.allocL (.agg [(.int .i64 (0)), .nils, .nils])), none⟩,
 ⟨none, (.store 3 (.t 7) (.t 95)), none⟩]
 [] [93, 94, 95])
 (.seq
 (.ops [⟨some 97, (.load true 3 (.t 1)), none⟩,
 ⟨some 98, (.load true 3 (.t 7)), none⟩,
 ⟨some 99, (.load true 3 (.t 1)), none⟩,
 ⟨some 100, (.buildD 3 (.agg [(.int .i64 (0)), (.data []), (.data [])]) 3 [(0, (.t 97)), (1, (.t 98)), (2, (.t 99))]), none⟩,
 ⟨some 101, (.call (.f 5) [(.t 100)]), none⟩,
 ⟨some 96, (.mv (.t 101)), none⟩,
 ⟨some 102, (.ext (.t 96) 0), none⟩,
 ⟨some 103, (.ext (.t 96) 1), none⟩,
 ⟨some 104, (.ext (.t 96) 2), none⟩,
 ⟨some 105, (.ext (.t 96) 3), none⟩,
 ⟨some 8, (.allocL (.agg [.nils])), none⟩,
 ⟨some 9, (.allocL (.agg [(.int .i64 (0)), (.int .i64 (0)), (.int .i64 (0)), (.int .i64 (0)), (.int .i64 (0)), (.int .i64 (0)), (.int .i64 (0)), (.int .i64 (0)), (.int .i64 (0)), (.int .i64 (0)), (.int .i64 (0)), (.int .i64 (0)), (.int .i64 (0)), (.int .i64 (0)), (.int .i64 (0)), (.int .i64 (0)), (.int .i64 (0)), (.int .i64 (0)), (.int .i64 (0)), (.int .i64 (0))])), none⟩,
 ⟨none, (.store 1 (.t 8) (.t 102)), none⟩,
 ⟨none, (.store 20 (.t 9) (.t 103)), none⟩,
 ⟨some 10, (.mv (.t 104)), none⟩,
 ⟨some 11, (.mv (.t 105)), none⟩]
 [] [7, 10, 96, 97, 98, 99, 100, 101, 102, 103, 104, 105])
 (.seq
 (.ops [⟨some 106, (.mv (.t 11)), none⟩,
 ⟨some 107, (.bin .eql (.t 106) (.c (.int .i64 (0)))), none⟩,
 ⟨some 108, (.mv (.t 107)), none⟩,
 ⟨some 109, (.fad 12 (.t 9)), some (108, true)⟩,
 ⟨some 110, (.load false 1 (.t 109)), some (108, true)⟩,
 ⟨some 111, (.bin .eql (.t 110) (.c (.int .i64 (0)))), some (108, true)⟩,
 ⟨some 112, (.pick (.t 108) (.t 111) (.c (.bool false))), none⟩,
 ⟨some 113, (.mv (.t 112)), none⟩,
 ⟨some 114, (.fad 13 (.t 9)), some (113, true)⟩,
 ⟨some 115, (.load true 4 (.t 114)), some (113, true)⟩,
 ⟨some 116, (.call (.f 7) [(.c (.int .i64 (0)))]), some (113, true)⟩,
 ⟨some 117, (.call (.f 7) [(.c (.int .i64 (1)))]), some (113, true)⟩,
 ⟨some 118, (.build [(.int .i64 (0)), (.int .i64 (0)), (.int .i64 (0)), (.int .i64 (0))] [(0, 2, (.t 116)), (2, 2, (.t 117))]), some (113, true)⟩,
 ⟨some 119, (.eqA false 4 [(0, (some .i64)), (1, (some .i64)), (2, (some .i64)), (3, (some .i64))] (.t 115) (.t 118)), some (113, true)⟩,
 ⟨some 120, (.pick (.t 113) (.t 119) (.c (.bool false))), none⟩,
 ⟨some 121, (.mv (.t 120)), none⟩,
 ⟨some 122, (.fad 0 (.t 9)), some (121, true)⟩,
 ⟨some 123, (.iadA 3 4 (.t 122) (.c (.int .i64 (0)))), some (121, true)⟩,
 ⟨some 124, (.load true 4 (.t 123)), some (121, true)⟩,
 ⟨some 125, (.call (.f 7) [(.c (.int .i64 (1)))]), some (121, true)⟩,
 ⟨some 126, (.call (.f 7) [(.c (.int .i64 (2)))]), some (121, true)⟩,
 ⟨some 127, (.build [(.int .i64 (0)), (.int .i64 (0)), (.int .i64 (0)), (.int .i64 (0))] [(0, 2, (.t 125)), (2, 2, (.t 126))]), some (121, true)⟩,
 ⟨some 128, (.eqA false 4 [(0, (some .i64)), (1, (some .i64)), (2, (some .i64)), (3, (some .i64))] (.t 124) (.t 127)), some (121, true)⟩,
 ⟨some 129, (.pick (.t 121) (.t 128) (.c (.bool false))), none⟩,
 ⟨some 130, (.mv (.t 129)), none⟩,
 ⟨some 131, (.fad 0 (.t 8)), some (130, true)⟩,
 ⟨some 132, (.load false 1 (.t 131)), some (130, true)⟩,
 ⟨some 133, (.len (.t 132)), some (130, true)⟩,
 ⟨some 134, (.bin .eql (.t 133) (.c (.int .i64 (3)))), some (130, true)⟩,
 ⟨some 135, (.pick (.t 130) (.t 134) (.c (.bool false))), none⟩,
 ⟨some 12, (.mv (.t 135)), none⟩]
 [(8, 10), (9, 10), (8, 11), (9, 11), (8, 12), (9, 12), (16, 19), (17, 19), (18, 19), (16, 20), (17, 20), (18, 20), (16, 21), (17, 21), (18, 21)] [8, 9, 11, 106, 107, 108, 109, 110, 111, 112, 113, 114, 115, 116, 117, 118, 119, 120, 121, 122, 123, 124, 125, 126, 127, 128, 129, 130, 131, 132, 133, 134, 135])
 (.seq
 (.ops [⟨some 137, (.call (.f 4) []), none⟩,
 ⟨some 138, (.buildD 8 (.agg [(.int .i64 (0)), (.int .u8 (0)), (.int .i64 (0)), (.int .i64 (0)), (.int .i64 (0)), (.int .i64 (0)), (.int .i64 (0)), (.int .i64 (0))]) 3 []), none⟩,
 ⟨some 139, (.build [.nils, .nils] [(0, 1, (.t 137)), (1, 1, (.t 138))]), none⟩,
 ⟨some 140, (.call (.f 8) [(.t 139)]), none⟩,
 ⟨some 136, (.mv (.t 140)), none⟩,
 ⟨some 141, (.ext (.t 136) 0), none⟩,
 ⟨some 142, (.ext (.t 136) 1), none⟩,
 ⟨some 143, (.ext (.t 136) 2), none⟩,
 ⟨some 13, (.allocL (.agg [.nils, .nils])), none⟩,
 ⟨some 14, (.allocL (.agg [(.int .i64 (0)), (.int .i64 (0)), (.int .i64 (0)), (.int .i64 (0)), (.int .i64 (0)), (.int .i64 (0)), (.int .i64 (0)), (.int .i64 (0)), (.int .i64 (0)), (.int .i64 (0)), (.int .i64 (0)), (.int .i64 (0)), (.int .i64 (0)), (.int .i64 (0)), (.int .i64 (0)), (.int .i64 (0)), (.int .i64 (0)), (.int .i64 (0)), (.int .i64 (0)), (.int .i64 (0))])), none⟩,
 ⟨none, (.store 2 (.t 13) (.t 141)), none⟩,
 ⟨none, (.store 20 (.t 14) (.t 142)), none⟩,
 ⟨some 15, (.mv (.t 143)), none⟩]
 [(0, 1), (5, 6), (5, 7), (6, 7), (0, 8), (1, 8), (2, 8), (3, 8), (4, 8), (5, 8), (6, 8), (7, 8), (0, 9), (1, 9), (2, 9), (3, 9), (4, 9), (5, 9), (6, 9), (7, 9), (8, 9), (6, 10), (7, 10), (7, 11)] [136, 137, 138, 139, 140, 141, 142, 143])
 (.seq
 (.ops [⟨some 144, (.mv (.t 15)), none⟩,
 ⟨some 145, (.bin .eql (.t 144) (.c (.int .i64 (0)))), none⟩,
 ⟨some 146, (.mv (.t 145)), none⟩,
 ⟨some 147, (.fad 1 (.t 13)), some (146, true)⟩,
 ⟨some 148, (.load false 1 (.t 147)), some (146, true)⟩,
 ⟨some 149, (.len (.t 148)), some (146, true)⟩,
 ⟨some 150, (.bin .eql (.t 149) (.c (.int .i64 (11)))), some (146, true)⟩,
 ⟨some 151, (.pick (.t 146) (.t 150) (.c (.bool false))), none⟩,
 ⟨some 152, (.mv (.t 151)), none⟩,
 ⟨some 153, (.fad 12 (.t 14)), some (152, true)⟩,
 ⟨some 154, (.load false 1 (.t 153)), some (152, true)⟩,
 ⟨some 155, (.bin .eql (.t 154) (.c (.int .i64 (2)))), some (152, true)⟩,
 ⟨some 156, (.pick (.t 152) (.t 155) (.c (.bool false))), none⟩,
 ⟨some 16, (.mv (.t 156)), none⟩]
 [] [13, 14, 15, 144, 145, 146, 147, 148, 149, 150, 151, 152, 153, 154, 155, 156])
 (.seq
 (.ops [⟨some 158, (.call (.f 4) []), none⟩,
 ⟨some 159, (.buildD 8 (.agg [(.int .i64 (0)), (.int .u8 (0)), (.int .i64 (0)), (.int .i64 (0)), (.int .i64 (0)), (.int .i64 (0)), (.int .i64 (0)), (.int .i64 (0))]) 1995 []), none⟩,
 ⟨some 160, (.build [.nils, .nils] [(0, 1, (.t 158)), (1, 1, (.t 159))]), none⟩,
 ⟨some 161, (.call (.f 8) [(.t 160)]), none⟩,
 ⟨some 157, (.mv (.t 161)), none⟩,
 ⟨some 162, (.ext (.t 157) 0), none⟩,
 ⟨some 163, (.ext (.t 157) 1), none⟩,
 ⟨some 164, (.ext (.t 157) 2), none⟩,
 ⟨some 17, (.allocL (.agg [.nils, .nils])), none⟩,
 ⟨some 18, (.allocL (.agg [(.int .i64 (0)), (.int .i64 (0)), (.int .i64 (0)), (.int .i64 (0)), (.int .i64 (0)), (.int .i64 (0)), (.int .i64 (0)), (.int .i64 (0)), (.int .i64 (0)), (.int .i64 (0)), (.int .i64 (0)), (.int .i64 (0)), (.int .i64 (0)), (.int .i64 (0)), (.int .i64 (0)), (.int .i64 (0)), (.int .i64 (0)), (.int .i64 (0)), (.int .i64 (0)), (.int .i64 (0))])), none⟩,
 ⟨none, (.store 2 (.t 17) (.t 162)), none⟩,
 ⟨none, (.store 20 (.t 18) (.t 163)), none⟩,
 ⟨some 19, (.mv (.t 164)), none⟩]
 [(0, 1), (5, 6), (5, 7), (6, 7), (0, 8), (1, 8), (2, 8), (3, 8), (4, 8), (5, 8), (6, 8), (7, 8), (0, 9), (1, 9), (2, 9), (3, 9), (4, 9), (5, 9), (6, 9), (7, 9), (8, 9), (6, 10), (7, 10), (7, 11)] [17, 18, 157, 158, 159, 160, 161, 162, 163, 164])
 (.seq
 (.ops [⟨some 166, (.call (.f 4) []), none⟩,
 ⟨some 167, (.slc 3 (.t 166) none (some (.c (.int .i64 (2)))) none), none⟩,
 ⟨some 168, (.build [.nils, .nils] [(0, 1, (.t 167))]), none⟩,
 ⟨some 169, (.call (.f 8) [(.t 168)]), none⟩,
 ⟨some 165, (.mv (.t 169)), none⟩,
 ⟨some 170, (.ext (.t 165) 0), none⟩,
 ⟨some 171, (.ext (.t 165) 1), none⟩,
 ⟨some 172, (.ext (.t 165) 2), none⟩,
 ⟨some 20, (.allocL (.agg [.nils, .nils])), none⟩,
 ⟨some 21, (.allocL (.agg [(.int .i64 (0)), (.int .i64 (0)), (.int .i64 (0)), (.int .i64 (0)), (.int .i64 (0)), (.int .i64 (0)), (.int .i64 (0)), (.int .i64 (0)), (.int .i64 (0)), (.int .i64 (0)), (.int .i64 (0)), (.int .i64 (0)), (.int .i64 (0)), (.int .i64 (0)), (.int .i64 (0)), (.int .i64 (0)), (.int .i64 (0)), (.int .i64 (0)), (.int .i64 (0)), (.int .i64 (0))])), none⟩,
 ⟨none, (.store 2 (.t 20) (.t 170)), none⟩,
 ⟨none, (.store 20 (.t 21) (.t 171)), none⟩,
 ⟨some 22, (.mv (.t 172)), none⟩]
 [] [20, 21, 165, 166, 167, 168, 169, 170, 171, 172])
 (.seq
 (.ops [⟨some 174, (.build [.nils, .nils] []), none⟩,
 ⟨some 175, (.call (.f 8) [(.t 174)]), none⟩,
 ⟨some 173, (.mv (.t 175)), none⟩,
 ⟨some 176, (.ext (.t 173) 0), none⟩,
 ⟨some 177, (.ext (.t 173) 1), none⟩,
 ⟨some 178, (.ext (.t 173) 2), none⟩,
 ⟨some 23, (.allocL (.agg [.nils, .nils])), none⟩,
 ⟨some 24, (.allocL (.agg [(.int .i64 (0)), (.int .i64 (0)), (.int .i64 (0)), (.int .i64 (0)), (.int .i64 (0)), (.int .i64 (0)), (.int .i64 (0)), (.int .i64 (0)), (.int .i64 (0)), (.int .i64 (0)), (.int .i64 (0)), (.int .i64 (0)), (.int .i64 (0)), (.int .i64 (0)), (.int .i64 (0)), (.int .i64 (0)), (.int .i64 (0)), (.int .i64 (0)), (.int .i64 (0)), (.int .i64 (0))])), none⟩,
 ⟨none, (.store 2 (.t 23) (.t 176)), none⟩,
 ⟨none, (.store 20 (.t 24) (.t 177)), none⟩,
 ⟨some 25, (.mv (.t 178)), none⟩]
 [] [23, 24, 173, 174, 175, 176, 177, 178])
 (.seq
 (.ops [⟨some 180, (.call (.f 5) [(.c .nils)]), none⟩,
 ⟨some 179, (.mv (.t 180)), none⟩,
 ⟨some 181, (.ext (.t 179) 0), none⟩,
 ⟨some 182, (.ext (.t 179) 1), none⟩,
 ⟨some 183, (.ext (.t 179) 2), none⟩,
 ⟨some 184, (.ext (.t 179) 3), none⟩,
 ⟨some 26, (.allocL (.agg [.nils])), none⟩,
 ⟨some 27, (.allocL (.agg [(.int .i64 (0)), (.int .i64 (0)), (.int .i64 (0)), (.int .i64 (0)), (.int .i64 (0)), (.int .i64 (0)), (.int .i64 (0)), (.int .i64 (0)), (.int .i64 (0)), (.int .i64 (0)), (.int .i64 (0)), (.int .i64 (0)), (.int .i64 (0)), (.int .i64 (0)), (.int .i64 (0)), (.int .i64 (0)), (.int .i64 (0)), (.int .i64 (0)), (.int .i64 (0)), (.int .i64 (0))])), none⟩,
 ⟨none, (.store 1 (.t 26) (.t 181)), none⟩,
 ⟨none, (.store 20 (.t 27) (.t 182)), none⟩,
 ⟨some 28, (.mv (.t 183)), none⟩,
 ⟨some 29, (.mv (.t 184)), none⟩]
 [] [26, 27, 28, 179, 180, 181, 182, 183, 184])
 (.seq
 (.ops [⟨some 186, (.call (.f 4) []), none⟩,
 ⟨some 187, (.load true 3 (.t 1)), none⟩,
 ⟨some 188, (.buildD 3 (.agg [(.int .i64 (0)), (.data []), (.data [])]) 1 [(0, (.t 187))]), none⟩,
 ⟨some 189, (.app true 3 56 (.t 186) (.t 188)), none⟩,
 ⟨some 190, (.call (.f 5) [(.t 189)]), none⟩,
 ⟨some 185, (.mv (.t 190)), none⟩,
 ⟨some 191, (.ext (.t 185) 0), none⟩,
 ⟨some 192, (.ext (.t 185) 1), none⟩,
 ⟨some 193, (.ext (.t 185) 2), none⟩,
 ⟨some 194, (.ext (.t 185) 3), none⟩,
 ⟨some 30, (.allocL (.agg [.nils])), none⟩,
 ⟨some 31, (.allocL (.agg [(.int .i64 (0)), (.int .i64 (0)), (.int .i64 (0)), (.int .i64 (0)), (.int .i64 (0)), (.int .i64 (0)), (.int .i64 (0)), (.int .i64 (0)), (.int .i64 (0)), (.int .i64 (0)), (.int .i64 (0)), (.int .i64 (0)), (.int .i64 (0)), (.int .i64 (0)), (.int .i64 (0)), (.int .i64 (0)), (.int .i64 (0)), (.int .i64 (0)), (.int .i64 (0)), (.int .i64 (0))])), none⟩,
 ⟨none, (.store 1 (.t 30) (.t 191)), none⟩,
 ⟨none, (.store 20 (.t 31) (.t 192)), none⟩,
 ⟨some 32, (.mv (.t 193)), none⟩,
 ⟨some 33, (.mv (.t 194)), none⟩]
 [(0, 1), (0, 2), (6, 7), (6, 8), (7, 8), (6, 9), (7, 9), (8, 9), (0, 10), (1, 10), (2, 10), (3, 10), (4, 10), (5, 10), (6, 10), (7, 10), (8, 10), (9, 10), (0, 11), (1, 11), (2, 11), (3, 11), (4, 11), (5, 11), (6, 11), (7, 11), (8, 11), (9, 11), (10, 11), (7, 12), (8, 12), (9, 12), (8, 13), (9, 13), (9, 14)] [30, 31, 32, 185, 186, 187, 188, 189, 190, 191, 192, 193, 194])
 (.seq
 (.ops [⟨some 196, (.load true 3 (.t 1)), none⟩,
 ⟨some 197, (.load true 3 (.t 1)), none⟩,
 ⟨some 198, (.build [(.int .i64 (0)), .nils, .nils] []), none⟩,
 ⟨some 199, (.buildD 3 (.agg [(.int .i64 (0)), (.data []), (.data [])]) 3 [(0, (.t 196)), (1, (.t 197)), (2, (.t 198))]), none⟩,
 ⟨some 200, (.call (.f 5) [(.t 199)]), none⟩,
 ⟨some 195, (.mv (.t 200)), none⟩,
 ⟨some 201, (.ext (.t 195) 0), none⟩,
 ⟨some 202, (.ext (.t 195) 1), none⟩,
 ⟨some 203, (.ext (.t 195) 2), none⟩,
 ⟨some 204, (.ext (.t 195) 3), none⟩,
 ⟨some 34, (.allocL (.agg [.nils])), none⟩,
 ⟨some 35, (.allocL (.agg [(.int .i64 (0)), (.int .i64 (0)), (.int .i64 (0)), (.int .i64 (0)), (.int .i64 (0)), (.int .i64 (0)), (.int .i64 (0)), (.int .i64 (0)), (.int .i64 (0)), (.int .i64 (0)), (.int .i64 (0)), (.int .i64 (0)), (.int .i64 (0)), (.int .i64 (0)), (.int .i64 (0)), (.int .i64 (0)), (.int .i64 (0)), (.int .i64 (0)), (.int .i64 (0)), (.int .i64 (0))])), none⟩,
 ⟨none, (.store 1 (.t 34) (.t 201)), none⟩,
 ⟨none, (.store 20 (.t 35) (.t 202)), none⟩,
 ⟨some 36, (.mv (.t 203)), none⟩,
 ⟨some 37, (.mv (.t 204)), none⟩]
 [] [1, 34, 35, 36, 195, 196, 197, 198, 199, 200, 201, 202, 203, 204])
 (.seq
 (.ops [⟨some 205, (.mv (.t 6)), none⟩,
 ⟨some 206, (.mv (.t 205)), none⟩,
 ⟨some 207, (.mv (.t 12)), some (206, true)⟩,
 ⟨some 208, (.pick (.t 206) (.t 207) (.c (.bool false))), none⟩,
 ⟨some 209, (.mv (.t 208)), none⟩,
 ⟨some 210, (.mv (.t 16)), some (209, true)⟩,
 ⟨some 211, (.pick (.t 209) (.t 210) (.c (.bool false))), none⟩,
 ⟨some 212, (.mv (.t 211)), none⟩,
 ⟨some 213, (.mv (.t 19)), some (212, true)⟩,
 ⟨some 214, (.bin .eql (.t 213) (.c (.int .i64 (4)))), some (212, true)⟩,
 ⟨some 215, (.pick (.t 212) (.t 214) (.c (.bool false))), none⟩,
 ⟨some 216, (.mv (.t 215)), none⟩,
 ⟨some 217, (.mv (.t 22)), some (216, true)⟩,
 ⟨some 218, (.bin .eql (.t 217) (.c (.int .i64 (2)))), some (216, true)⟩,
 ⟨some 219, (.pick (.t 216) (.t 218) (.c (.bool false))), none⟩,
 ⟨some 220, (.mv (.t 219)), none⟩,
 ⟨some 221, (.mv (.t 25)), some (220, true)⟩,
 ⟨some 222, (.bin .eql (.t 221) (.c (.int .i64 (8)))), some (220, true)⟩,
 ⟨some 223, (.pick (.t 220) (.t 222) (.c (.bool false))), none⟩,
 ⟨some 224, (.mv (.t 223)), none⟩,
 ⟨some 225, (.mv (.t 29)), some (224, true)⟩,
 ⟨some 226, (.bin .eql (.t 225) (.c (.int .i64 (8)))), some (224, true)⟩,
 ⟨some 227, (.pick (.t 224) (.t 226) (.c (.bool false))), none⟩,
 ⟨some 228, (.mv (.t 227)), none⟩,
 ⟨some 229, (.mv (.t 33)), some (228, true)⟩,
 ⟨some 230, (.bin .eql (.t 229) (.c (.int .i64 (2)))), some (228, true)⟩,
 ⟨some 231, (.pick (.t 228) (.t 230) (.c (.bool false))), none⟩,
 ⟨some 232, (.mv (.t 231)), none⟩,
 ⟨some 233, (.mv (.t 37)), some (232, true)⟩,
 ⟨some 234, (.bin .eql (.t 233) (.c (.int .i64 (8)))), some (232, true)⟩,
 ⟨some 235, (.pick (.t 232) (.t 234) (.c (.bool false))), none⟩,
 ⟨some 236, (.mv (.t 235)), none⟩,
 ⟨some 237, (.call (.f 9) []), some (236, true)⟩,
 ⟨some 238, (.bin .eql (.t 237) (.c (.int .i64 (16)))), some (236, true)⟩,
 ⟨some 239, (.pick (.t 236) (.t 238) (.c (.bool false))), none⟩,
 ⟨some 240, (.mv (.t 239)), none⟩,
 ⟨some 241, (.call (.f 10) []), some (240, true)⟩,
 ⟨some 242, (.pick (.t 240) (.t 241) (.c (.bool false))), none⟩,
 ⟨some 0, (.mv (.t 242)), none⟩]
 [] [6, 12, 16, 19, 22, 25, 29, 33, 37, 205, 206, 207, 208, 209, 210, 211, 212, 213, 214, 215, 216, 217, 218, 219, 220, 221, 222, 223, 224, 225, 226, 227, 228, 229, 230, 231, 232, 233, 234, 235, 236, 237, 238, 239, 240, 241, 242])
 .ret))))))))))))))))⟩
def loc3 : List Nat := [45, 80, 84, 88, 89, 93, 94, 100, 188, 199, 1, 2, 3, 7, 8, 9, 13, 14, 17, 18, 20, 21, 23, 24, 26, 27, 30, 31, 34, 35, 5000138, 5000159]
def fg3 : List (Nat × List Nat) := [(15, [6, 12, 16, 19, 22, 25, 29, 33, 37, 205, 206, 207, 208, 209, 210, 211, 212, 213, 214, 215, 216, 217, 218, 219, 220, 221, 222, 223, 224, 225, 226, 227, 228, 229, 230, 231, 232, 233, 234, 235, 236, 237, 238, 239, 240, 241, 242]), (14, [1, 34, 35, 36, 195, 196, 197, 198, 199, 200, 201, 202, 203, 204]), (13, [30, 31, 32, 185, 186, 187, 188, 189, 190, 191, 192, 193, 194]), (12, [26, 27, 28, 179, 180, 181, 182, 183, 184]), (11, [23, 24, 173, 174, 175, 176, 177, 178]), (10, [20, 21, 165, 166, 167, 168, 169, 170, 171, 172]), (9, [17, 18, 157, 158, 159, 160, 161, 162, 163, 164]), (8, [13, 14, 15, 144, 145, 146, 147, 148, 149, 150, 151, 152, 153, 154, 155, 156]), (7, [136, 137, 138, 139, 140, 141, 142, 143]), (6, [8, 9, 11, 106, 107, 108, 109, 110, 111, 112, 113, 114, 115, 116, 117, 118, 119, 120, 121, 122, 123, 124, 125, 126, 127, 128, 129, 130, 131, 132, 133, 134, 135]), (5, [7, 10, 96, 97, 98, 99, 100, 101, 102, 103, 104, 105]), (4, [93, 94, 95]), (3, [2, 3, 4, 5, 51, 52, 53, 54, 55, 56, 57, 58, 59, 60, 61, 62, 63, 64, 65, 66, 67, 68, 69, 70, 71, 72, 73, 74, 75, 76, 77, 78, 79, 80, 81, 82, 83, 84, 85, 86, 87, 88, 89, 90, 91, 92]), (2, [41, 42, 43, 44, 45, 46, 47, 48, 49, 50]), (1, [38, 39, 40]), (0, [0])]
theorem comp3 : compFn Try.prog loc3 (fun i => (fg3.lookup i).getD []) Try.f3 = some lit3 := by kernel_rfl

-- parcener/parcenerlaw10.three
def lit4 : AFn := ⟨0, [.tmp 0],
 (.seq
 (.ops [⟨some 0, (.mv (.c .nils)), none⟩]
 [] [0])
 (.seq
 (.ops [⟨some 1, (.buildD 1 (.int .i64 (0)) 2 [(0, (.c (.int .i64 (0)))), (1, (.c (.int .i64 (6))))]), none⟩,
 ⟨some 2, (.buildD 1 (.int .i64 (0)) 1 [(0, (.c (.int .i64 (1))))]), none⟩,
 ⟨some 3, (.build [(.int .i64 (0)), .nils, .nils] [(0, 1, (.c (.int .i64 (6)))), (1, 1, (.t 1)), (2, 1, (.t 2))]), none⟩,
 ⟨some 4, (.buildD 1 (.int .i64 (0)) 3 [(0, (.c (.int .i64 (0)))), (1, (.c (.int .i64 (4)))), (2, (.c (.int .i64 (6))))]), none⟩,
 ⟨some 5, (.buildD 1 (.int .i64 (0)) 2 [(0, (.c (.int .i64 (1)))), (1, (.c (.int .i64 (4))))]), none⟩,
 ⟨some 6, (.build [(.int .i64 (0)), .nils, .nils] [(0, 1, (.c (.int .i64 (6)))), (1, 1, (.t 4)), (2, 1, (.t 5))]), none⟩,
 ⟨some 7, (.buildD 1 (.int .i64 (0)) 3 [(0, (.c (.int .i64 (0)))), (1, (.c (.int .i64 (2)))), (2, (.c (.int .i64 (6))))]), none⟩,
 ⟨some 8, (.buildD 1 (.int .i64 (0)) 2 [(0, (.c (.int .i64 (2)))), (1, (.c (.int .i64 (0))))]), none⟩,
 ⟨some 9, (.build [(.int .i64 (0)), .nils, .nils] [(0, 1, (.c (.int .i64 (6)))), (1, 1, (.t 7)), (2, 1, (.t 8))]), none⟩,
 ⟨some 10, (.buildSl true 3 (.agg [(.int .i64 (0)), (.data []), (.data [])]) 3 [(0, (.t 3)), (1, (.t 6)), (2, (.t 9))]), none⟩,
 ⟨some 0, (.mv (.t 10)), none⟩]
 [] [1, 2, 3, 4, 5, 6, 7, 8, 9, 10])
 .ret))⟩
def loc4 : List Nat := [1, 2, 4, 5, 7, 8]
def fg4 : List (Nat × List Nat) := [(1, [1, 2, 3, 4, 5, 6, 7, 8, 9, 10]), (0, [0])]
theorem comp4 : compFn Try.prog loc4 (fun i => (fg4.lookup i).getD []) Try.f4 = some lit4 := by kernel_rfl

-- parcener/triple.Run
def lit5 : AFn := ⟨1, [.cell 2 true 1, .cell 3 true 20, .tmp 4, .cell 5 false 1],
 (.seq
 (.ops [⟨some 2, (.allocH false 1 (.agg [.nils])), none⟩,
 ⟨some 3, (.allocH false 20 (.agg [(.int .i64 (0)), (.int .i64 (0)), (.int .i64 (0)), (.int .i64 (0)), (.int .i64 (0)), (.int .i64 (0)), (.int .i64 (0)), (.int .i64 (0)), (.int .i64 (0)), (.int .i64 (0)), (.int .i64 (0)), (.int .i64 (0)), (.int .i64 (0)), (.int .i64 (0)), (.int .i64 (0)), (.int .i64 (0)), (.int .i64 (0)), (.int .i64 (0)), (.int .i64 (0)), (.int .i64 (0))])), none⟩,
 ⟨some 4, (.mv (.c .nils)), none⟩,
 ⟨some 5, (.allocH false 1 (.int .i64 (0))), none⟩]
 [] [4])
 (.seq
 (.seq
 (.ops [⟨some 8, (.mv (.t 0)), none⟩,
 ⟨some 9, (.build [.nils, .nils] [(0, 1, (.t 8))]), none⟩,
 ⟨some 10, (.call (.f 11) [(.t 9)]), none⟩,
 ⟨some 6, (.mv (.t 10)), none⟩]
 [] [8, 9, 10])
 (.seq
 (.ops [⟨some 11, (.mv (.t 6)), none⟩,
 ⟨some 12, (.bin .neq (.t 11) (.c (.int .i64 (0)))), none⟩]
 [] [11])
 (.cond (.t 12)
 (.seq
 (.ops [⟨some 13, (.build [.nils] []), none⟩,
 ⟨some 14, (.build [(.int .i64 (0)), (.int .i64 (0)), (.int .i64 (0)), (.int .i64 (0)), (.int .i64 (0)), (.int .i64 (0)), (.int .i64 (0)), (.int .i64 (0)), (.int .i64 (0)), (.int .i64 (0)), (.int .i64 (0)), (.int .i64 (0)), (.int .i64 (0)), (.int .i64 (0)), (.int .i64 (0)), (.int .i64 (0)), (.int .i64 (0)), (.int .i64 (0)), (.int .i64 (0)), (.int .i64 (0))] []), none⟩,
 ⟨some 15, (.mv (.t 6)), none⟩,
 ⟨none, (.store 1 (.t 2) (.t 13)), none⟩,
 ⟨none, (.store 20 (.t 3) (.t 14)), none⟩,
 ⟨some 4, (.mv (.c .nils)), none⟩,
 ⟨none, (.store 1 (.t 5) (.t 15)), none⟩]
 [] [0, 6, 12, 13, 14, 15])
 .ret)
 .skip)))
 (.seq
 (.ops [⟨some 16, (.mv (.t 0)), none⟩,
 ⟨some 17, (.build [.nils, .nils] [(0, 1, (.t 16))]), none⟩,
 ⟨some 18, (.build [.nils, .nils] [(0, 2, (.t 17))]), none⟩,
 ⟨some 7, (.allocH false 2 (.agg [.nils, .nils])), none⟩,
 ⟨none, (.store 2 (.t 7) (.t 18)), none⟩]
 [] [0, 6, 12, 16, 17, 18])
 (.seq
 (.ops [⟨some 19, (.mkFn (.func 12) [] [(.t 5), (.t 7), (.t 3), (.t 2)]), none⟩,
 ⟨some 20, (.call (.t 19) []), none⟩]
 [] [19, 20])
 (.seq
 (.seq
 (.ops [⟨some 21, (.load false 1 (.t 5)), none⟩,
 ⟨some 22, (.bin .neq (.t 21) (.c (.int .i64 (0)))), none⟩]
 [] [21])
 (.cond (.t 22)
 (.seq
 (.ops [⟨some 23, (.build [.nils] []), none⟩,
 ⟨some 24, (.build [(.int .i64 (0)), (.int .i64 (0)), (.int .i64 (0)), (.int .i64 (0)), (.int .i64 (0)), (.int .i64 (0)), (.int .i64 (0)), (.int .i64 (0)), (.int .i64 (0)), (.int .i64 (0)), (.int .i64 (0)), (.int .i64 (0)), (.int .i64 (0)), (.int .i64 (0)), (.int .i64 (0)), (.int .i64 (0)), (.int .i64 (0)), (.int .i64 (0)), (.int .i64 (0)), (.int .i64 (0))] []), none⟩,
 ⟨some 25, (.load false 1 (.t 5)), none⟩,
 ⟨none, (.store 1 (.t 2) (.t 23)), none⟩,
 ⟨none, (.store 20 (.t 3) (.t 24)), none⟩,
 ⟨some 4, (.mv (.c .nils)), none⟩,
 ⟨none, (.store 1 (.t 5) (.t 25)), none⟩]
 [(0, 1), (0, 2), (1, 2), (1, 3), (2, 3), (2, 4), (2, 5)] [7, 22, 23, 24, 25])
 .ret)
 .skip))
 (.seq
 (.ops [⟨some 26, (.load true 1 (.t 2)), none⟩,
 ⟨some 27, (.load true 20 (.t 3)), none⟩,
 ⟨some 28, (.fad 0 (.t 7)), none⟩,
 ⟨some 29, (.fad 1 (.t 28)), none⟩,
 ⟨some 30, (.load false 1 (.t 29)), none⟩,
 ⟨none, (.store 1 (.t 2) (.t 26)), none⟩,
 ⟨none, (.store 20 (.t 3) (.t 27)), none⟩,
 ⟨some 4, (.mv (.t 30)), none⟩,
 ⟨none, (.store 1 (.t 5) (.c (.int .i64 (0)))), none⟩]
 [(0, 1), (0, 2), (1, 2), (0, 3), (1, 3), (0, 4), (1, 4), (1, 5), (2, 5), (3, 5), (4, 5), (2, 6), (3, 6), (4, 6)] [7, 22, 26, 27, 28, 29, 30])
 .ret))))))⟩
def loc5 : List Nat := [1000002, 1000003, 1000005, 1000007]
def fg5 : List (Nat × List Nat) := [(8, [7, 22, 26, 27, 28, 29, 30]), (7, [7, 22, 23, 24, 25]), (6, [21]), (5, [19, 20]), (4, [0, 6, 12, 16, 17, 18]), (3, [0, 6, 12, 13, 14, 15]), (2, [11]), (1, [8, 9, 10]), (0, [4])]
theorem comp5 : compFn Try.prog loc5 (fun i => (fg5.lookup i).getD []) Try.f5 = some lit5 := by kernel_rfl

-- parcener/parcenerref06.Same
def lit6 : AFn := ⟨2, [.tmp 4],
 (.seq
 (.ops [⟨some 2, (.boxL (.t 0)), none⟩,
 ⟨some 3, (.boxL (.t 1)), none⟩,
 ⟨some 4, (.mv (.c (.bool false))), none⟩]
 [] [0, 1, 4])
 (.seq
 (.seq
 (.ops [⟨some 6, (.fad 0 (.t 2)), none⟩,
 ⟨some 7, (.load false 1 (.t 6)), none⟩,
 ⟨some 8, (.len (.t 7)), none⟩,
 ⟨some 9, (.fad 0 (.t 3)), none⟩,
 ⟨some 10, (.load false 1 (.t 9)), none⟩,
 ⟨some 11, (.len (.t 10)), none⟩,
 ⟨some 12, (.bin .neq (.t 8) (.t 11)), none⟩]
 [] [6, 7, 8, 9, 10, 11])
 (.cond (.t 12)
 (.seq
 (.ops [⟨some 4, (.mv (.c (.bool false))), none⟩]
 [] [2, 3, 12])
 .ret)
 .skip))
 (.seq
 (.seq
 (.ops [⟨some 5, (.mv (.c (.int .i64 (0)))), none⟩]
 [] [12])
 (.block 0
 (.loop
 (.seq
 (.seq
 (.ops [⟨some 13, (.mv (.t 5)), none⟩,
 ⟨some 14, (.fad 0 (.t 2)), none⟩,
 ⟨some 15, (.load false 1 (.t 14)), none⟩,
 ⟨some 16, (.len (.t 15)), none⟩,
 ⟨some 17, (.bin .lss (.t 13) (.t 16)), none⟩]
 [] [13, 14, 15, 16])
 (.cond (.t 17)
 .skip
 (.exit 0)))
 (.seq
 (.block 1
 (.seq
 (.ops [⟨some 20, (.fad 0 (.t 2)), none⟩,
 ⟨some 21, (.load false 1 (.t 20)), none⟩,
 ⟨some 22, (.mv (.t 5)), none⟩,
 ⟨some 23, (.iad 1 (.t 21) (.t 22)), none⟩,
 ⟨some 24, (.load false 1 (.t 23)), none⟩,
 ⟨some 25, (.fad 0 (.t 3)), none⟩,
 ⟨some 26, (.load false 1 (.t 25)), none⟩,
 ⟨some 27, (.mv (.t 5)), none⟩,
 ⟨some 28, (.iad 1 (.t 26) (.t 27)), none⟩,
 ⟨some 29, (.load false 1 (.t 28)), none⟩,
 ⟨some 30, (.call (.f 18) [(.t 24), (.t 29)]), none⟩,
 ⟨some 31, (.un .not (.t 30)), none⟩]
 [(0, 2), (1, 2), (0, 5), (1, 5), (2, 5), (3, 5), (4, 5), (0, 6), (1, 6), (2, 6), (3, 6), (4, 6), (0, 7), (1, 7), (2, 7), (3, 7), (4, 7), (5, 7), (6, 7), (0, 8), (1, 8), (2, 8), (3, 8), (4, 8), (0, 9), (1, 9), (2, 9), (3, 9), (4, 9)] [17, 20, 21, 22, 23, 24, 25, 26, 27, 28, 29, 30])
 (.cond (.t 31)
 (.seq
 (.ops [⟨some 4, (.mv (.c (.bool false))), none⟩]
 [] [2, 3, 5, 31])
 .ret)
 .skip)))
 (.ops [⟨some 18, (.mv (.t 5)), none⟩,
 ⟨some 19, (.bin .add (.t 18) (.c (.int .i64 (1)))), none⟩,
 ⟨some 5, (.mv (.t 19)), none⟩]
 [] [18, 19, 31]))))))
 (.seq
 (.ops [⟨some 4, (.mv (.c (.bool true))), none⟩]
 [] [2, 3, 5, 17])
 .ret))))⟩
def loc6 : List Nat := [2, 3]
def fg6 : List (Nat × List Nat) := [(8, [2, 3, 5, 17]), (5, [18, 19, 31]), (7, [2, 3, 5, 31]), (6, [17, 20, 21, 22, 23, 24, 25, 26, 27, 28, 29, 30]), (4, [13, 14, 15, 16]), (3, [12]), (2, [2, 3, 12]), (1, [6, 7, 8, 9, 10, 11]), (0, [0, 1, 4])]
theorem comp6 : compFn Try.prog loc6 (fun i => (fg6.lookup i).getD []) Try.f6 = some lit6 := by kernel_rfl

-- parcener/parcenerlaw10.of
def lit7 : AFn := ⟨1, [.cell 2 true 2],
 (.seq
 (.ops [⟨some 2, (.allocL (.agg [(.int .i64 (0)), (.int .i64 (0))])), none⟩]
 [] [])
 (.seq
 (.ops [⟨some 3, (.mv (.t 0)), none⟩,
 ⟨some 4, (.call (.f 19) [(.t 3)]), none⟩,
 ⟨none, (.store 2 (.t 2) (.t 4)), none⟩]
 [] [0, 3, 4])
 .ret))⟩
def loc7 : List Nat := [2]
def fg7 : List (Nat × List Nat) := [(1, [0, 3, 4])]
theorem comp7 : compFn Try.prog loc7 (fun i => (fg7.lookup i).getD []) Try.f7 = some lit7 := by kernel_rfl

-- parcener/triple.First
def lit8 : AFn := ⟨1, [.cell 2 true 2, .cell 3 true 20, .cell 4 false 1],
 (.seq
 (.ops [⟨some 1, (.boxL (.t 0)), none⟩,
 ⟨some 2, (.allocL (.agg [.nils, .nils])), none⟩,
 ⟨some 3, (.allocH true 20 (.agg [(.int .i64 (0)), (.int .i64 (0)), (.int .i64 (0)), (.int .i64 (0)), (.int .i64 (0)), (.int .i64 (0)), (.int .i64 (0)), (.int .i64 (0)), (.int .i64 (0)), (.int .i64 (0)), (.int .i64 (0)), (.int .i64 (0)), (.int .i64 (0)), (.int .i64 (0)), (.int .i64 (0)), (.int .i64 (0)), (.int .i64 (0)), (.int .i64 (0)), (.int .i64 (0)), (.int .i64 (0))])), none⟩,
 ⟨some 4, (.allocH true 1 (.int .i64 (0))), none⟩]
 [] [0])
 (.seq
 (.seq
 (.ops [⟨some 7, (.load true 2 (.t 1)), none⟩,
 ⟨some 8, (.call (.f 11) [(.t 7)]), none⟩,
 ⟨some 5, (.mv (.t 8)), none⟩]
 [] [7, 8])
 (.seq
 (.ops [⟨some 9, (.mv (.t 5)), none⟩,
 ⟨some 10, (.bin .neq (.t 9) (.c (.int .i64 (0)))), none⟩]
 [] [9])
 (.cond (.t 10)
 (.seq
 (.ops [⟨some 11, (.build [.nils, .nils] []), none⟩,
 ⟨some 12, (.build [(.int .i64 (0)), (.int .i64 (0)), (.int .i64 (0)), (.int .i64 (0)), (.int .i64 (0)), (.int .i64 (0)), (.int .i64 (0)), (.int .i64 (0)), (.int .i64 (0)), (.int .i64 (0)), (.int .i64 (0)), (.int .i64 (0)), (.int .i64 (0)), (.int .i64 (0)), (.int .i64 (0)), (.int .i64 (0)), (.int .i64 (0)), (.int .i64 (0)), (.int .i64 (0)), (.int .i64 (0))] []), none⟩,
 ⟨some 13, (.mv (.t 5)), none⟩,
 ⟨none, (.store 2 (.t 2) (.t 11)), none⟩,
 ⟨none, (.store 20 (.t 3) (.t 12)), none⟩,
 ⟨none, (.store 1 (.t 4) (.t 13)), none⟩]
 [] [1, 5, 10, 11, 12, 13])
 .ret)
 .skip)))
 (.seq
 (.ops [⟨some 14, (.load true 2 (.t 1)), none⟩,
 ⟨some 15, (.build [.nils, .nils] [(0, 2, (.t 14))]), none⟩,
 ⟨some 6, (.allocH true 2 (.agg [(.data []), (.data [])])), none⟩,
 ⟨none, (.store 2 (.t 6) (.t 15)), none⟩]
 [] [1, 5, 10, 14, 15])
 (.seq
 (.ops [⟨some 16, (.mkFn (.func 20) [] [(.t 4), (.t 6), (.t 3)]), none⟩,
 ⟨some 17, (.call (.t 16) []), none⟩]
 [] [16, 17])
 (.seq
 (.seq
 (.ops [⟨some 18, (.load false 1 (.t 4)), none⟩,
 ⟨some 19, (.bin .neq (.t 18) (.c (.int .i64 (0)))), none⟩]
 [] [18])
 (.cond (.t 19)
 (.seq
 (.ops [⟨some 20, (.build [.nils, .nils] []), none⟩,
 ⟨some 21, (.build [(.int .i64 (0)), (.int .i64 (0)), (.int .i64 (0)), (.int .i64 (0)), (.int .i64 (0)), (.int .i64 (0)), (.int .i64 (0)), (.int .i64 (0)), (.int .i64 (0)), (.int .i64 (0)), (.int .i64 (0)), (.int .i64 (0)), (.int .i64 (0)), (.int .i64 (0)), (.int .i64 (0)), (.int .i64 (0)), (.int .i64 (0)), (.int .i64 (0)), (.int .i64 (0)), (.int .i64 (0))] []), none⟩,
 ⟨some 22, (.load false 1 (.t 4)), none⟩,
 ⟨none, (.store 2 (.t 2) (.t 20)), none⟩,
 ⟨none, (.store 20 (.t 3) (.t 21)), none⟩,
 ⟨none, (.store 1 (.t 4) (.t 22)), none⟩]
 [(0, 1), (0, 2), (1, 2), (1, 3), (2, 3), (2, 4)] [6, 19, 20, 21, 22])
 .ret)
 .skip))
 (.seq
 (.ops [⟨some 23, (.fad 0 (.t 6)), none⟩,
 ⟨some 24, (.load true 2 (.t 23)), none⟩,
 ⟨some 25, (.load true 20 (.t 3)), none⟩,
 ⟨none, (.store 2 (.t 2) (.t 24)), none⟩,
 ⟨none, (.store 20 (.t 3) (.t 25)), none⟩,
 ⟨none, (.store 1 (.t 4) (.c (.int .i64 (0)))), none⟩]
 [(0, 2), (1, 2), (2, 3)] [6, 19, 23, 24, 25])
 .ret))))))⟩
def loc8 : List Nat := [1, 2]
def fg8 : List (Nat × List Nat) := [(8, [6, 19, 23, 24, 25]), (7, [6, 19, 20, 21, 22]), (6, [18]), (5, [16, 17]), (4, [1, 5, 10, 14, 15]), (3, [1, 5, 10, 11, 12, 13]), (2, [9]), (1, [7, 8]), (0, [0])]
theorem comp8 : compFn Try.prog loc8 (fun i => (fg8.lookup i).getD []) Try.f8 = some lit8 := by kernel_rfl

-- parcener/triple.Bound
def lit9 : AFn := ⟨0, [.tmp 0],
 (.seq
 (.ops [⟨some 0, (.mv (.c (.int .i64 (0)))), none⟩]
 [] [0])
 (.seq
 (.ops [⟨some 0, (.mv (.c (.int .i64 (16)))), none⟩]
 [] [])
 .ret))⟩
def loc9 : List Nat := []
def fg9 : List (Nat × List Nat) := [(0, [0])]
theorem comp9 : compFn Try.prog loc9 (fun i => (fg9.lookup i).getD []) Try.f9 = some lit9 := by kernel_rfl

-- parcener/parcenerlaw10.alive
def lit10 : AFn := ⟨0, [.tmp 0],
 (.seq
 (.ops [⟨some 0, (.mv (.c (.bool false))), none⟩]
 [] [0])
 (.seq
 (.ops [⟨some 8, (.call (.f 4) []), none⟩,
 ⟨some 9, (.call (.f 5) [(.t 8)]), none⟩,
 ⟨some 7, (.mv (.t 9)), none⟩,
 ⟨some 10, (.ext (.t 7) 0), none⟩,
 ⟨some 11, (.ext (.t 7) 1), none⟩,
 ⟨some 12, (.ext (.t 7) 2), none⟩,
 ⟨some 13, (.ext (.t 7) 3), none⟩,
 ⟨some 1, (.allocL (.agg [.nils])), none⟩,
 ⟨some 2, (.allocL (.agg [(.int .i64 (0)), (.int .i64 (0)), (.int .i64 (0)), (.int .i64 (0)), (.int .i64 (0)), (.int .i64 (0)), (.int .i64 (0)), (.int .i64 (0)), (.int .i64 (0)), (.int .i64 (0)), (.int .i64 (0)), (.int .i64 (0)), (.int .i64 (0)), (.int .i64 (0)), (.int .i64 (0)), (.int .i64 (0)), (.int .i64 (0)), (.int .i64 (0)), (.int .i64 (0)), (.int .i64 (0))])), none⟩,
 ⟨none, (.store 1 (.t 1) (.t 10)), none⟩,
 ⟨none, (.store 20 (.t 2) (.t 11)), none⟩,
 ⟨some 3, (.mv (.t 12)), none⟩,
 ⟨some 4, (.mv (.t 13)), none⟩]
 [] [7, 8, 9, 10, 11, 12, 13])
 (.seq
 (.ops [⟨some 14, (.build [(.int .i64 (0)), (.int .i64 (0))] [(0, 1, (.c (.int .i64 (11)))), (1, 1, (.c (.int .i64 (2))))]), none⟩,
 ⟨some 5, (.allocL (.agg [(.int .i64 (0)), (.int .i64 (0))])), none⟩,
 ⟨none, (.store 2 (.t 5) (.t 14)), none⟩]
 [] [14])
 (.seq
 (.ops [⟨some 15, (.call (.f 7) [(.c (.int .i64 (0)))]), none⟩,
 ⟨some 16, (.call (.f 7) [(.c (.int .i64 (2)))]), none⟩,
 ⟨some 17, (.build [(.int .i64 (0)), (.int .i64 (0)), (.int .i64 (0)), (.int .i64 (0))] [(0, 2, (.t 15)), (2, 2, (.t 16))]), none⟩,
 ⟨some 18, (.call (.f 7) [(.c (.int .i64 (2)))]), none⟩,
 ⟨some 19, (.call (.f 7) [(.c (.int .i64 (4)))]), none⟩,
 ⟨some 20, (.build [(.int .i64 (0)), (.int .i64 (0)), (.int .i64 (0)), (.int .i64 (0))] [(0, 2, (.t 18)), (2, 2, (.t 19))]), none⟩,
 ⟨some 21, (.load true 2 (.t 5)), none⟩,
 ⟨some 22, (.call (.f 7) [(.c (.int .i64 (6)))]), none⟩,
 ⟨some 23, (.build [(.int .i64 (0)), (.int .i64 (0)), (.int .i64 (0)), (.int .i64 (0))] [(0, 2, (.t 21)), (2, 2, (.t 22))]), none⟩,
 ⟨some 24, (.build [(.int .i64 (0)), (.int .i64 (0)), (.int .i64 (0)), (.int .i64 (0)), (.int .i64 (0)), (.int .i64 (0)), (.int .i64 (0)), (.int .i64 (0)), (.int .i64 (0)), (.int .i64 (0)), (.int .i64 (0)), (.int .i64 (0))] [(0, 4, (.t 17)), (4, 4, (.t 20)), (8, 4, (.t 23))]), none⟩,
 ⟨some 25, (.call (.f 7) [(.c (.int .i64 (4)))]), none⟩,
 ⟨some 26, (.load true 2 (.t 5)), none⟩,
 ⟨some 27, (.build [(.int .i64 (0)), (.int .i64 (0)), (.int .i64 (0)), (.int .i64 (0))] [(0, 2, (.t 25)), (2, 2, (.t 26))]), none⟩,
 ⟨some 28, (.build [(.int .i64 (0)), (.int .i64 (0)), (.int .i64 (0))] [(0, 1, (.c (.int .i64 (1)))), (1, 1, (.c (.int .i64 (2)))), (2, 1, (.c (.int .i64 (0))))]), none⟩,
 ⟨some 29, (.build [(.int .i64 (0)), (.int .i64 (0)), (.int .i64 (0)), (.int .i64 (0)), (.int .i64 (0)), (.int .i64 (0)), (.int .i64 (0)), (.int .i64 (0)), (.int .i64 (0)), (.int .i64 (0)), (.int .i64 (0)), (.int .i64 (0)), (.int .i64 (0)), (.int .i64 (0)), (.int .i64 (0)), (.int .i64 (0)), (.int .i64 (0)), (.int .i64 (0)), (.int .i64 (0)), (.int .i64 (0))] [(0, 12, (.t 24)), (12, 1, (.c (.int .i64 (2)))), (13, 4, (.t 27)), (17, 3, (.t 28))]), none⟩,
 ⟨some 6, (.allocL (.agg [(.int .i64 (0)), (.int .i64 (0)), (.int .i64 (0)), (.int .i64 (0)), (.int .i64 (0)), (.int .i64 (0)), (.int .i64 (0)), (.int .i64 (0)), (.int .i64 (0)), (.int .i64 (0)), (.int .i64 (0)), (.int .i64 (0)), (.int .i64 (0)), (.int .i64 (0)), (.int .i64 (0)), (.int .i64 (0)), (.int .i64 (0)), (.int .i64 (0)), (.int .i64 (0)), (.int .i64 (0))])), none⟩,
 ⟨none, (.store 20 (.t 6) (.t 29)), none⟩]
 [(2, 3), (2, 4), (2, 5), (0, 6), (1, 6), (2, 6), (3, 6), (4, 6), (5, 6), (2, 7), (5, 7), (6, 7), (2, 8), (5, 8), (2, 10), (5, 10), (6, 10), (8, 10), (9, 10), (0, 11), (1, 11), (2, 11), (3, 11), (4, 11), (5, 11), (6, 11), (7, 11), (8, 11), (9, 11), (10, 11), (2, 12), (5, 12), (6, 12), (8, 12), (9, 12), (0, 13), (1, 13), (2, 13), (3, 13), (4, 13), (5, 13), (6, 13), (7, 13), (8, 13), (9, 13), (10, 13), (11, 13), (12, 13), (0, 15), (1, 15), (2, 15), (3, 15), (4, 15), (5, 15), (6, 15), (7, 15), (8, 15), (9, 15), (10, 15), (11, 15), (12, 15), (13, 15), (14, 15)] [5, 15, 16, 17, 18, 19, 20, 21, 22, 23, 24, 25, 26, 27, 28, 29])
 (.seq
 (.ops [⟨some 30, (.mv (.t 4)), none⟩,
 ⟨some 31, (.bin .eql (.t 30) (.c (.int .i64 (0)))), none⟩,
 ⟨some 32, (.mv (.t 31)), none⟩,
 ⟨some 33, (.load true 20 (.t 2)), some (32, true)⟩,
 ⟨some 34, (.load true 20 (.t 6)), some (32, true)⟩,
 ⟨some 35, (.eqA false 20 [(0, (some .i64)), (1, (some .i64)), (2, (some .i64)), (3, (some .i64)), (4, (some .i64)), (5, (some .i64)), (6, (some .i64)), (7, (some .i64)), (8, (some .i64)), (9, (some .i64)), (10, (some .i64)), (11, (some .i64)), (12, (some .i64)), (13, (some .i64)), (14, (some .i64)), (15, (some .i64)), (16, (some .i64)), (17, (some .i64)), (18, (some .i64)), (19, (some .i64))] (.t 33) (.t 34)), some (32, true)⟩,
 ⟨some 36, (.pick (.t 32) (.t 35) (.c (.bool false))), none⟩,
 ⟨some 37, (.mv (.t 36)), none⟩,
 ⟨some 38, (.mv (.t 3)), some (37, true)⟩,
 ⟨some 39, (.len (.t 38)), some (37, true)⟩,
 ⟨some 40, (.bin .eql (.t 39) (.c (.int .i64 (16)))), some (37, true)⟩,
 ⟨some 41, (.pick (.t 37) (.t 40) (.c (.bool false))), none⟩,
 ⟨some 42, (.mv (.t 41)), none⟩,
 ⟨some 43, (.load true 1 (.t 1)), some (42, true)⟩,
 ⟨some 44, (.call (.f 7) [(.c (.int .i64 (2)))]), some (42, true)⟩,
 ⟨some 45, (.call (.f 7) [(.c (.int .i64 (4)))]), some (42, true)⟩,
 ⟨some 46, (.build [(.int .i64 (0)), (.int .i64 (0)), (.int .i64 (0)), (.int .i64 (0))] [(0, 2, (.t 44)), (2, 2, (.t 45))]), some (42, true)⟩,
 ⟨some 47, (.buildD 4 (.agg [(.int .i64 (0)), (.int .i64 (0)), (.int .i64 (0)), (.int .i64 (0))]) 1 [(0, (.t 46))]), some (42, true)⟩,
 ⟨some 48, (.call (.f 7) [(.c (.int .i64 (4)))]), some (42, true)⟩,
 ⟨some 49, (.call (.f 7) [(.c (.int .i64 (6)))]), some (42, true)⟩,
 ⟨some 50, (.build [(.int .i64 (0)), (.int .i64 (0)), (.int .i64 (0)), (.int .i64 (0))] [(0, 2, (.t 48)), (2, 2, (.t 49))]), some (42, true)⟩,
 ⟨some 51, (.buildD 4 (.agg [(.int .i64 (0)), (.int .i64 (0)), (.int .i64 (0)), (.int .i64 (0))]) 1 [(0, (.t 50))]), some (42, true)⟩,
 ⟨some 52, (.call (.f 7) [(.c (.int .i64 (0)))]), some (42, true)⟩,
 ⟨some 53, (.call (.f 7) [(.c (.int .i64 (2)))]), some (42, true)⟩,
 ⟨some 54, (.build [(.int .i64 (0)), (.int .i64 (0)), (.int .i64 (0)), (.int .i64 (0))] [(0, 2, (.t 52)), (2, 2, (.t 53))]), some (42, true)⟩,
 ⟨some 55, (.buildD 4 (.agg [(.int .i64 (0)), (.int .i64 (0)), (.int .i64 (0)), (.int .i64 (0))]) 1 [(0, (.t 54))]), some (42, true)⟩,
 ⟨some 56, (.buildD 1 (.data []) 3 [(0, (.t 47)), (1, (.t 51)), (2, (.t 55))]), some (42, true)⟩,
 ⟨some 57, (.build [.nils] [(0, 1, (.t 56))]), some (42, true)⟩,
 ⟨some 58, (.call (.f 6) [(.t 43), (.t 57)]), some (42, true)⟩,
 ⟨some 59, (.pick (.t 42) (.t 58) (.c (.bool false))), none⟩,
 ⟨some 0, (.mv (.t 59)), none⟩]
 [(3, 4), (13, 14), (13, 15), (13, 16), (13, 17), (13, 18), (16, 18), (17, 18), (13, 19), (16, 19), (17, 19), (13, 20), (16, 20), (17, 20), (13, 21), (16, 21), (17, 21), (13, 22), (16, 22), (17, 22), (20, 22), (21, 22), (13, 23), (16, 23), (17, 23), (20, 23), (21, 23), (13, 24), (16, 24), (17, 24), (20, 24), (21, 24), (13, 25), (16, 25), (17, 25), (20, 25), (21, 25), (13, 26), (13, 27)] [1, 2, 3, 4, 6, 30, 31, 32, 33, 34, 35, 36, 37, 38, 39, 40, 41, 42, 43, 44, 45, 46, 47, 48, 49, 50, 51, 52, 53, 54, 55, 56, 57, 58, 59])
 .ret)))))⟩
def loc10 : List Nat := [47, 51, 55, 56, 1, 2, 5, 6]
def fg10 : List (Nat × List Nat) := [(4, [1, 2, 3, 4, 6, 30, 31, 32, 33, 34, 35, 36, 37, 38, 39, 40, 41, 42, 43, 44, 45, 46, 47, 48, 49, 50, 51, 52, 53, 54, 55, 56, 57, 58, 59]), (3, [5, 15, 16, 17, 18, 19, 20, 21, 22, 23, 24, 25, 26, 27, 28, 29]), (2, [14]), (1, [7, 8, 9, 10, 11, 12, 13]), (0, [0])]
theorem comp10 : compFn Try.prog loc10 (fun i => (fg10.lookup i).getD []) Try.f10 = some lit10 := by kernel_rfl

-- parcener/triple.seated
def lit11 : AFn := ⟨1, [.tmp 2],
 (.seq
 (.ops [⟨some 1, (.boxL (.t 0)), none⟩,
 ⟨some 2, (.mv (.c (.int .i64 (0)))), none⟩]
 [] [0, 2])
 (.seq
 (.seq
 (.ops [⟨some 4, (.load true 2 (.t 1)), none⟩,
 ⟨some 5, (.call (.f 21) [(.t 4)]), none⟩,
 ⟨some 3, (.mv (.t 5)), none⟩]
 [] [4, 5])
 (.seq
 (.ops [⟨some 6, (.mv (.t 3)), none⟩,
 ⟨some 7, (.bin .neq (.t 6) (.c (.int .i64 (0)))), none⟩]
 [] [6])
 (.cond (.t 7)
 (.seq
 (.ops [⟨some 8, (.mv (.t 3)), none⟩,
 ⟨some 2, (.mv (.t 8)), none⟩]
 [] [1, 3, 7, 8])
 .ret)
 .skip)))
 (.seq
 (.seq
 (.ops [⟨some 9, (.fad 0 (.t 1)), none⟩,
 ⟨some 10, (.load false 1 (.t 9)), none⟩,
 ⟨some 11, (.len (.t 10)), none⟩,
 ⟨some 12, (.bin .neq (.t 11) (.c (.int .i64 (3)))), none⟩]
 [] [1, 3, 7, 9, 10, 11])
 (.cond (.t 12)
 (.seq
 (.ops [⟨some 2, (.mv (.c (.int .i64 (2)))), none⟩]
 [] [12])
 .ret)
 .skip))
 (.seq
 (.ops [⟨some 2, (.mv (.c (.int .i64 (0)))), none⟩]
 [] [12])
 .ret))))⟩
def loc11 : List Nat := [1]
def fg11 : List (Nat × List Nat) := [(6, [12]), (5, [12]), (4, [1, 3, 7, 9, 10, 11]), (3, [1, 3, 7, 8]), (2, [6]), (1, [4, 5]), (0, [0, 2])]
theorem comp11 : compFn Try.prog loc11 (fun i => (fg11.lookup i).getD []) Try.f11 = some lit11 := by kernel_rfl

-- parcener/triple.Run$1
def lit12 : AFn := ⟨4, [],
 (.seq
 (.ops [⟨none, (.dfr 13), none⟩]
 [] [0])
 (.seq
 (.ops [⟨some 9, (.call (.f 14) [(.t 1)]), none⟩,
 ⟨none, (.store 20 (.t 2) (.t 9)), none⟩]
 [] [9])
 (.seq
 (.ops [⟨some 4, (.allocL (.agg [(.int .i64 (0)), (.int .i64 (0)), (.int .i64 (0)), (.int .i64 (0)), (.int .i64 (0)), (.int .i64 (0)), (.int .i64 (0)), (.int .i64 (0)), (.int .i64 (0)), (.int .i64 (0)), (.int .i64 (0)), (.int .i64 (0))])), none⟩]
 [] [])
 (.seq
 (.seq
 (.ops [⟨some 10, (.fad 12 (.t 2)), none⟩,
 ⟨some 11, (.load false 1 (.t 10)), none⟩,
 ⟨some 12, (.bin .geq (.t 11) (.c (.int .i64 (0)))), none⟩]
 [] [10, 11])
 (.cond (.t 12)
 (.ops [⟨some 13, (.load true 20 (.t 2)), none⟩,
 ⟨some 14, (.call (.f 15) [(.t 1), (.t 13)]), none⟩,
 ⟨none, (.store 12 (.t 4) (.t 14)), none⟩]
 [] [1, 12, 13, 14])
 .skip))
 (.seq
 (.ops [⟨some 15, (.mv (.c (.int .i64 (0)))), none⟩]
 [] [1, 12])
 (.block 0
 (.loop
 (.seq
 (.ops [⟨some 16, (.bin .lss (.t 15) (.c (.int .i64 (3)))), none⟩]
 [] [])
 (.seq
 (.cond (.t 16)
 .skip
 (.exit 0))
 (.seq
 (.block 1
 (.seq
 (.ops [⟨some 17, (.mv (.t 15)), none⟩,
 ⟨some 5, (.mv (.t 17)), none⟩]
 [] [16, 17])
 (.seq
 (.ops [⟨some 6, (.mv (.c .nils)), none⟩]
 [] [])
 (.seq
 (.seq
 (.ops [⟨some 18, (.mv (.t 5)), none⟩,
 ⟨some 19, (.fad 17 (.t 2)), none⟩,
 ⟨some 20, (.iadA 3 1 (.t 19) (.t 18)), none⟩,
 ⟨some 21, (.load false 1 (.t 20)), none⟩,
 ⟨some 22, (.fad 0 (.t 2)), none⟩,
 ⟨some 23, (.iadA 3 4 (.t 22) (.t 21)), none⟩,
 ⟨some 24, (.load true 4 (.t 23)), none⟩,
 ⟨some 25, (.mv (.t 5)), none⟩,
 ⟨some 26, (.iadA 3 4 (.t 4) (.t 25)), none⟩,
 ⟨some 27, (.load true 4 (.t 26)), none⟩,
 ⟨some 28, (.buildD 4 (.agg [(.int .i64 (0)), (.int .i64 (0)), (.int .i64 (0)), (.int .i64 (0))]) 2 [(0, (.t 24)), (1, (.t 27))]), none⟩,
 ⟨some 29, (.len (.t 28)), none⟩,
 ⟨some 30, (.mv (.c (.int .i64 (0)))), none⟩]
 [(0, 1), (0, 4), (1, 4), (2, 4), (3, 4), (0, 7), (1, 7), (2, 7), (3, 7), (4, 7), (5, 7), (6, 7), (0, 8), (1, 8), (2, 8), (3, 8), (4, 8), (5, 8), (6, 8), (0, 9), (1, 9), (2, 9), (3, 9), (4, 9), (5, 9), (6, 9), (0, 12), (1, 12), (2, 12), (3, 12), (4, 12), (5, 12), (6, 12), (7, 12), (8, 12), (9, 12), (10, 12), (11, 12)] [5, 18, 19, 20, 21, 22, 23, 24, 25, 26, 27])
 (.block 2
 (.loop
 (.seq
 (.ops [⟨some 31, (.bin .lss (.t 30) (.t 29)), none⟩]
 [] [])
 (.seq
 (.cond (.t 31)
 .skip
 (.exit 2))
 (.seq
 (.block 3
 (.seq
 (.ops [⟨some 32, (.iad 4 (.t 28) (.t 30)), none⟩,
 ⟨some 33, (.load true 4 (.t 32)), none⟩,
 ⟨some 8, (.allocL (.agg [(.int .i64 (0)), (.int .i64 (0)), (.int .i64 (0)), (.int .i64 (0))])), none⟩,
 ⟨none, (.store 4 (.t 8) (.t 33)), none⟩]
 [] [31, 32, 33])
 (.seq
 (.ops [⟨some 34, (.fad 0 (.t 8)), none⟩,
 ⟨some 35, (.load true 2 (.t 34)), none⟩,
 ⟨some 36, (.fad 2 (.t 8)), none⟩,
 ⟨some 37, (.load true 2 (.t 36)), none⟩,
 ⟨some 38, (.eqA true 2 [(0, (some .i64)), (1, (some .i64))] (.t 35) (.t 37)), none⟩]
 [] [34, 35, 36, 37])
 (.cond (.t 38)
 (.ops [⟨some 39, (.mv (.t 6)), none⟩,
 ⟨some 40, (.load true 4 (.t 8)), none⟩,
 ⟨some 41, (.buildD 4 (.agg [(.int .i64 (0)), (.int .i64 (0)), (.int .i64 (0)), (.int .i64 (0))]) 1 [(0, (.t 40))]), none⟩,
 ⟨some 42, (.app true 4 32 (.t 39) (.t 41)), none⟩,
 ⟨some 6, (.mv (.t 42)), none⟩]
 [] [8, 38, 39, 40, 41, 42])
 .skip))))
 (.ops [⟨some 43, (.bin .add (.t 30) (.c (.int .i64 (1)))), none⟩,
 ⟨some 30, (.mv (.t 43)), none⟩]
 [] [8, 38, 43])))))))
 (.ops [⟨some 44, (.fad 0 (.t 3)), none⟩,
 ⟨some 45, (.load false 1 (.t 44)), none⟩,
 ⟨some 46, (.mv (.t 6)), none⟩,
 ⟨some 47, (.call (.f 17) [(.t 46)]), none⟩,
 ⟨some 48, (.ext (.t 47) 0), none⟩,
 ⟨some 49, (.ext (.t 47) 1), none⟩,
 ⟨some 50, (.call (.f 16) [(.t 48), (.t 49)]), none⟩,
 ⟨some 51, (.buildD 1 (.data []) 1 [(0, (.t 50))]), none⟩,
 ⟨some 52, (.app true 1 24 (.t 45) (.t 51)), none⟩,
 ⟨some 53, (.fad 0 (.t 3)), none⟩,
 ⟨none, (.store 1 (.t 53) (.t 52)), none⟩]
 [(0, 2), (1, 2), (0, 3), (1, 3), (0, 4), (1, 4), (0, 5), (1, 5), (4, 5), (0, 6), (1, 6), (0, 7), (1, 7)] [6, 28, 29, 30, 31, 44, 45, 46, 47, 48, 49, 50, 51, 52, 53])))))
 (.ops [⟨some 54, (.bin .add (.t 15) (.c (.int .i64 (1)))), none⟩,
 ⟨some 15, (.mv (.t 54)), none⟩]
 [] [54])))))))))))⟩
def loc12 : List Nat := [28, 41, 51, 4, 8, 1000004, 1000008]
def fg12 : List (Nat × List Nat) := [(16, [54]), (15, [6, 28, 29, 30, 31, 44, 45, 46, 47, 48, 49, 50, 51, 52, 53]), (14, [8, 38, 43]), (13, [8, 38, 39, 40, 41, 42]), (12, [34, 35, 36, 37]), (11, [31, 32, 33]), (9, [5, 18, 19, 20, 21, 22, 23, 24, 25, 26, 27]), (7, [16, 17]), (5, [1, 12]), (4, [1, 12, 13, 14]), (3, [10, 11]), (1, [9]), (0, [0])]
theorem comp12 : compFn Try.prog loc12 (fun i => (fg12.lookup i).getD []) Try.f12 = some lit12 := by kernel_rfl

-- (*parcener/triple.table).first
def lit14 : AFn := ⟨1, [.cell 2 true 20],
 (.seq
 (.ops [⟨some 2, (.allocL (.agg [(.int .i64 (0)), (.int .i64 (0)), (.int .i64 (0)), (.int .i64 (0)), (.int .i64 (0)), (.int .i64 (0)), (.int .i64 (0)), (.int .i64 (0)), (.int .i64 (0)), (.int .i64 (0)), (.int .i64 (0)), (.int .i64 (0)), (.int .i64 (0)), (.int .i64 (0)), (.int .i64 (0)), (.int .i64 (0)), (.int .i64 (0)), (.int .i64 (0)), (.int .i64 (0)), (.int .i64 (0))])), none⟩]
 [] [])
 (.seq
 (.ops [⟨some 12, (.call (.f 22) [(.c (.int .i64 (0)))]), none⟩,
 ⟨some 13, (.mv (.t 0)), none⟩,
 ⟨some 14, (.nilchk (.t 13)), none⟩,
 ⟨some 15, (.fad 0 (.t 14)), none⟩,
 ⟨some 16, (.fad 0 (.t 15)), none⟩,
 ⟨some 17, (.load false 1 (.t 16)), none⟩,
 ⟨some 18, (.iad 3 (.t 17) (.c (.int .i64 (0)))), none⟩,
 ⟨some 19, (.fad 0 (.t 18)), none⟩,
 ⟨some 20, (.load false 1 (.t 19)), none⟩,
 ⟨some 21, (.call (.f 22) [(.t 20)]), none⟩,
 ⟨some 3, (.allocL (.agg [(.int .i64 (0)), (.int .i64 (0))])), none⟩,
 ⟨some 4, (.allocL (.agg [(.int .i64 (0)), (.int .i64 (0))])), none⟩,
 ⟨none, (.store 2 (.t 3) (.t 12)), none⟩,
 ⟨none, (.store 2 (.t 4) (.t 21)), none⟩]
 [(0, 1), (0, 2), (0, 3), (0, 4), (0, 5), (0, 6), (0, 7), (0, 8), (0, 10), (1, 10), (2, 10), (3, 10), (4, 10), (5, 10), (6, 10), (7, 10), (8, 10), (9, 10), (0, 11), (1, 11), (2, 11), (3, 11), (4, 11), (5, 11), (6, 11), (7, 11), (8, 11), (9, 11), (10, 11)] [12, 13, 14, 15, 16, 17, 18, 19, 20, 21])
 (.seq
 (.ops [⟨some 23, (.mv (.t 0)), none⟩,
 ⟨some 24, (.load true 2 (.t 3)), none⟩,
 ⟨some 25, (.mv (.t 0)), none⟩,
 ⟨some 26, (.call (.f 24) [(.t 25), (.c (.int .i64 (0)))]), none⟩,
 ⟨some 27, (.call (.f 23) [(.t 23), (.c (.int .i64 (0))), (.t 24), (.t 26)]), none⟩,
 ⟨some 22, (.mv (.t 27)), none⟩,
 ⟨some 28, (.ext (.t 22) 0), none⟩,
 ⟨some 29, (.ext (.t 22) 1), none⟩,
 ⟨some 5, (.allocL (.agg [(.int .i64 (0)), (.int .i64 (0))])), none⟩,
 ⟨some 6, (.allocL (.agg [(.int .i64 (0)), (.int .i64 (0))])), none⟩,
 ⟨none, (.store 2 (.t 5) (.t 28)), none⟩,
 ⟨none, (.store 2 (.t 6) (.t 29)), none⟩]
 [(0, 1), (0, 2), (1, 2), (0, 3), (1, 3), (6, 7), (0, 8), (1, 8), (2, 8), (3, 8), (4, 8), (5, 8), (6, 8), (7, 8), (0, 9), (1, 9), (2, 9), (3, 9), (4, 9), (5, 9), (6, 9), (7, 9), (8, 9), (7, 10)] [22, 23, 24, 25, 26, 27, 28, 29])
 (.seq
 (.ops [⟨some 30, (.load true 2 (.t 3)), none⟩,
 ⟨some 31, (.load true 2 (.t 5)), none⟩,
 ⟨some 32, (.build [(.int .i64 (0)), (.int .i64 (0)), (.int .i64 (0)), (.int .i64 (0))] [(0, 2, (.t 30)), (2, 2, (.t 31))]), none⟩,
 ⟨some 33, (.load true 2 (.t 5)), none⟩,
 ⟨some 34, (.load true 2 (.t 6)), none⟩,
 ⟨some 35, (.build [(.int .i64 (0)), (.int .i64 (0)), (.int .i64 (0)), (.int .i64 (0))] [(0, 2, (.t 33)), (2, 2, (.t 34))]), none⟩,
 ⟨some 36, (.load true 2 (.t 6)), none⟩,
 ⟨some 37, (.load true 2 (.t 4)), none⟩,
 ⟨some 38, (.build [(.int .i64 (0)), (.int .i64 (0)), (.int .i64 (0)), (.int .i64 (0))] [(0, 2, (.t 36)), (2, 2, (.t 37))]), none⟩,
 ⟨some 39, (.build [(.int .i64 (0)), (.int .i64 (0)), (.int .i64 (0)), (.int .i64 (0)), (.int .i64 (0)), (.int .i64 (0)), (.int .i64 (0)), (.int .i64 (0)), (.int .i64 (0)), (.int .i64 (0)), (.int .i64 (0)), (.int .i64 (0))] [(0, 4, (.t 32)), (4, 4, (.t 35)), (8, 4, (.t 38))]), none⟩,
 ⟨some 40, (.build [(.int .i64 (0)), (.int .i64 (0)), (.int .i64 (0)), (.int .i64 (0)), (.int .i64 (0)), (.int .i64 (0)), (.int .i64 (0)), (.int .i64 (0)), (.int .i64 (0)), (.int .i64 (0)), (.int .i64 (0)), (.int .i64 (0)), (.int .i64 (0)), (.int .i64 (0)), (.int .i64 (0)), (.int .i64 (0)), (.int .i64 (0)), (.int .i64 (0)), (.int .i64 (0)), (.int .i64 (0))] [(0, 12, (.t 39)), (12, 1, (.c (.int .i64 (-1))))]), none⟩,
 ⟨some 7, (.allocH true 20 (.agg [(.int .i64 (0)), (.int .i64 (0)), (.int .i64 (0)), (.int .i64 (0)), (.int .i64 (0)), (.int .i64 (0)), (.int .i64 (0)), (.int .i64 (0)), (.int .i64 (0)), (.int .i64 (0)), (.int .i64 (0)), (.int .i64 (0)), (.int .i64 (0)), (.int .i64 (0)), (.int .i64 (0)), (.int .i64 (0)), (.int .i64 (0)), (.int .i64 (0)), (.int .i64 (0)), (.int .i64 (0))])), none⟩,
 ⟨none, (.store 20 (.t 7) (.t 40)), none⟩]
 [] [3, 4, 5, 6, 30, 31, 32, 33, 34, 35, 36, 37, 38, 39, 40])
 (.seq
 (.ops [⟨some 41, (.mv (.t 0)), none⟩,
 ⟨some 42, (.fad 0 (.t 7)), none⟩,
 ⟨some 43, (.iadA 3 4 (.t 42) (.c (.int .i64 (0)))), none⟩,
 ⟨some 44, (.load true 4 (.t 43)), none⟩,
 ⟨some 45, (.fad 0 (.t 7)), none⟩,
 ⟨some 46, (.iadA 3 4 (.t 45) (.c (.int .i64 (1)))), none⟩,
 ⟨some 47, (.load true 4 (.t 46)), none⟩,
 ⟨some 48, (.buildD 4 (.agg [(.int .i64 (0)), (.int .i64 (0)), (.int .i64 (0)), (.int .i64 (0))]) 2 [(0, (.t 44)), (1, (.t 47))]), none⟩,
 ⟨some 49, (.call (.f 25) [(.t 41), (.c (.int .i64 (1))), (.t 48)]), none⟩,
 ⟨some 8, (.mv (.t 49)), none⟩]
 [] [41, 42, 43, 44, 45, 46, 47, 48, 49])
 (.seq
 (.ops [⟨some 50, (.mv (.t 8)), none⟩,
 ⟨some 51, (.mv (.t 0)), none⟩,
 ⟨some 52, (.call (.f 24) [(.t 51), (.c (.int .i64 (1)))]), none⟩,
 ⟨some 53, (.mv (.t 8)), none⟩,
 ⟨some 54, (.iad 2 (.t 53) (.c (.int .i64 (0)))), none⟩,
 ⟨some 55, (.load true 2 (.t 54)), none⟩,
 ⟨some 56, (.call (.f 27) [(.t 52), (.t 55)]), none⟩,
 ⟨some 57, (.ext (.t 56) 0), none⟩,
 ⟨some 58, (.ext (.t 56) 1), none⟩,
 ⟨some 59, (.call (.f 26) [(.t 57), (.t 58)]), none⟩,
 ⟨some 60, (.mv (.t 8)), none⟩,
 ⟨some 61, (.iad 2 (.t 60) (.c (.int .i64 (1)))), none⟩,
 ⟨some 62, (.load true 2 (.t 61)), none⟩,
 ⟨some 63, (.call (.f 27) [(.t 59), (.t 62)]), none⟩,
 ⟨some 64, (.ext (.t 63) 0), none⟩,
 ⟨some 65, (.ext (.t 63) 1), none⟩,
 ⟨some 66, (.call (.f 26) [(.t 64), (.t 65)]), none⟩,
 ⟨some 67, (.buildD 2 (.agg [(.int .i64 (0)), (.int .i64 (0))]) 1 [(0, (.t 66))]), none⟩,
 ⟨some 68, (.app true 2 16 (.t 50) (.t 67)), none⟩,
 ⟨some 8, (.mv (.t 68)), none⟩]
 [(0, 1), (0, 2), (0, 3), (1, 3), (2, 3), (0, 4), (1, 4), (2, 4), (0, 5), (1, 5), (2, 5), (0, 6), (0, 7), (0, 8), (7, 8), (0, 9), (0, 10), (1, 10), (2, 10), (3, 10), (4, 10), (5, 10), (6, 10), (7, 10), (8, 10), (9, 10), (0, 11), (1, 11), (2, 11), (3, 11), (4, 11), (5, 11), (6, 11), (7, 11), (8, 11), (9, 11), (0, 12), (1, 12), (2, 12), (3, 12), (4, 12), (5, 12), (6, 12), (7, 12), (8, 12), (9, 12), (0, 13), (0, 14), (0, 15), (14, 15), (0, 16), (0, 17)] [50, 51, 52, 53, 54, 55, 56, 57, 58, 59, 60, 61, 62, 63, 64, 65, 66, 67, 68])
 (.seq
 (.ops [⟨some 69, (.mv (.t 8)), none⟩,
 ⟨some 70, (.buildD 1 (.int .i64 (0)) 3 [(0, (.c (.int .i64 (0)))), (1, (.c (.int .i64 (1)))), (2, (.c (.int .i64 (2))))]), none⟩,
 ⟨some 71, (.call (.f 28) [(.t 69), (.t 70)]), none⟩,
 ⟨some 9, (.mv (.t 71)), none⟩]
 [] [69, 70, 71])
 (.seq
 (.ops [⟨some 72, (.mv (.t 8)), none⟩,
 ⟨some 73, (.mv (.t 9)), none⟩,
 ⟨some 74, (.buildD 1 (.int .i64 (0)) 1 [(0, (.t 73))]), none⟩,
 ⟨some 75, (.call (.f 29) [(.t 74)]), none⟩,
 ⟨some 76, (.call (.f 28) [(.t 72), (.t 75)]), none⟩,
 ⟨some 10, (.mv (.t 76)), none⟩]
 [] [72, 73, 74, 75, 76])
 (.seq
 (.seq
 (.ops [⟨some 77, (.mv (.t 8)), none⟩,
 ⟨some 78, (.mv (.t 9)), none⟩,
 ⟨some 79, (.iad 2 (.t 77) (.t 78)), none⟩,
 ⟨some 80, (.load true 2 (.t 79)), none⟩,
 ⟨some 81, (.mv (.t 8)), none⟩,
 ⟨some 82, (.mv (.t 10)), none⟩,
 ⟨some 83, (.iad 2 (.t 81) (.t 82)), none⟩,
 ⟨some 84, (.load true 2 (.t 83)), none⟩,
 ⟨some 85, (.eqA true 2 [(0, (some .i64)), (1, (some .i64))] (.t 80) (.t 84)), none⟩]
 [(0, 1), (0, 4), (1, 4), (2, 4), (3, 4), (0, 5), (1, 5), (2, 5), (3, 5), (4, 5), (0, 6), (1, 6), (2, 6), (3, 6), (0, 7), (1, 7), (2, 7), (3, 7)] [77, 78, 79, 80, 81, 82, 83, 84])
 (.cond (.t 85)
 (.seq
 (.ops [⟨some 86, (.mv (.t 8)), none⟩,
 ⟨some 87, (.mv (.t 9)), none⟩,
 ⟨some 88, (.iad 2 (.t 86) (.t 87)), none⟩,
 ⟨some 89, (.load true 2 (.t 88)), none⟩,
 ⟨some 90, (.mv (.t 8)), none⟩,
 ⟨some 91, (.mv (.t 10)), none⟩,
 ⟨some 92, (.iad 2 (.t 90) (.t 91)), none⟩,
 ⟨some 93, (.load true 2 (.t 92)), none⟩,
 ⟨some 94, (.call (.f 27) [(.t 89), (.t 93)]), none⟩,
 ⟨some 95, (.ext (.t 94) 0), none⟩,
 ⟨some 96, (.ext (.t 94) 1), none⟩,
 ⟨some 97, (.call (.f 26) [(.t 95), (.t 96)]), none⟩,
 ⟨some 11, (.allocL (.agg [(.int .i64 (0)), (.int .i64 (0))])), none⟩,
 ⟨none, (.store 2 (.t 11) (.t 97)), none⟩]
 [(0, 1), (0, 4), (1, 4), (2, 4), (3, 4), (0, 5), (1, 5), (2, 5), (3, 5), (4, 5), (0, 6), (1, 6), (2, 6), (3, 6), (0, 7), (1, 7), (2, 7), (3, 7), (9, 10), (0, 12), (1, 12), (2, 12), (3, 12), (4, 12), (5, 12), (6, 12), (7, 12), (8, 12), (9, 12), (10, 12), (11, 12)] [85, 86, 87, 88, 89, 90, 91, 92, 93, 94, 95, 96, 97])
 (.seq
 (.ops [⟨some 98, (.mv (.t 9)), none⟩,
 ⟨some 99, (.fad 0 (.t 7)), none⟩,
 ⟨some 100, (.iadA 3 4 (.t 99) (.t 98)), none⟩,
 ⟨some 101, (.fad 0 (.t 100)), none⟩,
 ⟨some 102, (.load true 2 (.t 101)), none⟩,
 ⟨some 103, (.mv (.t 0)), none⟩,
 ⟨some 104, (.mv (.t 9)), none⟩,
 ⟨some 105, (.fad 0 (.t 7)), none⟩,
 ⟨some 106, (.iadA 3 4 (.t 105) (.t 104)), none⟩,
 ⟨some 107, (.fad 0 (.t 106)), none⟩,
 ⟨some 108, (.load true 2 (.t 107)), none⟩,
 ⟨some 109, (.load true 2 (.t 11)), none⟩,
 ⟨some 110, (.call (.f 30) [(.t 103), (.c (.int .i64 (1))), (.t 108), (.t 109)]), none⟩,
 ⟨some 111, (.build [(.int .i64 (0)), (.int .i64 (0)), (.int .i64 (0)), (.int .i64 (0))] [(0, 2, (.t 102)), (2, 2, (.t 110))]), none⟩,
 ⟨some 112, (.fad 13 (.t 7)), none⟩,
 ⟨none, (.store 4 (.t 112) (.t 111)), none⟩]
 [(0, 1), (0, 5), (1, 5), (2, 5), (3, 5), (4, 5), (0, 6), (1, 6), (2, 6), (3, 6), (4, 6), (5, 6), (0, 7), (1, 7), (2, 7), (3, 7), (4, 7), (5, 7), (6, 7), (0, 8), (1, 8), (2, 8), (3, 8), (4, 8), (5, 8), (0, 9), (1, 9), (2, 9), (3, 9), (4, 9), (5, 9), (0, 10), (1, 10), (2, 10), (3, 10), (4, 10), (5, 10), (0, 11), (1, 11), (2, 11), (3, 11), (4, 11), (5, 11), (6, 11), (7, 11), (8, 11), (9, 11), (10, 11), (0, 12), (1, 12), (2, 12), (3, 12), (4, 12)] [11, 98, 99, 100, 101, 102, 103, 104, 105, 106, 107, 108, 109, 110, 111, 112])
 (.ops [⟨some 113, (.mv (.t 9)), none⟩,
 ⟨some 114, (.mv (.t 8)), none⟩,
 ⟨some 115, (.mv (.t 9)), none⟩,
 ⟨some 116, (.mv (.t 9)), none⟩,
 ⟨some 117, (.fad 13 (.t 7)), none⟩,
 ⟨some 118, (.fad 2 (.t 117)), none⟩,
 ⟨some 119, (.load true 2 (.t 118)), none⟩,
 ⟨some 120, (.mv (.t 8)), none⟩,
 ⟨some 121, (.mv (.t 10)), none⟩,
 ⟨some 122, (.iad 2 (.t 120) (.t 121)), none⟩,
 ⟨some 123, (.load true 2 (.t 122)), none⟩,
 ⟨some 124, (.fad 12 (.t 7)), none⟩,
 ⟨none, (.store 1 (.t 124) (.t 116)), none⟩,
 ⟨some 125, (.fad 0 (.t 7)), none⟩,
 ⟨some 126, (.iadA 3 4 (.t 125) (.t 113)), none⟩,
 ⟨some 127, (.fad 0 (.t 126)), none⟩,
 ⟨none, (.store 2 (.t 127) (.t 119)), none⟩,
 ⟨some 128, (.iad 2 (.t 114) (.t 115)), none⟩,
 ⟨none, (.store 2 (.t 128) (.t 123)), none⟩]
 [(0, 1), (0, 2), (1, 2), (0, 3), (1, 3), (2, 3), (0, 4), (1, 4), (2, 4), (3, 4), (0, 5), (1, 5), (2, 5), (3, 5), (0, 6), (1, 6), (2, 6), (3, 6), (0, 7), (1, 7), (2, 7), (3, 7), (4, 7), (5, 7), (6, 7), (0, 8), (1, 8), (2, 8), (3, 8), (4, 8), (5, 8), (6, 8), (7, 8), (0, 9), (1, 9), (2, 9), (3, 9), (4, 9), (5, 9), (6, 9), (0, 10), (1, 10), (2, 10), (3, 10), (4, 10), (5, 10), (6, 10), (0, 11), (1, 11), (2, 11), (0, 12), (1, 12), (2, 12), (0, 13), (1, 13), (2, 13), (3, 13), (4, 13), (5, 13), (6, 13), (7, 13), (8, 13), (9, 13), (10, 13), (11, 13), (12, 13), (1, 14), (2, 14), (1, 15), (2, 15), (1, 16), (2, 16)] [9, 10, 113, 114, 115, 116, 117, 118, 119, 120, 121, 122, 123, 124, 125, 126, 127, 128])))
 .skip))
 (.seq
 (.ops [⟨some 129, (.mv (.t 0)), none⟩,
 ⟨some 130, (.fad 0 (.t 7)), none⟩,
 ⟨some 131, (.slcA 3 4 (.t 130)), none⟩,
 ⟨some 132, (.call (.f 25) [(.t 129), (.c (.int .i64 (2))), (.t 131)]), none⟩,
 ⟨some 133, (.buildD 1 (.int .i64 (0)) 3 [(0, (.c (.int .i64 (0)))), (1, (.c (.int .i64 (1)))), (2, (.c (.int .i64 (2))))]), none⟩,
 ⟨some 134, (.call (.f 28) [(.t 132), (.t 133)]), none⟩,
 ⟨some 135, (.fad 17 (.t 7)), none⟩,
 ⟨some 136, (.iadA 3 1 (.t 135) (.c (.int .i64 (2)))), none⟩,
 ⟨none, (.store 1 (.t 136) (.t 134)), none⟩]
 [] [0, 9, 10, 85, 129, 130, 131, 132, 133, 134, 135, 136])
 (.seq
 (.ops [⟨some 137, (.mv (.t 8)), none⟩,
 ⟨some 138, (.fad 17 (.t 7)), none⟩,
 ⟨some 139, (.iadA 3 1 (.t 138) (.c (.int .i64 (2)))), none⟩,
 ⟨some 140, (.load false 1 (.t 139)), none⟩,
 ⟨some 141, (.buildD 1 (.int .i64 (0)) 1 [(0, (.t 140))]), none⟩,
 ⟨some 142, (.call (.f 29) [(.t 141)]), none⟩,
 ⟨some 143, (.call (.f 28) [(.t 137), (.t 142)]), none⟩,
 ⟨some 144, (.fad 17 (.t 7)), none⟩,
 ⟨some 145, (.iadA 3 1 (.t 144) (.c (.int .i64 (1)))), none⟩,
 ⟨none, (.store 1 (.t 145) (.t 143)), none⟩]
 [] [8, 137, 138, 139, 140, 141, 142, 143, 144, 145])
 (.seq
 (.seq
 (.ops [⟨some 146, (.fad 12 (.t 7)), none⟩,
 ⟨some 147, (.load false 1 (.t 146)), none⟩,
 ⟨some 148, (.bin .geq (.t 147) (.c (.int .i64 (0)))), none⟩,
 ⟨some 149, (.mv (.t 148)), none⟩,
 ⟨some 150, (.fad 12 (.t 7)), some (149, true)⟩,
 ⟨some 151, (.load false 1 (.t 150)), some (149, true)⟩,
 ⟨some 152, (.fad 17 (.t 7)), some (149, true)⟩,
 ⟨some 153, (.iadA 3 1 (.t 152) (.c (.int .i64 (2)))), some (149, true)⟩,
 ⟨some 154, (.load false 1 (.t 153)), some (149, true)⟩,
 ⟨some 155, (.bin .neq (.t 151) (.t 154)), some (149, true)⟩,
 ⟨some 156, (.pick (.t 149) (.t 155) (.c (.bool false))), none⟩]
 [] [146, 147, 148, 149, 150, 151, 152, 153, 154, 155])
 (.cond (.t 156)
 (.ops [⟨some 157, (.fad 12 (.t 7)), none⟩,
 ⟨some 158, (.load false 1 (.t 157)), none⟩,
 ⟨some 159, (.fad 17 (.t 7)), none⟩,
 ⟨some 160, (.iadA 3 1 (.t 159) (.c (.int .i64 (1)))), none⟩,
 ⟨none, (.store 1 (.t 160) (.t 158)), none⟩]
 [] [156, 157, 158, 159, 160])
 .skip))
 (.seq
 (.ops [⟨some 161, (.fad 17 (.t 7)), none⟩,
 ⟨some 162, (.iadA 3 1 (.t 161) (.c (.int .i64 (1)))), none⟩,
 ⟨some 163, (.load false 1 (.t 162)), none⟩,
 ⟨some 164, (.fad 17 (.t 7)), none⟩,
 ⟨some 165, (.iadA 3 1 (.t 164) (.c (.int .i64 (2)))), none⟩,
 ⟨some 166, (.load false 1 (.t 165)), none⟩,
 ⟨some 167, (.buildD 1 (.int .i64 (0)) 2 [(0, (.t 163)), (1, (.t 166))]), none⟩,
 ⟨some 168, (.call (.f 29) [(.t 167)]), none⟩,
 ⟨some 169, (.iad 1 (.t 168) (.c (.int .i64 (0)))), none⟩,
 ⟨some 170, (.load false 1 (.t 169)), none⟩,
 ⟨some 171, (.fad 17 (.t 7)), none⟩,
 ⟨some 172, (.iadA 3 1 (.t 171) (.c (.int .i64 (0)))), none⟩,
 ⟨none, (.store 1 (.t 172) (.t 170)), none⟩]
 [] [156, 161, 162, 163, 164, 165, 166, 167, 168, 169, 170, 171, 172])
 (.seq
 (.ops [⟨some 173, (.load true 20 (.t 7)), none⟩,
 ⟨none, (.store 20 (.t 2) (.t 173)), none⟩]
 [] [7, 173])
 .ret))))))))))))))⟩
def loc14 : List Nat := [48, 67, 70, 74, 133, 141, 167, 2, 3, 4, 5, 6, 11]
def fg14 : List (Nat × List Nat) := [(17, [7, 173]), (16, [156, 161, 162, 163, 164, 165, 166, 167, 168, 169, 170, 171, 172]), (15, [156, 157, 158, 159, 160]), (14, [146, 147, 148, 149, 150, 151, 152, 153, 154, 155]), (13, [8, 137, 138, 139, 140, 141, 142, 143, 144, 145]), (12, [0, 9, 10, 85, 129, 130, 131, 132, 133, 134, 135, 136]), (11, [9, 10, 113, 114, 115, 116, 117, 118, 119, 120, 121, 122, 123, 124, 125, 126, 127, 128]), (10, [11, 98, 99, 100, 101, 102, 103, 104, 105, 106, 107, 108, 109, 110, 111, 112]), (9, [85, 86, 87, 88, 89, 90, 91, 92, 93, 94, 95, 96, 97]), (8, [77, 78, 79, 80, 81, 82, 83, 84]), (7, [72, 73, 74, 75, 76]), (6, [69, 70, 71]), (5, [50, 51, 52, 53, 54, 55, 56, 57, 58, 59, 60, 61, 62, 63, 64, 65, 66, 67, 68]), (4, [41, 42, 43, 44, 45, 46, 47, 48, 49]), (3, [3, 4, 5, 6, 30, 31, 32, 33, 34, 35, 36, 37, 38, 39, 40]), (2, [22, 23, 24, 25, 26, 27, 28, 29]), (1, [12, 13, 14, 15, 16, 17, 18, 19, 20, 21])]
theorem comp14 : compFn Try.prog loc14 (fun i => (fg14.lookup i).getD []) Try.f14 = some lit14 := by kernel_rfl

-- (*parcener/triple.table).second
def lit15 : AFn := ⟨2, [.cell 4 true 12],
 (.seq
 (.ops [⟨some 3, (.boxL (.t 1)), none⟩,
 ⟨some 4, (.allocL (.agg [(.int .i64 (0)), (.int .i64 (0)), (.int .i64 (0)), (.int .i64 (0)), (.int .i64 (0)), (.int .i64 (0)), (.int .i64 (0)), (.int .i64 (0)), (.int .i64 (0)), (.int .i64 (0)), (.int .i64 (0)), (.int .i64 (0))])), none⟩]
 [] [1])
 (.seq
 (.ops [⟨some 5, (.mv (.c (.int .i64 (1)))), none⟩,
 ⟨some 6, (.mv (.c (.int .i64 (2)))), none⟩]
 [] [])
 (.seq
 (.seq
 (.ops [⟨some 15, (.fad 17 (.t 3)), none⟩,
 ⟨some 16, (.iadA 3 1 (.t 15) (.c (.int .i64 (2)))), none⟩,
 ⟨some 17, (.load false 1 (.t 16)), none⟩,
 ⟨some 18, (.fad 12 (.t 3)), none⟩,
 ⟨some 19, (.load false 1 (.t 18)), none⟩,
 ⟨some 20, (.bin .eql (.t 17) (.t 19)), none⟩]
 [] [15, 16, 17, 18, 19])
 (.cond (.t 20)
 (.ops [⟨some 21, (.mv (.t 6)), none⟩,
 ⟨some 22, (.mv (.t 5)), none⟩,
 ⟨some 5, (.mv (.t 21)), none⟩,
 ⟨some 6, (.mv (.t 22)), none⟩]
 [] [20, 21, 22])
 .skip))
 (.seq
 (.ops [⟨some 24, (.mv (.t 0)), none⟩,
 ⟨some 25, (.mv (.t 6)), none⟩,
 ⟨some 26, (.fad 13 (.t 3)), none⟩,
 ⟨some 27, (.fad 0 (.t 26)), none⟩,
 ⟨some 28, (.load true 2 (.t 27)), none⟩,
 ⟨some 29, (.mv (.t 0)), none⟩,
 ⟨some 30, (.mv (.t 6)), none⟩,
 ⟨some 31, (.fad 13 (.t 3)), none⟩,
 ⟨some 32, (.load true 4 (.t 31)), none⟩,
 ⟨some 33, (.buildD 4 (.agg [(.int .i64 (0)), (.int .i64 (0)), (.int .i64 (0)), (.int .i64 (0))]) 1 [(0, (.t 32))]), none⟩,
 ⟨some 34, (.call (.f 25) [(.t 29), (.t 30), (.t 33)]), none⟩,
 ⟨some 35, (.iad 2 (.t 34) (.c (.int .i64 (0)))), none⟩,
 ⟨some 36, (.load true 2 (.t 35)), none⟩,
 ⟨some 37, (.call (.f 23) [(.t 24), (.t 25), (.t 28), (.t 36)]), none⟩,
 ⟨some 23, (.mv (.t 37)), none⟩,
 ⟨some 38, (.ext (.t 23) 0), none⟩,
 ⟨some 39, (.ext (.t 23) 1), none⟩,
 ⟨some 7, (.allocL (.agg [(.int .i64 (0)), (.int .i64 (0))])), none⟩,
 ⟨some 8, (.allocL (.agg [(.int .i64 (0)), (.int .i64 (0))])), none⟩,
 ⟨none, (.store 2 (.t 7) (.t 38)), none⟩,
 ⟨none, (.store 2 (.t 8) (.t 39)), none⟩]
 [(0, 1), (0, 2), (1, 2), (0, 3), (1, 3), (0, 4), (1, 4), (0, 5), (1, 5), (2, 5), (3, 5), (4, 5), (0, 6), (1, 6), (2, 6), (3, 6), (4, 6), (5, 6), (0, 7), (1, 7), (2, 7), (3, 7), (4, 7), (5, 7), (6, 7), (0, 8), (1, 8), (2, 8), (3, 8), (4, 8), (5, 8), (6, 8), (0, 9), (1, 9), (2, 9), (3, 9), (4, 9), (5, 9), (6, 9), (0, 10), (1, 10), (2, 10), (3, 10), (4, 10), (0, 11), (1, 11), (2, 11), (3, 11), (4, 11), (0, 12), (1, 12), (2, 12), (3, 12), (4, 12), (15, 16), (0, 17), (1, 17), (2, 17), (3, 17), (4, 17), (5, 17), (6, 17), (7, 17), (8, 17), (9, 17), (10, 17), (11, 17), (12, 17), (13, 17), (14, 17), (15, 17), (16, 17), (0, 18), (1, 18), (2, 18), (3, 18), (4, 18), (5, 18), (6, 18), (7, 18), (8, 18), (9, 18), (10, 18), (11, 18), (12, 18), (13, 18), (14, 18), (15, 18), (16, 18), (17, 18), (16, 19)] [20, 23, 24, 25, 26, 27, 28, 29, 30, 31, 32, 33, 34, 35, 36, 37, 38, 39])
 (.seq
 (.ops [⟨some 40, (.fad 13 (.t 3)), none⟩,
 ⟨some 41, (.fad 0 (.t 40)), none⟩,
 ⟨some 42, (.load true 2 (.t 41)), none⟩,
 ⟨some 43, (.load true 2 (.t 7)), none⟩,
 ⟨some 44, (.build [(.int .i64 (0)), (.int .i64 (0)), (.int .i64 (0)), (.int .i64 (0))] [(0, 2, (.t 42)), (2, 2, (.t 43))]), none⟩,
 ⟨some 45, (.load true 2 (.t 7)), none⟩,
 ⟨some 46, (.load true 2 (.t 8)), none⟩,
 ⟨some 47, (.build [(.int .i64 (0)), (.int .i64 (0)), (.int .i64 (0)), (.int .i64 (0))] [(0, 2, (.t 45)), (2, 2, (.t 46))]), none⟩,
 ⟨some 48, (.load true 2 (.t 8)), none⟩,
 ⟨some 49, (.fad 13 (.t 3)), none⟩,
 ⟨some 50, (.fad 2 (.t 49)), none⟩,
 ⟨some 51, (.load true 2 (.t 50)), none⟩,
 ⟨some 52, (.build [(.int .i64 (0)), (.int .i64 (0)), (.int .i64 (0)), (.int .i64 (0))] [(0, 2, (.t 48)), (2, 2, (.t 51))]), none⟩,
 ⟨some 53, (.buildSl true 4 (.agg [(.int .i64 (0)), (.int .i64 (0)), (.int .i64 (0)), (.int .i64 (0))]) 3 [(0, (.t 44)), (1, (.t 47)), (2, (.t 52))]), none⟩,
 ⟨some 9, (.mv (.t 53)), none⟩]
 [] [3, 7, 8, 40, 41, 42, 43, 44, 45, 46, 47, 48, 49, 50, 51, 52, 53])
 (.seq
 (.ops [⟨some 10, (.allocL (.agg [(.int .i64 (0)), (.int .i64 (0)), (.int .i64 (0)), (.int .i64 (0)), (.int .i64 (0)), (.int .i64 (0)), (.int .i64 (0)), (.int .i64 (0)), (.int .i64 (0)), (.int .i64 (0)), (.int .i64 (0)), (.int .i64 (0))])), none⟩]
 [] [])
 (.seq
 (.ops [⟨some 54, (.mv (.t 0)), none⟩,
 ⟨some 55, (.mv (.t 5)), none⟩,
 ⟨some 56, (.mv (.t 9)), none⟩,
 ⟨some 57, (.call (.f 25) [(.t 54), (.t 55), (.t 56)]), none⟩,
 ⟨some 58, (.buildD 1 (.int .i64 (0)) 3 [(0, (.c (.int .i64 (0)))), (1, (.c (.int .i64 (1)))), (2, (.c (.int .i64 (2))))]), none⟩,
 ⟨some 59, (.call (.f 28) [(.t 57), (.t 58)]), none⟩,
 ⟨some 11, (.mv (.t 59)), none⟩]
 [] [54, 55, 56, 57, 58, 59])
 (.seq
 (.ops [⟨some 60, (.mv (.t 11)), none⟩,
 ⟨some 61, (.buildD 1 (.int .i64 (0)) 1 [(0, (.t 60))]), none⟩,
 ⟨some 62, (.call (.f 29) [(.t 61)]), none⟩,
 ⟨some 12, (.mv (.t 62)), none⟩]
 [] [60, 61, 62])
 (.seq
 (.ops [⟨some 63, (.mv (.t 0)), none⟩,
 ⟨some 64, (.mv (.t 9)), none⟩,
 ⟨some 65, (.mv (.t 12)), none⟩,
 ⟨some 66, (.iad 1 (.t 65) (.c (.int .i64 (0)))), none⟩,
 ⟨some 67, (.load false 1 (.t 66)), none⟩,
 ⟨some 68, (.iad 4 (.t 64) (.t 67)), none⟩,
 ⟨some 69, (.load true 4 (.t 68)), none⟩,
 ⟨some 70, (.mv (.t 9)), none⟩,
 ⟨some 71, (.mv (.t 12)), none⟩,
 ⟨some 72, (.iad 1 (.t 71) (.c (.int .i64 (1)))), none⟩,
 ⟨some 73, (.load false 1 (.t 72)), none⟩,
 ⟨some 74, (.iad 4 (.t 70) (.t 73)), none⟩,
 ⟨some 75, (.load true 4 (.t 74)), none⟩,
 ⟨some 76, (.buildD 4 (.agg [(.int .i64 (0)), (.int .i64 (0)), (.int .i64 (0)), (.int .i64 (0))]) 2 [(0, (.t 69)), (1, (.t 75))]), none⟩,
 ⟨some 77, (.call (.f 25) [(.t 63), (.c (.int .i64 (0))), (.t 76)]), none⟩,
 ⟨some 13, (.mv (.t 77)), none⟩]
 [(0, 1), (0, 2), (1, 2), (0, 3), (1, 3), (0, 4), (1, 4), (0, 5), (0, 6), (0, 7), (1, 7), (2, 7), (3, 7), (4, 7), (5, 7), (6, 7), (0, 8), (1, 8), (2, 8), (3, 8), (4, 8), (5, 8), (6, 8), (7, 8), (0, 9), (1, 9), (2, 9), (3, 9), (4, 9), (5, 9), (6, 9), (7, 9), (0, 10), (1, 10), (2, 10), (3, 10), (4, 10), (5, 10), (6, 10), (7, 10), (0, 11), (1, 11), (2, 11), (3, 11), (4, 11), (5, 11), (6, 11), (0, 12), (1, 12), (2, 12), (3, 12), (4, 12), (5, 12), (6, 12), (0, 13)] [0, 63, 64, 65, 66, 67, 68, 69, 70, 71, 72, 73, 74, 75, 76, 77])
 (.seq
 (.ops [⟨some 78, (.mv (.t 13)), none⟩,
 ⟨some 79, (.buildD 1 (.int .i64 (0)) 2 [(0, (.c (.int .i64 (0)))), (1, (.c (.int .i64 (1))))]), none⟩,
 ⟨some 80, (.call (.f 28) [(.t 78), (.t 79)]), none⟩,
 ⟨some 14, (.mv (.t 80)), none⟩]
 [] [13, 78, 79, 80])
 (.seq
 (.ops [⟨some 81, (.mv (.t 5)), none⟩,
 ⟨some 82, (.mv (.t 6)), none⟩,
 ⟨some 83, (.mv (.t 9)), none⟩,
 ⟨some 84, (.mv (.t 11)), none⟩,
 ⟨some 85, (.iad 4 (.t 83) (.t 84)), none⟩,
 ⟨some 86, (.load true 4 (.t 85)), none⟩,
 ⟨some 87, (.mv (.t 9)), none⟩,
 ⟨some 88, (.mv (.t 12)), none⟩,
 ⟨some 89, (.mv (.t 14)), none⟩,
 ⟨some 90, (.iad 1 (.t 88) (.t 89)), none⟩,
 ⟨some 91, (.load false 1 (.t 90)), none⟩,
 ⟨some 92, (.iad 4 (.t 87) (.t 91)), none⟩,
 ⟨some 93, (.load true 4 (.t 92)), none⟩,
 ⟨some 94, (.mv (.t 9)), none⟩,
 ⟨some 95, (.mv (.t 12)), none⟩,
 ⟨some 96, (.mv (.t 14)), none⟩,
 ⟨some 97, (.bin .sub (.c (.int .i64 (1))) (.t 96)), none⟩,
 ⟨some 98, (.iad 1 (.t 95) (.t 97)), none⟩,
 ⟨some 99, (.load false 1 (.t 98)), none⟩,
 ⟨some 100, (.iad 4 (.t 94) (.t 99)), none⟩,
 ⟨some 101, (.load true 4 (.t 100)), none⟩,
 ⟨some 102, (.iadA 3 4 (.t 10) (.t 81)), none⟩,
 ⟨none, (.store 4 (.t 102) (.t 86)), none⟩,
 ⟨some 103, (.iadA 3 4 (.t 10) (.c (.int .i64 (0)))), none⟩,
 ⟨none, (.store 4 (.t 103) (.t 93)), none⟩,
 ⟨some 104, (.iadA 3 4 (.t 10) (.t 82)), none⟩,
 ⟨none, (.store 4 (.t 104) (.t 101)), none⟩]
 [(0, 1), (0, 2), (1, 2), (0, 3), (1, 3), (2, 3), (0, 4), (1, 4), (0, 5), (1, 5), (0, 6), (1, 6), (2, 6), (3, 6), (4, 6), (5, 6), (0, 7), (1, 7), (2, 7), (3, 7), (4, 7), (5, 7), (6, 7), (0, 8), (1, 8), (2, 8), (3, 8), (4, 8), (5, 8), (6, 8), (7, 8), (0, 9), (1, 9), (2, 9), (3, 9), (4, 9), (5, 9), (6, 9), (0, 10), (1, 10), (2, 10), (3, 10), (4, 10), (5, 10), (6, 10), (0, 11), (1, 11), (2, 11), (3, 11), (4, 11), (5, 11), (0, 12), (1, 12), (2, 12), (3, 12), (4, 12), (5, 12), (0, 13), (1, 13), (2, 13), (3, 13), (4, 13), (5, 13), (6, 13), (7, 13), (8, 13), (9, 13), (10, 13), (11, 13), (12, 13), (0, 14), (1, 14), (2, 14), (3, 14), (4, 14), (5, 14), (6, 14), (7, 14), (8, 14), (9, 14), (10, 14), (11, 14), (12, 14), (13, 14), (0, 15), (1, 15), (2, 15), (3, 15), (4, 15), (5, 15), (6, 15), (7, 15), (8, 15), (9, 15), (10, 15), (11, 15), (12, 15), (13, 15), (14, 15), (0, 16), (1, 16), (2, 16), (3, 16), (4, 16), (5, 16), (6, 16), (7, 16), (8, 16), (9, 16), (10, 16), (11, 16), (12, 16), (13, 16), (14, 16), (0, 17), (1, 17), (2, 17), (3, 17), (4, 17), (5, 17), (6, 17), (7, 17), (8, 17), (9, 17), (10, 17), (11, 17), (12, 17), (13, 17), (0, 18), (1, 18), (2, 18), (3, 18), (4, 18), (5, 18), (6, 18), (7, 18), (8, 18), (9, 18), (10, 18), (11, 18), (12, 18), (13, 18), (0, 19), (1, 19), (2, 19), (3, 19), (4, 19), (5, 19), (6, 19), (7, 19), (8, 19), (9, 19), (10, 19), (11, 19), (12, 19), (0, 20), (1, 20), (2, 20), (3, 20), (4, 20), (5, 20), (6, 20), (7, 20), (8, 20), (9, 20), (10, 20), (11, 20), (12, 20), (1, 21), (6, 21), (7, 21), (8, 21), (9, 21), (10, 21), (11, 21), (12, 21), (13, 21), (14, 21), (15, 21), (16, 21), (17, 21), (18, 21), (19, 21), (20, 21), (1, 22), (6, 22), (7, 22), (8, 22), (9, 22), (10, 22), (11, 22), (12, 22), (13, 22), (14, 22), (15, 22), (16, 22), (17, 22), (18, 22), (19, 22), (20, 22), (1, 23), (13, 23), (14, 23), (15, 23), (16, 23), (17, 23), (18, 23), (19, 23), (20, 23), (1, 24), (13, 24), (14, 24), (15, 24), (16, 24), (17, 24), (18, 24), (19, 24), (20, 24)] [5, 6, 9, 11, 12, 14, 81, 82, 83, 84, 85, 86, 87, 88, 89, 90, 91, 92, 93, 94, 95, 96, 97, 98, 99, 100, 101, 102, 103, 104])
 (.seq
 (.ops [⟨some 105, (.load true 12 (.t 10)), none⟩,
 ⟨none, (.store 12 (.t 4) (.t 105)), none⟩]
 [] [10, 105])
 .ret))))))))))))⟩
def loc15 : List Nat := [33, 58, 61, 76, 79, 3, 4, 7, 8, 10]
def fg15 : List (Nat × List Nat) := [(12, [10, 105]), (11, [5, 6, 9, 11, 12, 14, 81, 82, 83, 84, 85, 86, 87, 88, 89, 90, 91, 92, 93, 94, 95, 96, 97, 98, 99, 100, 101, 102, 103, 104]), (10, [13, 78, 79, 80]), (9, [0, 63, 64, 65, 66, 67, 68, 69, 70, 71, 72, 73, 74, 75, 76, 77]), (8, [60, 61, 62]), (7, [54, 55, 56, 57, 58, 59]), (5, [3, 7, 8, 40, 41, 42, 43, 44, 45, 46, 47, 48, 49, 50, 51, 52, 53]), (4, [20, 23, 24, 25, 26, 27, 28, 29, 30, 31, 32, 33, 34, 35, 36, 37, 38, 39]), (3, [20, 21, 22]), (2, [15, 16, 17, 18, 19]), (0, [1])]
theorem comp15 : compFn Try.prog loc15 (fun i => (fg15.lookup i).getD []) Try.f15 = some lit15 := by kernel_rfl

-- parcener/triple.must[[]parcener/api.Span]
def lit16 : AFn := ⟨2, [.tmp 4],
 (.seq
 (.ops [⟨some 4, (.mv (.c .nils)), none⟩]
 [] [4])
 (.seq
 (.seq
 (.ops [⟨some 5, (.mv (.t 1)), none⟩,
 ⟨some 6, (.bin .neq (.t 5) (.c (.int .i64 (0)))), none⟩]
 [] [5])
 (.cond (.t 6)
 (.ops [⟨some 7, (.mv (.t 1)), none⟩,
 ⟨some 8, .bad, none⟩,
 ⟨none, .bad, none⟩]
 [] [1, 6, 7, 8])
 .skip))
 (.seq
 (.ops [⟨some 9, (.mv (.t 0)), none⟩,
 ⟨some 4, (.mv (.t 9)), none⟩]
 [] [0, 1, 6, 9])
 .ret)))⟩
def loc16 : List Nat := []
def fg16 : List (Nat × List Nat) := [(3, [0, 1, 6, 9]), (2, [1, 6, 7, 8]), (1, [5]), (0, [4])]
theorem comp16 : compFn Try.prog loc16 (fun i => (fg16.lookup i).getD []) Try.f16 = some lit16 := by kernel_rfl

-- parcener/piece.Make
def lit17 : AFn := ⟨1, [.tmp 2, .tmp 3],
 (.seq
 (.ops [⟨some 2, (.mv (.c .nils)), none⟩,
 ⟨some 3, (.mv (.c (.int .i64 (0)))), none⟩]
 [] [2, 3])
 (.seq
 (.seq
 (.ops [⟨some 5, (.mv (.t 0)), none⟩,
 ⟨some 6, (.call (.f 31) [(.t 5)]), none⟩,
 ⟨some 4, (.mv (.t 6)), none⟩]
 [] [5, 6])
 (.seq
 (.ops [⟨some 7, (.mv (.t 4)), none⟩,
 ⟨some 8, (.bin .neq (.t 7) (.c (.int .i64 (0)))), none⟩]
 [] [7])
 (.cond (.t 8)
 (.seq
 (.ops [⟨some 9, (.mv (.t 4)), none⟩,
 ⟨some 2, (.mv (.c .nils)), none⟩,
 ⟨some 3, (.mv (.t 9)), none⟩]
 [] [0, 4, 8, 9])
 .ret)
 .skip)))
 (.seq
 (.ops [⟨some 10, (.mv (.t 0)), none⟩,
 ⟨some 11, (.call (.f 32) [(.t 10)]), none⟩,
 ⟨some 2, (.mv (.t 11)), none⟩,
 ⟨some 3, (.mv (.c (.int .i64 (0)))), none⟩]
 [] [0, 4, 8, 10, 11])
 .ret)))⟩
def loc17 : List Nat := []
def fg17 : List (Nat × List Nat) := [(4, [0, 4, 8, 10, 11]), (3, [0, 4, 8, 9]), (2, [7]), (1, [5, 6]), (0, [2, 3])]
theorem comp17 : compFn Try.prog loc17 (fun i => (fg17.lookup i).getD []) Try.f17 = some lit17 := by kernel_rfl

-- parcener/parcenerref03.Same
def lit18 : AFn := ⟨2, [.tmp 4],
 (.seq
 (.ops [⟨some 4, (.mv (.c (.bool false))), none⟩]
 [] [4])
 (.seq
 (.seq
 (.ops [⟨some 6, (.mv (.t 0)), none⟩,
 ⟨some 7, (.len (.t 6)), none⟩,
 ⟨some 8, (.mv (.t 1)), none⟩,
 ⟨some 9, (.len (.t 8)), none⟩,
 ⟨some 10, (.bin .neq (.t 7) (.t 9)), none⟩]
 [] [6, 7, 8, 9])
 (.cond (.t 10)
 (.seq
 (.ops [⟨some 4, (.mv (.c (.bool false))), none⟩]
 [] [0, 1, 10])
 .ret)
 .skip))
 (.seq
 (.seq
 (.ops [⟨some 5, (.mv (.c (.int .i64 (0)))), none⟩]
 [] [10])
 (.block 0
 (.loop
 (.seq
 (.seq
 (.ops [⟨some 11, (.mv (.t 5)), none⟩,
 ⟨some 12, (.mv (.t 0)), none⟩,
 ⟨some 13, (.len (.t 12)), none⟩,
 ⟨some 14, (.bin .lss (.t 11) (.t 13)), none⟩]
 [] [11, 12, 13])
 (.cond (.t 14)
 .skip
 (.exit 0)))
 (.seq
 (.block 1
 (.seq
 (.ops [⟨some 17, (.mv (.t 0)), none⟩,
 ⟨some 18, (.mv (.t 5)), none⟩,
 ⟨some 19, (.iad 4 (.t 17) (.t 18)), none⟩,
 ⟨some 20, (.load true 4 (.t 19)), none⟩,
 ⟨some 21, (.mv (.t 1)), none⟩,
 ⟨some 22, (.mv (.t 5)), none⟩,
 ⟨some 23, (.iad 4 (.t 21) (.t 22)), none⟩,
 ⟨some 24, (.load true 4 (.t 23)), none⟩,
 ⟨some 25, (.eqA true 4 [(0, (some .i64)), (1, (some .i64)), (2, (some .i64)), (3, (some .i64))] (.t 20) (.t 24)), none⟩]
 [(0, 1), (0, 4), (1, 4), (2, 4), (3, 4), (0, 5), (1, 5), (2, 5), (3, 5), (4, 5), (0, 6), (1, 6), (2, 6), (3, 6), (0, 7), (1, 7), (2, 7), (3, 7)] [14, 17, 18, 19, 20, 21, 22, 23, 24])
 (.cond (.t 25)
 (.seq
 (.ops [⟨some 4, (.mv (.c (.bool false))), none⟩]
 [] [0, 1, 5, 25])
 .ret)
 .skip)))
 (.ops [⟨some 15, (.mv (.t 5)), none⟩,
 ⟨some 16, (.bin .add (.t 15) (.c (.int .i64 (1)))), none⟩,
 ⟨some 5, (.mv (.t 16)), none⟩]
 [] [15, 16, 25]))))))
 (.seq
 (.ops [⟨some 4, (.mv (.c (.bool true))), none⟩]
 [] [0, 1, 5, 14])
 .ret))))⟩
def loc18 : List Nat := []
def fg18 : List (Nat × List Nat) := [(8, [0, 1, 5, 14]), (5, [15, 16, 25]), (7, [0, 1, 5, 25]), (6, [14, 17, 18, 19, 20, 21, 22, 23, 24]), (4, [11, 12, 13]), (3, [10]), (2, [0, 1, 10]), (1, [6, 7, 8, 9]), (0, [4])]
theorem comp18 : compFn Try.prog loc18 (fun i => (fg18.lookup i).getD []) Try.f18 = some lit18 := by kernel_rfl

-- parcener/parcenerref01.Of
def lit19 : AFn := ⟨1, [.cell 2 true 2],
 (.seq
 (.ops [⟨some 2, (.allocL (.agg [(.int .i64 (0)), (.int .i64 (0))])), none⟩]
 [] [])
 (.seq
 (.ops [⟨some 3, (.mv (.t 0)), none⟩,
 ⟨some 4, (.build [(.int .i64 (0)), (.int .i64 (0))] [(0, 1, (.t 3)), (1, 1, (.c (.int .i64 (1))))]), none⟩,
 ⟨none, (.store 2 (.t 2) (.t 4)), none⟩]
 [] [0, 3, 4])
 .ret))⟩
def loc19 : List Nat := [2]
def fg19 : List (Nat × List Nat) := [(1, [0, 3, 4])]
theorem comp19 : compFn Try.prog loc19 (fun i => (fg19.lookup i).getD []) Try.f19 = some lit19 := by kernel_rfl

-- parcener/triple.First$1
def lit20 : AFn := ⟨3, [],
 (.seq
 (.ops [⟨none, (.dfr 13), none⟩]
 [] [0])
 (.ops [⟨some 3, (.call (.f 14) [(.t 1)]), none⟩,
 ⟨none, (.store 20 (.t 2) (.t 3)), none⟩]
 [] [1, 2, 3]))⟩
def loc20 : List Nat := []
def fg20 : List (Nat × List Nat) := [(1, [1, 2, 3]), (0, [0])]
theorem comp20 : compFn Try.prog loc20 (fun i => (fg20.lookup i).getD []) Try.f20 = some lit20 := by kernel_rfl

-- parcener/ask.Check
def lit21 : AFn := ⟨1, [.tmp 2],
 (.seq
 (.ops [⟨some 1, (.boxL (.t 0)), none⟩,
 ⟨some 2, (.mv (.c (.int .i64 (0)))), none⟩]
 [] [0, 2])
 (.seq
 (.seq
 (.ops [⟨some 8, (.fad 0 (.t 1)), none⟩,
 ⟨some 9, (.load false 1 (.t 8)), none⟩,
 ⟨some 10, (.len (.t 9)), none⟩,
 ⟨some 11, (.bin .gtr (.t 10) (.c (.int .i64 (6)))), none⟩,
 ⟨some 12, (.mv (.t 11)), none⟩,
 ⟨some 13, (.fad 1 (.t 1)), some (12, false)⟩,
 ⟨some 14, (.load false 1 (.t 13)), some (12, false)⟩,
 ⟨some 15, (.len (.t 14)), some (12, false)⟩,
 ⟨some 16, (.bin .gtr (.t 15) (.c (.int .i64 (2000)))), some (12, false)⟩,
 ⟨some 17, (.pick (.t 12) (.c (.bool true)) (.t 16)), none⟩]
 [] [8, 9, 10, 11, 12, 13, 14, 15, 16])
 (.cond (.t 17)
 (.seq
 (.ops [⟨some 2, (.mv (.c (.int .i64 (4)))), none⟩]
 [] [1, 17])
 .ret)
 .skip))
 (.seq
 (.seq
 (.ops [⟨some 18, (.fad 0 (.t 1)), none⟩,
 ⟨some 19, (.load false 1 (.t 18)), none⟩,
 ⟨some 20, (.len (.t 19)), none⟩,
 ⟨some 21, (.bin .eql (.t 20) (.c (.int .i64 (0)))), none⟩]
 [] [17, 18, 19, 20])
 (.cond (.t 21)
 (.seq
 (.ops [⟨some 2, (.mv (.c (.int .i64 (8)))), none⟩]
 [] [1, 21])
 .ret)
 .skip))
 (.seq
 (.seq
 (.ops [⟨some 22, (.fad 0 (.t 1)), none⟩,
 ⟨some 23, (.load false 1 (.t 22)), none⟩,
 ⟨some 24, (.len (.t 23)), none⟩,
 ⟨some 25, (.mv (.c (.int .i64 (0)))), none⟩]
 [] [21, 22])
 (.block 0
 (.loop
 (.seq
 (.ops [⟨some 26, (.bin .lss (.t 25) (.t 24)), none⟩]
 [] [])
 (.seq
 (.cond (.t 26)
 .skip
 (.exit 0))
 (.seq
 (.block 1
 (.seq
 (.ops [⟨some 27, (.iad 3 (.t 23) (.t 25)), none⟩,
 ⟨some 28, (.load true 3 (.t 27)), none⟩,
 ⟨some 4, (.allocL (.agg [(.int .i64 (0)), .nils, .nils])), none⟩,
 ⟨none, (.store 3 (.t 4) (.t 28)), none⟩]
 [] [26, 27, 28])
 (.seq
 (.ops [⟨some 29, (.load true 3 (.t 4)), none⟩,
 ⟨some 30, (.call (.f 33) [(.t 29)]), none⟩,
 ⟨some 5, (.mv (.t 30)), none⟩]
 [] [4, 29, 30])
 (.seq
 (.ops [⟨some 31, (.mv (.t 5)), none⟩,
 ⟨some 32, (.bin .neq (.t 31) (.c (.int .i64 (0)))), none⟩]
 [] [31])
 (.cond (.t 32)
 (.seq
 (.ops [⟨some 33, (.mv (.t 5)), none⟩,
 ⟨some 2, (.mv (.t 33)), none⟩]
 [] [1, 5, 23, 24, 25, 32, 33])
 .ret)
 .skip)))))
 (.ops [⟨some 34, (.bin .add (.t 25) (.c (.int .i64 (1)))), none⟩,
 ⟨some 25, (.mv (.t 34)), none⟩]
 [] [5, 32, 34])))))))
 (.seq
 (.seq
 (.ops [⟨some 35, (.fad 0 (.t 1)), none⟩,
 ⟨some 36, (.load false 1 (.t 35)), none⟩,
 ⟨some 37, (.len (.t 36)), none⟩,
 ⟨some 38, (.mv (.c (.int .i64 (0)))), none⟩]
 [] [23, 24, 25, 26, 35])
 (.block 2
 (.loop
 (.seq
 (.ops [⟨some 39, (.bin .lss (.t 38) (.t 37)), none⟩]
 [] [])
 (.seq
 (.cond (.t 39)
 .skip
 (.exit 2))
 (.seq
 (.block 3
 (.seq
 (.ops [⟨some 40, (.iad 3 (.t 36) (.t 38)), none⟩,
 ⟨some 41, (.load true 3 (.t 40)), none⟩,
 ⟨some 7, (.allocL (.agg [(.int .i64 (0)), .nils, .nils])), none⟩,
 ⟨none, (.store 3 (.t 7) (.t 41)), none⟩]
 [] [39, 40, 41])
 (.seq
 (.ops [⟨some 42, (.fad 0 (.t 7)), none⟩,
 ⟨some 43, (.load false 1 (.t 42)), none⟩,
 ⟨some 44, (.fad 0 (.t 1)), none⟩,
 ⟨some 45, (.load false 1 (.t 44)), none⟩,
 ⟨some 46, (.iad 3 (.t 45) (.c (.int .i64 (0)))), none⟩,
 ⟨some 47, (.fad 0 (.t 46)), none⟩,
 ⟨some 48, (.load false 1 (.t 47)), none⟩,
 ⟨some 49, (.bin .neq (.t 43) (.t 48)), none⟩]
 [(0, 2), (1, 2), (0, 3), (1, 3), (0, 4), (1, 4), (0, 5), (1, 5), (0, 6), (1, 6)] [7, 42, 43, 44, 45, 46, 47, 48])
 (.cond (.t 49)
 (.seq
 (.ops [⟨some 2, (.mv (.c (.int .i64 (8)))), none⟩]
 [] [1, 36, 37, 38, 49])
 .ret)
 .skip))))
 (.ops [⟨some 50, (.bin .add (.t 38) (.c (.int .i64 (1)))), none⟩,
 ⟨some 38, (.mv (.t 50)), none⟩]
 [] [49, 50])))))))
 (.seq
 (.ops [⟨some 2, (.mv (.c (.int .i64 (0)))), none⟩]
 [] [1, 36, 37, 38, 39])
 .ret))))))⟩
def loc21 : List Nat := [1, 4, 7]
def fg21 : List (Nat × List Nat) := [(18, [1, 36, 37, 38, 39]), (17, [49, 50]), (16, [1, 36, 37, 38, 49]), (15, [7, 42, 43, 44, 45, 46, 47, 48]), (14, [39, 40, 41]), (12, [23, 24, 25, 26, 35]), (11, [5, 32, 34]), (10, [1, 5, 23, 24, 25, 32, 33]), (9, [31]), (8, [4, 29, 30]), (7, [26, 27, 28]), (5, [21, 22]), (4, [1, 21]), (3, [17, 18, 19, 20]), (2, [1, 17]), (1, [8, 9, 10, 11, 12, 13, 14, 15, 16]), (0, [0, 2])]
theorem comp21 : compFn Try.prog loc21 (fun i => (fg21.lookup i).getD []) Try.f21 = some lit21 := by kernel_rfl

-- parcener/triple.whole
def lit22 : AFn := ⟨1, [.cell 2 true 2],
 (.seq
 (.ops [⟨some 2, (.allocL (.agg [(.int .i64 (0)), (.int .i64 (0))])), none⟩]
 [] [])
 (.seq
 (.ops [⟨some 3, (.mv (.t 0)), none⟩,
 ⟨some 4, (.build [(.int .i64 (0)), (.int .i64 (0))] [(0, 1, (.t 3)), (1, 1, (.c (.int .i64 (1))))]), none⟩,
 ⟨none, (.store 2 (.t 2) (.t 4)), none⟩]
 [] [0, 3, 4])
 .ret))⟩
def loc22 : List Nat := [2]
def fg22 : List (Nat × List Nat) := [(1, [0, 3, 4])]
theorem comp22 : compFn Try.prog loc22 (fun i => (fg22.lookup i).getD []) Try.f22 = some lit22 := by kernel_rfl

-- (*parcener/triple.table).thirds
def lit23 : AFn := ⟨4, [.cell 8 true 2, .cell 9 true 2],
 (.seq
 (.ops [⟨some 6, (.boxL (.t 2)), none⟩,
 ⟨some 7, (.boxL (.t 3)), none⟩,
 ⟨some 8, (.allocL (.agg [(.int .i64 (0)), (.int .i64 (0))])), none⟩,
 ⟨some 9, (.allocL (.agg [(.int .i64 (0)), (.int .i64 (0))])), none⟩]
 [] [2, 3])
 (.seq
 (.ops [⟨some 11, (.mv (.t 0)), none⟩,
 ⟨some 12, (.mv (.t 1)), none⟩,
 ⟨some 13, (.load true 2 (.t 6)), none⟩,
 ⟨some 14, (.load true 2 (.t 7)), none⟩,
 ⟨some 15, (.build [(.int .i64 (0)), (.int .i64 (0))] [(0, 1, (.c (.int .i64 (1)))), (1, 1, (.c (.int .i64 (3))))]), none⟩,
 ⟨some 16, (.call (.f 34) [(.t 14), (.t 15)]), none⟩,
 ⟨some 17, (.ext (.t 16) 0), none⟩,
 ⟨some 18, (.ext (.t 16) 1), none⟩,
 ⟨some 19, (.call (.f 26) [(.t 17), (.t 18)]), none⟩,
 ⟨some 20, (.call (.f 30) [(.t 11), (.t 12), (.t 13), (.t 19)]), none⟩,
 ⟨some 10, (.allocL (.agg [(.int .i64 (0)), (.int .i64 (0))])), none⟩,
 ⟨none, (.store 2 (.t 10) (.t 20)), none⟩]
 [(0, 1), (0, 2), (1, 2), (0, 3), (1, 3), (2, 3), (0, 4), (1, 4), (2, 4), (3, 4), (0, 5), (1, 5), (2, 5), (0, 6), (1, 6), (2, 6), (0, 7), (1, 7), (2, 7), (6, 7), (0, 8), (1, 8), (2, 8), (0, 10), (1, 10), (2, 10), (3, 10), (4, 10), (5, 10), (6, 10), (7, 10), (8, 10), (9, 10)] [11, 12, 13, 14, 15, 16, 17, 18, 19, 20])
 (.seq
 (.ops [⟨some 21, (.load true 2 (.t 10)), none⟩,
 ⟨some 22, (.mv (.t 0)), none⟩,
 ⟨some 23, (.mv (.t 1)), none⟩,
 ⟨some 24, (.load true 2 (.t 6)), none⟩,
 ⟨some 25, (.load true 2 (.t 7)), none⟩,
 ⟨some 26, (.build [(.int .i64 (0)), (.int .i64 (0))] [(0, 1, (.c (.int .i64 (2)))), (1, 1, (.c (.int .i64 (3))))]), none⟩,
 ⟨some 27, (.call (.f 34) [(.t 25), (.t 26)]), none⟩,
 ⟨some 28, (.ext (.t 27) 0), none⟩,
 ⟨some 29, (.ext (.t 27) 1), none⟩,
 ⟨some 30, (.call (.f 26) [(.t 28), (.t 29)]), none⟩,
 ⟨some 31, (.call (.f 30) [(.t 22), (.t 23), (.t 24), (.t 30)]), none⟩,
 ⟨none, (.store 2 (.t 8) (.t 21)), none⟩,
 ⟨none, (.store 2 (.t 9) (.t 31)), none⟩]
 [(0, 1), (0, 2), (1, 2), (0, 3), (1, 3), (2, 3), (0, 4), (1, 4), (2, 4), (3, 4), (0, 5), (1, 5), (2, 5), (3, 5), (4, 5), (0, 6), (1, 6), (2, 6), (3, 6), (0, 7), (1, 7), (2, 7), (3, 7), (0, 8), (1, 8), (2, 8), (3, 8), (7, 8), (0, 9), (1, 9), (2, 9), (3, 9), (0, 10)] [0, 1, 6, 7, 10, 21, 22, 23, 24, 25, 26, 27, 28, 29, 30, 31])
 .ret)))⟩
def loc23 : List Nat := [6, 7, 8, 9, 10]
def fg23 : List (Nat × List Nat) := [(2, [0, 1, 6, 7, 10, 21, 22, 23, 24, 25, 26, 27, 28, 29, 30, 31]), (1, [11, 12, 13, 14, 15, 16, 17, 18, 19, 20]), (0, [2, 3])]
theorem comp23 : compFn Try.prog loc23 (fun i => (fg23.lookup i).getD []) Try.f23 = some lit23 := by kernel_rfl

-- (*parcener/triple.table).total
def lit24 : AFn := ⟨2, [.cell 4 true 2],
 (.seq
 (.ops [⟨some 4, (.allocL (.agg [(.int .i64 (0)), (.int .i64 (0))])), none⟩]
 [] [])
 (.seq
 (.ops [⟨some 5, (.mv (.t 0)), none⟩,
 ⟨some 6, (.nilchk (.t 5)), none⟩,
 ⟨some 7, (.fad 0 (.t 6)), none⟩,
 ⟨some 8, (.load true 2 (.t 7)), none⟩,
 ⟨some 9, (.mv (.t 1)), none⟩,
 ⟨some 10, (.call (.f 36) [(.t 8), (.t 9)]), none⟩,
 ⟨some 11, (.ext (.t 10) 0), none⟩,
 ⟨some 12, (.ext (.t 10) 1), none⟩,
 ⟨some 13, (.call (.f 35) [(.t 11), (.t 12)]), none⟩,
 ⟨some 14, (.call (.f 22) [(.t 13)]), none⟩,
 ⟨none, (.store 2 (.t 4) (.t 14)), none⟩]
 [] [0, 1, 5, 6, 7, 8, 9, 10, 11, 12, 13, 14])
 .ret))⟩
def loc24 : List Nat := [4]
def fg24 : List (Nat × List Nat) := [(1, [0, 1, 5, 6, 7, 8, 9, 10, 11, 12, 13, 14])]
theorem comp24 : compFn Try.prog loc24 (fun i => (fg24.lookup i).getD []) Try.f24 = some lit24 := by kernel_rfl

-- (*parcener/triple.table).value
def lit25 : AFn := ⟨3, [.tmp 6],
 (.seq
 (.ops [⟨some 6, (.mv (.c .nils)), none⟩]
 [] [6])
 (.seq
 (.ops [⟨some 7, (.mv (.c .nils)), none⟩]
 [] [])
 (.seq
 (.seq
 (.ops [⟨some 13, (.mv (.t 2)), none⟩,
 ⟨some 14, (.len (.t 13)), none⟩,
 ⟨some 15, (.mv (.c (.int .i64 (0)))), none⟩]
 [] [2])
 (.block 0
 (.loop
 (.seq
 (.ops [⟨some 16, (.bin .lss (.t 15) (.t 14)), none⟩]
 [] [])
 (.seq
 (.cond (.t 16)
 .skip
 (.exit 0))
 (.seq
 (.block 1
 (.seq
 (.ops [⟨some 17, (.iad 4 (.t 13) (.t 15)), none⟩,
 ⟨some 18, (.load true 4 (.t 17)), none⟩,
 ⟨some 9, (.allocL (.agg [(.int .i64 (0)), (.int .i64 (0)), (.int .i64 (0)), (.int .i64 (0))])), none⟩,
 ⟨none, (.store 4 (.t 9) (.t 18)), none⟩]
 [] [16, 17, 18])
 (.seq
 (.ops [⟨some 20, (.mv (.t 0)), none⟩,
 ⟨some 21, (.nilchk (.t 20)), none⟩,
 ⟨some 22, (.fad 0 (.t 21)), none⟩,
 ⟨some 23, (.load true 2 (.t 22)), none⟩,
 ⟨some 24, (.mv (.t 1)), none⟩,
 ⟨some 25, (.fad 0 (.t 9)), none⟩,
 ⟨some 26, (.load true 2 (.t 25)), none⟩,
 ⟨some 27, (.fad 2 (.t 9)), none⟩,
 ⟨some 28, (.load true 2 (.t 27)), none⟩,
 ⟨some 29, (.call (.f 37) [(.t 23), (.t 24), (.t 26), (.t 28)]), none⟩,
 ⟨some 19, (.mv (.t 29)), none⟩,
 ⟨some 30, (.ext (.t 19) 0), none⟩,
 ⟨some 31, (.ext (.t 19) 1), none⟩,
 ⟨some 32, (.ext (.t 19) 2), none⟩,
 ⟨some 10, (.allocL (.agg [.nils, .nils])), none⟩,
 ⟨some 11, (.allocL (.agg [(.int .i64 (0)), (.int .i64 (0))])), none⟩,
 ⟨none, (.store 2 (.t 10) (.t 30)), none⟩,
 ⟨none, (.store 2 (.t 11) (.t 31)), none⟩,
 ⟨some 12, (.mv (.t 32)), none⟩]
 [(0, 4), (1, 4), (2, 4), (3, 4), (0, 5), (1, 5), (2, 5), (3, 5), (4, 5), (0, 6), (1, 6), (2, 6), (3, 6), (4, 6), (0, 7), (1, 7), (2, 7), (3, 7), (4, 7), (5, 7), (6, 7), (0, 8), (1, 8), (2, 8), (3, 8), (4, 8), (5, 8), (6, 8), (11, 12), (11, 13), (12, 13), (0, 14), (1, 14), (2, 14), (3, 14), (4, 14), (5, 14), (6, 14), (7, 14), (8, 14), (9, 14), (10, 14), (11, 14), (12, 14), (13, 14), (0, 15), (1, 15), (2, 15), (3, 15), (4, 15), (5, 15), (6, 15), (7, 15), (8, 15), (9, 15), (10, 15), (11, 15), (12, 15), (13, 15), (14, 15), (12, 16), (13, 16), (13, 17)] [9, 19, 20, 21, 22, 23, 24, 25, 26, 27, 28, 29, 30, 31, 32])
 (.seq
 (.ops [⟨some 33, (.mv (.t 7)), none⟩,
 ⟨some 34, (.load true 2 (.t 11)), none⟩,
 ⟨some 35, (.mv (.t 12)), none⟩,
 ⟨some 36, (.call (.f 26) [(.t 34), (.t 35)]), none⟩,
 ⟨some 37, (.buildD 2 (.agg [(.int .i64 (0)), (.int .i64 (0))]) 1 [(0, (.t 36))]), none⟩,
 ⟨some 38, (.app true 2 16 (.t 33) (.t 37)), none⟩,
 ⟨some 7, (.mv (.t 38)), none⟩]
 [] [11, 12, 33, 34, 35, 36, 37, 38])
 (.ops [⟨some 39, (.mv (.t 0)), none⟩,
 ⟨some 40, (.load true 2 (.t 10)), none⟩,
 ⟨some 41, (.nilchk (.t 39)), none⟩,
 ⟨some 42, (.fad 0 (.t 41)), none⟩,
 ⟨none, (.store 2 (.t 42) (.t 40)), none⟩]
 [] [10, 39, 40, 41, 42])))))
 (.ops [⟨some 43, (.bin .add (.t 15) (.c (.int .i64 (1)))), none⟩,
 ⟨some 15, (.mv (.t 43)), none⟩]
 [] [43])))))))
 (.seq
 (.ops [⟨some 44, (.mv (.t 7)), none⟩,
 ⟨some 6, (.mv (.t 44)), none⟩]
 [] [0, 1, 7, 13, 14, 15, 16, 44])
 .ret))))⟩
def loc25 : List Nat := [37, 9, 10, 11]
def fg25 : List (Nat × List Nat) := [(9, [0, 1, 7, 13, 14, 15, 16, 44]), (8, [43]), (7, [10, 39, 40, 41, 42]), (6, [11, 12, 33, 34, 35, 36, 37, 38]), (5, [9, 19, 20, 21, 22, 23, 24, 25, 26, 27, 28, 29, 30, 31, 32]), (4, [16, 17, 18]), (2, [2]), (0, [6])]
theorem comp25 : compFn Try.prog loc25 (fun i => (fg25.lookup i).getD []) Try.f25 = some lit25 := by kernel_rfl

-- parcener/triple.must[parcener/api.Ratio]
def lit26 : AFn := ⟨2, [.cell 4 true 2],
 (.seq
 (.ops [⟨some 2, (.boxL (.t 0)), none⟩,
 ⟨some 4, (.allocL (.agg [(.int .i64 (0)), (.int .i64 (0))])), none⟩]
 [] [0])
 (.seq
 (.seq
 (.ops [⟨some 5, (.mv (.t 1)), none⟩,
 ⟨some 6, (.bin .neq (.t 5) (.c (.int .i64 (0)))), none⟩]
 [] [5])
 (.cond (.t 6)
 (.ops [⟨some 7, (.mv (.t 1)), none⟩,
 ⟨some 8, .bad, none⟩,
 ⟨none, .bad, none⟩]
 [] [1, 6, 7, 8])
 .skip))
 (.seq
 (.ops [⟨some 9, (.load true 2 (.t 2)), none⟩,
 ⟨none, (.store 2 (.t 4) (.t 9)), none⟩]
 [] [1, 2, 6, 9])
 .ret)))⟩
def loc26 : List Nat := [2, 4]
def fg26 : List (Nat × List Nat) := [(3, [1, 2, 6, 9]), (2, [1, 6, 7, 8]), (1, [5]), (0, [0])]
theorem comp26 : compFn Try.prog loc26 (fun i => (fg26.lookup i).getD []) Try.f26 = some lit26 := by kernel_rfl

-- parcener/ratio.Sub
def lit27 : AFn := ⟨2, [.cell 4 true 2, .tmp 5],
 (.seq
 (.ops [⟨some 2, (.boxL (.t 0)), none⟩,
 ⟨some 3, (.boxL (.t 1)), none⟩,
 ⟨some 4, (.allocL (.agg [(.int .i64 (0)), (.int .i64 (0))])), none⟩,
 ⟨some 5, (.mv (.c (.int .i64 (0)))), none⟩]
 [] [0, 1, 5])
 (.seq
 (.seq
 (.ops [⟨some 7, (.load true 2 (.t 2)), none⟩,
 ⟨some 8, (.load true 2 (.t 3)), none⟩,
 ⟨some 9, (.call (.f 38) [(.t 7), (.t 8)]), none⟩,
 ⟨some 6, (.mv (.t 9)), none⟩]
 [] [7, 8, 9])
 (.seq
 (.ops [⟨some 10, (.mv (.t 6)), none⟩,
 ⟨some 11, (.bin .neq (.t 10) (.c (.int .i64 (0)))), none⟩]
 [] [10])
 (.cond (.t 11)
 (.seq
 (.ops [⟨some 12, (.build [(.int .i64 (0)), (.int .i64 (0))] []), none⟩,
 ⟨some 13, (.mv (.t 6)), none⟩,
 ⟨none, (.store 2 (.t 4) (.t 12)), none⟩,
 ⟨some 5, (.mv (.t 13)), none⟩]
 [] [2, 3, 6, 11, 12, 13])
 .ret)
 .skip)))
 (.seq
 (.ops [⟨some 14, (.fad 0 (.t 3)), none⟩,
 ⟨some 15, (.load false 1 (.t 14)), none⟩,
 ⟨some 16, (.un .neg (.t 15)), none⟩,
 ⟨some 17, (.fad 0 (.t 3)), none⟩,
 ⟨none, (.store 1 (.t 17) (.t 16)), none⟩]
 [] [6, 11, 14, 15, 16, 17])
 (.seq
 (.ops [⟨some 18, (.load true 2 (.t 2)), none⟩,
 ⟨some 19, (.load true 2 (.t 3)), none⟩,
 ⟨some 20, (.call (.f 39) [(.t 18), (.t 19)]), none⟩,
 ⟨some 21, (.ext (.t 20) 0), none⟩,
 ⟨some 22, (.ext (.t 20) 1), none⟩,
 ⟨none, (.store 2 (.t 4) (.t 21)), none⟩,
 ⟨some 5, (.mv (.t 22)), none⟩]
 [] [2, 3, 18, 19, 20, 21, 22])
 .ret))))⟩
def loc27 : List Nat := [2, 3, 4]
def fg27 : List (Nat × List Nat) := [(5, [2, 3, 18, 19, 20, 21, 22]), (4, [6, 11, 14, 15, 16, 17]), (3, [2, 3, 6, 11, 12, 13]), (2, [10]), (1, [7, 8, 9]), (0, [0, 1, 5])]
theorem comp27 : compFn Try.prog loc27 (fun i => (fg27.lookup i).getD []) Try.f27 = some lit27 := by kernel_rfl

-- parcener/triple.pick
def lit28 : AFn := ⟨2, [.tmp 4],
 (.seq
 (.ops [⟨some 4, (.mv (.c (.int .i64 (0)))), none⟩]
 [] [4])
 (.seq
 (.ops [⟨some 10, (.mv (.t 1)), none⟩,
 ⟨some 11, (.iad 1 (.t 10) (.c (.int .i64 (0)))), none⟩,
 ⟨some 12, (.load false 1 (.t 11)), none⟩,
 ⟨some 5, (.mv (.t 12)), none⟩]
 [] [10, 11, 12])
 (.seq
 (.seq
 (.ops [⟨some 13, (.mv (.t 1)), none⟩,
 ⟨some 14, (.len (.t 13)), none⟩,
 ⟨some 15, (.mv (.c (.int .i64 (0)))), none⟩]
 [] [1])
 (.block 0
 (.loop
 (.seq
 (.ops [⟨some 16, (.bin .lss (.t 15) (.t 14)), none⟩]
 [] [])
 (.seq
 (.cond (.t 16)
 .skip
 (.exit 0))
 (.seq
 (.block 1
 (.seq
 (.ops [⟨some 17, (.iad 1 (.t 13) (.t 15)), none⟩,
 ⟨some 18, (.load false 1 (.t 17)), none⟩,
 ⟨some 7, (.mv (.t 18)), none⟩]
 [] [16, 17, 18])
 (.seq
 (.ops [⟨some 20, (.mv (.t 0)), none⟩,
 ⟨some 21, (.mv (.t 7)), none⟩,
 ⟨some 22, (.iad 2 (.t 20) (.t 21)), none⟩,
 ⟨some 23, (.load true 2 (.t 22)), none⟩,
 ⟨some 24, (.mv (.t 0)), none⟩,
 ⟨some 25, (.mv (.t 5)), none⟩,
 ⟨some 26, (.iad 2 (.t 24) (.t 25)), none⟩,
 ⟨some 27, (.load true 2 (.t 26)), none⟩,
 ⟨some 28, (.call (.f 40) [(.t 23), (.t 27)]), none⟩,
 ⟨some 19, (.mv (.t 28)), none⟩,
 ⟨some 29, (.ext (.t 19) 0), none⟩,
 ⟨some 30, (.ext (.t 19) 1), none⟩,
 ⟨some 8, (.mv (.t 29)), none⟩,
 ⟨some 9, (.mv (.t 30)), none⟩]
 [(0, 1), (0, 4), (1, 4), (2, 4), (3, 4), (0, 5), (1, 5), (2, 5), (3, 5), (4, 5), (0, 6), (1, 6), (2, 6), (3, 6), (0, 7), (1, 7), (2, 7), (3, 7), (10, 11), (11, 12)] [9, 19, 20, 21, 22, 23, 24, 25, 26, 27, 28, 29, 30])
 (.seq
 (.ops [⟨some 31, (.mv (.t 8)), none⟩,
 ⟨some 32, (.bin .gtr (.t 31) (.c (.int .i64 (0)))), none⟩]
 [] [8, 31])
 (.cond (.t 32)
 (.ops [⟨some 33, (.mv (.t 7)), none⟩,
 ⟨some 5, (.mv (.t 33)), none⟩]
 [] [7, 32, 33])
 .skip)))))
 (.ops [⟨some 34, (.bin .add (.t 15) (.c (.int .i64 (1)))), none⟩,
 ⟨some 15, (.mv (.t 34)), none⟩]
 [] [7, 32, 34])))))))
 (.seq
 (.ops [⟨some 35, (.mv (.t 5)), none⟩,
 ⟨some 4, (.mv (.t 35)), none⟩]
 [] [0, 5, 13, 14, 15, 16, 35])
 .ret))))⟩
def loc28 : List Nat := []
def fg28 : List (Nat × List Nat) := [(9, [0, 5, 13, 14, 15, 16, 35]), (8, [7, 32, 34]), (7, [7, 32, 33]), (6, [8, 31]), (5, [9, 19, 20, 21, 22, 23, 24, 25, 26, 27, 28, 29, 30]), (4, [16, 17, 18]), (2, [1]), (1, [10, 11, 12]), (0, [4])]
theorem comp28 : compFn Try.prog loc28 (fun i => (fg28.lookup i).getD []) Try.f28 = some lit28 := by kernel_rfl

-- parcener/triple.others
def lit29 : AFn := ⟨1, [.tmp 2],
 (.seq
 (.ops [⟨some 1, (.boxH true 1 (.t 0)), none⟩,
 ⟨some 2, (.mv (.c .nils)), none⟩]
 [] [0, 2])
 (.seq
 (.ops [⟨some 3, (.mv (.c .nils)), none⟩]
 [] [])
 (.seq
 (.seq
 (.ops [⟨some 6, (.mv (.c (.int .i64 (0)))), none⟩]
 [] [])
 (.block 0
 (.loop
 (.seq
 (.ops [⟨some 7, (.bin .lss (.t 6) (.c (.int .i64 (3)))), none⟩]
 [] [])
 (.seq
 (.cond (.t 7)
 .skip
 (.exit 0))
 (.seq
 (.block 1
 (.seq
 (.ops [⟨some 8, (.mv (.t 6)), none⟩,
 ⟨some 4, (.allocH true 1 (.int .i64 (0))), none⟩,
 ⟨none, (.store 1 (.t 4) (.t 8)), none⟩]
 [] [7, 8])
 (.seq
 (.ops [⟨some 9, (.mkFn (.func 41) [] [(.t 1), (.t 4)]), none⟩,
 ⟨some 5, (.mv (.t 9)), none⟩]
 [] [9])
 (.seq
 (.ops [⟨some 10, (.mv (.t 5)), none⟩,
 ⟨some 11, (.call (.t 10) []), none⟩,
 ⟨some 12, (.un .not (.t 11)), none⟩]
 [] [5, 10, 11])
 (.cond (.t 12)
 (.ops [⟨some 13, (.mv (.t 3)), none⟩,
 ⟨some 14, (.load false 1 (.t 4)), none⟩,
 ⟨some 15, (.buildD 1 (.int .i64 (0)) 1 [(0, (.t 14))]), none⟩,
 ⟨some 16, (.app true 1 8 (.t 13) (.t 15)), none⟩,
 ⟨some 3, (.mv (.t 16)), none⟩]
 [] [4, 12, 13, 14, 15, 16])
 .skip)))))
 (.ops [⟨some 17, (.bin .add (.t 6) (.c (.int .i64 (1)))), none⟩,
 ⟨some 6, (.mv (.t 17)), none⟩]
 [] [4, 12, 17])))))))
 (.seq
 (.ops [⟨some 18, (.mv (.t 3)), none⟩,
 ⟨some 2, (.mv (.t 18)), none⟩]
 [] [1, 3, 6, 7, 18])
 .ret))))⟩
def loc29 : List Nat := [15]
def fg29 : List (Nat × List Nat) := [(9, [1, 3, 6, 7, 18]), (8, [4, 12, 17]), (7, [4, 12, 13, 14, 15, 16]), (6, [5, 10, 11]), (5, [9]), (4, [7, 8]), (0, [0, 2])]
theorem comp29 : compFn Try.prog loc29 (fun i => (fg29.lookup i).getD []) Try.f29 = some lit29 := by kernel_rfl

-- (*parcener/triple.table).mark
def lit30 : AFn := ⟨4, [.cell 8 true 2],
 (.seq
 (.ops [⟨some 6, (.boxL (.t 2)), none⟩,
 ⟨some 7, (.boxL (.t 3)), none⟩,
 ⟨some 8, (.allocL (.agg [(.int .i64 (0)), (.int .i64 (0))])), none⟩]
 [] [2, 3])
 (.seq
 (.ops [⟨some 13, (.mv (.t 0)), none⟩,
 ⟨some 14, (.nilchk (.t 13)), none⟩,
 ⟨some 15, (.fad 0 (.t 14)), none⟩,
 ⟨some 16, (.load true 2 (.t 15)), none⟩,
 ⟨some 17, (.mv (.t 1)), none⟩,
 ⟨some 18, (.load true 2 (.t 6)), none⟩,
 ⟨some 19, (.load true 2 (.t 7)), none⟩,
 ⟨some 20, (.call (.f 42) [(.t 16), (.t 17), (.t 18), (.t 19)]), none⟩,
 ⟨some 12, (.mv (.t 20)), none⟩,
 ⟨some 21, (.ext (.t 12) 0), none⟩,
 ⟨some 22, (.ext (.t 12) 1), none⟩,
 ⟨some 23, (.ext (.t 12) 2), none⟩,
 ⟨some 9, (.allocL (.agg [.nils, .nils])), none⟩,
 ⟨some 10, (.allocL (.agg [(.int .i64 (0)), (.int .i64 (0))])), none⟩,
 ⟨none, (.store 2 (.t 9) (.t 21)), none⟩,
 ⟨none, (.store 2 (.t 10) (.t 22)), none⟩,
 ⟨some 11, (.mv (.t 23)), none⟩]
 [(0, 4), (1, 4), (2, 4), (3, 4), (0, 5), (1, 5), (2, 5), (3, 5), (4, 5), (0, 6), (1, 6), (2, 6), (3, 6), (4, 6), (5, 6), (9, 10), (9, 11), (10, 11), (0, 12), (1, 12), (2, 12), (3, 12), (4, 12), (5, 12), (6, 12), (7, 12), (8, 12), (9, 12), (10, 12), (11, 12), (0, 13), (1, 13), (2, 13), (3, 13), (4, 13), (5, 13), (6, 13), (7, 13), (8, 13), (9, 13), (10, 13), (11, 13), (12, 13), (10, 14), (11, 14), (11, 15)] [1, 6, 7, 12, 13, 14, 15, 16, 17, 18, 19, 20, 21, 22, 23])
 (.seq
 (.ops [⟨some 24, (.load true 2 (.t 10)), none⟩,
 ⟨some 25, (.mv (.t 11)), none⟩,
 ⟨some 26, (.call (.f 26) [(.t 24), (.t 25)]), none⟩]
 [] [11, 24, 25, 26])
 (.seq
 (.ops [⟨some 27, (.mv (.t 0)), none⟩,
 ⟨some 28, (.load true 2 (.t 9)), none⟩,
 ⟨some 29, (.nilchk (.t 27)), none⟩,
 ⟨some 30, (.fad 0 (.t 29)), none⟩,
 ⟨none, (.store 2 (.t 30) (.t 28)), none⟩]
 [] [0, 9, 27, 28, 29, 30])
 (.seq
 (.ops [⟨some 31, (.load true 2 (.t 10)), none⟩,
 ⟨none, (.store 2 (.t 8) (.t 31)), none⟩]
 [] [10, 31])
 .ret)))))⟩
def loc30 : List Nat := [6, 7, 8, 9, 10]
def fg30 : List (Nat × List Nat) := [(4, [10, 31]), (3, [0, 9, 27, 28, 29, 30]), (2, [11, 24, 25, 26]), (1, [1, 6, 7, 12, 13, 14, 15, 16, 17, 18, 19, 20, 21, 22, 23]), (0, [2, 3])]
theorem comp30 : compFn Try.prog loc30 (fun i => (fg30.lookup i).getD []) Try.f30 = some lit30 := by kernel_rfl

-- parcener/piece.all
def lit31 : AFn := ⟨1, [.tmp 2],
 (.seq
 (.ops [⟨some 2, (.mv (.c (.int .i64 (0)))), none⟩]
 [] [2])
 (.seq
 (.seq
 (.ops [⟨some 5, (.mv (.t 0)), none⟩,
 ⟨some 6, (.len (.t 5)), none⟩,
 ⟨some 7, (.bin .gtr (.t 6) (.c (.int .i64 (60)))), none⟩]
 [] [5, 6])
 (.cond (.t 7)
 (.seq
 (.ops [⟨some 2, (.mv (.c (.int .i64 (4)))), none⟩]
 [] [0, 7])
 .ret)
 .skip))
 (.seq
 (.seq
 (.ops [⟨some 8, (.mv (.t 0)), none⟩,
 ⟨some 9, (.len (.t 8)), none⟩,
 ⟨some 10, (.mv (.c (.int .i64 (0)))), none⟩]
 [] [0, 7])
 (.block 0
 (.loop
 (.seq
 (.ops [⟨some 11, (.bin .lss (.t 10) (.t 9)), none⟩]
 [] [])
 (.seq
 (.cond (.t 11)
 .skip
 (.exit 0))
 (.seq
 (.block 1
 (.seq
 (.ops [⟨some 12, (.iad 4 (.t 8) (.t 10)), none⟩,
 ⟨some 13, (.load true 4 (.t 12)), none⟩,
 ⟨some 4, (.allocL (.agg [(.int .i64 (0)), (.int .i64 (0)), (.int .i64 (0)), (.int .i64 (0))])), none⟩,
 ⟨none, (.store 4 (.t 4) (.t 13)), none⟩]
 [] [11, 12, 13])
 (.seq
 (.ops [⟨some 14, (.load true 4 (.t 4)), none⟩,
 ⟨some 15, (.call (.f 43) [(.t 14)]), none⟩,
 ⟨some 16, (.un .not (.t 15)), none⟩]
 [] [4, 14, 15])
 (.cond (.t 16)
 (.seq
 (.ops [⟨some 2, (.mv (.c (.int .i64 (8)))), none⟩]
 [] [8, 9, 10, 16])
 .ret)
 .skip))))
 (.ops [⟨some 17, (.bin .add (.t 10) (.c (.int .i64 (1)))), none⟩,
 ⟨some 10, (.mv (.t 17)), none⟩]
 [] [16, 17])))))))
 (.seq
 (.ops [⟨some 2, (.mv (.c (.int .i64 (0)))), none⟩]
 [] [8, 9, 10, 11])
 .ret))))⟩
def loc31 : List Nat := [4]
def fg31 : List (Nat × List Nat) := [(9, [8, 9, 10, 11]), (8, [16, 17]), (7, [8, 9, 10, 16]), (6, [4, 14, 15]), (5, [11, 12, 13]), (3, [0, 7]), (2, [0, 7]), (1, [5, 6]), (0, [2])]
theorem comp31 : compFn Try.prog loc31 (fun i => (fg31.lookup i).getD []) Try.f31 = some lit31 := by kernel_rfl

-- parcener/piece.merged
def lit32 : AFn := ⟨1, [.tmp 2],
 (.seq
 (.ops [⟨some 2, (.mv (.c .nils)), none⟩]
 [] [2])
 (.seq
 (.ops [⟨some 7, (.mv (.t 0)), none⟩,
 ⟨some 8, (.call (.f 44) [(.t 7)]), none⟩,
 ⟨some 0, (.mv (.t 8)), none⟩]
 [] [7, 8])
 (.seq
 (.ops [⟨some 9, (.mv (.t 0)), none⟩,
 ⟨some 10, (.call (.f 45) [(.t 9), (.f 46)]), none⟩]
 [] [9, 10])
 (.seq
 (.ops [⟨some 3, (.mv (.c .nils)), none⟩]
 [] [])
 (.seq
 (.seq
 (.ops [⟨some 11, (.mv (.t 0)), none⟩,
 ⟨some 12, (.len (.t 11)), none⟩,
 ⟨some 13, (.mv (.c (.int .i64 (0)))), none⟩]
 [] [0])
 (.block 0
 (.loop
 (.seq
 (.ops [⟨some 14, (.bin .lss (.t 13) (.t 12)), none⟩]
 [] [])
 (.seq
 (.cond (.t 14)
 .skip
 (.exit 0))
 (.seq
 (.block 1
 (.seq
 (.ops [⟨some 15, (.iad 4 (.t 11) (.t 13)), none⟩,
 ⟨some 16, (.load true 4 (.t 15)), none⟩,
 ⟨some 5, (.allocL (.agg [(.int .i64 (0)), (.int .i64 (0)), (.int .i64 (0)), (.int .i64 (0))])), none⟩,
 ⟨none, (.store 4 (.t 5) (.t 16)), none⟩]
 [] [14, 15, 16])
 (.seq
 (.seq
 (.ops [⟨some 17, (.mv (.t 3)), none⟩,
 ⟨some 18, (.len (.t 17)), none⟩,
 ⟨some 6, (.mv (.t 18)), none⟩]
 [] [17, 18])
 (.seq
 (.ops [⟨some 19, (.mv (.t 6)), none⟩,
 ⟨some 20, (.bin .gtr (.t 19) (.c (.int .i64 (0)))), none⟩,
 ⟨some 21, (.mv (.t 20)), none⟩,
 ⟨some 22, (.fad 0 (.t 5)), some (21, true)⟩,
 ⟨some 23, (.load true 2 (.t 22)), some (21, true)⟩,
 ⟨some 24, (.mv (.t 3)), some (21, true)⟩,
 ⟨some 25, (.mv (.t 6)), some (21, true)⟩,
 ⟨some 26, (.bin .sub (.t 25) (.c (.int .i64 (1)))), some (21, true)⟩,
 ⟨some 27, (.iad 4 (.t 24) (.t 26)), some (21, true)⟩,
 ⟨some 28, (.fad 2 (.t 27)), some (21, true)⟩,
 ⟨some 29, (.load true 2 (.t 28)), some (21, true)⟩,
 ⟨some 30, (.call (.f 47) [(.t 23), (.t 29)]), some (21, true)⟩,
 ⟨some 31, (.bin .leq (.t 30) (.c (.int .i64 (0)))), some (21, true)⟩,
 ⟨some 32, (.pick (.t 21) (.t 31) (.c (.bool false))), none⟩]
 [(3, 5), (4, 5), (3, 6), (4, 6), (5, 6), (3, 7), (4, 7), (5, 7), (3, 8), (4, 8), (3, 9), (4, 9), (3, 10), (4, 10)] [19, 20, 21, 22, 23, 24, 25, 26, 27, 28, 29, 30, 31])
 (.cond (.t 32)
 (.seq
 (.seq
 (.ops [⟨some 33, (.fad 2 (.t 5)), none⟩,
 ⟨some 34, (.load true 2 (.t 33)), none⟩,
 ⟨some 35, (.mv (.t 3)), none⟩,
 ⟨some 36, (.mv (.t 6)), none⟩,
 ⟨some 37, (.bin .sub (.t 36) (.c (.int .i64 (1)))), none⟩,
 ⟨some 38, (.iad 4 (.t 35) (.t 37)), none⟩,
 ⟨some 39, (.fad 2 (.t 38)), none⟩,
 ⟨some 40, (.load true 2 (.t 39)), none⟩,
 ⟨some 41, (.call (.f 47) [(.t 34), (.t 40)]), none⟩,
 ⟨some 42, (.bin .gtr (.t 41) (.c (.int .i64 (0)))), none⟩]
 [(0, 2), (1, 2), (0, 3), (1, 3), (2, 3), (0, 4), (1, 4), (2, 4), (0, 5), (1, 5), (0, 6), (1, 6), (0, 7), (1, 7)] [32, 33, 34, 35, 36, 37, 38, 39, 40, 41])
 (.cond (.t 42)
 (.ops [⟨some 43, (.mv (.t 3)), none⟩,
 ⟨some 44, (.mv (.t 6)), none⟩,
 ⟨some 45, (.bin .sub (.t 44) (.c (.int .i64 (1)))), none⟩,
 ⟨some 46, (.fad 2 (.t 5)), none⟩,
 ⟨some 47, (.load true 2 (.t 46)), none⟩,
 ⟨some 48, (.iad 4 (.t 43) (.t 45)), none⟩,
 ⟨some 49, (.fad 2 (.t 48)), none⟩,
 ⟨none, (.store 2 (.t 49) (.t 47)), none⟩]
 [] [5, 6, 42, 43, 44, 45, 46, 47, 48, 49])
 .skip))
 (.exit 1))
 .skip)))
 (.ops [⟨some 50, (.mv (.t 3)), none⟩,
 ⟨some 51, (.load true 4 (.t 5)), none⟩,
 ⟨some 52, (.buildD 4 (.agg [(.int .i64 (0)), (.int .i64 (0)), (.int .i64 (0)), (.int .i64 (0))]) 1 [(0, (.t 51))]), none⟩,
 ⟨some 53, (.app true 4 32 (.t 50) (.t 52)), none⟩,
 ⟨some 3, (.mv (.t 53)), none⟩]
 [] [5, 6, 32, 50, 51, 52, 53]))))
 (.ops [⟨some 54, (.bin .add (.t 13) (.c (.int .i64 (1)))), none⟩,
 ⟨some 13, (.mv (.t 54)), none⟩]
 [] [5, 6, 42, 54])))))))
 (.seq
 (.ops [⟨some 55, (.mv (.t 3)), none⟩,
 ⟨some 2, (.mv (.t 55)), none⟩]
 [] [3, 11, 12, 13, 14, 55])
 .ret))))))⟩
def loc32 : List Nat := [52, 5]
def fg32 : List (Nat × List Nat) := [(13, [3, 11, 12, 13, 14, 55]), (12, [5, 6, 42, 54]), (11, [5, 6, 32, 50, 51, 52, 53]), (10, [5, 6, 42, 43, 44, 45, 46, 47, 48, 49]), (9, [32, 33, 34, 35, 36, 37, 38, 39, 40, 41]), (8, [19, 20, 21, 22, 23, 24, 25, 26, 27, 28, 29, 30, 31]), (7, [17, 18]), (6, [14, 15, 16]), (4, [0]), (2, [9, 10]), (1, [7, 8]), (0, [2])]
theorem comp32 : compFn Try.prog loc32 (fun i => (fg32.lookup i).getD []) Try.f32 = some lit32 := by kernel_rfl

-- parcener/cake.Check
def lit33 : AFn := ⟨1, [.tmp 2],
 (.seq
 (.ops [⟨some 1, (.boxL (.t 0)), none⟩,
 ⟨some 2, (.mv (.c (.int .i64 (0)))), none⟩]
 [] [0, 2])
 (.seq
 (.ops [⟨some 5, (.fad 1 (.t 1)), none⟩,
 ⟨some 6, (.load false 1 (.t 5)), none⟩,
 ⟨some 7, (.len (.t 6)), none⟩,
 ⟨some 3, (.mv (.t 7)), none⟩]
 [] [5, 6, 7])
 (.seq
 (.seq
 (.ops [⟨some 8, (.fad 0 (.t 1)), none⟩,
 ⟨some 9, (.load false 1 (.t 8)), none⟩,
 ⟨some 10, (.bin .gtr (.t 9) (.c (.int .i64 (1000)))), none⟩,
 ⟨some 11, (.mv (.t 10)), none⟩,
 ⟨some 12, (.mv (.t 3)), some (11, false)⟩,
 ⟨some 13, (.bin .gtr (.t 12) (.c (.int .i64 (40)))), some (11, false)⟩,
 ⟨some 14, (.pick (.t 11) (.c (.bool true)) (.t 13)), none⟩]
 [] [8, 9, 10, 11, 12, 13])
 (.cond (.t 14)
 (.seq
 (.ops [⟨some 2, (.mv (.c (.int .i64 (4)))), none⟩]
 [] [1, 3, 14])
 .ret)
 .skip))
 (.seq
 (.seq
 (.ops [⟨some 15, (.fad 0 (.t 1)), none⟩,
 ⟨some 16, (.load false 1 (.t 15)), none⟩,
 ⟨some 17, (.bin .lss (.t 16) (.c (.int .i64 (1)))), none⟩,
 ⟨some 18, (.mv (.t 17)), none⟩,
 ⟨some 19, (.mv (.t 3)), some (18, false)⟩,
 ⟨some 20, (.bin .lss (.t 19) (.c (.int .i64 (2)))), some (18, false)⟩,
 ⟨some 21, (.pick (.t 18) (.c (.bool true)) (.t 20)), none⟩,
 ⟨some 22, (.mv (.t 21)), none⟩,
 ⟨some 23, (.fad 2 (.t 1)), some (22, false)⟩,
 ⟨some 24, (.load false 1 (.t 23)), some (22, false)⟩,
 ⟨some 25, (.len (.t 24)), some (22, false)⟩,
 ⟨some 26, (.mv (.t 3)), some (22, false)⟩,
 ⟨some 27, (.bin .sub (.t 26) (.c (.int .i64 (1)))), some (22, false)⟩,
 ⟨some 28, (.bin .neq (.t 25) (.t 27)), some (22, false)⟩,
 ⟨some 29, (.pick (.t 22) (.c (.bool true)) (.t 28)), none⟩,
 ⟨some 30, (.mv (.t 29)), none⟩,
 ⟨some 31, (.fad 1 (.t 1)), some (30, false)⟩,
 ⟨some 32, (.load false 1 (.t 31)), some (30, false)⟩,
 ⟨some 33, (.iad 1 (.t 32) (.c (.int .i64 (0)))), some (30, false)⟩,
 ⟨some 34, (.load false 1 (.t 33)), some (30, false)⟩,
 ⟨some 35, (.bin .neq (.t 34) (.c (.int .i64 (0)))), some (30, false)⟩,
 ⟨some 36, (.pick (.t 30) (.c (.bool true)) (.t 35)), none⟩,
 ⟨some 37, (.mv (.t 36)), none⟩,
 ⟨some 38, (.fad 1 (.t 1)), some (37, false)⟩,
 ⟨some 39, (.load false 1 (.t 38)), some (37, false)⟩,
 ⟨some 40, (.mv (.t 3)), some (37, false)⟩,
 ⟨some 41, (.bin .sub (.t 40) (.c (.int .i64 (1)))), some (37, false)⟩,
 ⟨some 42, (.iad 1 (.t 39) (.t 41)), some (37, false)⟩,
 ⟨some 43, (.load false 1 (.t 42)), some (37, false)⟩,
 ⟨some 44, (.fad 0 (.t 1)), some (37, false)⟩,
 ⟨some 45, (.load false 1 (.t 44)), some (37, false)⟩,
 ⟨some 46, (.bin .neq (.t 43) (.t 45)), some (37, false)⟩,
 ⟨some 47, (.pick (.t 37) (.c (.bool true)) (.t 46)), none⟩]
 [(8, 11), (9, 11), (10, 11), (8, 12), (9, 12), (10, 12), (23, 25), (24, 25), (23, 26), (24, 26), (23, 29), (24, 29), (25, 29), (26, 29), (27, 29), (28, 29), (23, 30), (24, 30), (25, 30), (26, 30), (27, 30), (28, 30)] [14, 15, 16, 17, 18, 19, 20, 21, 22, 23, 24, 25, 26, 27, 28, 29, 30, 31, 32, 33, 34, 35, 36, 37, 38, 39, 40, 41, 42, 43, 44, 45, 46])
 (.cond (.t 47)
 (.seq
 (.ops [⟨some 2, (.mv (.c (.int .i64 (8)))), none⟩]
 [] [1, 3, 47])
 .ret)
 .skip))
 (.seq
 (.seq
 (.ops [⟨some 48, (.mv (.t 3)), none⟩,
 ⟨some 49, (.bin .sub (.t 48) (.c (.int .i64 (1)))), none⟩,
 ⟨some 50, (.mv (.c (.int .i64 (0)))), none⟩]
 [] [3, 47, 48])
 (.block 0
 (.loop
 (.seq
 (.ops [⟨some 51, (.bin .lss (.t 50) (.t 49)), none⟩]
 [] [])
 (.seq
 (.cond (.t 51)
 .skip
 (.exit 0))
 (.seq
 (.block 1
 (.seq
 (.ops [⟨some 52, (.mv (.t 50)), none⟩,
 ⟨some 4, (.mv (.t 52)), none⟩]
 [] [51, 52])
 (.seq
 (.ops [⟨some 53, (.fad 1 (.t 1)), none⟩,
 ⟨some 54, (.load false 1 (.t 53)), none⟩,
 ⟨some 55, (.mv (.t 4)), none⟩,
 ⟨some 56, (.iad 1 (.t 54) (.t 55)), none⟩,
 ⟨some 57, (.load false 1 (.t 56)), none⟩,
 ⟨some 58, (.fad 1 (.t 1)), none⟩,
 ⟨some 59, (.load false 1 (.t 58)), none⟩,
 ⟨some 60, (.mv (.t 4)), none⟩,
 ⟨some 61, (.bin .add (.t 60) (.c (.int .i64 (1)))), none⟩,
 ⟨some 62, (.iad 1 (.t 59) (.t 61)), none⟩,
 ⟨some 63, (.load false 1 (.t 62)), none⟩,
 ⟨some 64, (.bin .geq (.t 57) (.t 63)), none⟩]
 [(0, 2), (1, 2), (0, 5), (1, 5), (2, 5), (3, 5), (4, 5), (0, 6), (1, 6), (2, 6), (3, 6), (4, 6), (0, 7), (1, 7), (2, 7), (3, 7), (4, 7), (5, 7), (6, 7), (0, 8), (1, 8), (2, 8), (3, 8), (4, 8), (5, 8), (6, 8), (0, 9), (1, 9), (2, 9), (3, 9), (4, 9), (0, 10), (1, 10), (2, 10), (3, 10), (4, 10)] [4, 53, 54, 55, 56, 57, 58, 59, 60, 61, 62, 63])
 (.cond (.t 64)
 (.seq
 (.ops [⟨some 2, (.mv (.c (.int .i64 (8)))), none⟩]
 [] [1, 49, 50, 64])
 .ret)
 .skip))))
 (.ops [⟨some 65, (.bin .add (.t 50) (.c (.int .i64 (1)))), none⟩,
 ⟨some 50, (.mv (.t 65)), none⟩]
 [] [64, 65])))))))
 (.seq
 (.seq
 (.ops [⟨some 66, (.fad 2 (.t 1)), none⟩,
 ⟨some 67, (.load false 1 (.t 66)), none⟩,
 ⟨some 68, (.call (.f 48) [(.t 67)]), none⟩,
 ⟨some 69, (.bin .lss (.t 68) (.c (.int .i64 (0)))), none⟩,
 ⟨some 70, (.mv (.t 69)), none⟩,
 ⟨some 71, (.fad 2 (.t 1)), some (70, false)⟩,
 ⟨some 72, (.load false 1 (.t 71)), some (70, false)⟩,
 ⟨some 73, (.call (.f 49) [(.t 72)]), some (70, false)⟩,
 ⟨some 74, (.bin .gtr (.t 73) (.c (.int .i64 (12)))), some (70, false)⟩,
 ⟨some 75, (.pick (.t 70) (.c (.bool true)) (.t 74)), none⟩,
 ⟨some 76, (.mv (.t 75)), none⟩,
 ⟨some 77, (.fad 2 (.t 1)), some (76, false)⟩,
 ⟨some 78, (.load false 1 (.t 77)), some (76, false)⟩,
 ⟨some 79, (.call (.f 49) [(.t 78)]), some (76, false)⟩,
 ⟨some 80, (.bin .eql (.t 79) (.c (.int .i64 (0)))), some (76, false)⟩,
 ⟨some 81, (.pick (.t 76) (.c (.bool true)) (.t 80)), none⟩]
 [] [1, 49, 50, 51, 66, 67, 68, 69, 70, 71, 72, 73, 74, 75, 76, 77, 78, 79, 80])
 (.cond (.t 81)
 (.seq
 (.ops [⟨some 2, (.mv (.c (.int .i64 (8)))), none⟩]
 [] [81])
 .ret)
 .skip))
 (.seq
 (.ops [⟨some 2, (.mv (.c (.int .i64 (0)))), none⟩]
 [] [81])
 .ret)))))))⟩
def loc33 : List Nat := [1]
def fg33 : List (Nat × List Nat) := [(14, [81]), (13, [81]), (12, [1, 49, 50, 51, 66, 67, 68, 69, 70, 71, 72, 73, 74, 75, 76, 77, 78, 79, 80]), (11, [64, 65]), (10, [1, 49, 50, 64]), (9, [4, 53, 54, 55, 56, 57, 58, 59, 60, 61, 62, 63]), (8, [51, 52]), (6, [3, 47, 48]), (5, [1, 3, 47]), (4, [14, 15, 16, 17, 18, 19, 20, 21, 22, 23, 24, 25, 26, 27, 28, 29, 30, 31, 32, 33, 34, 35, 36, 37, 38, 39, 40, 41, 42, 43, 44, 45, 46]), (3, [1, 3, 14]), (2, [8, 9, 10, 11, 12, 13]), (1, [5, 6, 7]), (0, [0, 2])]
theorem comp33 : compFn Try.prog loc33 (fun i => (fg33.lookup i).getD []) Try.f33 = some lit33 := by kernel_rfl

-- parcener/ratio.Mul
def lit34 : AFn := ⟨2, [.cell 4 true 2, .tmp 5],
 (.seq
 (.ops [⟨some 2, (.boxL (.t 0)), none⟩,
 ⟨some 3, (.boxL (.t 1)), none⟩,
 ⟨some 4, (.allocL (.agg [(.int .i64 (0)), (.int .i64 (0))])), none⟩,
 ⟨some 5, (.mv (.c (.int .i64 (0)))), none⟩]
 [] [0, 1, 5])
 (.seq
 (.seq
 (.ops [⟨some 17, (.load true 2 (.t 2)), none⟩,
 ⟨some 18, (.load true 2 (.t 3)), none⟩,
 ⟨some 19, (.call (.f 38) [(.t 17), (.t 18)]), none⟩,
 ⟨some 6, (.mv (.t 19)), none⟩]
 [] [17, 18, 19])
 (.seq
 (.ops [⟨some 20, (.mv (.t 6)), none⟩,
 ⟨some 21, (.bin .neq (.t 20) (.c (.int .i64 (0)))), none⟩]
 [] [20])
 (.cond (.t 21)
 (.seq
 (.ops [⟨some 22, (.build [(.int .i64 (0)), (.int .i64 (0))] []), none⟩,
 ⟨some 23, (.mv (.t 6)), none⟩,
 ⟨none, (.store 2 (.t 4) (.t 22)), none⟩,
 ⟨some 5, (.mv (.t 23)), none⟩]
 [] [2, 3, 6, 21, 22, 23])
 .ret)
 .skip)))
 (.seq
 (.ops [⟨some 24, (.fad 0 (.t 2)), none⟩,
 ⟨some 25, (.load false 1 (.t 24)), none⟩,
 ⟨some 26, (.call (.f 50) [(.t 25)]), none⟩,
 ⟨some 27, (.fad 1 (.t 2)), none⟩,
 ⟨some 28, (.load false 1 (.t 27)), none⟩,
 ⟨some 29, (.conv .u64 (.t 28)), none⟩,
 ⟨some 30, (.fad 0 (.t 3)), none⟩,
 ⟨some 31, (.load false 1 (.t 30)), none⟩,
 ⟨some 32, (.call (.f 50) [(.t 31)]), none⟩,
 ⟨some 33, (.fad 1 (.t 3)), none⟩,
 ⟨some 34, (.load false 1 (.t 33)), none⟩,
 ⟨some 35, (.conv .u64 (.t 34)), none⟩,
 ⟨some 7, (.mv (.t 26)), none⟩,
 ⟨some 8, (.mv (.t 29)), none⟩,
 ⟨some 9, (.mv (.t 32)), none⟩,
 ⟨some 10, (.mv (.t 35)), none⟩]
 [(0, 3), (1, 3), (2, 3), (0, 4), (1, 4), (2, 4), (0, 5), (1, 5), (2, 5), (0, 6), (1, 6), (2, 6), (3, 6), (4, 6), (5, 6), (0, 7), (1, 7), (2, 7), (3, 7), (4, 7), (5, 7), (3, 8), (4, 8), (5, 8), (0, 9), (1, 9), (2, 9), (3, 9), (4, 9), (5, 9), (6, 9), (7, 9), (8, 9), (0, 10), (1, 10), (2, 10), (3, 10), (4, 10), (5, 10), (6, 10), (7, 10), (8, 10), (0, 11), (1, 11), (2, 11), (3, 11), (4, 11), (5, 11), (6, 11), (7, 11), (8, 11), (3, 12), (4, 12), (5, 12), (9, 12), (10, 12), (11, 12), (9, 13), (10, 13), (11, 13), (9, 14), (10, 14), (11, 14)] [6, 21, 24, 25, 26, 27, 28, 29, 30, 31, 32, 33, 34, 35])
 (.seq
 (.ops [⟨some 36, (.mv (.t 7)), none⟩,
 ⟨some 37, (.mv (.t 10)), none⟩,
 ⟨some 38, (.call (.f 51) [(.t 36), (.t 37)]), none⟩,
 ⟨some 39, (.mv (.t 9)), none⟩,
 ⟨some 40, (.mv (.t 8)), none⟩,
 ⟨some 41, (.call (.f 51) [(.t 39), (.t 40)]), none⟩,
 ⟨some 11, (.mv (.t 38)), none⟩,
 ⟨some 12, (.mv (.t 41)), none⟩]
 [] [36, 37, 38, 39, 40, 41])
 (.seq
 (.ops [⟨some 43, (.mv (.t 7)), none⟩,
 ⟨some 44, (.mv (.t 11)), none⟩,
 ⟨some 45, (.bin .quo (.t 43) (.t 44)), none⟩,
 ⟨some 46, (.mv (.t 9)), none⟩,
 ⟨some 47, (.mv (.t 12)), none⟩,
 ⟨some 48, (.bin .quo (.t 46) (.t 47)), none⟩,
 ⟨some 49, (.call (.f 52) [(.t 45), (.t 48)]), none⟩,
 ⟨some 42, (.mv (.t 49)), none⟩,
 ⟨some 50, (.ext (.t 42) 0), none⟩,
 ⟨some 51, (.ext (.t 42) 1), none⟩,
 ⟨some 13, (.mv (.t 50)), none⟩,
 ⟨some 14, (.mv (.t 51)), none⟩]
 [(0, 1), (0, 3), (1, 3), (2, 3), (0, 4), (1, 4), (2, 4), (3, 4), (0, 5), (1, 5), (2, 5), (8, 9), (9, 10)] [7, 9, 42, 43, 44, 45, 46, 47, 48, 49, 50, 51])
 (.seq
 (.ops [⟨some 53, (.mv (.t 8)), none⟩,
 ⟨some 54, (.mv (.t 12)), none⟩,
 ⟨some 55, (.bin .quo (.t 53) (.t 54)), none⟩,
 ⟨some 56, (.mv (.t 10)), none⟩,
 ⟨some 57, (.mv (.t 11)), none⟩,
 ⟨some 58, (.bin .quo (.t 56) (.t 57)), none⟩,
 ⟨some 59, (.call (.f 52) [(.t 55), (.t 58)]), none⟩,
 ⟨some 52, (.mv (.t 59)), none⟩,
 ⟨some 60, (.ext (.t 52) 0), none⟩,
 ⟨some 61, (.ext (.t 52) 1), none⟩,
 ⟨some 15, (.mv (.t 60)), none⟩,
 ⟨some 16, (.mv (.t 61)), none⟩]
 [(0, 1), (0, 3), (1, 3), (2, 3), (0, 4), (1, 4), (2, 4), (3, 4), (0, 5), (1, 5), (2, 5), (8, 9), (9, 10)] [8, 10, 11, 12, 52, 53, 54, 55, 56, 57, 58, 59, 60, 61])
 (.seq
 (.seq
 (.ops [⟨some 62, (.mv (.t 13)), none⟩,
 ⟨some 63, (.mv (.t 15)), none⟩,
 ⟨some 64, (.bin .add (.t 62) (.t 63)), none⟩,
 ⟨some 65, (.bin .gtr (.t 64) (.c (.int .u64 (0)))), none⟩]
 [] [13, 15, 62, 63, 64])
 (.cond (.t 65)
 (.seq
 (.ops [⟨some 66, (.build [(.int .i64 (0)), (.int .i64 (0))] []), none⟩,
 ⟨none, (.store 2 (.t 4) (.t 66)), none⟩,
 ⟨some 5, (.mv (.c (.int .i64 (16)))), none⟩]
 [] [2, 3, 14, 16, 65, 66])
 .ret)
 .skip))
 (.seq
 (.ops [⟨some 67, (.mv (.t 14)), none⟩,
 ⟨some 68, (.bin .gtr (.t 67) (.c (.int .u64 (0)))), none⟩,
 ⟨some 69, (.mv (.t 68)), none⟩,
 ⟨some 70, (.fad 0 (.t 2)), some (69, true)⟩,
 ⟨some 71, (.load false 1 (.t 70)), some (69, true)⟩,
 ⟨some 72, (.bin .lss (.t 71) (.c (.int .i64 (0)))), some (69, true)⟩,
 ⟨some 73, (.fad 0 (.t 3)), some (69, true)⟩,
 ⟨some 74, (.load false 1 (.t 73)), some (69, true)⟩,
 ⟨some 75, (.bin .lss (.t 74) (.c (.int .i64 (0)))), some (69, true)⟩,
 ⟨some 76, (.eqB true (.t 72) (.t 75)), some (69, true)⟩,
 ⟨some 77, (.pick (.t 69) (.t 76) (.c (.bool false))), none⟩,
 ⟨some 78, (.mv (.t 14)), none⟩,
 ⟨some 79, (.mv (.t 16)), none⟩,
 ⟨some 80, (.call (.f 53) [(.t 77), (.t 78), (.t 79)]), none⟩,
 ⟨some 81, (.ext (.t 80) 0), none⟩,
 ⟨some 82, (.ext (.t 80) 1), none⟩,
 ⟨none, (.store 2 (.t 4) (.t 81)), none⟩,
 ⟨some 5, (.mv (.t 82)), none⟩]
 [] [2, 3, 14, 16, 65, 67, 68, 69, 70, 71, 72, 73, 74, 75, 76, 77, 78, 79, 80, 81, 82])
 .ret))))))))⟩
def loc34 : List Nat := [2, 3, 4]
def fg34 : List (Nat × List Nat) := [(10, [2, 3, 14, 16, 65, 67, 68, 69, 70, 71, 72, 73, 74, 75, 76, 77, 78, 79, 80, 81, 82]), (9, [2, 3, 14, 16, 65, 66]), (8, [13, 15, 62, 63, 64]), (7, [8, 10, 11, 12, 52, 53, 54, 55, 56, 57, 58, 59, 60, 61]), (6, [7, 9, 42, 43, 44, 45, 46, 47, 48, 49, 50, 51]), (5, [36, 37, 38, 39, 40, 41]), (4, [6, 21, 24, 25, 26, 27, 28, 29, 30, 31, 32, 33, 34, 35]), (3, [2, 3, 6, 21, 22, 23]), (2, [20]), (1, [17, 18, 19]), (0, [0, 1, 5])]
theorem comp34 : compFn Try.prog loc34 (fun i => (fg34.lookup i).getD []) Try.f34 = some lit34 := by kernel_rfl

-- parcener/triple.must[int]
def lit35 : AFn := ⟨2, [.tmp 4],
 (.seq
 (.ops [⟨some 4, (.mv (.c (.int .i64 (0)))), none⟩]
 [] [4])
 (.seq
 (.seq
 (.ops [⟨some 5, (.mv (.t 1)), none⟩,
 ⟨some 6, (.bin .neq (.t 5) (.c (.int .i64 (0)))), none⟩]
 [] [5])
 (.cond (.t 6)
 (.ops [⟨some 7, (.mv (.t 1)), none⟩,
 ⟨some 8, .bad, none⟩,
 ⟨none, .bad, none⟩]
 [] [1, 6, 7, 8])
 .skip))
 (.seq
 (.ops [⟨some 9, (.mv (.t 0)), none⟩,
 ⟨some 4, (.mv (.t 9)), none⟩]
 [] [0, 1, 6, 9])
 .ret)))⟩
def loc35 : List Nat := []
def fg35 : List (Nat × List Nat) := [(3, [0, 1, 6, 9]), (2, [1, 6, 7, 8]), (1, [5]), (0, [4])]
theorem comp35 : compFn Try.prog loc35 (fun i => (fg35.lookup i).getD []) Try.f35 = some lit35 := by kernel_rfl

-- parcener/ask.Total
def lit36 : AFn := ⟨2, [.tmp 4, .tmp 5],
 (.seq
 (.ops [⟨some 2, (.boxL (.t 0)), none⟩,
 ⟨some 4, (.mv (.c (.int .i64 (0)))), none⟩,
 ⟨some 5, (.mv (.c (.int .i64 (0)))), none⟩]
 [] [0, 4, 5])
 (.seq
 (.seq
 (.ops [⟨some 7, (.load true 2 (.t 2)), none⟩,
 ⟨some 8, (.call (.f 21) [(.t 7)]), none⟩,
 ⟨some 6, (.mv (.t 8)), none⟩]
 [] [7, 8])
 (.seq
 (.ops [⟨some 9, (.mv (.t 6)), none⟩,
 ⟨some 10, (.bin .neq (.t 9) (.c (.int .i64 (0)))), none⟩]
 [] [9])
 (.cond (.t 10)
 (.seq
 (.ops [⟨some 11, (.mv (.t 6)), none⟩,
 ⟨some 4, (.mv (.c (.int .i64 (0)))), none⟩,
 ⟨some 5, (.mv (.t 11)), none⟩]
 [] [1, 2, 6, 10, 11])
 .ret)
 .skip)))
 (.seq
 (.seq
 (.ops [⟨some 12, (.load true 2 (.t 2)), none⟩,
 ⟨some 13, (.build [.nils, .nils] [(0, 2, (.t 12))]), none⟩,
 ⟨some 14, (.mv (.t 1)), none⟩,
 ⟨some 15, (.call (.f 54) [(.t 13), (.t 14)]), none⟩,
 ⟨some 16, (.un .not (.t 15)), none⟩]
 [] [6, 10, 12, 13, 14, 15])
 (.cond (.t 16)
 (.seq
 (.ops [⟨some 4, (.mv (.c (.int .i64 (0)))), none⟩,
 ⟨some 5, (.mv (.c (.int .i64 (2)))), none⟩]
 [] [1, 2, 16])
 .ret)
 .skip))
 (.seq
 (.ops [⟨some 17, (.fad 0 (.t 2)), none⟩,
 ⟨some 18, (.load false 1 (.t 17)), none⟩,
 ⟨some 19, (.mv (.t 1)), none⟩,
 ⟨some 20, (.iad 3 (.t 18) (.t 19)), none⟩,
 ⟨some 21, (.load true 3 (.t 20)), none⟩,
 ⟨some 22, (.call (.f 55) [(.t 21)]), none⟩,
 ⟨some 23, (.ext (.t 22) 0), none⟩,
 ⟨some 24, (.ext (.t 22) 1), none⟩,
 ⟨some 4, (.mv (.t 23)), none⟩,
 ⟨some 5, (.mv (.t 24)), none⟩]
 [] [1, 2, 16, 17, 18, 19, 20, 21, 22, 23, 24])
 .ret))))⟩
def loc36 : List Nat := [2]
def fg36 : List (Nat × List Nat) := [(6, [1, 2, 16, 17, 18, 19, 20, 21, 22, 23, 24]), (5, [1, 2, 16]), (4, [6, 10, 12, 13, 14, 15]), (3, [1, 2, 6, 10, 11]), (2, [9]), (1, [7, 8]), (0, [0, 4, 5])]
theorem comp36 : compFn Try.prog loc36 (fun i => (fg36.lookup i).getD []) Try.f36 = some lit36 := by kernel_rfl

-- parcener/ask.Value
def lit37 : AFn := ⟨4, [.cell 8 true 2, .cell 9 true 2, .tmp 10],
 (.seq
 (.ops [⟨some 4, (.boxL (.t 0)), none⟩,
 ⟨some 6, (.boxL (.t 2)), none⟩,
 ⟨some 7, (.boxL (.t 3)), none⟩,
 ⟨some 8, (.allocL (.agg [.nils, .nils])), none⟩,
 ⟨some 9, (.allocL (.agg [(.int .i64 (0)), (.int .i64 (0))])), none⟩,
 ⟨some 10, (.mv (.c (.int .i64 (0)))), none⟩]
 [] [0, 2, 3, 10])
 (.seq
 (.ops [⟨some 12, (.load true 2 (.t 4)), none⟩,
 ⟨some 13, (.build [.nils, .nils] [(0, 2, (.t 12))]), none⟩,
 ⟨some 11, (.allocL (.agg [.nils, .nils])), none⟩,
 ⟨none, (.store 2 (.t 11) (.t 13)), none⟩]
 [] [4, 12, 13])
 (.seq
 (.ops [⟨some 14, (.load true 2 (.t 11)), none⟩,
 ⟨some 15, (.mv (.t 1)), none⟩,
 ⟨some 16, (.load true 2 (.t 6)), none⟩,
 ⟨some 17, (.load true 2 (.t 7)), none⟩,
 ⟨some 18, (.build [(.int .i64 (0)), (.int .u8 (0)), (.int .i64 (0)), (.int .i64 (0)), (.int .i64 (0)), (.int .i64 (0)), (.int .i64 (0)), (.int .i64 (0))] [(0, 1, (.t 15)), (1, 1, (.c (.int .u8 (1)))), (2, 2, (.t 16)), (4, 2, (.t 17))]), none⟩,
 ⟨some 19, (.load true 2 (.t 11)), none⟩,
 ⟨some 20, (.mkFn (.func 57) [(.t 19)] []), none⟩,
 ⟨some 21, (.call (.f 56) [(.t 14), (.t 18), (.t 20)]), none⟩,
 ⟨some 22, (.ext (.t 21) 0), none⟩,
 ⟨some 23, (.ext (.t 21) 1), none⟩,
 ⟨some 24, (.ext (.t 21) 2), none⟩,
 ⟨none, (.store 2 (.t 8) (.t 22)), none⟩,
 ⟨none, (.store 2 (.t 9) (.t 23)), none⟩,
 ⟨some 10, (.mv (.t 24)), none⟩]
 [] [1, 6, 7, 11, 14, 15, 16, 17, 18, 19, 20, 21, 22, 23, 24])
 .ret)))⟩
def loc37 : List Nat := [4, 6, 7, 8, 9, 11]
def fg37 : List (Nat × List Nat) := [(2, [1, 6, 7, 11, 14, 15, 16, 17, 18, 19, 20, 21, 22, 23, 24]), (1, [4, 12, 13]), (0, [0, 2, 3, 10])]
theorem comp37 : compFn Try.prog loc37 (fun i => (fg37.lookup i).getD []) Try.f37 = some lit37 := by kernel_rfl

-- parcener/ratio.check
def lit38 : AFn := ⟨2, [.tmp 4],
 (.seq
 (.ops [⟨some 2, (.boxL (.t 0)), none⟩,
 ⟨some 3, (.boxL (.t 1)), none⟩,
 ⟨some 4, (.mv (.c (.int .i64 (0)))), none⟩]
 [] [0, 1, 4])
 (.seq
 (.ops [⟨some 5, (.load true 2 (.t 2)), none⟩,
 ⟨some 6, (.call (.f 59) [(.t 5)]), none⟩,
 ⟨some 7, (.load true 2 (.t 3)), none⟩,
 ⟨some 8, (.call (.f 59) [(.t 7)]), none⟩,
 ⟨some 9, (.buildD 1 (.int .i64 (0)) 2 [(0, (.t 6)), (1, (.t 8))]), none⟩,
 ⟨some 10, (.call (.f 58) [(.t 9)]), none⟩,
 ⟨some 4, (.mv (.t 10)), none⟩]
 [(0, 2), (1, 2)] [2, 3, 5, 6, 7, 8, 9, 10])
 .ret))⟩
def loc38 : List Nat := [9, 2, 3]
def fg38 : List (Nat × List Nat) := [(1, [2, 3, 5, 6, 7, 8, 9, 10]), (0, [0, 1, 4])]
theorem comp38 : compFn Try.prog loc38 (fun i => (fg38.lookup i).getD []) Try.f38 = some lit38 := by kernel_rfl

-- parcener/ratio.Add
def lit39 : AFn := ⟨2, [.cell 4 true 2, .tmp 5],
 (.seq
 (.ops [⟨some 2, (.boxL (.t 0)), none⟩,
 ⟨some 3, (.boxL (.t 1)), none⟩,
 ⟨some 4, (.allocL (.agg [(.int .i64 (0)), (.int .i64 (0))])), none⟩,
 ⟨some 5, (.mv (.c (.int .i64 (0)))), none⟩]
 [] [0, 1, 5])
 (.seq
 (.seq
 (.ops [⟨some 21, (.load true 2 (.t 2)), none⟩,
 ⟨some 22, (.load true 2 (.t 3)), none⟩,
 ⟨some 23, (.call (.f 38) [(.t 21), (.t 22)]), none⟩,
 ⟨some 6, (.mv (.t 23)), none⟩]
 [] [21, 22, 23])
 (.seq
 (.ops [⟨some 24, (.mv (.t 6)), none⟩,
 ⟨some 25, (.bin .neq (.t 24) (.c (.int .i64 (0)))), none⟩]
 [] [24])
 (.cond (.t 25)
 (.seq
 (.ops [⟨some 26, (.build [(.int .i64 (0)), (.int .i64 (0))] []), none⟩,
 ⟨some 27, (.mv (.t 6)), none⟩,
 ⟨none, (.store 2 (.t 4) (.t 26)), none⟩,
 ⟨some 5, (.mv (.t 27)), none⟩]
 [] [2, 3, 6, 25, 26, 27])
 .ret)
 .skip)))
 (.seq
 (.ops [⟨some 28, (.fad 1 (.t 2)), none⟩,
 ⟨some 29, (.load false 1 (.t 28)), none⟩,
 ⟨some 30, (.conv .u64 (.t 29)), none⟩,
 ⟨some 31, (.fad 1 (.t 3)), none⟩,
 ⟨some 32, (.load false 1 (.t 31)), none⟩,
 ⟨some 33, (.conv .u64 (.t 32)), none⟩,
 ⟨some 34, (.call (.f 51) [(.t 30), (.t 33)]), none⟩,
 ⟨some 7, (.mv (.t 34)), none⟩]
 [] [6, 25, 28, 29, 30, 31, 32, 33, 34])
 (.seq
 (.ops [⟨some 36, (.fad 0 (.t 2)), none⟩,
 ⟨some 37, (.load false 1 (.t 36)), none⟩,
 ⟨some 38, (.call (.f 50) [(.t 37)]), none⟩,
 ⟨some 39, (.fad 1 (.t 3)), none⟩,
 ⟨some 40, (.load false 1 (.t 39)), none⟩,
 ⟨some 41, (.conv .u64 (.t 40)), none⟩,
 ⟨some 42, (.mv (.t 7)), none⟩,
 ⟨some 43, (.bin .quo (.t 41) (.t 42)), none⟩,
 ⟨some 44, (.call (.f 52) [(.t 38), (.t 43)]), none⟩,
 ⟨some 35, (.mv (.t 44)), none⟩,
 ⟨some 45, (.ext (.t 35) 0), none⟩,
 ⟨some 46, (.ext (.t 35) 1), none⟩,
 ⟨some 8, (.mv (.t 45)), none⟩,
 ⟨some 9, (.mv (.t 46)), none⟩]
 [(0, 3), (1, 3), (2, 3), (0, 4), (1, 4), (2, 4), (0, 5), (1, 5), (2, 5), (0, 6), (1, 6), (2, 6), (3, 6), (4, 6), (5, 6), (0, 7), (1, 7), (2, 7), (10, 11), (11, 12)] [35, 36, 37, 38, 39, 40, 41, 42, 43, 44, 45, 46])
 (.seq
 (.ops [⟨some 48, (.fad 0 (.t 3)), none⟩,
 ⟨some 49, (.load false 1 (.t 48)), none⟩,
 ⟨some 50, (.call (.f 50) [(.t 49)]), none⟩,
 ⟨some 51, (.fad 1 (.t 2)), none⟩,
 ⟨some 52, (.load false 1 (.t 51)), none⟩,
 ⟨some 53, (.conv .u64 (.t 52)), none⟩,
 ⟨some 54, (.mv (.t 7)), none⟩,
 ⟨some 55, (.bin .quo (.t 53) (.t 54)), none⟩,
 ⟨some 56, (.call (.f 52) [(.t 50), (.t 55)]), none⟩,
 ⟨some 47, (.mv (.t 56)), none⟩,
 ⟨some 57, (.ext (.t 47) 0), none⟩,
 ⟨some 58, (.ext (.t 47) 1), none⟩,
 ⟨some 10, (.mv (.t 57)), none⟩,
 ⟨some 11, (.mv (.t 58)), none⟩]
 [(0, 3), (1, 3), (2, 3), (0, 4), (1, 4), (2, 4), (0, 5), (1, 5), (2, 5), (0, 6), (1, 6), (2, 6), (3, 6), (4, 6), (5, 6), (0, 7), (1, 7), (2, 7), (10, 11), (11, 12)] [47, 48, 49, 50, 51, 52, 53, 54, 55, 56, 57, 58])
 (.seq
 (.ops [⟨some 59, (.fad 0 (.t 2)), none⟩,
 ⟨some 60, (.load false 1 (.t 59)), none⟩,
 ⟨some 61, (.bin .lss (.t 60) (.c (.int .i64 (0)))), none⟩,
 ⟨some 12, (.mv (.t 61)), none⟩]
 [] [59, 60, 61])
 (.seq
 (.ops [⟨some 13, (.mv (.c (.int .u64 (0)))), none⟩,
 ⟨some 14, (.mv (.c (.int .u64 (0)))), none⟩,
 ⟨some 15, (.mv (.c (.int .u64 (0)))), none⟩]
 [] [13, 14, 15])
 (.seq
 (.seq
 (.ops [⟨some 62, (.fad 0 (.t 2)), none⟩,
 ⟨some 63, (.load false 1 (.t 62)), none⟩,
 ⟨some 64, (.bin .lss (.t 63) (.c (.int .i64 (0)))), none⟩,
 ⟨some 65, (.fad 0 (.t 3)), none⟩,
 ⟨some 66, (.load false 1 (.t 65)), none⟩,
 ⟨some 67, (.bin .lss (.t 66) (.c (.int .i64 (0)))), none⟩,
 ⟨some 68, (.eqB false (.t 64) (.t 67)), none⟩]
 [] [62, 63, 64, 65, 66, 67])
 (.cond (.t 68)
 (.seq
 (.ops [⟨some 70, (.mv (.t 9)), none⟩,
 ⟨some 71, (.mv (.t 11)), none⟩,
 ⟨some 72, (.call (.f 60) [(.t 70), (.t 71), (.c (.int .u64 (0)))]), none⟩,
 ⟨some 69, (.mv (.t 72)), none⟩,
 ⟨some 73, (.ext (.t 69) 0), none⟩,
 ⟨some 74, (.ext (.t 69) 1), none⟩,
 ⟨some 14, (.mv (.t 73)), none⟩,
 ⟨some 15, (.mv (.t 74)), none⟩]
 [] [9, 11, 68, 69, 70, 71, 72, 73, 74])
 (.ops [⟨some 76, (.mv (.t 8)), none⟩,
 ⟨some 77, (.mv (.t 10)), none⟩,
 ⟨some 78, (.mv (.t 15)), none⟩,
 ⟨some 79, (.call (.f 60) [(.t 76), (.t 77), (.t 78)]), none⟩,
 ⟨some 75, (.mv (.t 79)), none⟩,
 ⟨some 80, (.ext (.t 75) 0), none⟩,
 ⟨some 81, (.ext (.t 75) 1), none⟩,
 ⟨some 13, (.mv (.t 80)), none⟩]
 [] [8, 10, 15, 75, 76, 77, 78, 79, 80, 81]))
 (.seq
 (.seq
 (.ops [⟨some 82, (.mv (.t 8)), none⟩,
 ⟨some 83, (.mv (.t 10)), none⟩,
 ⟨some 84, (.bin .lss (.t 82) (.t 83)), none⟩,
 ⟨some 85, (.mv (.t 84)), none⟩,
 ⟨some 86, (.mv (.t 8)), some (85, false)⟩,
 ⟨some 87, (.mv (.t 10)), some (85, false)⟩,
 ⟨some 88, (.bin .eql (.t 86) (.t 87)), some (85, false)⟩,
 ⟨some 89, (.mv (.t 88)), some (85, false)⟩,
 ⟨some 90, (.mv (.t 9)), some (89, true)⟩,
 ⟨some 91, (.mv (.t 11)), some (89, true)⟩,
 ⟨some 92, (.bin .lss (.t 90) (.t 91)), some (89, true)⟩,
 ⟨some 93, (.pick (.t 89) (.t 92) (.c (.bool false))), some (85, false)⟩,
 ⟨some 94, (.pick (.t 85) (.c (.bool true)) (.t 93)), none⟩]
 [] [68, 82, 83, 84, 85, 86, 87, 88, 89, 90, 91, 92, 93])
 (.cond (.t 94)
 (.seq
 (.ops [⟨some 95, (.mv (.t 10)), none⟩,
 ⟨some 96, (.mv (.t 11)), none⟩,
 ⟨some 97, (.mv (.t 8)), none⟩,
 ⟨some 98, (.mv (.t 9)), none⟩,
 ⟨some 8, (.mv (.t 95)), none⟩,
 ⟨some 9, (.mv (.t 96)), none⟩,
 ⟨some 10, (.mv (.t 97)), none⟩,
 ⟨some 11, (.mv (.t 98)), none⟩]
 [] [94, 95, 96, 97, 98])
 (.ops [⟨some 99, (.mv (.t 12)), none⟩,
 ⟨some 100, (.un .not (.t 99)), none⟩,
 ⟨some 12, (.mv (.t 100)), none⟩]
 [] [99, 100]))
 .skip))
 (.seq
 (.ops [⟨some 102, (.mv (.t 9)), none⟩,
 ⟨some 103, (.mv (.t 11)), none⟩,
 ⟨some 104, (.call (.f 61) [(.t 102), (.t 103), (.c (.int .u64 (0)))]), none⟩,
 ⟨some 101, (.mv (.t 104)), none⟩,
 ⟨some 105, (.ext (.t 101) 0), none⟩,
 ⟨some 106, (.ext (.t 101) 1), none⟩,
 ⟨some 14, (.mv (.t 105)), none⟩,
 ⟨some 15, (.mv (.t 106)), none⟩]
 [] [9, 11, 94, 101, 102, 103, 104, 105, 106])
 (.ops [⟨some 108, (.mv (.t 8)), none⟩,
 ⟨some 109, (.mv (.t 10)), none⟩,
 ⟨some 110, (.mv (.t 15)), none⟩,
 ⟨some 111, (.call (.f 61) [(.t 108), (.t 109), (.t 110)]), none⟩,
 ⟨some 107, (.mv (.t 111)), none⟩,
 ⟨some 112, (.ext (.t 107) 0), none⟩,
 ⟨some 113, (.ext (.t 107) 1), none⟩,
 ⟨some 13, (.mv (.t 112)), none⟩]
 [] [8, 10, 15, 107, 108, 109, 110, 111, 112, 113])))))
 (.seq
 (.seq
 (.ops [⟨some 114, (.mv (.t 13)), none⟩,
 ⟨some 115, (.bin .eql (.t 114) (.c (.int .u64 (0)))), none⟩,
 ⟨some 116, (.mv (.t 115)), none⟩,
 ⟨some 117, (.mv (.t 14)), some (116, true)⟩,
 ⟨some 118, (.bin .eql (.t 117) (.c (.int .u64 (0)))), some (116, true)⟩,
 ⟨some 119, (.pick (.t 116) (.t 118) (.c (.bool false))), none⟩]
 [] [114, 115, 116, 117, 118])
 (.cond (.t 119)
 (.seq
 (.ops [⟨some 120, (.build [(.int .i64 (0)), (.int .i64 (0))] [(1, 1, (.c (.int .i64 (1))))]), none⟩,
 ⟨none, (.store 2 (.t 4) (.t 120)), none⟩,
 ⟨some 5, (.mv (.c (.int .i64 (0)))), none⟩]
 [] [2, 3, 7, 12, 13, 14, 119, 120])
 .ret)
 .skip))
 (.seq
 (.ops [⟨some 121, (.mv (.t 13)), none⟩,
 ⟨some 122, (.mv (.t 14)), none⟩,
 ⟨some 123, (.mv (.t 7)), none⟩,
 ⟨some 124, (.call (.f 62) [(.t 121), (.t 122), (.t 123)]), none⟩,
 ⟨some 125, (.mv (.t 7)), none⟩,
 ⟨some 126, (.call (.f 51) [(.t 124), (.t 125)]), none⟩,
 ⟨some 16, (.mv (.t 126)), none⟩]
 [] [119, 121, 122, 123, 124, 125, 126])
 (.seq
 (.seq
 (.ops [⟨some 127, (.mv (.t 13)), none⟩,
 ⟨some 128, (.mv (.t 16)), none⟩,
 ⟨some 129, (.bin .geq (.t 127) (.t 128)), none⟩]
 [] [127, 128])
 (.cond (.t 129)
 (.seq
 (.ops [⟨some 130, (.build [(.int .i64 (0)), (.int .i64 (0))] []), none⟩,
 ⟨none, (.store 2 (.t 4) (.t 130)), none⟩,
 ⟨some 5, (.mv (.c (.int .i64 (16)))), none⟩]
 [] [2, 3, 7, 12, 13, 14, 16, 129, 130])
 .ret)
 .skip))
 (.seq
 (.ops [⟨some 132, (.mv (.t 13)), none⟩,
 ⟨some 133, (.mv (.t 14)), none⟩,
 ⟨some 134, (.mv (.t 16)), none⟩,
 ⟨some 135, (.call (.f 63) [(.t 132), (.t 133), (.t 134)]), none⟩,
 ⟨some 131, (.mv (.t 135)), none⟩,
 ⟨some 136, (.ext (.t 131) 0), none⟩,
 ⟨some 137, (.ext (.t 131) 1), none⟩,
 ⟨some 17, (.mv (.t 136)), none⟩,
 ⟨some 18, (.mv (.t 137)), none⟩]
 [] [13, 14, 18, 129, 131, 132, 133, 134, 135, 136, 137])
 (.seq
 (.ops [⟨some 139, (.fad 1 (.t 2)), none⟩,
 ⟨some 140, (.load false 1 (.t 139)), none⟩,
 ⟨some 141, (.conv .u64 (.t 140)), none⟩,
 ⟨some 142, (.mv (.t 7)), none⟩,
 ⟨some 143, (.bin .quo (.t 141) (.t 142)), none⟩,
 ⟨some 144, (.fad 1 (.t 3)), none⟩,
 ⟨some 145, (.load false 1 (.t 144)), none⟩,
 ⟨some 146, (.conv .u64 (.t 145)), none⟩,
 ⟨some 147, (.mv (.t 16)), none⟩,
 ⟨some 148, (.bin .quo (.t 146) (.t 147)), none⟩,
 ⟨some 149, (.call (.f 52) [(.t 143), (.t 148)]), none⟩,
 ⟨some 138, (.mv (.t 149)), none⟩,
 ⟨some 150, (.ext (.t 138) 0), none⟩,
 ⟨some 151, (.ext (.t 138) 1), none⟩,
 ⟨some 19, (.mv (.t 150)), none⟩,
 ⟨some 20, (.mv (.t 151)), none⟩]
 [(0, 3), (1, 3), (2, 3), (0, 5), (1, 5), (2, 5), (3, 5), (4, 5), (0, 6), (1, 6), (2, 6), (3, 6), (4, 6), (0, 7), (1, 7), (2, 7), (3, 7), (4, 7), (0, 8), (1, 8), (2, 8), (3, 8), (4, 8), (5, 8), (6, 8), (7, 8), (0, 9), (1, 9), (2, 9), (3, 9), (4, 9), (12, 13), (13, 14)] [2, 3, 7, 16, 138, 139, 140, 141, 142, 143, 144, 145, 146, 147, 148, 149, 150, 151])
 (.seq
 (.seq
 (.ops [⟨some 152, (.mv (.t 19)), none⟩,
 ⟨some 153, (.bin .gtr (.t 152) (.c (.int .u64 (0)))), none⟩]
 [] [19, 152])
 (.cond (.t 153)
 (.seq
 (.ops [⟨some 154, (.build [(.int .i64 (0)), (.int .i64 (0))] []), none⟩,
 ⟨none, (.store 2 (.t 4) (.t 154)), none⟩,
 ⟨some 5, (.mv (.c (.int .i64 (16)))), none⟩]
 [] [12, 17, 20, 153, 154])
 .ret)
 .skip))
 (.seq
 (.ops [⟨some 155, (.mv (.t 12)), none⟩,
 ⟨some 156, (.mv (.t 17)), none⟩,
 ⟨some 157, (.mv (.t 20)), none⟩,
 ⟨some 158, (.call (.f 53) [(.t 155), (.t 156), (.t 157)]), none⟩,
 ⟨some 159, (.ext (.t 158) 0), none⟩,
 ⟨some 160, (.ext (.t 158) 1), none⟩,
 ⟨none, (.store 2 (.t 4) (.t 159)), none⟩,
 ⟨some 5, (.mv (.t 160)), none⟩]
 [] [12, 17, 20, 153, 155, 156, 157, 158, 159, 160])
 .ret)))))))))))))))⟩
def loc39 : List Nat := [2, 3, 4]
def fg39 : List (Nat × List Nat) := [(26, [12, 17, 20, 153, 155, 156, 157, 158, 159, 160]), (25, [12, 17, 20, 153, 154]), (24, [19, 152]), (23, [2, 3, 7, 16, 138, 139, 140, 141, 142, 143, 144, 145, 146, 147, 148, 149, 150, 151]), (22, [13, 14, 18, 129, 131, 132, 133, 134, 135, 136, 137]), (21, [2, 3, 7, 12, 13, 14, 16, 129, 130]), (20, [127, 128]), (19, [119, 121, 122, 123, 124, 125, 126]), (18, [2, 3, 7, 12, 13, 14, 119, 120]), (17, [114, 115, 116, 117, 118]), (16, [8, 10, 15, 107, 108, 109, 110, 111, 112, 113]), (15, [9, 11, 94, 101, 102, 103, 104, 105, 106]), (14, [99, 100]), (13, [94, 95, 96, 97, 98]), (12, [68, 82, 83, 84, 85, 86, 87, 88, 89, 90, 91, 92, 93]), (11, [8, 10, 15, 75, 76, 77, 78, 79, 80, 81]), (10, [9, 11, 68, 69, 70, 71, 72, 73, 74]), (9, [62, 63, 64, 65, 66, 67]), (8, [13, 14, 15]), (7, [59, 60, 61]), (6, [47, 48, 49, 50, 51, 52, 53, 54, 55, 56, 57, 58]), (5, [35, 36, 37, 38, 39, 40, 41, 42, 43, 44, 45, 46]), (4, [6, 25, 28, 29, 30, 31, 32, 33, 34]), (3, [2, 3, 6, 25, 26, 27]), (2, [24]), (1, [21, 22, 23]), (0, [0, 1, 5])]
theorem comp39 : compFn Try.prog loc39 (fun i => (fg39.lookup i).getD []) Try.f39 = some lit39 := by kernel_rfl

-- parcener/ratio.Cmp
def lit40 : AFn := ⟨2, [.tmp 4, .tmp 5],
 (.seq
 (.ops [⟨some 2, (.boxL (.t 0)), none⟩,
 ⟨some 3, (.boxL (.t 1)), none⟩,
 ⟨some 4, (.mv (.c (.int .i64 (0)))), none⟩,
 ⟨some 5, (.mv (.c (.int .i64 (0)))), none⟩]
 [] [0, 1, 4, 5])
 (.seq
 (.seq
 (.ops [⟨some 12, (.load true 2 (.t 2)), none⟩,
 ⟨some 13, (.load true 2 (.t 3)), none⟩,
 ⟨some 14, (.call (.f 38) [(.t 12), (.t 13)]), none⟩,
 ⟨some 6, (.mv (.t 14)), none⟩]
 [] [12, 13, 14])
 (.seq
 (.ops [⟨some 15, (.mv (.t 6)), none⟩,
 ⟨some 16, (.bin .neq (.t 15) (.c (.int .i64 (0)))), none⟩]
 [] [15])
 (.cond (.t 16)
 (.seq
 (.ops [⟨some 17, (.mv (.t 6)), none⟩,
 ⟨some 4, (.mv (.c (.int .i64 (0)))), none⟩,
 ⟨some 5, (.mv (.t 17)), none⟩]
 [] [2, 3, 6, 16, 17])
 .ret)
 .skip)))
 (.seq
 (.seq
 (.ops [⟨some 18, (.fad 0 (.t 2)), none⟩,
 ⟨some 19, (.load false 1 (.t 18)), none⟩,
 ⟨some 20, (.bin .lss (.t 19) (.c (.int .i64 (0)))), none⟩,
 ⟨some 21, (.fad 0 (.t 3)), none⟩,
 ⟨some 22, (.load false 1 (.t 21)), none⟩,
 ⟨some 23, (.bin .lss (.t 22) (.c (.int .i64 (0)))), none⟩,
 ⟨some 24, (.eqB true (.t 20) (.t 23)), none⟩]
 [] [6, 16, 18, 19, 20, 21, 22, 23])
 (.cond (.t 24)
 (.seq
 (.ops [⟨some 25, (.fad 0 (.t 2)), none⟩,
 ⟨some 26, (.load false 1 (.t 25)), none⟩,
 ⟨some 27, (.fad 0 (.t 3)), none⟩,
 ⟨some 28, (.load false 1 (.t 27)), none⟩,
 ⟨some 29, (.call (.f 64) [(.t 26), (.t 28)]), none⟩,
 ⟨some 4, (.mv (.t 29)), none⟩,
 ⟨some 5, (.mv (.c (.int .i64 (0)))), none⟩]
 [] [2, 3, 24, 25, 26, 27, 28, 29])
 .ret)
 .skip))
 (.seq
 (.ops [⟨some 31, (.fad 0 (.t 2)), none⟩,
 ⟨some 32, (.load false 1 (.t 31)), none⟩,
 ⟨some 33, (.call (.f 50) [(.t 32)]), none⟩,
 ⟨some 34, (.fad 1 (.t 3)), none⟩,
 ⟨some 35, (.load false 1 (.t 34)), none⟩,
 ⟨some 36, (.conv .u64 (.t 35)), none⟩,
 ⟨some 37, (.call (.f 52) [(.t 33), (.t 36)]), none⟩,
 ⟨some 30, (.mv (.t 37)), none⟩,
 ⟨some 38, (.ext (.t 30) 0), none⟩,
 ⟨some 39, (.ext (.t 30) 1), none⟩,
 ⟨some 7, (.mv (.t 38)), none⟩,
 ⟨some 8, (.mv (.t 39)), none⟩]
 [(0, 3), (1, 3), (2, 3), (0, 4), (1, 4), (2, 4), (0, 5), (1, 5), (2, 5), (8, 9), (9, 10)] [24, 30, 31, 32, 33, 34, 35, 36, 37, 38, 39])
 (.seq
 (.ops [⟨some 41, (.fad 0 (.t 3)), none⟩,
 ⟨some 42, (.load false 1 (.t 41)), none⟩,
 ⟨some 43, (.call (.f 50) [(.t 42)]), none⟩,
 ⟨some 44, (.fad 1 (.t 2)), none⟩,
 ⟨some 45, (.load false 1 (.t 44)), none⟩,
 ⟨some 46, (.conv .u64 (.t 45)), none⟩,
 ⟨some 47, (.call (.f 52) [(.t 43), (.t 46)]), none⟩,
 ⟨some 40, (.mv (.t 47)), none⟩,
 ⟨some 48, (.ext (.t 40) 0), none⟩,
 ⟨some 49, (.ext (.t 40) 1), none⟩,
 ⟨some 9, (.mv (.t 48)), none⟩,
 ⟨some 10, (.mv (.t 49)), none⟩]
 [(0, 3), (1, 3), (2, 3), (0, 4), (1, 4), (2, 4), (0, 5), (1, 5), (2, 5), (8, 9), (9, 10)] [3, 40, 41, 42, 43, 44, 45, 46, 47, 48, 49])
 (.seq
 (.ops [⟨some 50, (.mv (.t 7)), none⟩,
 ⟨some 51, (.mv (.t 9)), none⟩,
 ⟨some 52, (.call (.f 66) [(.t 50), (.t 51)]), none⟩,
 ⟨some 53, (.mv (.t 8)), none⟩,
 ⟨some 54, (.mv (.t 10)), none⟩,
 ⟨some 55, (.call (.f 66) [(.t 53), (.t 54)]), none⟩,
 ⟨some 56, (.buildD 1 (.int .i64 (0)) 2 [(0, (.t 52)), (1, (.t 55))]), none⟩,
 ⟨some 57, (.call (.f 65) [(.t 56)]), none⟩,
 ⟨some 11, (.mv (.t 57)), none⟩]
 [] [7, 8, 9, 10, 50, 51, 52, 53, 54, 55, 56, 57])
 (.seq
 (.seq
 (.ops [⟨some 58, (.fad 0 (.t 2)), none⟩,
 ⟨some 59, (.load false 1 (.t 58)), none⟩,
 ⟨some 60, (.bin .lss (.t 59) (.c (.int .i64 (0)))), none⟩]
 [] [2, 58, 59])
 (.cond (.t 60)
 (.ops [⟨some 61, (.mv (.t 11)), none⟩,
 ⟨some 62, (.un .neg (.t 61)), none⟩,
 ⟨some 11, (.mv (.t 62)), none⟩]
 [] [60, 61, 62])
 .skip))
 (.seq
 (.ops [⟨some 63, (.mv (.t 11)), none⟩,
 ⟨some 4, (.mv (.t 63)), none⟩,
 ⟨some 5, (.mv (.c (.int .i64 (0)))), none⟩]
 [] [11, 60, 63])
 .ret))))))))⟩
def loc40 : List Nat := [56, 2, 3]
def fg40 : List (Nat × List Nat) := [(11, [11, 60, 63]), (10, [60, 61, 62]), (9, [2, 58, 59]), (8, [7, 8, 9, 10, 50, 51, 52, 53, 54, 55, 56, 57]), (7, [3, 40, 41, 42, 43, 44, 45, 46, 47, 48, 49]), (6, [24, 30, 31, 32, 33, 34, 35, 36, 37, 38, 39]), (5, [2, 3, 24, 25, 26, 27, 28, 29]), (4, [6, 16, 18, 19, 20, 21, 22, 23]), (3, [2, 3, 6, 16, 17]), (2, [15]), (1, [12, 13, 14]), (0, [0, 1, 4, 5])]
theorem comp40 : compFn Try.prog loc40 (fun i => (fg40.lookup i).getD []) Try.f40 = some lit40 := by kernel_rfl

-- parcener/triple.others$1
def lit41 : AFn := ⟨2, [.tmp 2],
 (.seq
 (.ops [⟨some 2, (.mv (.c (.bool false))), none⟩]
 [] [2])
 (.seq
 (.seq
 (.ops [⟨some 5, (.load false 1 (.t 0)), none⟩,
 ⟨some 6, (.len (.t 5)), none⟩,
 ⟨some 7, (.mv (.c (.int .i64 (0)))), none⟩]
 [] [0])
 (.block 0
 (.loop
 (.seq
 (.ops [⟨some 8, (.bin .lss (.t 7) (.t 6)), none⟩]
 [] [])
 (.seq
 (.cond (.t 8)
 .skip
 (.exit 0))
 (.seq
 (.block 1
 (.seq
 (.ops [⟨some 9, (.iad 1 (.t 5) (.t 7)), none⟩,
 ⟨some 10, (.load false 1 (.t 9)), none⟩,
 ⟨some 4, (.mv (.t 10)), none⟩]
 [] [8, 9, 10])
 (.seq
 (.ops [⟨some 11, (.mv (.t 4)), none⟩,
 ⟨some 12, (.load false 1 (.t 1)), none⟩,
 ⟨some 13, (.bin .eql (.t 11) (.t 12)), none⟩]
 [] [4, 11, 12])
 (.cond (.t 13)
 (.seq
 (.ops [⟨some 2, (.mv (.c (.bool true))), none⟩]
 [] [1, 5, 6, 7, 13])
 .ret)
 .skip))))
 (.ops [⟨some 14, (.bin .add (.t 7) (.c (.int .i64 (1)))), none⟩,
 ⟨some 7, (.mv (.t 14)), none⟩]
 [] [13, 14])))))))
 (.seq
 (.ops [⟨some 2, (.mv (.c (.bool false))), none⟩]
 [] [1, 5, 6, 7, 8])
 .ret)))⟩
def loc41 : List Nat := []
def fg41 : List (Nat × List Nat) := [(7, [1, 5, 6, 7, 8]), (6, [13, 14]), (5, [1, 5, 6, 7, 13]), (4, [4, 11, 12]), (3, [8, 9, 10]), (1, [0]), (0, [2])]
theorem comp41 : compFn Try.prog loc41 (fun i => (fg41.lookup i).getD []) Try.f41 = some lit41 := by kernel_rfl

-- parcener/ask.Mark
def lit42 : AFn := ⟨4, [.cell 8 true 2, .cell 9 true 2, .tmp 10],
 (.seq
 (.ops [⟨some 4, (.boxL (.t 0)), none⟩,
 ⟨some 6, (.boxL (.t 2)), none⟩,
 ⟨some 7, (.boxL (.t 3)), none⟩,
 ⟨some 8, (.allocL (.agg [.nils, .nils])), none⟩,
 ⟨some 9, (.allocL (.agg [(.int .i64 (0)), (.int .i64 (0))])), none⟩,
 ⟨some 10, (.mv (.c (.int .i64 (0)))), none⟩]
 [] [0, 2, 3, 10])
 (.seq
 (.ops [⟨some 12, (.load true 2 (.t 4)), none⟩,
 ⟨some 13, (.build [.nils, .nils] [(0, 2, (.t 12))]), none⟩,
 ⟨some 11, (.allocL (.agg [.nils, .nils])), none⟩,
 ⟨none, (.store 2 (.t 11) (.t 13)), none⟩]
 [] [4, 12, 13])
 (.seq
 (.ops [⟨some 14, (.load true 2 (.t 11)), none⟩,
 ⟨some 15, (.mv (.t 1)), none⟩,
 ⟨some 16, (.load true 2 (.t 6)), none⟩,
 ⟨some 17, (.load true 2 (.t 7)), none⟩,
 ⟨some 18, (.build [(.int .i64 (0)), (.int .u8 (0)), (.int .i64 (0)), (.int .i64 (0)), (.int .i64 (0)), (.int .i64 (0)), (.int .i64 (0)), (.int .i64 (0))] [(0, 1, (.t 15)), (1, 1, (.c (.int .u8 (2)))), (2, 2, (.t 16)), (4, 2, (.t 17))]), none⟩,
 ⟨some 19, (.load true 2 (.t 11)), none⟩,
 ⟨some 20, (.mkFn (.func 67) [(.t 19)] []), none⟩,
 ⟨some 21, (.call (.f 56) [(.t 14), (.t 18), (.t 20)]), none⟩,
 ⟨some 22, (.ext (.t 21) 0), none⟩,
 ⟨some 23, (.ext (.t 21) 1), none⟩,
 ⟨some 24, (.ext (.t 21) 2), none⟩,
 ⟨none, (.store 2 (.t 8) (.t 22)), none⟩,
 ⟨none, (.store 2 (.t 9) (.t 23)), none⟩,
 ⟨some 10, (.mv (.t 24)), none⟩]
 [] [1, 6, 7, 11, 14, 15, 16, 17, 18, 19, 20, 21, 22, 23, 24])
 .ret)))⟩
def loc42 : List Nat := [4, 6, 7, 8, 9, 11]
def fg42 : List (Nat × List Nat) := [(2, [1, 6, 7, 11, 14, 15, 16, 17, 18, 19, 20, 21, 22, 23, 24]), (1, [4, 12, 13]), (0, [0, 2, 3, 10])]
theorem comp42 : compFn Try.prog loc42 (fun i => (fg42.lookup i).getD []) Try.f42 = some lit42 := by kernel_rfl

-- parcener/piece.valid
def lit43 : AFn := ⟨1, [.tmp 2],
 (.seq
 (.ops [⟨some 1, (.boxL (.t 0)), none⟩,
 ⟨some 2, (.mv (.c (.bool false))), none⟩]
 [] [0, 2])
 (.seq
 (.ops [⟨some 6, (.fad 0 (.t 1)), none⟩,
 ⟨some 7, (.load true 2 (.t 6)), none⟩,
 ⟨some 8, (.fad 2 (.t 1)), none⟩,
 ⟨some 9, (.load true 2 (.t 8)), none⟩,
 ⟨some 10, (.call (.f 40) [(.t 7), (.t 9)]), none⟩,
 ⟨some 5, (.mv (.t 10)), none⟩,
 ⟨some 11, (.ext (.t 5) 0), none⟩,
 ⟨some 12, (.ext (.t 5) 1), none⟩,
 ⟨some 3, (.mv (.t 11)), none⟩,
 ⟨some 4, (.mv (.t 12)), none⟩]
 [] [1, 5, 6, 7, 8, 9, 10, 11, 12])
 (.seq
 (.ops [⟨some 13, (.mv (.t 4)), none⟩,
 ⟨some 14, (.bin .eql (.t 13) (.c (.int .i64 (0)))), none⟩,
 ⟨some 15, (.mv (.t 14)), none⟩,
 ⟨some 16, (.mv (.t 3)), some (15, true)⟩,
 ⟨some 17, (.bin .lss (.t 16) (.c (.int .i64 (0)))), some (15, true)⟩,
 ⟨some 18, (.pick (.t 15) (.t 17) (.c (.bool false))), none⟩,
 ⟨some 2, (.mv (.t 18)), none⟩]
 [] [3, 4, 13, 14, 15, 16, 17, 18])
 .ret)))⟩
def loc43 : List Nat := [1]
def fg43 : List (Nat × List Nat) := [(2, [3, 4, 13, 14, 15, 16, 17, 18]), (1, [1, 5, 6, 7, 8, 9, 10, 11, 12]), (0, [0, 2])]
theorem comp43 : compFn Try.prog loc43 (fun i => (fg43.lookup i).getD []) Try.f43 = some lit43 := by kernel_rfl

-- slices.Clone[[]parcener/api.Span,parcener/api.Span]
def lit44 : AFn := ⟨1, [.tmp 2],
 (.seq
 (.ops [⟨some 2, (.mv (.c .nils)), none⟩]
 [] [2])
 (.seq
 (.seq
 (.ops [⟨some 3, (.mv (.t 0)), none⟩,
 ⟨some 4, (.eqN false (.t 3)), none⟩]
 [] [3])
 (.cond (.t 4)
 (.seq
 (.ops [⟨some 2, (.mv (.c .nils)), none⟩]
 [] [0, 4])
 .ret)
 .skip))
 (.seq
 (.ops [⟨some 5, (.buildSl true 4 (.agg [(.int .i64 (0)), (.int .i64 (0)), (.int .i64 (0)), (.int .i64 (0))]) 0 []), none⟩,
 ⟨some 6, (.mv (.t 0)), none⟩,
 ⟨some 7, (.app true 4 32 (.t 5) (.t 6)), none⟩,
 ⟨some 2, (.mv (.t 7)), none⟩]
 [] [0, 4, 5, 6, 7])
 .ret)))⟩
def loc44 : List Nat := []
def fg44 : List (Nat × List Nat) := [(3, [0, 4, 5, 6, 7]), (2, [0, 4]), (1, [3]), (0, [2])]
theorem comp44 : compFn Try.prog loc44 (fun i => (fg44.lookup i).getD []) Try.f44 = some lit44 := by kernel_rfl

def tab0 : List (Nat × AFn) := [(3, lit3), (4, lit4), (5, lit5), (6, lit6), (7, lit7), (8, lit8), (9, lit9), (10, lit10), (11, lit11), (12, lit12), (14, lit14), (15, lit15), (16, lit16), (17, lit17), (18, lit18), (19, lit19), (20, lit20), (21, lit21), (22, lit22), (23, lit23), (24, lit24), (25, lit25), (26, lit26), (27, lit27), (28, lit28), (29, lit29), (30, lit30), (31, lit31), (32, lit32), (33, lit33), (34, lit34), (35, lit35), (36, lit36), (37, lit37), (38, lit38), (39, lit39), (40, lit40), (41, lit41), (42, lit42), (43, lit43), (44, lit44)]
theorem tabOk0 : AllOk Try.prog tab0 := ⟨⟨_, _, _, Try.func3, comp3⟩, ⟨_, _, _, Try.func4, comp4⟩, ⟨_, _, _, Try.func5, comp5⟩, ⟨_, _, _, Try.func6, comp6⟩, ⟨_, _, _, Try.func7, comp7⟩, ⟨_, _, _, Try.func8, comp8⟩, ⟨_, _, _, Try.func9, comp9⟩, ⟨_, _, _, Try.func10, comp10⟩, ⟨_, _, _, Try.func11, comp11⟩, ⟨_, _, _, Try.func12, comp12⟩, ⟨_, _, _, Try.func14, comp14⟩, ⟨_, _, _, Try.func15, comp15⟩, ⟨_, _, _, Try.func16, comp16⟩, ⟨_, _, _, Try.func17, comp17⟩, ⟨_, _, _, Try.func18, comp18⟩, ⟨_, _, _, Try.func19, comp19⟩, ⟨_, _, _, Try.func20, comp20⟩, ⟨_, _, _, Try.func21, comp21⟩, ⟨_, _, _, Try.func22, comp22⟩, ⟨_, _, _, Try.func23, comp23⟩, ⟨_, _, _, Try.func24, comp24⟩, ⟨_, _, _, Try.func25, comp25⟩, ⟨_, _, _, Try.func26, comp26⟩, ⟨_, _, _, Try.func27, comp27⟩, ⟨_, _, _, Try.func28, comp28⟩, ⟨_, _, _, Try.func29, comp29⟩, ⟨_, _, _, Try.func30, comp30⟩, ⟨_, _, _, Try.func31, comp31⟩, ⟨_, _, _, Try.func32, comp32⟩, ⟨_, _, _, Try.func33, comp33⟩, ⟨_, _, _, Try.func34, comp34⟩, ⟨_, _, _, Try.func35, comp35⟩, ⟨_, _, _, Try.func36, comp36⟩, ⟨_, _, _, Try.func37, comp37⟩, ⟨_, _, _, Try.func38, comp38⟩, ⟨_, _, _, Try.func39, comp39⟩, ⟨_, _, _, Try.func40, comp40⟩, ⟨_, _, _, Try.func41, comp41⟩, ⟨_, _, _, Try.func42, comp42⟩, ⟨_, _, _, Try.func43, comp43⟩, ⟨_, _, _, Try.func44, comp44⟩, trivial⟩
end Go.Proofs.Ythlajkcfbpfmdaa.Tz
