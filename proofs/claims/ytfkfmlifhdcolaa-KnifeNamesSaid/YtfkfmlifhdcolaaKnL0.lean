/- The functions that the statement KnifeNames runs, in the small code (part 0); each is what the framework makes of the program. -/
import Derived.Test.YtfkfmlifhdcolaaFw27
import Derived.Test.YtfkfmlifhdcolaaRows
namespace Go.Proofs.Ytfkfmlifhdcolaa.Kn
open Go Go.Pf
-- parcener/parcenerlaw11.KnifeNames
def lit3 : AFn := ⟨0, [.tmp 0],
 (.seq
 (.ops [⟨some 0, (.mv (.c (.bool false))), none⟩]
 [] [0])
 (.seq
 (.ops [⟨some 47, (.call (.f 11) []), none⟩,
 ⟨some 46, (.mv (.t 47)), none⟩,
 ⟨some 48, (.ext (.t 46) 0), none⟩,
 ⟨some 49, (.ext (.t 46) 1), none⟩,
 ⟨some 1, (.allocL (.agg [(.int .i64 (0)), .nils, .nils])), none⟩,
 ⟨some 2, (.allocL (.agg [(.int .i64 (0)), .nils, .nils])), none⟩,
 ⟨none, (.store 3 (.t 1) (.t 48)), none⟩,
 ⟨none, (.store 3 (.t 2) (.t 49)), none⟩]
 [] [46, 47, 48, 49])
 (.seq
 (.ops [⟨some 51, (.load true 3 (.t 1)), none⟩,
 ⟨some 52, (.load true 3 (.t 1)), none⟩,
 ⟨some 53, (.call (.f 12) [(.t 51), (.t 52)]), none⟩,
 ⟨some 50, (.mv (.t 53)), none⟩,
 ⟨some 54, (.ext (.t 50) 0), none⟩,
 ⟨some 55, (.ext (.t 50) 1), none⟩,
 ⟨some 3, (.allocL (.agg [(.int .i64 (0)), (.int .i64 (0)), (.int .i64 (0)), (.int .i64 (0))])), none⟩,
 ⟨none, (.store 4 (.t 3) (.t 54)), none⟩,
 ⟨some 4, (.mv (.t 55)), none⟩]
 [] [50, 51, 52, 53, 54, 55])
 (.seq
 (.ops [⟨some 57, (.load true 3 (.t 2)), none⟩,
 ⟨some 58, (.load true 3 (.t 1)), none⟩,
 ⟨some 59, (.call (.f 12) [(.t 57), (.t 58)]), none⟩,
 ⟨some 56, (.mv (.t 59)), none⟩,
 ⟨some 60, (.ext (.t 56) 0), none⟩,
 ⟨some 61, (.ext (.t 56) 1), none⟩,
 ⟨some 5, (.allocL (.agg [(.int .i64 (0)), (.int .i64 (0)), (.int .i64 (0)), (.int .i64 (0))])), none⟩,
 ⟨none, (.store 4 (.t 5) (.t 60)), none⟩,
 ⟨some 6, (.mv (.t 61)), none⟩]
 [] [56, 57, 58, 59, 60, 61])
 (.seq
 (.ops [⟨some 63, (.load true 3 (.t 1)), none⟩,
 ⟨some 64, (.load true 3 (.t 1)), none⟩,
 ⟨some 65, (.load true 3 (.t 1)), none⟩,
 ⟨some 66, (.load true 3 (.t 1)), none⟩,
 ⟨some 67, (.buildSl true 3 (.agg [(.int .i64 (0)), (.data []), (.data [])]) 4 [(0, (.t 63)), (1, (.t 64)), (2, (.t 65)), (3, (.t 66))]), none⟩,
 ⟨some 68, (.call (.f 13) [(.t 67)]), none⟩,
 ⟨some 62, (.mv (.t 68)), none⟩,
 ⟨some 69, (.ext (.t 62) 0), none⟩,
 ⟨some 70, (.ext (.t 62) 1), none⟩,
 ⟨some 71, (.ext (.t 62) 2), none⟩,
 ⟨some 72, (.ext (.t 62) 3), none⟩,
 ⟨some 7, (.allocL (.agg [.nils])), none⟩,
 ⟨none, (.store 1 (.t 7) (.t 69)), none⟩,
 ⟨some 8, (.mv (.t 70)), none⟩,
 ⟨some 9, (.mv (.t 71)), none⟩,
 ⟨some 10, (.mv (.t 72)), none⟩]
 [] [7, 62, 63, 64, 65, 66, 67, 68, 69, 70, 71, 72])
 (.seq
 (.ops [⟨some 74, (.load true 3 (.t 2)), none⟩,
 ⟨some 75, (.buildSl true 3 (.agg [(.int .i64 (0)), (.data []), (.data [])]) 1 [(0, (.t 74))]), none⟩,
 ⟨some 76, (.call (.f 13) [(.t 75)]), none⟩,
 ⟨some 73, (.mv (.t 76)), none⟩,
 ⟨some 77, (.ext (.t 73) 0), none⟩,
 ⟨some 78, (.ext (.t 73) 1), none⟩,
 ⟨some 79, (.ext (.t 73) 2), none⟩,
 ⟨some 80, (.ext (.t 73) 3), none⟩,
 ⟨some 11, (.allocL (.agg [.nils])), none⟩,
 ⟨none, (.store 1 (.t 11) (.t 77)), none⟩,
 ⟨some 12, (.mv (.t 78)), none⟩,
 ⟨some 13, (.mv (.t 79)), none⟩,
 ⟨some 14, (.mv (.t 80)), none⟩]
 [] [12, 73, 74, 75, 76, 77, 78, 79, 80])
 (.seq
 (.ops [⟨some 81, (.mv (.t 4)), none⟩,
 ⟨some 82, (.bin .eql (.t 81) (.c (.int .i64 (0)))), none⟩,
 ⟨some 83, (.mv (.t 82)), none⟩,
 ⟨some 84, (.load true 4 (.t 3)), some (83, true)⟩,
 ⟨some 85, (.call (.f 14) [(.c (.int .i64 (0)))]), some (83, true)⟩,
 ⟨some 86, (.call (.f 14) [(.c (.int .i64 (2)))]), some (83, true)⟩,
 ⟨some 87, (.build [(.int .i64 (0)), (.int .i64 (0)), (.int .i64 (0)), (.int .i64 (0))] [(0, 2, (.t 85)), (2, 2, (.t 86))]), some (83, true)⟩,
 ⟨some 88, (.eqA false 4 [(0, (some .i64)), (1, (some .i64)), (2, (some .i64)), (3, (some .i64))] (.t 84) (.t 87)), some (83, true)⟩,
 ⟨some 89, (.pick (.t 83) (.t 88) (.c (.bool false))), none⟩,
 ⟨some 90, (.mv (.t 89)), none⟩,
 ⟨some 91, (.mv (.t 6)), some (90, true)⟩,
 ⟨some 92, (.bin .eql (.t 91) (.c (.int .i64 (0)))), some (90, true)⟩,
 ⟨some 93, (.pick (.t 90) (.t 92) (.c (.bool false))), none⟩,
 ⟨some 94, (.mv (.t 93)), none⟩,
 ⟨some 95, (.load true 4 (.t 5)), some (94, true)⟩,
 ⟨some 96, (.build [(.int .i64 (0)), (.int .i64 (0))] [(0, 1, (.c (.int .i64 (1)))), (1, 1, (.c (.int .i64 (2))))]), some (94, true)⟩,
 ⟨some 97, (.build [(.int .i64 (0)), (.int .i64 (0))] [(0, 1, (.c (.int .i64 (5)))), (1, 1, (.c (.int .i64 (2))))]), some (94, true)⟩,
 ⟨some 98, (.build [(.int .i64 (0)), (.int .i64 (0)), (.int .i64 (0)), (.int .i64 (0))] [(0, 2, (.t 96)), (2, 2, (.t 97))]), some (94, true)⟩,
 ⟨some 99, (.eqA false 4 [(0, (some .i64)), (1, (some .i64)), (2, (some .i64)), (3, (some .i64))] (.t 95) (.t 98)), some (94, true)⟩,
 ⟨some 100, (.pick (.t 94) (.t 99) (.c (.bool false))), none⟩,
 ⟨some 101, (.mv (.t 100)), none⟩,
 ⟨some 102, (.mv (.t 10)), some (101, true)⟩,
 ⟨some 103, (.bin .eql (.t 102) (.c (.int .i64 (0)))), some (101, true)⟩,
 ⟨some 104, (.pick (.t 101) (.t 103) (.c (.bool false))), none⟩,
 ⟨some 105, (.mv (.t 104)), none⟩,
 ⟨some 106, (.mv (.t 8)), some (105, true)⟩,
 ⟨some 107, (.buildD 1 (.int .i64 (0)) 4 [(0, (.c (.int .i64 (0)))), (1, (.c (.int .i64 (1)))), (2, (.c (.int .i64 (2)))), (3, (.c (.int .i64 (3))))]), some (105, true)⟩,
 ⟨some 108, (.call (.f 15) [(.t 106), (.t 107)]), some (105, true)⟩,
 ⟨some 109, (.pick (.t 105) (.t 108) (.c (.bool false))), none⟩,
 ⟨some 110, (.mv (.t 109)), none⟩,
 ⟨some 111, (.mv (.t 9)), some (110, true)⟩,
 ⟨some 112, (.len (.t 111)), some (110, true)⟩,
 ⟨some 113, (.bin .eql (.t 112) (.c (.int .i64 (9)))), some (110, true)⟩,
 ⟨some 114, (.pick (.t 110) (.t 113) (.c (.bool false))), none⟩,
 ⟨some 115, (.mv (.t 114)), none⟩,
 ⟨some 116, (.mv (.t 14)), some (115, true)⟩,
 ⟨some 117, (.bin .eql (.t 116) (.c (.int .i64 (0)))), some (115, true)⟩,
 ⟨some 118, (.pick (.t 115) (.t 117) (.c (.bool false))), none⟩,
 ⟨some 119, (.mv (.t 118)), none⟩,
 ⟨some 120, (.mv (.t 13)), some (119, true)⟩,
 ⟨some 121, (.len (.t 120)), some (119, true)⟩,
 ⟨some 122, (.bin .eql (.t 121) (.c (.int .i64 (0)))), some (119, true)⟩,
 ⟨some 123, (.pick (.t 119) (.t 122) (.c (.bool false))), none⟩,
 ⟨some 124, (.mv (.t 123)), none⟩,
 ⟨some 125, (.fad 0 (.t 11)), some (124, true)⟩,
 ⟨some 126, (.load false 1 (.t 125)), some (124, true)⟩,
 ⟨some 127, (.len (.t 126)), some (124, true)⟩,
 ⟨some 128, (.bin .eql (.t 127) (.c (.int .i64 (1)))), some (124, true)⟩,
 ⟨some 129, (.pick (.t 124) (.t 128) (.c (.bool false))), none⟩,
 ⟨some 15, (.mv (.t 129)), none⟩]
 [(3, 4), (3, 5), (3, 6), (14, 15), (14, 16), (15, 16), (14, 17), (25, 26)] [3, 4, 5, 6, 8, 9, 10, 11, 13, 14, 81, 82, 83, 84, 85, 86, 87, 88, 89, 90, 91, 92, 93, 94, 95, 96, 97, 98, 99, 100, 101, 102, 103, 104, 105, 106, 107, 108, 109, 110, 111, 112, 113, 114, 115, 116, 117, 118, 119, 120, 121, 122, 123, 124, 125, 126, 127, 128, 129])
 (.seq
 (.ops [⟨some 130, (.call (.f 16) []), none⟩,
 ⟨some 131, (.iad 3 (.t 130) (.c (.int .i64 (2)))), none⟩,
 ⟨some 132, (.load true 3 (.t 131)), none⟩,
 ⟨some 16, (.allocL (.agg [(.int .i64 (0)), .nils, .nils])), none⟩,
 ⟨none, (.store 3 (.t 16) (.t 132)), none⟩]
 [] [130, 131, 132])
 (.seq
 (.ops [⟨some 134, (.call (.f 16) []), none⟩,
 ⟨some 135, (.iad 3 (.t 134) (.c (.int .i64 (0)))), none⟩,
 ⟨some 136, (.load true 3 (.t 135)), none⟩,
 ⟨some 137, (.load true 3 (.t 16)), none⟩,
 ⟨some 138, (.call (.f 12) [(.t 136), (.t 137)]), none⟩,
 ⟨some 133, (.mv (.t 138)), none⟩,
 ⟨some 139, (.ext (.t 133) 0), none⟩,
 ⟨some 140, (.ext (.t 133) 1), none⟩,
 ⟨some 17, (.allocL (.agg [(.int .i64 (0)), (.int .i64 (0)), (.int .i64 (0)), (.int .i64 (0))])), none⟩,
 ⟨none, (.store 4 (.t 17) (.t 139)), none⟩,
 ⟨some 18, (.mv (.t 140)), none⟩]
 [(0, 3), (1, 3), (2, 3), (6, 7), (0, 8), (1, 8), (2, 8), (3, 8), (4, 8), (5, 8), (6, 8), (7, 8), (7, 9)] [17, 133, 134, 135, 136, 137, 138, 139, 140])
 (.seq
 (.ops [⟨some 142, (.load true 3 (.t 16)), none⟩,
 ⟨some 143, (.call (.f 16) []), none⟩,
 ⟨some 144, (.iad 3 (.t 143) (.c (.int .i64 (0)))), none⟩,
 ⟨some 145, (.load true 3 (.t 144)), none⟩,
 ⟨some 146, (.call (.f 12) [(.t 142), (.t 145)]), none⟩,
 ⟨some 141, (.mv (.t 146)), none⟩,
 ⟨some 147, (.ext (.t 141) 0), none⟩,
 ⟨some 148, (.ext (.t 141) 1), none⟩,
 ⟨some 19, (.allocL (.agg [(.int .i64 (0)), (.int .i64 (0)), (.int .i64 (0)), (.int .i64 (0))])), none⟩,
 ⟨none, (.store 4 (.t 19) (.t 147)), none⟩,
 ⟨some 20, (.mv (.t 148)), none⟩]
 [(0, 1), (0, 2), (0, 3), (6, 7), (0, 8), (1, 8), (2, 8), (3, 8), (4, 8), (5, 8), (6, 8), (7, 8), (7, 9)] [16, 19, 141, 142, 143, 144, 145, 146, 147, 148])
 (.seq
 (.ops [⟨some 150, (.load true 3 (.t 1)), none⟩,
 ⟨some 151, (.call (.f 16) []), none⟩,
 ⟨some 152, (.iad 3 (.t 151) (.c (.int .i64 (0)))), none⟩,
 ⟨some 153, (.load true 3 (.t 152)), none⟩,
 ⟨some 154, (.call (.f 12) [(.t 150), (.t 153)]), none⟩,
 ⟨some 149, (.mv (.t 154)), none⟩,
 ⟨some 155, (.ext (.t 149) 0), none⟩,
 ⟨some 156, (.ext (.t 149) 1), none⟩,
 ⟨some 21, (.allocL (.agg [(.int .i64 (0)), (.int .i64 (0)), (.int .i64 (0)), (.int .i64 (0))])), none⟩,
 ⟨none, (.store 4 (.t 21) (.t 155)), none⟩,
 ⟨some 22, (.mv (.t 156)), none⟩]
 [(0, 1), (0, 2), (0, 3), (6, 7), (0, 8), (1, 8), (2, 8), (3, 8), (4, 8), (5, 8), (6, 8), (7, 8), (7, 9)] [21, 149, 150, 151, 152, 153, 154, 155, 156])
 (.seq
 (.ops [⟨some 158, (.build [(.int .i64 (0)), .nils, .nils] []), none⟩,
 ⟨some 159, (.load true 3 (.t 1)), none⟩,
 ⟨some 160, (.call (.f 12) [(.t 158), (.t 159)]), none⟩,
 ⟨some 157, (.mv (.t 160)), none⟩,
 ⟨some 161, (.ext (.t 157) 0), none⟩,
 ⟨some 162, (.ext (.t 157) 1), none⟩,
 ⟨some 23, (.allocL (.agg [(.int .i64 (0)), (.int .i64 (0)), (.int .i64 (0)), (.int .i64 (0))])), none⟩,
 ⟨none, (.store 4 (.t 23) (.t 161)), none⟩,
 ⟨some 24, (.mv (.t 162)), none⟩]
 [] [23, 157, 158, 159, 160, 161, 162])
 (.seq
 (.ops [⟨some 164, (.load true 3 (.t 1)), none⟩,
 ⟨some 165, (.call (.f 14) [(.c (.int .i64 (3)))]), none⟩,
 ⟨some 166, (.call (.f 17) [(.t 164), (.t 165)]), none⟩,
 ⟨some 163, (.mv (.t 166)), none⟩,
 ⟨some 167, (.ext (.t 163) 0), none⟩,
 ⟨some 168, (.ext (.t 163) 1), none⟩,
 ⟨some 25, (.allocL (.agg [(.int .i64 (0)), (.int .i64 (0))])), none⟩,
 ⟨none, (.store 2 (.t 25) (.t 167)), none⟩,
 ⟨some 26, (.mv (.t 168)), none⟩]
 [(0, 1), (4, 5), (0, 6), (1, 6), (2, 6), (3, 6), (4, 6), (5, 6), (5, 7)] [25, 163, 164, 165, 166, 167, 168])
 (.seq
 (.ops [⟨some 170, (.load true 3 (.t 1)), none⟩,
 ⟨some 171, (.call (.f 14) [(.c (.int .i64 (5)))]), none⟩,
 ⟨some 172, (.call (.f 17) [(.t 170), (.t 171)]), none⟩,
 ⟨some 169, (.mv (.t 172)), none⟩,
 ⟨some 173, (.ext (.t 169) 0), none⟩,
 ⟨some 174, (.ext (.t 169) 1), none⟩,
 ⟨some 27, (.allocL (.agg [(.int .i64 (0)), (.int .i64 (0))])), none⟩,
 ⟨none, (.store 2 (.t 27) (.t 173)), none⟩,
 ⟨some 28, (.mv (.t 174)), none⟩]
 [(0, 1), (4, 5), (0, 6), (1, 6), (2, 6), (3, 6), (4, 6), (5, 6), (5, 7)] [27, 169, 170, 171, 172, 173, 174])
 (.seq
 (.ops [⟨some 176, (.build [(.int .i64 (0)), .nils, .nils] []), none⟩,
 ⟨some 177, (.call (.f 14) [(.c (.int .i64 (0)))]), none⟩,
 ⟨some 178, (.call (.f 17) [(.t 176), (.t 177)]), none⟩,
 ⟨some 175, (.mv (.t 178)), none⟩,
 ⟨some 179, (.ext (.t 175) 0), none⟩,
 ⟨some 180, (.ext (.t 175) 1), none⟩,
 ⟨some 29, (.allocL (.agg [(.int .i64 (0)), (.int .i64 (0))])), none⟩,
 ⟨none, (.store 2 (.t 29) (.t 179)), none⟩,
 ⟨some 30, (.mv (.t 180)), none⟩]
 [] [29, 175, 176, 177, 178, 179, 180])
 (.seq
 (.ops [⟨some 182, (.load true 3 (.t 1)), none⟩,
 ⟨some 183, (.call (.f 16) []), none⟩,
 ⟨some 184, (.iad 3 (.t 183) (.c (.int .i64 (0)))), none⟩,
 ⟨some 185, (.load true 3 (.t 184)), none⟩,
 ⟨some 186, (.call (.f 14) [(.c (.int .i64 (0)))]), none⟩,
 ⟨some 187, (.call (.f 18) [(.t 182), (.t 185), (.t 186)]), none⟩,
 ⟨some 181, (.mv (.t 187)), none⟩,
 ⟨some 188, (.ext (.t 181) 0), none⟩,
 ⟨some 189, (.ext (.t 181) 1), none⟩,
 ⟨some 31, (.allocL (.agg [(.int .i64 (0)), (.int .i64 (0))])), none⟩,
 ⟨none, (.store 2 (.t 31) (.t 188)), none⟩,
 ⟨some 32, (.mv (.t 189)), none⟩]
 [(0, 1), (0, 2), (0, 3), (0, 4), (2, 4), (3, 4), (7, 8), (0, 9), (1, 9), (2, 9), (3, 9), (4, 9), (5, 9), (6, 9), (7, 9), (8, 9), (8, 10)] [31, 181, 182, 183, 184, 185, 186, 187, 188, 189])
 (.seq
 (.ops [⟨some 191, (.load true 3 (.t 1)), none⟩,
 ⟨some 192, (.load true 3 (.t 2)), none⟩,
 ⟨some 193, (.call (.f 14) [(.c (.int .i64 (3)))]), none⟩,
 ⟨some 194, (.call (.f 18) [(.t 191), (.t 192), (.t 193)]), none⟩,
 ⟨some 190, (.mv (.t 194)), none⟩,
 ⟨some 195, (.ext (.t 190) 0), none⟩,
 ⟨some 196, (.ext (.t 190) 1), none⟩,
 ⟨some 33, (.allocL (.agg [(.int .i64 (0)), (.int .i64 (0))])), none⟩,
 ⟨none, (.store 2 (.t 33) (.t 195)), none⟩,
 ⟨some 34, (.mv (.t 196)), none⟩]
 [(0, 1), (0, 2), (1, 2), (5, 6), (0, 7), (1, 7), (2, 7), (3, 7), (4, 7), (5, 7), (6, 7), (6, 8)] [33, 190, 191, 192, 193, 194, 195, 196])
 (.seq
 (.ops [⟨some 198, (.load true 3 (.t 1)), none⟩,
 ⟨some 199, (.load true 3 (.t 2)), none⟩,
 ⟨some 200, (.call (.f 14) [(.c (.int .i64 (-1)))]), none⟩,
 ⟨some 201, (.call (.f 18) [(.t 198), (.t 199), (.t 200)]), none⟩,
 ⟨some 197, (.mv (.t 201)), none⟩,
 ⟨some 202, (.ext (.t 197) 0), none⟩,
 ⟨some 203, (.ext (.t 197) 1), none⟩,
 ⟨some 35, (.allocL (.agg [(.int .i64 (0)), (.int .i64 (0))])), none⟩,
 ⟨none, (.store 2 (.t 35) (.t 202)), none⟩,
 ⟨some 36, (.mv (.t 203)), none⟩]
 [(0, 1), (0, 2), (1, 2), (5, 6), (0, 7), (1, 7), (2, 7), (3, 7), (4, 7), (5, 7), (6, 7), (6, 8)] [1, 2, 35, 197, 198, 199, 200, 201, 202, 203])
 (.seq
 (.ops [⟨some 205, (.call (.f 13) [(.c .nils)]), none⟩,
 ⟨some 204, (.mv (.t 205)), none⟩,
 ⟨some 206, (.ext (.t 204) 0), none⟩,
 ⟨some 207, (.ext (.t 204) 1), none⟩,
 ⟨some 208, (.ext (.t 204) 2), none⟩,
 ⟨some 209, (.ext (.t 204) 3), none⟩,
 ⟨some 37, (.allocL (.agg [.nils])), none⟩,
 ⟨none, (.store 1 (.t 37) (.t 206)), none⟩,
 ⟨some 38, (.mv (.t 207)), none⟩,
 ⟨some 39, (.mv (.t 208)), none⟩,
 ⟨some 40, (.mv (.t 209)), none⟩]
 [] [37, 38, 39, 204, 205, 206, 207, 208, 209])
 (.seq
 (.ops [⟨some 211, (.mkSl true 3 56 (.agg [(.int .i64 (0)), (.data []), (.data [])]) (.c (.int .i64 (7))) (.c (.int .i64 (7)))), none⟩,
 ⟨some 212, (.call (.f 13) [(.t 211)]), none⟩,
 ⟨some 210, (.mv (.t 212)), none⟩,
 ⟨some 213, (.ext (.t 210) 0), none⟩,
 ⟨some 214, (.ext (.t 210) 1), none⟩,
 ⟨some 215, (.ext (.t 210) 2), none⟩,
 ⟨some 216, (.ext (.t 210) 3), none⟩,
 ⟨some 41, (.allocL (.agg [.nils])), none⟩,
 ⟨none, (.store 1 (.t 41) (.t 213)), none⟩,
 ⟨some 42, (.mv (.t 214)), none⟩,
 ⟨some 43, (.mv (.t 215)), none⟩,
 ⟨some 44, (.mv (.t 216)), none⟩]
 [] [41, 42, 43, 210, 211, 212, 213, 214, 215, 216])
 (.seq
 (.ops [⟨some 217, (.mv (.t 18)), none⟩,
 ⟨some 218, (.bin .eql (.t 217) (.c (.int .i64 (2)))), none⟩,
 ⟨some 219, (.mv (.t 218)), none⟩,
 ⟨some 220, (.mv (.t 20)), some (219, true)⟩,
 ⟨some 221, (.bin .eql (.t 220) (.c (.int .i64 (2)))), some (219, true)⟩,
 ⟨some 222, (.pick (.t 219) (.t 221) (.c (.bool false))), none⟩,
 ⟨some 223, (.mv (.t 222)), none⟩,
 ⟨some 224, (.mv (.t 22)), some (223, true)⟩,
 ⟨some 225, (.bin .eql (.t 224) (.c (.int .i64 (8)))), some (223, true)⟩,
 ⟨some 226, (.pick (.t 223) (.t 225) (.c (.bool false))), none⟩,
 ⟨some 227, (.mv (.t 226)), none⟩,
 ⟨some 228, (.mv (.t 24)), some (227, true)⟩,
 ⟨some 229, (.bin .eql (.t 228) (.c (.int .i64 (8)))), some (227, true)⟩,
 ⟨some 230, (.pick (.t 227) (.t 229) (.c (.bool false))), none⟩,
 ⟨some 231, (.mv (.t 230)), none⟩,
 ⟨some 232, (.mv (.t 26)), some (231, true)⟩,
 ⟨some 233, (.bin .eql (.t 232) (.c (.int .i64 (6)))), some (231, true)⟩,
 ⟨some 234, (.pick (.t 231) (.t 233) (.c (.bool false))), none⟩,
 ⟨some 235, (.mv (.t 234)), none⟩,
 ⟨some 236, (.mv (.t 28)), some (235, true)⟩,
 ⟨some 237, (.bin .eql (.t 236) (.c (.int .i64 (2)))), some (235, true)⟩,
 ⟨some 238, (.pick (.t 235) (.t 237) (.c (.bool false))), none⟩,
 ⟨some 239, (.mv (.t 238)), none⟩,
 ⟨some 240, (.mv (.t 30)), some (239, true)⟩,
 ⟨some 241, (.bin .eql (.t 240) (.c (.int .i64 (8)))), some (239, true)⟩,
 ⟨some 242, (.pick (.t 239) (.t 241) (.c (.bool false))), none⟩,
 ⟨some 243, (.mv (.t 242)), none⟩,
 ⟨some 244, (.mv (.t 32)), some (243, true)⟩,
 ⟨some 245, (.bin .eql (.t 244) (.c (.int .i64 (8)))), some (243, true)⟩,
 ⟨some 246, (.pick (.t 243) (.t 245) (.c (.bool false))), none⟩,
 ⟨some 247, (.mv (.t 246)), none⟩,
 ⟨some 248, (.mv (.t 34)), some (247, true)⟩,
 ⟨some 249, (.bin .eql (.t 248) (.c (.int .i64 (6)))), some (247, true)⟩,
 ⟨some 250, (.pick (.t 247) (.t 249) (.c (.bool false))), none⟩,
 ⟨some 251, (.mv (.t 250)), none⟩,
 ⟨some 252, (.mv (.t 36)), some (251, true)⟩,
 ⟨some 253, (.bin .eql (.t 252) (.c (.int .i64 (2)))), some (251, true)⟩,
 ⟨some 254, (.pick (.t 251) (.t 253) (.c (.bool false))), none⟩,
 ⟨some 255, (.mv (.t 254)), none⟩,
 ⟨some 256, (.mv (.t 40)), some (255, true)⟩,
 ⟨some 257, (.bin .eql (.t 256) (.c (.int .i64 (8)))), some (255, true)⟩,
 ⟨some 258, (.pick (.t 255) (.t 257) (.c (.bool false))), none⟩,
 ⟨some 259, (.mv (.t 258)), none⟩,
 ⟨some 260, (.mv (.t 44)), some (259, true)⟩,
 ⟨some 261, (.bin .eql (.t 260) (.c (.int .i64 (4)))), some (259, true)⟩,
 ⟨some 262, (.pick (.t 259) (.t 261) (.c (.bool false))), none⟩,
 ⟨some 45, (.mv (.t 262)), none⟩]
 [] [18, 20, 22, 24, 26, 28, 30, 32, 34, 36, 40, 44, 217, 218, 219, 220, 221, 222, 223, 224, 225, 226, 227, 228, 229, 230, 231, 232, 233, 234, 235, 236, 237, 238, 239, 240, 241, 242, 243, 244, 245, 246, 247, 248, 249, 250, 251, 252, 253, 254, 255, 256, 257, 258, 259, 260, 261, 262])
 (.seq
 (.ops [⟨some 263, (.mv (.t 15)), none⟩,
 ⟨some 264, (.mv (.t 263)), none⟩,
 ⟨some 265, (.mv (.t 45)), some (264, true)⟩,
 ⟨some 266, (.pick (.t 264) (.t 265) (.c (.bool false))), none⟩,
 ⟨some 267, (.mv (.t 266)), none⟩,
 ⟨some 268, (.call (.f 19) []), some (267, true)⟩,
 ⟨some 269, (.pick (.t 267) (.t 268) (.c (.bool false))), none⟩,
 ⟨some 0, (.mv (.t 269)), none⟩]
 [] [15, 45, 263, 264, 265, 266, 267, 268, 269])
 .ret))))))))))))))))))))))⟩
def loc3 : List Nat := [107, 1, 2, 3, 5, 7, 11, 16, 17, 19, 21, 23, 25, 27, 29, 31, 33, 35, 37, 41]
def fg3 : List (Nat × List Nat) := [(21, [15, 45, 263, 264, 265, 266, 267, 268, 269]), (20, [18, 20, 22, 24, 26, 28, 30, 32, 34, 36, 40, 44, 217, 218, 219, 220, 221, 222, 223, 224, 225, 226, 227, 228, 229, 230, 231, 232, 233, 234, 235, 236, 237, 238, 239, 240, 241, 242, 243, 244, 245, 246, 247, 248, 249, 250, 251, 252, 253, 254, 255, 256, 257, 258, 259, 260, 261, 262]), (19, [41, 42, 43, 210, 211, 212, 213, 214, 215, 216]), (18, [37, 38, 39, 204, 205, 206, 207, 208, 209]), (17, [1, 2, 35, 197, 198, 199, 200, 201, 202, 203]), (16, [33, 190, 191, 192, 193, 194, 195, 196]), (15, [31, 181, 182, 183, 184, 185, 186, 187, 188, 189]), (14, [29, 175, 176, 177, 178, 179, 180]), (13, [27, 169, 170, 171, 172, 173, 174]), (12, [25, 163, 164, 165, 166, 167, 168]), (11, [23, 157, 158, 159, 160, 161, 162]), (10, [21, 149, 150, 151, 152, 153, 154, 155, 156]), (9, [16, 19, 141, 142, 143, 144, 145, 146, 147, 148]), (8, [17, 133, 134, 135, 136, 137, 138, 139, 140]), (7, [130, 131, 132]), (6, [3, 4, 5, 6, 8, 9, 10, 11, 13, 14, 81, 82, 83, 84, 85, 86, 87, 88, 89, 90, 91, 92, 93, 94, 95, 96, 97, 98, 99, 100, 101, 102, 103, 104, 105, 106, 107, 108, 109, 110, 111, 112, 113, 114, 115, 116, 117, 118, 119, 120, 121, 122, 123, 124, 125, 126, 127, 128, 129]), (5, [12, 73, 74, 75, 76, 77, 78, 79, 80]), (4, [7, 62, 63, 64, 65, 66, 67, 68, 69, 70, 71, 72]), (3, [56, 57, 58, 59, 60, 61]), (2, [50, 51, 52, 53, 54, 55]), (1, [46, 47, 48, 49]), (0, [0])]
theorem comp3 : compFn Try.prog loc3 (fun i => (fg3.lookup i).getD []) Try.f3 = some lit3 := by kernel_rfl

-- parcener/parcenerlaw11.two
def lit11 : AFn := ⟨0, [.cell 0 true 3, .cell 1 true 3],
 (.seq
 (.ops [⟨some 0, (.allocL (.agg [(.int .i64 (0)), .nils, .nils])), none⟩,
 ⟨some 1, (.allocL (.agg [(.int .i64 (0)), .nils, .nils])), none⟩]
 [] [])
 (.seq
 (.ops [⟨some 2, (.buildSl true 1 (.int .i64 (0)) 2 [(0, (.c (.int .i64 (0)))), (1, (.c (.int .i64 (4))))]), none⟩,
 ⟨some 3, (.buildSl true 1 (.int .i64 (0)) 1 [(0, (.c (.int .i64 (1))))]), none⟩,
 ⟨some 4, (.build [(.int .i64 (0)), .nils, .nils] [(0, 1, (.c (.int .i64 (4)))), (1, 1, (.t 2)), (2, 1, (.t 3))]), none⟩,
 ⟨some 5, (.buildSl true 1 (.int .i64 (0)) 3 [(0, (.c (.int .i64 (0)))), (1, (.c (.int .i64 (1)))), (2, (.c (.int .i64 (4))))]), none⟩,
 ⟨some 6, (.buildSl true 1 (.int .i64 (0)) 2 [(0, (.c (.int .i64 (3)))), (1, (.c (.int .i64 (1))))]), none⟩,
 ⟨some 7, (.build [(.int .i64 (0)), .nils, .nils] [(0, 1, (.c (.int .i64 (4)))), (1, 1, (.t 5)), (2, 1, (.t 6))]), none⟩,
 ⟨none, (.store 3 (.t 0) (.t 4)), none⟩,
 ⟨none, (.store 3 (.t 1) (.t 7)), none⟩]
 [] [2, 3, 4, 5, 6, 7])
 .ret))⟩
def loc11 : List Nat := [0, 1]
def fg11 : List (Nat × List Nat) := [(1, [2, 3, 4, 5, 6, 7])]
theorem comp11 : compFn Try.prog loc11 (fun i => (fg11.lookup i).getD []) Try.f11 = some lit11 := by kernel_rfl

-- parcener/knife.Half
def lit12 : AFn := ⟨2, [.cell 4 true 4, .tmp 5],
 (.seq
 (.ops [⟨some 2, (.boxL (.t 0)), none⟩,
 ⟨some 3, (.boxL (.t 1)), none⟩,
 ⟨some 4, (.allocL (.agg [(.int .i64 (0)), (.int .i64 (0)), (.int .i64 (0)), (.int .i64 (0))])), none⟩,
 ⟨some 5, (.mv (.c (.int .i64 (0)))), none⟩]
 [] [0, 1, 5])
 (.seq
 (.seq
 (.ops [⟨some 27, (.load true 3 (.t 2)), none⟩,
 ⟨some 28, (.load true 3 (.t 3)), none⟩,
 ⟨some 29, (.buildSl true 3 (.agg [(.int .i64 (0)), (.data []), (.data [])]) 2 [(0, (.t 27)), (1, (.t 28))]), none⟩,
 ⟨some 30, (.build [.nils, .nils] [(0, 1, (.t 29))]), none⟩,
 ⟨some 31, (.call (.f 79) [(.t 30)]), none⟩,
 ⟨some 6, (.mv (.t 31)), none⟩]
 [] [27, 28, 29, 30, 31])
 (.seq
 (.ops [⟨some 32, (.mv (.t 6)), none⟩,
 ⟨some 33, (.bin .neq (.t 32) (.c (.int .i64 (0)))), none⟩]
 [] [32])
 (.cond (.t 33)
 (.seq
 (.ops [⟨some 34, (.build [(.int .i64 (0)), (.int .i64 (0)), (.int .i64 (0)), (.int .i64 (0))] []), none⟩,
 ⟨some 35, (.mv (.t 6)), none⟩,
 ⟨none, (.store 4 (.t 4) (.t 34)), none⟩,
 ⟨some 5, (.mv (.t 35)), none⟩]
 [] [2, 3, 6, 33, 34, 35])
 .ret)
 .skip)))
 (.seq
 (.seq
 (.ops [⟨some 36, (.load true 3 (.t 2)), none⟩,
 ⟨some 37, (.load true 3 (.t 3)), none⟩,
 ⟨some 38, (.buildSl true 3 (.agg [(.int .i64 (0)), (.data []), (.data [])]) 2 [(0, (.t 36)), (1, (.t 37))]), none⟩,
 ⟨some 39, (.len (.t 38)), none⟩,
 ⟨some 40, (.mv (.c (.int .i64 (0)))), none⟩]
 [] [6, 33, 36, 37])
 (.block 0
 (.loop
 (.seq
 (.ops [⟨some 41, (.bin .lss (.t 40) (.t 39)), none⟩]
 [] [])
 (.seq
 (.cond (.t 41)
 .skip
 (.exit 0))
 (.seq
 (.block 1
 (.seq
 (.ops [⟨some 42, (.iad 3 (.t 38) (.t 40)), none⟩,
 ⟨some 43, (.load true 3 (.t 42)), none⟩,
 ⟨some 8, (.allocL (.agg [(.int .i64 (0)), .nils, .nils])), none⟩,
 ⟨none, (.store 3 (.t 8) (.t 43)), none⟩]
 [] [41])
 (.seq
 (.ops [⟨some 44, (.fad 2 (.t 8)), none⟩,
 ⟨some 45, (.load false 1 (.t 44)), none⟩,
 ⟨some 46, (.len (.t 45)), none⟩,
 ⟨some 47, (.mv (.c (.int .i64 (0)))), none⟩]
 [] [])
 (.block 2
 (.loop
 (.seq
 (.ops [⟨some 48, (.bin .lss (.t 47) (.t 46)), none⟩]
 [] [])
 (.seq
 (.cond (.t 48)
 .skip
 (.exit 2))
 (.seq
 (.block 3
 (.seq
 (.ops [⟨some 49, (.iad 1 (.t 45) (.t 47)), none⟩,
 ⟨some 50, (.load false 1 (.t 49)), none⟩,
 ⟨some 10, (.mv (.t 50)), none⟩]
 [] [48])
 (.seq
 (.ops [⟨some 51, (.mv (.t 10)), none⟩,
 ⟨some 52, (.bin .eql (.t 51) (.c (.int .i64 (0)))), none⟩]
 [] [10])
 (.cond (.t 52)
 (.seq
 (.ops [⟨some 53, (.build [(.int .i64 (0)), (.int .i64 (0)), (.int .i64 (0)), (.int .i64 (0))] []), none⟩,
 ⟨none, (.store 4 (.t 4) (.t 53)), none⟩,
 ⟨some 5, (.mv (.c (.int .i64 (2)))), none⟩]
 [] [2, 3, 8, 38, 39, 40, 42, 43, 44, 45, 46, 47, 49, 50, 51, 52, 53, 54, 55])
 .ret)
 .skip))))
 (.ops [⟨some 54, (.bin .add (.t 47) (.c (.int .i64 (1)))), none⟩,
 ⟨some 47, (.mv (.t 54)), none⟩]
 [] [52])))))))))
 (.ops [⟨some 55, (.bin .add (.t 40) (.c (.int .i64 (1)))), none⟩,
 ⟨some 40, (.mv (.t 55)), none⟩]
 [] [46, 47, 48])))))))
 (.seq
 (.ops [⟨some 56, (.call (.f 80) [(.c (.int .i64 (0)))]), none⟩,
 ⟨some 11, (.allocL (.agg [(.int .i64 (0)), (.int .i64 (0))])), none⟩,
 ⟨none, (.store 2 (.t 11) (.t 56)), none⟩]
 [] [8, 38, 39, 40, 41, 42, 43, 44, 45, 49, 50, 51, 54, 55, 56])
 (.block 4
 (.loop
 (.block 5
 (.seq
 (.ops [⟨some 58, (.load true 3 (.t 2)), none⟩,
 ⟨some 59, (.load true 2 (.t 11)), none⟩,
 ⟨some 60, (.call (.f 17) [(.t 58), (.t 59)]), none⟩,
 ⟨some 57, (.mv (.t 60)), none⟩,
 ⟨some 61, (.ext (.t 57) 0), none⟩,
 ⟨some 62, (.ext (.t 57) 1), none⟩,
 ⟨some 12, (.allocL (.agg [(.int .i64 (0)), (.int .i64 (0))])), none⟩,
 ⟨none, (.store 2 (.t 12) (.t 61)), none⟩,
 ⟨some 13, (.mv (.t 62)), none⟩]
 [] [13])
 (.seq
 (.ops [⟨some 64, (.load true 3 (.t 2)), none⟩,
 ⟨some 65, (.load true 3 (.t 3)), none⟩,
 ⟨some 66, (.load true 2 (.t 11)), none⟩,
 ⟨some 67, (.call (.f 18) [(.t 64), (.t 65), (.t 66)]), none⟩,
 ⟨some 63, (.mv (.t 67)), none⟩,
 ⟨some 68, (.ext (.t 63) 0), none⟩,
 ⟨some 69, (.ext (.t 63) 1), none⟩,
 ⟨some 14, (.allocL (.agg [(.int .i64 (0)), (.int .i64 (0))])), none⟩,
 ⟨none, (.store 2 (.t 14) (.t 68)), none⟩,
 ⟨some 15, (.mv (.t 69)), none⟩]
 [] [15])
 (.seq
 (.seq
 (.ops [⟨some 70, (.fad 0 (.t 14)), none⟩,
 ⟨some 71, (.load false 1 (.t 70)), none⟩,
 ⟨some 72, (.bin .eql (.t 71) (.c (.int .i64 (0)))), none⟩]
 [] [])
 (.cond (.t 72)
 (.seq
 (.ops [⟨some 73, (.load true 2 (.t 11)), none⟩,
 ⟨some 74, (.load true 2 (.t 12)), none⟩,
 ⟨some 75, (.build [(.int .i64 (0)), (.int .i64 (0)), (.int .i64 (0)), (.int .i64 (0))] [(0, 2, (.t 73)), (2, 2, (.t 74))]), none⟩,
 ⟨none, (.store 4 (.t 4) (.t 75)), none⟩,
 ⟨some 5, (.mv (.c (.int .i64 (0)))), none⟩]
 [] [2, 3, 11, 12, 14, 16, 17, 19, 21, 23, 25, 57, 58, 59, 60, 61, 62, 63, 64, 65, 66, 67, 68, 69, 70, 71, 72, 73, 74, 75, 76, 77, 78, 79, 80, 81, 82, 83, 84, 85, 86, 87, 88, 89, 90, 91, 92, 93, 94, 95, 96, 97, 98, 99, 100, 101, 102, 103, 104, 105, 106, 107, 108, 109, 110, 111, 112, 113, 114, 115, 116, 118, 119, 120, 121, 122, 123, 124, 125, 126, 127, 128, 129, 130, 131, 132, 133, 134, 135, 136, 137, 138, 139, 140, 141, 142, 143, 144, 145, 146, 148])
 .ret)
 .skip))
 (.seq
 (.ops [⟨some 76, (.load true 3 (.t 2)), none⟩,
 ⟨some 77, (.load true 2 (.t 11)), none⟩,
 ⟨some 78, (.call (.f 82) [(.t 76), (.t 77)]), none⟩,
 ⟨some 79, (.load true 3 (.t 3)), none⟩,
 ⟨some 80, (.load true 2 (.t 11)), none⟩,
 ⟨some 81, (.call (.f 82) [(.t 79), (.t 80)]), none⟩,
 ⟨some 82, (.call (.f 81) [(.t 78), (.t 81)]), none⟩,
 ⟨some 83, (.load true 3 (.t 2)), none⟩,
 ⟨some 84, (.load true 3 (.t 2)), none⟩,
 ⟨some 85, (.load true 2 (.t 12)), none⟩,
 ⟨some 86, (.call (.f 82) [(.t 84), (.t 85)]), none⟩,
 ⟨some 87, (.load true 3 (.t 3)), none⟩,
 ⟨some 88, (.load true 2 (.t 12)), none⟩,
 ⟨some 89, (.call (.f 82) [(.t 87), (.t 88)]), none⟩,
 ⟨some 90, (.call (.f 81) [(.t 86), (.t 89)]), none⟩,
 ⟨some 91, (.call (.f 83) [(.t 83), (.t 90)]), none⟩,
 ⟨some 92, (.call (.f 81) [(.t 82), (.t 91)]), none⟩,
 ⟨some 16, (.allocL (.agg [(.int .i64 (0)), (.int .i64 (0))])), none⟩,
 ⟨none, (.store 2 (.t 16) (.t 92)), none⟩]
 [(0, 1), (0, 3), (1, 3), (2, 3), (0, 4), (1, 4), (2, 4), (3, 4), (0, 7), (1, 7), (2, 7), (3, 7), (4, 7), (5, 7), (6, 7), (0, 8), (1, 8), (2, 8), (3, 8), (4, 8), (5, 8), (6, 8), (7, 8), (0, 9), (1, 9), (2, 9), (3, 9), (4, 9), (5, 9), (6, 9), (7, 9), (8, 9), (7, 10), (0, 11), (1, 11), (2, 11), (3, 11), (4, 11), (5, 11), (6, 11), (7, 11), (8, 11), (9, 11), (10, 11), (0, 12), (1, 12), (2, 12), (3, 12), (4, 12), (5, 12), (6, 12), (7, 12), (8, 12), (9, 12), (10, 12), (11, 12), (7, 13), (7, 14), (0, 17), (1, 17), (2, 17), (3, 17), (4, 17), (5, 17), (6, 17), (7, 17), (8, 17), (9, 17), (10, 17), (11, 17), (12, 17), (13, 17), (14, 17), (15, 17), (16, 17)] [72])
 (.seq
 (.ops [⟨some 94, (.load true 3 (.t 2)), none⟩,
 ⟨some 95, (.load true 3 (.t 3)), none⟩,
 ⟨some 96, (.load true 2 (.t 16)), none⟩,
 ⟨some 97, (.call (.f 18) [(.t 94), (.t 95), (.t 96)]), none⟩,
 ⟨some 93, (.mv (.t 97)), none⟩,
 ⟨some 98, (.ext (.t 93) 0), none⟩,
 ⟨some 99, (.ext (.t 93) 1), none⟩,
 ⟨some 17, (.allocL (.agg [(.int .i64 (0)), (.int .i64 (0))])), none⟩,
 ⟨none, (.store 2 (.t 17) (.t 98)), none⟩,
 ⟨some 18, (.mv (.t 99)), none⟩]
 [] [18])
 (.seq
 (.seq
 (.ops [⟨some 100, (.fad 0 (.t 14)), none⟩,
 ⟨some 101, (.load false 1 (.t 100)), none⟩,
 ⟨some 102, (.bin .gtr (.t 101) (.c (.int .i64 (0)))), none⟩,
 ⟨some 103, (.mv (.t 102)), none⟩,
 ⟨some 104, (.fad 0 (.t 17)), some (103, true)⟩,
 ⟨some 105, (.load false 1 (.t 104)), some (103, true)⟩,
 ⟨some 106, (.bin .lss (.t 105) (.c (.int .i64 (0)))), some (103, true)⟩,
 ⟨some 107, (.pick (.t 103) (.t 106) (.c (.bool false))), none⟩,
 ⟨some 108, (.mv (.t 107)), none⟩,
 ⟨some 109, (.fad 0 (.t 14)), some (108, false)⟩,
 ⟨some 110, (.load false 1 (.t 109)), some (108, false)⟩,
 ⟨some 111, (.bin .lss (.t 110) (.c (.int .i64 (0)))), some (108, false)⟩,
 ⟨some 112, (.mv (.t 111)), some (108, false)⟩,
 ⟨some 113, (.fad 0 (.t 17)), some (112, true)⟩,
 ⟨some 114, (.load false 1 (.t 113)), some (112, true)⟩,
 ⟨some 115, (.bin .gtr (.t 114) (.c (.int .i64 (0)))), some (112, true)⟩,
 ⟨some 116, (.pick (.t 112) (.t 115) (.c (.bool false))), some (108, false)⟩,
 ⟨some 117, (.pick (.t 108) (.c (.bool true)) (.t 116)), none⟩]
 [] [])
 (.cond (.t 117)
 (.seq
 (.ops [⟨some 119, (.load true 2 (.t 14)), none⟩,
 ⟨some 120, (.load true 2 (.t 17)), none⟩,
 ⟨some 121, (.call (.f 84) [(.t 119), (.t 120)]), none⟩,
 ⟨some 118, (.mv (.t 121)), none⟩,
 ⟨some 122, (.ext (.t 118) 0), none⟩,
 ⟨some 123, (.ext (.t 118) 1), none⟩,
 ⟨some 19, (.allocL (.agg [(.int .i64 (0)), (.int .i64 (0))])), none⟩,
 ⟨none, (.store 2 (.t 19) (.t 122)), none⟩,
 ⟨some 20, (.mv (.t 123)), none⟩]
 [] [20, 117])
 (.seq
 (.ops [⟨some 125, (.load true 2 (.t 14)), none⟩,
 ⟨some 126, (.load true 2 (.t 19)), none⟩,
 ⟨some 127, (.call (.f 85) [(.t 125), (.t 126)]), none⟩,
 ⟨some 124, (.mv (.t 127)), none⟩,
 ⟨some 128, (.ext (.t 124) 0), none⟩,
 ⟨some 129, (.ext (.t 124) 1), none⟩,
 ⟨some 21, (.allocL (.agg [(.int .i64 (0)), (.int .i64 (0))])), none⟩,
 ⟨none, (.store 2 (.t 21) (.t 128)), none⟩,
 ⟨some 22, (.mv (.t 129)), none⟩]
 [] [22])
 (.seq
 (.ops [⟨some 131, (.load true 2 (.t 16)), none⟩,
 ⟨some 132, (.load true 2 (.t 11)), none⟩,
 ⟨some 133, (.call (.f 84) [(.t 131), (.t 132)]), none⟩,
 ⟨some 130, (.mv (.t 133)), none⟩,
 ⟨some 134, (.ext (.t 130) 0), none⟩,
 ⟨some 135, (.ext (.t 130) 1), none⟩,
 ⟨some 23, (.allocL (.agg [(.int .i64 (0)), (.int .i64 (0))])), none⟩,
 ⟨none, (.store 2 (.t 23) (.t 134)), none⟩,
 ⟨some 24, (.mv (.t 135)), none⟩]
 [] [24])
 (.seq
 (.ops [⟨some 137, (.load true 2 (.t 23)), none⟩,
 ⟨some 138, (.load true 2 (.t 21)), none⟩,
 ⟨some 139, (.call (.f 86) [(.t 137), (.t 138)]), none⟩,
 ⟨some 136, (.mv (.t 139)), none⟩,
 ⟨some 140, (.ext (.t 136) 0), none⟩,
 ⟨some 141, (.ext (.t 136) 1), none⟩,
 ⟨some 25, (.allocL (.agg [(.int .i64 (0)), (.int .i64 (0))])), none⟩,
 ⟨none, (.store 2 (.t 25) (.t 140)), none⟩,
 ⟨some 26, (.mv (.t 141)), none⟩]
 [] [26])
 (.seq
 (.ops [⟨some 143, (.load true 2 (.t 11)), none⟩,
 ⟨some 144, (.load true 2 (.t 25)), none⟩,
 ⟨some 145, (.call (.f 87) [(.t 143), (.t 144)]), none⟩,
 ⟨some 142, (.mv (.t 145)), none⟩,
 ⟨some 146, (.ext (.t 142) 0), none⟩,
 ⟨some 147, (.ext (.t 142) 1), none⟩,
 ⟨none, (.store 2 (.t 11) (.t 146)), none⟩]
 [] [147])
 (.exit 5))))))
 .skip))
 (.ops [⟨some 148, (.load true 2 (.t 16)), none⟩,
 ⟨none, (.store 2 (.t 11) (.t 148)), none⟩]
 [] [117]))))))))))))))⟩
def loc12 : List Nat := [2, 3, 4, 8, 11, 12, 14, 16, 17, 19, 21, 23, 25]
def fg12 : List (Nat × List Nat) := [(27, [117]), (26, [147]), (25, [26]), (24, [24]), (23, [22]), (22, [20, 117]), (20, [18]), (19, [72]), (18, [2, 3, 11, 12, 14, 16, 17, 19, 21, 23, 25, 57, 58, 59, 60, 61, 62, 63, 64, 65, 66, 67, 68, 69, 70, 71, 72, 73, 74, 75, 76, 77, 78, 79, 80, 81, 82, 83, 84, 85, 86, 87, 88, 89, 90, 91, 92, 93, 94, 95, 96, 97, 98, 99, 100, 101, 102, 103, 104, 105, 106, 107, 108, 109, 110, 111, 112, 113, 114, 115, 116, 118, 119, 120, 121, 122, 123, 124, 125, 126, 127, 128, 129, 130, 131, 132, 133, 134, 135, 136, 137, 138, 139, 140, 141, 142, 143, 144, 145, 146, 148]), (16, [15]), (15, [13]), (14, [8, 38, 39, 40, 41, 42, 43, 44, 45, 49, 50, 51, 54, 55, 56]), (13, [46, 47, 48]), (12, [52]), (11, [2, 3, 8, 38, 39, 40, 42, 43, 44, 45, 46, 47, 49, 50, 51, 52, 53, 54, 55]), (10, [10]), (9, [48]), (6, [41]), (4, [6, 33, 36, 37]), (3, [2, 3, 6, 33, 34, 35]), (2, [32]), (1, [27, 28, 29, 30, 31]), (0, [0, 1, 5])]
theorem comp12 : compFn Try.prog loc12 (fun i => (fg12.lookup i).getD []) Try.f12 = some lit12 := by kernel_rfl

-- parcener/knife.Spans
def lit13 : AFn := ⟨1, [.cell 2 true 1, .tmp 3, .tmp 4, .tmp 5],
 (.seq
 (.ops [⟨some 2, (.allocL (.agg [.nils])), none⟩,
 ⟨some 3, (.mv (.c .nils)), none⟩,
 ⟨some 4, (.mv (.c .nils)), none⟩,
 ⟨some 5, (.mv (.c (.int .i64 (0)))), none⟩]
 [] [4, 5])
 (.seq
 (.ops [⟨some 19, (.mv (.t 0)), none⟩,
 ⟨some 20, (.call (.f 88) [(.t 19)]), none⟩,
 ⟨some 18, (.mv (.t 20)), none⟩,
 ⟨some 21, (.ext (.t 18) 0), none⟩,
 ⟨some 22, (.ext (.t 18) 1), none⟩,
 ⟨some 6, (.allocL (.agg [.nils, .nils])), none⟩,
 ⟨none, (.store 2 (.t 6) (.t 21)), none⟩,
 ⟨some 5, (.mv (.t 22)), none⟩]
 [] [18, 19, 20, 21, 22])
 (.seq
 (.seq
 (.ops [⟨some 23, (.mv (.t 5)), none⟩,
 ⟨some 24, (.bin .neq (.t 23) (.c (.int .i64 (0)))), none⟩]
 [] [23])
 (.cond (.t 24)
 (.seq
 (.ops [⟨some 25, (.build [.nils] []), none⟩,
 ⟨some 26, (.mv (.t 5)), none⟩,
 ⟨none, (.store 1 (.t 2) (.t 25)), none⟩,
 ⟨some 3, (.mv (.c .nils)), none⟩,
 ⟨some 4, (.mv (.c .nils)), none⟩,
 ⟨some 5, (.mv (.t 26)), none⟩]
 [] [0, 6, 24, 25, 26])
 .ret)
 .skip))
 (.seq
 (.ops [⟨some 27, (.mv (.t 0)), none⟩,
 ⟨some 28, (.len (.t 27)), none⟩,
 ⟨some 29, (.mkSl true 1 8 (.int .i64 (0)) (.c (.int .i64 (0))) (.t 28)), none⟩,
 ⟨some 7, (.mv (.t 29)), none⟩]
 [] [5, 24, 27, 28, 29])
 (.seq
 (.seq
 (.ops [⟨some 30, (.mv (.t 0)), none⟩,
 ⟨some 31, (.len (.t 30)), none⟩,
 ⟨some 32, (.mv (.c (.int .i64 (0)))), none⟩]
 [] [30])
 (.block 0
 (.loop
 (.seq
 (.ops [⟨some 33, (.bin .lss (.t 32) (.t 31)), none⟩]
 [] [])
 (.seq
 (.cond (.t 33)
 .skip
 (.exit 0))
 (.seq
 (.block 1
 (.seq
 (.ops [⟨some 34, (.mv (.t 32)), none⟩,
 ⟨some 8, (.mv (.t 34)), none⟩]
 [] [33])
 (.ops [⟨some 35, (.mv (.t 7)), none⟩,
 ⟨some 36, (.mv (.t 8)), none⟩,
 ⟨some 37, (.buildD 1 (.int .i64 (0)) 1 [(0, (.t 36))]), none⟩,
 ⟨some 38, (.app true 1 8 (.t 35) (.t 37)), none⟩,
 ⟨some 7, (.mv (.t 38)), none⟩]
 [] [8])))
 (.ops [⟨some 39, (.bin .add (.t 32) (.c (.int .i64 (1)))), none⟩,
 ⟨some 32, (.mv (.t 39)), none⟩]
 [] [])))))))
 (.seq
 (.ops [⟨some 40, (.mv (.t 0)), none⟩,
 ⟨some 41, (.len (.t 40)), none⟩,
 ⟨some 42, (.mkSl true 1 24 (.data []) (.t 41) (.t 41)), none⟩,
 ⟨some 43, (.fad 0 (.t 2)), none⟩,
 ⟨none, (.store 1 (.t 43) (.t 42)), none⟩]
 [] [31, 32, 33, 34, 35, 36, 37, 38, 39, 40, 41, 42, 43])
 (.seq
 (.ops [⟨some 44, (.call (.f 80) [(.c (.int .i64 (0)))]), none⟩,
 ⟨some 9, (.allocL (.agg [(.int .i64 (0)), (.int .i64 (0))])), none⟩,
 ⟨none, (.store 2 (.t 9) (.t 44)), none⟩]
 [] [44])
 (.seq
 (.block 2
 (.loop
 (.seq
 (.seq
 (.ops [⟨some 45, (.mv (.t 7)), none⟩,
 ⟨some 46, (.len (.t 45)), none⟩,
 ⟨some 47, (.bin .gtr (.t 46) (.c (.int .i64 (1)))), none⟩]
 [] [])
 (.cond (.t 47)
 .skip
 (.exit 2)))
 (.block 3
 (.seq
 (.ops [⟨some 48, (.build [(.int .i64 (0)), (.int .i64 (0))] []), none⟩,
 ⟨some 11, (.allocL (.agg [(.int .i64 (0)), (.int .i64 (0))])), none⟩,
 ⟨some 10, (.mv (.c (.int .i64 (0)))), none⟩,
 ⟨none, (.store 2 (.t 11) (.t 48)), none⟩]
 [] [47])
 (.seq
 (.seq
 (.ops [⟨some 49, (.mv (.t 7)), none⟩,
 ⟨some 50, (.len (.t 49)), none⟩,
 ⟨some 51, (.mv (.c (.int .i64 (0)))), none⟩]
 [] [])
 (.block 4
 (.loop
 (.seq
 (.ops [⟨some 52, (.bin .lss (.t 51) (.t 50)), none⟩]
 [] [])
 (.seq
 (.cond (.t 52)
 .skip
 (.exit 4))
 (.seq
 (.block 5
 (.seq
 (.ops [⟨some 53, (.mv (.t 51)), none⟩,
 ⟨some 54, (.iad 1 (.t 49) (.t 51)), none⟩,
 ⟨some 55, (.load false 1 (.t 54)), none⟩,
 ⟨some 12, (.mv (.t 53)), none⟩,
 ⟨some 13, (.mv (.t 55)), none⟩]
 [] [52])
 (.seq
 (.ops [⟨some 57, (.load true 2 (.t 6)), none⟩,
 ⟨some 58, (.mv (.t 13)), none⟩,
 ⟨some 59, (.load true 2 (.t 9)), none⟩,
 ⟨some 60, (.mv (.t 0)), none⟩,
 ⟨some 61, (.mv (.t 13)), none⟩,
 ⟨some 62, (.iad 3 (.t 60) (.t 61)), none⟩,
 ⟨some 63, (.load true 3 (.t 62)), none⟩,
 ⟨some 64, (.mv (.t 0)), none⟩,
 ⟨some 65, (.len (.t 64)), none⟩,
 ⟨some 66, (.call (.f 90) [(.t 63), (.t 65)]), none⟩,
 ⟨some 67, (.call (.f 89) [(.t 57), (.t 58), (.t 59), (.t 66)]), none⟩,
 ⟨some 56, (.mv (.t 67)), none⟩,
 ⟨some 68, (.ext (.t 56) 0), none⟩,
 ⟨some 69, (.ext (.t 56) 1), none⟩,
 ⟨some 70, (.ext (.t 56) 2), none⟩,
 ⟨some 14, (.allocL (.agg [.nils, .nils])), none⟩,
 ⟨some 15, (.allocL (.agg [(.int .i64 (0)), (.int .i64 (0))])), none⟩,
 ⟨none, (.store 2 (.t 14) (.t 68)), none⟩,
 ⟨none, (.store 2 (.t 15) (.t 69)), none⟩,
 ⟨some 16, (.mv (.t 70)), none⟩]
 [(0, 1), (0, 2), (1, 2), (0, 3), (1, 3), (2, 3), (0, 4), (1, 4), (2, 4), (3, 4), (0, 5), (1, 5), (2, 5), (0, 6), (1, 6), (2, 6), (0, 7), (1, 7), (2, 7), (3, 7), (4, 7), (5, 7), (6, 7), (0, 8), (1, 8), (2, 8), (3, 8), (4, 8), (5, 8), (6, 8), (0, 9), (1, 9), (2, 9), (12, 13), (12, 14), (13, 14), (0, 15), (1, 15), (2, 15), (3, 15), (4, 15), (5, 15), (6, 15), (7, 15), (8, 15), (9, 15), (10, 15), (11, 15), (12, 15), (13, 15), (14, 15), (0, 16), (1, 16), (2, 16), (3, 16), (4, 16), (5, 16), (6, 16), (7, 16), (8, 16), (9, 16), (10, 16), (11, 16), (12, 16), (13, 16), (14, 16), (15, 16), (13, 17), (14, 17), (14, 18)] [13])
 (.seq
 (.seq
 (.ops [⟨some 71, (.mv (.t 16)), none⟩,
 ⟨some 72, (.bin .neq (.t 71) (.c (.int .i64 (0)))), none⟩]
 [] [])
 (.cond (.t 72)
 (.seq
 (.ops [⟨some 73, (.build [.nils] []), none⟩,
 ⟨some 74, (.mv (.t 16)), none⟩,
 ⟨none, (.store 1 (.t 2) (.t 73)), none⟩,
 ⟨some 3, (.mv (.c .nils)), none⟩,
 ⟨some 4, (.mv (.c .nils)), none⟩,
 ⟨some 5, (.mv (.t 74)), none⟩]
 [] [0, 6, 7, 9, 10, 11, 12, 14, 15, 16, 45, 46, 48, 49, 50, 51, 53, 54, 55, 56, 57, 58, 59, 60, 61, 62, 63, 64, 65, 66, 67, 68, 69, 70, 71, 72, 73, 74, 75, 76, 77, 78, 79, 80, 81, 83, 84, 85, 86, 87, 88, 89, 90, 91, 92, 93, 94, 95, 96, 97, 98, 99, 100, 101, 102, 103, 104, 105, 106, 107, 108, 109, 110])
 .ret)
 .skip))
 (.seq
 (.ops [⟨some 75, (.load true 2 (.t 14)), none⟩,
 ⟨none, (.store 2 (.t 6) (.t 75)), none⟩]
 [] [16, 72])
 (.seq
 (.ops [⟨some 76, (.mv (.t 12)), none⟩,
 ⟨some 77, (.bin .eql (.t 76) (.c (.int .i64 (0)))), none⟩,
 ⟨some 78, (.mv (.t 77)), none⟩,
 ⟨some 79, (.load true 2 (.t 15)), some (78, false)⟩,
 ⟨some 80, (.load true 2 (.t 11)), some (78, false)⟩,
 ⟨some 81, (.call (.f 91) [(.t 79), (.t 80)]), some (78, false)⟩,
 ⟨some 82, (.pick (.t 78) (.c (.bool true)) (.t 81)), none⟩]
 [] [])
 (.cond (.t 82)
 (.ops [⟨some 83, (.mv (.t 12)), none⟩,
 ⟨some 84, (.load true 2 (.t 15)), none⟩,
 ⟨some 10, (.mv (.t 83)), none⟩,
 ⟨none, (.store 2 (.t 11) (.t 84)), none⟩]
 [(0, 1), (1, 2)] [12, 82])
 .skip)))))))
 (.ops [⟨some 85, (.bin .add (.t 51) (.c (.int .i64 (1)))), none⟩,
 ⟨some 51, (.mv (.t 85)), none⟩]
 [] [12, 82])))))))
 (.seq
 (.ops [⟨some 86, (.mv (.t 7)), none⟩,
 ⟨some 87, (.mv (.t 10)), none⟩,
 ⟨some 88, (.iad 1 (.t 86) (.t 87)), none⟩,
 ⟨some 89, (.load false 1 (.t 88)), none⟩,
 ⟨some 17, (.mv (.t 89)), none⟩]
 [] [50, 51, 52])
 (.seq
 (.ops [⟨some 90, (.fad 0 (.t 2)), none⟩,
 ⟨some 91, (.load false 1 (.t 90)), none⟩,
 ⟨some 92, (.mv (.t 17)), none⟩,
 ⟨some 93, (.load true 2 (.t 9)), none⟩,
 ⟨some 94, (.load true 2 (.t 11)), none⟩,
 ⟨some 95, (.build [(.int .i64 (0)), (.int .i64 (0)), (.int .i64 (0)), (.int .i64 (0))] [(0, 2, (.t 93)), (2, 2, (.t 94))]), none⟩,
 ⟨some 96, (.buildSl true 4 (.agg [(.int .i64 (0)), (.int .i64 (0)), (.int .i64 (0)), (.int .i64 (0))]) 1 [(0, (.t 95))]), none⟩,
 ⟨some 97, (.iad 1 (.t 91) (.t 92)), none⟩,
 ⟨none, (.store 1 (.t 97) (.t 96)), none⟩]
 [] [])
 (.seq
 (.ops [⟨some 98, (.mv (.t 3)), none⟩,
 ⟨some 99, (.mv (.t 17)), none⟩,
 ⟨some 100, (.buildD 1 (.int .i64 (0)) 1 [(0, (.t 99))]), none⟩,
 ⟨some 101, (.app true 1 8 (.t 98) (.t 100)), none⟩,
 ⟨some 3, (.mv (.t 101)), none⟩]
 [] [17])
 (.seq
 (.ops [⟨some 102, (.mv (.t 7)), none⟩,
 ⟨some 103, (.mv (.t 10)), none⟩,
 ⟨some 104, (.slc 1 (.t 102) none (some (.t 103)) none), none⟩,
 ⟨some 105, (.mv (.t 7)), none⟩,
 ⟨some 106, (.mv (.t 10)), none⟩,
 ⟨some 107, (.bin .add (.t 106) (.c (.int .i64 (1)))), none⟩,
 ⟨some 108, (.slc 1 (.t 105) (some (.t 107)) none none), none⟩,
 ⟨some 109, (.app true 1 8 (.t 104) (.t 108)), none⟩,
 ⟨some 7, (.mv (.t 109)), none⟩]
 [(0, 1), (0, 3), (1, 3), (2, 3), (0, 4), (1, 4), (2, 4), (3, 4), (0, 5), (1, 5), (2, 5), (3, 5), (0, 6), (1, 6), (2, 6)] [10])
 (.ops [⟨some 110, (.load true 2 (.t 11)), none⟩,
 ⟨none, (.store 2 (.t 9) (.t 110)), none⟩]
 [] [])))))))))))
 (.seq
 (.ops [⟨some 111, (.fad 0 (.t 2)), none⟩,
 ⟨some 112, (.load false 1 (.t 111)), none⟩,
 ⟨some 113, (.mv (.t 7)), none⟩,
 ⟨some 114, (.iad 1 (.t 113) (.c (.int .i64 (0)))), none⟩,
 ⟨some 115, (.load false 1 (.t 114)), none⟩,
 ⟨some 116, (.load true 2 (.t 9)), none⟩,
 ⟨some 117, (.mv (.t 0)), none⟩,
 ⟨some 118, (.iad 3 (.t 117) (.c (.int .i64 (0)))), none⟩,
 ⟨some 119, (.fad 0 (.t 118)), none⟩,
 ⟨some 120, (.load false 1 (.t 119)), none⟩,
 ⟨some 121, (.call (.f 80) [(.t 120)]), none⟩,
 ⟨some 122, (.build [(.int .i64 (0)), (.int .i64 (0)), (.int .i64 (0)), (.int .i64 (0))] [(0, 2, (.t 116)), (2, 2, (.t 121))]), none⟩,
 ⟨some 123, (.buildD 4 (.agg [(.int .i64 (0)), (.int .i64 (0)), (.int .i64 (0)), (.int .i64 (0))]) 1 [(0, (.t 122))]), none⟩,
 ⟨some 124, (.iad 1 (.t 112) (.t 115)), none⟩,
 ⟨none, (.store 1 (.t 124) (.t 123)), none⟩]
 [(0, 2), (1, 2), (0, 3), (1, 3), (0, 4), (1, 4), (0, 5), (1, 5), (2, 5), (3, 5), (4, 5), (0, 6), (1, 6), (2, 6), (3, 6), (4, 6), (5, 6), (0, 7), (1, 7), (2, 7), (3, 7), (4, 7), (5, 7), (0, 8), (1, 8), (2, 8), (3, 8), (4, 8), (5, 8), (0, 9), (1, 9), (2, 9), (3, 9), (4, 9), (5, 9), (0, 10), (1, 10), (2, 10), (3, 10), (4, 10), (5, 10), (0, 11), (1, 11), (2, 11), (3, 11), (4, 11), (0, 12), (1, 12), (2, 12), (3, 12), (4, 12)] [0, 9, 11, 14, 15, 45, 46, 47, 48, 49, 53, 54, 55, 56, 57, 58, 59, 60, 61, 62, 63, 64, 65, 66, 67, 68, 69, 70, 71, 75, 76, 77, 78, 79, 80, 81, 83, 84, 85, 86, 87, 88, 89, 90, 91, 92, 93, 94, 95, 96, 97, 98, 99, 100, 101, 102, 103, 104, 105, 106, 107, 108, 109, 110, 111, 112, 113, 114, 115, 116, 117, 118, 119, 120, 121, 122, 123, 124])
 (.seq
 (.ops [⟨some 125, (.load true 1 (.t 2)), none⟩,
 ⟨some 126, (.mv (.t 3)), none⟩,
 ⟨some 127, (.mv (.t 7)), none⟩,
 ⟨some 128, (.iad 1 (.t 127) (.c (.int .i64 (0)))), none⟩,
 ⟨some 129, (.load false 1 (.t 128)), none⟩,
 ⟨some 130, (.buildD 1 (.int .i64 (0)) 1 [(0, (.t 129))]), none⟩,
 ⟨some 131, (.app true 1 8 (.t 126) (.t 130)), none⟩,
 ⟨some 132, (.fad 1 (.t 6)), none⟩,
 ⟨some 133, (.load false 1 (.t 132)), none⟩,
 ⟨none, (.store 1 (.t 2) (.t 125)), none⟩,
 ⟨some 3, (.mv (.t 131)), none⟩,
 ⟨some 4, (.mv (.t 133)), none⟩,
 ⟨some 5, (.mv (.c (.int .i64 (0)))), none⟩]
 [(0, 1), (0, 2), (1, 2), (0, 3), (1, 3), (0, 4), (1, 4), (0, 5), (1, 5), (0, 6), (0, 7), (1, 7), (2, 7), (3, 7), (4, 7), (5, 7), (6, 7), (0, 8), (1, 8), (2, 8), (3, 8), (4, 8), (5, 8), (6, 8), (7, 9), (8, 9), (7, 10), (8, 10)] [6, 7, 125, 126, 127, 128, 129, 130, 131, 132, 133])
 .ret))))))))))⟩
def loc13 : List Nat := [37, 100, 123, 130, 2, 6, 9, 11, 14, 15]
def fg13 : List (Nat × List Nat) := [(30, [6, 7, 125, 126, 127, 128, 129, 130, 131, 132, 133]), (29, [0, 9, 11, 14, 15, 45, 46, 47, 48, 49, 53, 54, 55, 56, 57, 58, 59, 60, 61, 62, 63, 64, 65, 66, 67, 68, 69, 70, 71, 75, 76, 77, 78, 79, 80, 81, 83, 84, 85, 86, 87, 88, 89, 90, 91, 92, 93, 94, 95, 96, 97, 98, 99, 100, 101, 102, 103, 104, 105, 106, 107, 108, 109, 110, 111, 112, 113, 114, 115, 116, 117, 118, 119, 120, 121, 122, 123, 124]), (27, [10]), (26, [17]), (24, [50, 51, 52]), (23, [12, 82]), (22, [12, 82]), (20, [16, 72]), (19, [0, 6, 7, 9, 10, 11, 12, 14, 15, 16, 45, 46, 48, 49, 50, 51, 53, 54, 55, 56, 57, 58, 59, 60, 61, 62, 63, 64, 65, 66, 67, 68, 69, 70, 71, 72, 73, 74, 75, 76, 77, 78, 79, 80, 81, 83, 84, 85, 86, 87, 88, 89, 90, 91, 92, 93, 94, 95, 96, 97, 98, 99, 100, 101, 102, 103, 104, 105, 106, 107, 108, 109, 110]), (17, [13]), (16, [52]), (13, [47]), (11, [44]), (10, [31, 32, 33, 34, 35, 36, 37, 38, 39, 40, 41, 42, 43]), (8, [8]), (7, [33]), (5, [30]), (4, [5, 24, 27, 28, 29]), (3, [0, 6, 24, 25, 26]), (2, [23]), (1, [18, 19, 20, 21, 22]), (0, [4, 5])]
theorem comp13 : compFn Try.prog loc13 (fun i => (fg13.lookup i).getD []) Try.f13 = some lit13 := by kernel_rfl

-- parcener/parcenerlaw11.of
def lit14 : AFn := ⟨1, [.cell 2 true 2],
 (.seq
 (.ops [⟨some 2, (.allocL (.agg [(.int .i64 (0)), (.int .i64 (0))])), none⟩]
 [] [])
 (.seq
 (.ops [⟨some 3, (.mv (.t 0)), none⟩,
 ⟨some 4, (.call (.f 22) [(.t 3)]), none⟩,
 ⟨none, (.store 2 (.t 2) (.t 4)), none⟩]
 [] [0, 3, 4])
 .ret))⟩
def loc14 : List Nat := [2]
def fg14 : List (Nat × List Nat) := [(1, [0, 3, 4])]
theorem comp14 : compFn Try.prog loc14 (fun i => (fg14.lookup i).getD []) Try.f14 = some lit14 := by kernel_rfl

-- parcener/parcenerref09.Same
def lit15 : AFn := ⟨2, [.tmp 4],
 (.seq
 (.ops [⟨some 4, (.mv (.c (.bool false))), none⟩]
 [] [4])
 (.seq
 (.seq
 (.ops [⟨some 6, (.mv (.t 0)), none⟩,
 ⟨some 7, (.len (.t 6)), none⟩,
 ⟨some 8, (.mv (.t 1)), none⟩,
 ⟨some 9, (.len (.t 8)), none⟩,
 ⟨some 10, (.bin .neq (.t 7) (.t 9)), none⟩]
 [] [6, 7, 8, 9])
 (.cond (.t 10)
 (.seq
 (.ops [⟨some 4, (.mv (.c (.bool false))), none⟩]
 [] [0, 1, 10])
 .ret)
 .skip))
 (.seq
 (.seq
 (.ops [⟨some 5, (.mv (.c (.int .i64 (0)))), none⟩]
 [] [10])
 (.block 0
 (.loop
 (.seq
 (.seq
 (.ops [⟨some 11, (.mv (.t 5)), none⟩,
 ⟨some 12, (.mv (.t 0)), none⟩,
 ⟨some 13, (.len (.t 12)), none⟩,
 ⟨some 14, (.bin .lss (.t 11) (.t 13)), none⟩]
 [] [])
 (.cond (.t 14)
 .skip
 (.exit 0)))
 (.seq
 (.block 1
 (.seq
 (.ops [⟨some 17, (.mv (.t 0)), none⟩,
 ⟨some 18, (.mv (.t 5)), none⟩,
 ⟨some 19, (.iad 1 (.t 17) (.t 18)), none⟩,
 ⟨some 20, (.load false 1 (.t 19)), none⟩,
 ⟨some 21, (.mv (.t 1)), none⟩,
 ⟨some 22, (.mv (.t 5)), none⟩,
 ⟨some 23, (.iad 1 (.t 21) (.t 22)), none⟩,
 ⟨some 24, (.load false 1 (.t 23)), none⟩,
 ⟨some 25, (.bin .neq (.t 20) (.t 24)), none⟩]
 [(0, 1), (0, 4), (1, 4), (2, 4), (3, 4), (0, 5), (1, 5), (2, 5), (3, 5), (4, 5), (0, 6), (1, 6), (2, 6), (3, 6), (0, 7), (1, 7), (2, 7), (3, 7)] [14])
 (.cond (.t 25)
 (.seq
 (.ops [⟨some 4, (.mv (.c (.bool false))), none⟩]
 [] [0, 1, 5, 11, 12, 13, 15, 16, 17, 18, 19, 20, 21, 22, 23, 24, 25])
 .ret)
 .skip)))
 (.ops [⟨some 15, (.mv (.t 5)), none⟩,
 ⟨some 16, (.bin .add (.t 15) (.c (.int .i64 (1)))), none⟩,
 ⟨some 5, (.mv (.t 16)), none⟩]
 [] [25]))))))
 (.seq
 (.ops [⟨some 4, (.mv (.c (.bool true))), none⟩]
 [] [0, 1, 5, 11, 12, 13, 14, 15, 16, 17, 18, 19, 20, 21, 22, 23, 24])
 .ret))))⟩
def loc15 : List Nat := []
def fg15 : List (Nat × List Nat) := [(8, [0, 1, 5, 11, 12, 13, 14, 15, 16, 17, 18, 19, 20, 21, 22, 23, 24]), (5, [25]), (7, [0, 1, 5, 11, 12, 13, 15, 16, 17, 18, 19, 20, 21, 22, 23, 24, 25]), (6, [14]), (3, [10]), (2, [0, 1, 10]), (1, [6, 7, 8, 9]), (0, [4])]
theorem comp15 : compFn Try.prog loc15 (fun i => (fg15.lookup i).getD []) Try.f15 = some lit15 := by kernel_rfl

-- parcener/parcenerlaw11.three
def lit16 : AFn := ⟨0, [.tmp 0],
 (.seq
 (.ops [⟨some 0, (.mv (.c .nils)), none⟩]
 [] [0])
 (.seq
 (.ops [⟨some 1, (.buildSl true 1 (.int .i64 (0)) 2 [(0, (.c (.int .i64 (0)))), (1, (.c (.int .i64 (6))))]), none⟩,
 ⟨some 2, (.buildSl true 1 (.int .i64 (0)) 1 [(0, (.c (.int .i64 (1))))]), none⟩,
 ⟨some 3, (.build [(.int .i64 (0)), .nils, .nils] [(0, 1, (.c (.int .i64 (6)))), (1, 1, (.t 1)), (2, 1, (.t 2))]), none⟩,
 ⟨some 4, (.buildSl true 1 (.int .i64 (0)) 3 [(0, (.c (.int .i64 (0)))), (1, (.c (.int .i64 (4)))), (2, (.c (.int .i64 (6))))]), none⟩,
 ⟨some 5, (.buildSl true 1 (.int .i64 (0)) 2 [(0, (.c (.int .i64 (1)))), (1, (.c (.int .i64 (4))))]), none⟩,
 ⟨some 6, (.build [(.int .i64 (0)), .nils, .nils] [(0, 1, (.c (.int .i64 (6)))), (1, 1, (.t 4)), (2, 1, (.t 5))]), none⟩,
 ⟨some 7, (.buildSl true 1 (.int .i64 (0)) 3 [(0, (.c (.int .i64 (0)))), (1, (.c (.int .i64 (2)))), (2, (.c (.int .i64 (6))))]), none⟩,
 ⟨some 8, (.buildSl true 1 (.int .i64 (0)) 2 [(0, (.c (.int .i64 (2)))), (1, (.c (.int .i64 (0))))]), none⟩,
 ⟨some 9, (.build [(.int .i64 (0)), .nils, .nils] [(0, 1, (.c (.int .i64 (6)))), (1, 1, (.t 7)), (2, 1, (.t 8))]), none⟩,
 ⟨some 10, (.buildSl true 3 (.agg [(.int .i64 (0)), (.data []), (.data [])]) 3 [(0, (.t 3)), (1, (.t 6)), (2, (.t 9))]), none⟩,
 ⟨some 0, (.mv (.t 10)), none⟩]
 [] [1, 2, 3, 4, 5, 6, 7, 8, 9, 10])
 .ret))⟩
def loc16 : List Nat := []
def fg16 : List (Nat × List Nat) := [(1, [1, 2, 3, 4, 5, 6, 7, 8, 9, 10]), (0, [0])]
theorem comp16 : compFn Try.prog loc16 (fun i => (fg16.lookup i).getD []) Try.f16 = some lit16 := by kernel_rfl

-- parcener/knife.Other
def lit17 : AFn := ⟨2, [.cell 4 true 2, .tmp 5],
 (.seq
 (.ops [⟨some 2, (.boxL (.t 0)), none⟩,
 ⟨some 3, (.boxL (.t 1)), none⟩,
 ⟨some 4, (.allocL (.agg [(.int .i64 (0)), (.int .i64 (0))])), none⟩,
 ⟨some 5, (.mv (.c (.int .i64 (0)))), none⟩]
 [] [0, 1, 5])
 (.seq
 (.seq
 (.ops [⟨some 7, (.load true 3 (.t 2)), none⟩,
 ⟨some 8, (.call (.f 92) [(.t 7)]), none⟩,
 ⟨some 6, (.mv (.t 8)), none⟩]
 [] [7, 8])
 (.seq
 (.ops [⟨some 9, (.mv (.t 6)), none⟩,
 ⟨some 10, (.bin .neq (.t 9) (.c (.int .i64 (0)))), none⟩]
 [] [9])
 (.cond (.t 10)
 (.seq
 (.ops [⟨some 11, (.build [(.int .i64 (0)), (.int .i64 (0))] []), none⟩,
 ⟨some 12, (.mv (.t 6)), none⟩,
 ⟨none, (.store 2 (.t 4) (.t 11)), none⟩,
 ⟨some 5, (.mv (.t 12)), none⟩]
 [] [2, 3, 6, 10, 11, 12])
 .ret)
 .skip)))
 (.seq
 (.ops [⟨some 13, (.load true 3 (.t 2)), none⟩,
 ⟨some 14, (.load true 2 (.t 3)), none⟩,
 ⟨some 15, (.load true 3 (.t 2)), none⟩,
 ⟨some 16, (.call (.f 90) [(.t 15), (.c (.int .i64 (2)))]), none⟩,
 ⟨some 17, (.call (.f 93) [(.t 13), (.t 14), (.t 16)]), none⟩,
 ⟨some 18, (.ext (.t 17) 0), none⟩,
 ⟨some 19, (.ext (.t 17) 1), none⟩,
 ⟨none, (.store 2 (.t 4) (.t 18)), none⟩,
 ⟨some 5, (.mv (.t 19)), none⟩]
 [(0, 1), (0, 2), (1, 2), (0, 3), (1, 3), (5, 6)] [2, 3, 6, 10, 13, 14, 15, 16, 17, 18, 19])
 .ret)))⟩
def loc17 : List Nat := [2, 3, 4]
def fg17 : List (Nat × List Nat) := [(4, [2, 3, 6, 10, 13, 14, 15, 16, 17, 18, 19]), (3, [2, 3, 6, 10, 11, 12]), (2, [9]), (1, [7, 8]), (0, [0, 1, 5])]
theorem comp17 : compFn Try.prog loc17 (fun i => (fg17.lookup i).getD []) Try.f17 = some lit17 := by kernel_rfl

-- parcener/knife.Gap
def lit18 : AFn := ⟨3, [.cell 6 true 2, .tmp 7],
 (.seq
 (.ops [⟨some 3, (.boxL (.t 0)), none⟩,
 ⟨some 4, (.boxL (.t 1)), none⟩,
 ⟨some 5, (.boxL (.t 2)), none⟩,
 ⟨some 6, (.allocL (.agg [(.int .i64 (0)), (.int .i64 (0))])), none⟩,
 ⟨some 7, (.mv (.c (.int .i64 (0)))), none⟩]
 [] [0, 1, 2, 7])
 (.seq
 (.seq
 (.ops [⟨some 12, (.load true 3 (.t 3)), none⟩,
 ⟨some 13, (.load true 3 (.t 4)), none⟩,
 ⟨some 14, (.buildSl true 3 (.agg [(.int .i64 (0)), (.data []), (.data [])]) 2 [(0, (.t 12)), (1, (.t 13))]), none⟩,
 ⟨some 15, (.build [.nils, .nils] [(0, 1, (.t 14))]), none⟩,
 ⟨some 16, (.call (.f 79) [(.t 15)]), none⟩,
 ⟨some 8, (.mv (.t 16)), none⟩]
 [] [12, 13, 14, 15, 16])
 (.seq
 (.ops [⟨some 17, (.mv (.t 8)), none⟩,
 ⟨some 18, (.bin .neq (.t 17) (.c (.int .i64 (0)))), none⟩]
 [] [17])
 (.cond (.t 18)
 (.seq
 (.ops [⟨some 19, (.build [(.int .i64 (0)), (.int .i64 (0))] []), none⟩,
 ⟨some 20, (.mv (.t 8)), none⟩,
 ⟨none, (.store 2 (.t 6) (.t 19)), none⟩,
 ⟨some 7, (.mv (.t 20)), none⟩]
 [] [3, 4, 5, 8, 18, 19, 20])
 .ret)
 .skip)))
 (.seq
 (.ops [⟨some 22, (.load true 3 (.t 3)), none⟩,
 ⟨some 23, (.load true 2 (.t 5)), none⟩,
 ⟨some 24, (.call (.f 17) [(.t 22), (.t 23)]), none⟩,
 ⟨some 21, (.mv (.t 24)), none⟩,
 ⟨some 25, (.ext (.t 21) 0), none⟩,
 ⟨some 26, (.ext (.t 21) 1), none⟩,
 ⟨some 9, (.allocL (.agg [(.int .i64 (0)), (.int .i64 (0))])), none⟩,
 ⟨none, (.store 2 (.t 9) (.t 25)), none⟩,
 ⟨some 10, (.mv (.t 26)), none⟩]
 [] [3, 8, 18, 21, 22, 23, 24, 25, 26])
 (.seq
 (.seq
 (.ops [⟨some 27, (.mv (.t 10)), none⟩,
 ⟨some 28, (.bin .neq (.t 27) (.c (.int .i64 (0)))), none⟩]
 [] [27])
 (.cond (.t 28)
 (.seq
 (.ops [⟨some 29, (.build [(.int .i64 (0)), (.int .i64 (0))] []), none⟩,
 ⟨some 30, (.mv (.t 10)), none⟩,
 ⟨none, (.store 2 (.t 6) (.t 29)), none⟩,
 ⟨some 7, (.mv (.t 30)), none⟩]
 [] [4, 5, 9, 10, 28, 29, 30])
 .ret)
 .skip))
 (.seq
 (.ops [⟨some 32, (.load true 3 (.t 4)), none⟩,
 ⟨some 33, (.load true 2 (.t 5)), none⟩,
 ⟨some 34, (.load true 2 (.t 9)), none⟩,
 ⟨some 35, (.call (.f 94) [(.t 32), (.t 33), (.t 34)]), none⟩,
 ⟨some 31, (.mv (.t 35)), none⟩,
 ⟨some 36, (.ext (.t 31) 0), none⟩,
 ⟨some 37, (.ext (.t 31) 1), none⟩,
 ⟨some 11, (.allocL (.agg [(.int .i64 (0)), (.int .i64 (0))])), none⟩,
 ⟨none, (.store 2 (.t 11) (.t 36)), none⟩,
 ⟨some 10, (.mv (.t 37)), none⟩]
 [] [5, 9, 28, 31, 32, 33, 34, 35, 36, 37])
 (.seq
 (.seq
 (.ops [⟨some 38, (.mv (.t 10)), none⟩,
 ⟨some 39, (.bin .neq (.t 38) (.c (.int .i64 (0)))), none⟩]
 [] [38])
 (.cond (.t 39)
 (.seq
 (.ops [⟨some 40, (.build [(.int .i64 (0)), (.int .i64 (0))] []), none⟩,
 ⟨some 41, (.mv (.t 10)), none⟩,
 ⟨none, (.store 2 (.t 6) (.t 40)), none⟩,
 ⟨some 7, (.mv (.t 41)), none⟩]
 [] [4, 10, 11, 39, 40, 41])
 .ret)
 .skip))
 (.seq
 (.ops [⟨some 42, (.load true 2 (.t 11)), none⟩,
 ⟨some 43, (.load true 3 (.t 4)), none⟩,
 ⟨some 44, (.call (.f 90) [(.t 43), (.c (.int .i64 (2)))]), none⟩,
 ⟨some 45, (.call (.f 84) [(.t 42), (.t 44)]), none⟩,
 ⟨some 46, (.ext (.t 45) 0), none⟩,
 ⟨some 47, (.ext (.t 45) 1), none⟩,
 ⟨none, (.store 2 (.t 6) (.t 46)), none⟩,
 ⟨some 7, (.mv (.t 47)), none⟩]
 [(0, 1), (0, 2), (4, 5)] [4, 10, 11, 39, 42, 43, 44, 45, 46, 47])
 .ret)))))))⟩
def loc18 : List Nat := [3, 4, 5, 6, 9, 11]
def fg18 : List (Nat × List Nat) := [(10, [4, 10, 11, 39, 42, 43, 44, 45, 46, 47]), (9, [4, 10, 11, 39, 40, 41]), (8, [38]), (7, [5, 9, 28, 31, 32, 33, 34, 35, 36, 37]), (6, [4, 5, 9, 10, 28, 29, 30]), (5, [27]), (4, [3, 8, 18, 21, 22, 23, 24, 25, 26]), (3, [3, 4, 5, 8, 18, 19, 20]), (2, [17]), (1, [12, 13, 14, 15, 16]), (0, [0, 1, 2, 7])]
theorem comp18 : compFn Try.prog loc18 (fun i => (fg18.lookup i).getD []) Try.f18 = some lit18 := by kernel_rfl

-- parcener/parcenerlaw11.alive
def lit19 : AFn := ⟨0, [.tmp 0],
 (.seq
 (.ops [⟨some 0, (.mv (.c (.bool false))), none⟩]
 [] [0])
 (.seq
 (.ops [⟨some 18, (.call (.f 16) []), none⟩,
 ⟨some 19, (.call (.f 13) [(.t 18)]), none⟩,
 ⟨some 17, (.mv (.t 19)), none⟩,
 ⟨some 20, (.ext (.t 17) 0), none⟩,
 ⟨some 21, (.ext (.t 17) 1), none⟩,
 ⟨some 22, (.ext (.t 17) 2), none⟩,
 ⟨some 23, (.ext (.t 17) 3), none⟩,
 ⟨some 1, (.allocL (.agg [.nils])), none⟩,
 ⟨none, (.store 1 (.t 1) (.t 20)), none⟩,
 ⟨some 2, (.mv (.t 21)), none⟩,
 ⟨some 3, (.mv (.t 22)), none⟩,
 ⟨some 4, (.mv (.t 23)), none⟩]
 [] [17, 18, 19, 20, 21, 22, 23])
 (.seq
 (.ops [⟨some 24, (.build [(.int .i64 (0)), (.int .i64 (0))] [(0, 1, (.c (.int .i64 (2)))), (1, 1, (.c (.int .i64 (3))))]), none⟩,
 ⟨some 25, (.build [(.int .i64 (0)), (.int .i64 (0))] [(0, 1, (.c (.int .i64 (8)))), (1, 1, (.c (.int .i64 (3))))]), none⟩,
 ⟨some 5, (.allocL (.agg [(.int .i64 (0)), (.int .i64 (0))])), none⟩,
 ⟨some 6, (.allocL (.agg [(.int .i64 (0)), (.int .i64 (0))])), none⟩,
 ⟨none, (.store 2 (.t 5) (.t 24)), none⟩,
 ⟨none, (.store 2 (.t 6) (.t 25)), none⟩]
 [] [24, 25])
 (.seq
 (.ops [⟨some 27, (.call (.f 11) []), none⟩,
 ⟨some 26, (.mv (.t 27)), none⟩,
 ⟨some 28, (.ext (.t 26) 0), none⟩,
 ⟨some 29, (.ext (.t 26) 1), none⟩,
 ⟨some 7, (.allocL (.agg [(.int .i64 (0)), .nils, .nils])), none⟩,
 ⟨some 8, (.allocL (.agg [(.int .i64 (0)), .nils, .nils])), none⟩,
 ⟨none, (.store 3 (.t 7) (.t 28)), none⟩,
 ⟨none, (.store 3 (.t 8) (.t 29)), none⟩]
 [] [26, 27, 28, 29])
 (.seq
 (.ops [⟨some 31, (.load true 3 (.t 7)), none⟩,
 ⟨some 32, (.call (.f 14) [(.c (.int .i64 (0)))]), none⟩,
 ⟨some 33, (.call (.f 17) [(.t 31), (.t 32)]), none⟩,
 ⟨some 30, (.mv (.t 33)), none⟩,
 ⟨some 34, (.ext (.t 30) 0), none⟩,
 ⟨some 35, (.ext (.t 30) 1), none⟩,
 ⟨some 9, (.allocL (.agg [(.int .i64 (0)), (.int .i64 (0))])), none⟩,
 ⟨none, (.store 2 (.t 9) (.t 34)), none⟩,
 ⟨some 10, (.mv (.t 35)), none⟩]
 [(0, 1), (4, 5), (0, 6), (1, 6), (2, 6), (3, 6), (4, 6), (5, 6), (5, 7)] [30, 31, 32, 33, 34, 35])
 (.seq
 (.ops [⟨some 37, (.load true 3 (.t 7)), none⟩,
 ⟨some 38, (.load true 3 (.t 8)), none⟩,
 ⟨some 39, (.call (.f 14) [(.c (.int .i64 (0)))]), none⟩,
 ⟨some 40, (.call (.f 18) [(.t 37), (.t 38), (.t 39)]), none⟩,
 ⟨some 36, (.mv (.t 40)), none⟩,
 ⟨some 41, (.ext (.t 36) 0), none⟩,
 ⟨some 42, (.ext (.t 36) 1), none⟩,
 ⟨some 11, (.allocL (.agg [(.int .i64 (0)), (.int .i64 (0))])), none⟩,
 ⟨none, (.store 2 (.t 11) (.t 41)), none⟩,
 ⟨some 12, (.mv (.t 42)), none⟩]
 [(0, 1), (0, 2), (1, 2), (5, 6), (0, 7), (1, 7), (2, 7), (3, 7), (4, 7), (5, 7), (6, 7), (6, 8)] [36, 37, 38, 39, 40, 41, 42])
 (.seq
 (.ops [⟨some 44, (.load true 3 (.t 7)), none⟩,
 ⟨some 45, (.load true 3 (.t 8)), none⟩,
 ⟨some 46, (.call (.f 14) [(.c (.int .i64 (1)))]), none⟩,
 ⟨some 47, (.call (.f 18) [(.t 44), (.t 45), (.t 46)]), none⟩,
 ⟨some 43, (.mv (.t 47)), none⟩,
 ⟨some 48, (.ext (.t 43) 0), none⟩,
 ⟨some 49, (.ext (.t 43) 1), none⟩,
 ⟨some 13, (.allocL (.agg [(.int .i64 (0)), (.int .i64 (0))])), none⟩,
 ⟨none, (.store 2 (.t 13) (.t 48)), none⟩,
 ⟨some 14, (.mv (.t 49)), none⟩]
 [(0, 1), (0, 2), (1, 2), (5, 6), (0, 7), (1, 7), (2, 7), (3, 7), (4, 7), (5, 7), (6, 7), (6, 8)] [43, 44, 45, 46, 47, 48, 49])
 (.seq
 (.ops [⟨some 51, (.load true 3 (.t 7)), none⟩,
 ⟨some 52, (.load true 3 (.t 8)), none⟩,
 ⟨some 53, (.call (.f 12) [(.t 51), (.t 52)]), none⟩,
 ⟨some 50, (.mv (.t 53)), none⟩,
 ⟨some 54, (.ext (.t 50) 0), none⟩,
 ⟨some 55, (.ext (.t 50) 1), none⟩,
 ⟨some 15, (.allocL (.agg [(.int .i64 (0)), (.int .i64 (0)), (.int .i64 (0)), (.int .i64 (0))])), none⟩,
 ⟨none, (.store 4 (.t 15) (.t 54)), none⟩,
 ⟨some 16, (.mv (.t 55)), none⟩]
 [] [7, 8, 50, 51, 52, 53, 54, 55])
 (.seq
 (.ops [⟨some 56, (.mv (.t 4)), none⟩,
 ⟨some 57, (.bin .eql (.t 56) (.c (.int .i64 (0)))), none⟩,
 ⟨some 58, (.mv (.t 57)), none⟩,
 ⟨some 59, (.mv (.t 2)), some (58, true)⟩,
 ⟨some 60, (.buildD 1 (.int .i64 (0)) 3 [(0, (.c (.int .i64 (2)))), (1, (.c (.int .i64 (0)))), (2, (.c (.int .i64 (1))))]), some (58, true)⟩,
 ⟨some 61, (.call (.f 15) [(.t 59), (.t 60)]), some (58, true)⟩,
 ⟨some 62, (.pick (.t 58) (.t 61) (.c (.bool false))), none⟩,
 ⟨some 63, (.mv (.t 62)), none⟩,
 ⟨some 64, (.mv (.t 3)), some (63, true)⟩,
 ⟨some 65, (.len (.t 64)), some (63, true)⟩,
 ⟨some 66, (.bin .eql (.t 65) (.c (.int .i64 (5)))), some (63, true)⟩,
 ⟨some 67, (.pick (.t 63) (.t 66) (.c (.bool false))), none⟩,
 ⟨some 68, (.mv (.t 67)), none⟩,
 ⟨some 69, (.load true 1 (.t 1)), some (68, true)⟩,
 ⟨some 70, (.load true 2 (.t 5)), some (68, true)⟩,
 ⟨some 71, (.load true 2 (.t 6)), some (68, true)⟩,
 ⟨some 72, (.build [(.int .i64 (0)), (.int .i64 (0)), (.int .i64 (0)), (.int .i64 (0))] [(0, 2, (.t 70)), (2, 2, (.t 71))]), some (68, true)⟩,
 ⟨some 73, (.buildD 4 (.agg [(.int .i64 (0)), (.int .i64 (0)), (.int .i64 (0)), (.int .i64 (0))]) 1 [(0, (.t 72))]), some (68, true)⟩,
 ⟨some 74, (.load true 2 (.t 6)), some (68, true)⟩,
 ⟨some 75, (.call (.f 14) [(.c (.int .i64 (6)))]), some (68, true)⟩,
 ⟨some 76, (.build [(.int .i64 (0)), (.int .i64 (0)), (.int .i64 (0)), (.int .i64 (0))] [(0, 2, (.t 74)), (2, 2, (.t 75))]), some (68, true)⟩,
 ⟨some 77, (.buildD 4 (.agg [(.int .i64 (0)), (.int .i64 (0)), (.int .i64 (0)), (.int .i64 (0))]) 1 [(0, (.t 76))]), some (68, true)⟩,
 ⟨some 78, (.call (.f 14) [(.c (.int .i64 (0)))]), some (68, true)⟩,
 ⟨some 79, (.load true 2 (.t 5)), some (68, true)⟩,
 ⟨some 80, (.build [(.int .i64 (0)), (.int .i64 (0)), (.int .i64 (0)), (.int .i64 (0))] [(0, 2, (.t 78)), (2, 2, (.t 79))]), some (68, true)⟩,
 ⟨some 81, (.buildD 4 (.agg [(.int .i64 (0)), (.int .i64 (0)), (.int .i64 (0)), (.int .i64 (0))]) 1 [(0, (.t 80))]), some (68, true)⟩,
 ⟨some 82, (.buildD 1 (.data []) 3 [(0, (.t 73)), (1, (.t 77)), (2, (.t 81))]), some (68, true)⟩,
 ⟨some 83, (.build [.nils] [(0, 1, (.t 82))]), some (68, true)⟩,
 ⟨some 84, (.call (.f 58) [(.t 69), (.t 83)]), some (68, true)⟩,
 ⟨some 85, (.pick (.t 68) (.t 84) (.c (.bool false))), none⟩,
 ⟨some 86, (.mv (.t 85)), none⟩,
 ⟨some 87, (.mv (.t 10)), some (86, true)⟩,
 ⟨some 88, (.bin .eql (.t 87) (.c (.int .i64 (0)))), some (86, true)⟩,
 ⟨some 89, (.pick (.t 86) (.t 88) (.c (.bool false))), none⟩,
 ⟨some 90, (.mv (.t 89)), none⟩,
 ⟨some 91, (.load true 2 (.t 9)), some (90, true)⟩,
 ⟨some 92, (.call (.f 14) [(.c (.int .i64 (2)))]), some (90, true)⟩,
 ⟨some 93, (.eqA false 2 [(0, (some .i64)), (1, (some .i64))] (.t 91) (.t 92)), some (90, true)⟩,
 ⟨some 94, (.pick (.t 90) (.t 93) (.c (.bool false))), none⟩,
 ⟨some 95, (.mv (.t 94)), none⟩,
 ⟨some 96, (.mv (.t 12)), some (95, true)⟩,
 ⟨some 97, (.bin .eql (.t 96) (.c (.int .i64 (0)))), some (95, true)⟩,
 ⟨some 98, (.pick (.t 95) (.t 97) (.c (.bool false))), none⟩,
 ⟨some 99, (.mv (.t 98)), none⟩,
 ⟨some 100, (.load true 2 (.t 11)), some (99, true)⟩,
 ⟨some 101, (.call (.f 14) [(.c (.int .i64 (1)))]), some (99, true)⟩,
 ⟨some 102, (.eqA false 2 [(0, (some .i64)), (1, (some .i64))] (.t 100) (.t 101)), some (99, true)⟩,
 ⟨some 103, (.pick (.t 99) (.t 102) (.c (.bool false))), none⟩,
 ⟨some 104, (.mv (.t 103)), none⟩,
 ⟨some 105, (.mv (.t 14)), some (104, true)⟩,
 ⟨some 106, (.bin .eql (.t 105) (.c (.int .i64 (0)))), some (104, true)⟩,
 ⟨some 107, (.pick (.t 104) (.t 106) (.c (.bool false))), none⟩,
 ⟨some 108, (.mv (.t 107)), none⟩,
 ⟨some 109, (.load true 2 (.t 13)), some (108, true)⟩,
 ⟨some 110, (.call (.f 14) [(.c (.int .i64 (-1)))]), some (108, true)⟩,
 ⟨some 111, (.eqA false 2 [(0, (some .i64)), (1, (some .i64))] (.t 109) (.t 110)), some (108, true)⟩,
 ⟨some 112, (.pick (.t 108) (.t 111) (.c (.bool false))), none⟩,
 ⟨some 113, (.mv (.t 112)), none⟩,
 ⟨some 114, (.mv (.t 16)), some (113, true)⟩,
 ⟨some 115, (.bin .eql (.t 114) (.c (.int .i64 (0)))), some (113, true)⟩,
 ⟨some 116, (.pick (.t 113) (.t 115) (.c (.bool false))), none⟩,
 ⟨some 117, (.mv (.t 116)), none⟩,
 ⟨some 118, (.load true 4 (.t 15)), some (117, true)⟩,
 ⟨some 119, (.build [(.int .i64 (0)), (.int .i64 (0))] [(0, 1, (.c (.int .i64 (1)))), (1, 1, (.c (.int .i64 (2))))]), some (117, true)⟩,
 ⟨some 120, (.build [(.int .i64 (0)), (.int .i64 (0))] [(0, 1, (.c (.int .i64 (5)))), (1, 1, (.c (.int .i64 (2))))]), some (117, true)⟩,
 ⟨some 121, (.build [(.int .i64 (0)), (.int .i64 (0)), (.int .i64 (0)), (.int .i64 (0))] [(0, 2, (.t 119)), (2, 2, (.t 120))]), some (117, true)⟩,
 ⟨some 122, (.eqA false 4 [(0, (some .i64)), (1, (some .i64)), (2, (some .i64)), (3, (some .i64))] (.t 118) (.t 121)), some (117, true)⟩,
 ⟨some 123, (.pick (.t 117) (.t 122) (.c (.bool false))), none⟩,
 ⟨some 0, (.mv (.t 123)), none⟩]
 [(3, 4), (13, 14), (13, 15), (14, 15), (13, 16), (13, 17), (13, 18), (14, 18), (15, 18), (16, 18), (17, 18), (13, 19), (14, 19), (15, 19), (16, 19), (17, 19), (18, 19), (13, 20), (14, 20), (15, 20), (16, 20), (17, 20), (13, 21), (14, 21), (15, 21), (16, 21), (17, 21), (13, 22), (14, 22), (15, 22), (16, 22), (17, 22), (18, 22), (20, 22), (21, 22), (13, 23), (14, 23), (15, 23), (16, 23), (17, 23), (18, 23), (19, 23), (20, 23), (21, 23), (22, 23), (13, 24), (14, 24), (15, 24), (16, 24), (17, 24), (18, 24), (20, 24), (21, 24), (13, 25), (14, 25), (15, 25), (16, 25), (17, 25), (18, 25), (20, 25), (21, 25), (13, 26), (13, 27), (35, 36), (44, 45), (53, 54), (62, 63), (62, 64), (63, 64), (62, 65)] [1, 2, 3, 4, 5, 6, 9, 10, 11, 12, 13, 14, 15, 16, 56, 57, 58, 59, 60, 61, 62, 63, 64, 65, 66, 67, 68, 69, 70, 71, 72, 73, 74, 75, 76, 77, 78, 79, 80, 81, 82, 83, 84, 85, 86, 87, 88, 89, 90, 91, 92, 93, 94, 95, 96, 97, 98, 99, 100, 101, 102, 103, 104, 105, 106, 107, 108, 109, 110, 111, 112, 113, 114, 115, 116, 117, 118, 119, 120, 121, 122, 123])
 .ret)))))))))⟩
def loc19 : List Nat := [60, 73, 77, 81, 82, 1, 5, 6, 7, 8, 9, 11, 13, 15]
def fg19 : List (Nat × List Nat) := [(8, [1, 2, 3, 4, 5, 6, 9, 10, 11, 12, 13, 14, 15, 16, 56, 57, 58, 59, 60, 61, 62, 63, 64, 65, 66, 67, 68, 69, 70, 71, 72, 73, 74, 75, 76, 77, 78, 79, 80, 81, 82, 83, 84, 85, 86, 87, 88, 89, 90, 91, 92, 93, 94, 95, 96, 97, 98, 99, 100, 101, 102, 103, 104, 105, 106, 107, 108, 109, 110, 111, 112, 113, 114, 115, 116, 117, 118, 119, 120, 121, 122, 123]), (7, [7, 8, 50, 51, 52, 53, 54, 55]), (6, [43, 44, 45, 46, 47, 48, 49]), (5, [36, 37, 38, 39, 40, 41, 42]), (4, [30, 31, 32, 33, 34, 35]), (3, [26, 27, 28, 29]), (2, [24, 25]), (1, [17, 18, 19, 20, 21, 22, 23]), (0, [0])]
theorem comp19 : compFn Try.prog loc19 (fun i => (fg19.lookup i).getD []) Try.f19 = some lit19 := by kernel_rfl

-- parcener/parcenerref01.Of
def lit22 : AFn := ⟨1, [.cell 2 true 2],
 (.seq
 (.ops [⟨some 2, (.allocL (.agg [(.int .i64 (0)), (.int .i64 (0))])), none⟩]
 [] [])
 (.seq
 (.ops [⟨some 3, (.mv (.t 0)), none⟩,
 ⟨some 4, (.build [(.int .i64 (0)), (.int .i64 (0))] [(0, 1, (.t 3)), (1, 1, (.c (.int .i64 (1))))]), none⟩,
 ⟨none, (.store 2 (.t 2) (.t 4)), none⟩]
 [] [0, 3, 4])
 .ret))⟩
def loc22 : List Nat := [2]
def fg22 : List (Nat × List Nat) := [(1, [0, 3, 4])]
theorem comp22 : compFn Try.prog loc22 (fun i => (fg22.lookup i).getD []) Try.f22 = some lit22 := by kernel_rfl

-- parcener/parcenerref06.Same
def lit58 : AFn := ⟨2, [.tmp 4],
 (.seq
 (.ops [⟨some 2, (.boxL (.t 0)), none⟩,
 ⟨some 3, (.boxL (.t 1)), none⟩,
 ⟨some 4, (.mv (.c (.bool false))), none⟩]
 [] [0, 1, 4])
 (.seq
 (.seq
 (.ops [⟨some 6, (.fad 0 (.t 2)), none⟩,
 ⟨some 7, (.load false 1 (.t 6)), none⟩,
 ⟨some 8, (.len (.t 7)), none⟩,
 ⟨some 9, (.fad 0 (.t 3)), none⟩,
 ⟨some 10, (.load false 1 (.t 9)), none⟩,
 ⟨some 11, (.len (.t 10)), none⟩,
 ⟨some 12, (.bin .neq (.t 8) (.t 11)), none⟩]
 [] [6, 7, 8, 9, 10, 11])
 (.cond (.t 12)
 (.seq
 (.ops [⟨some 4, (.mv (.c (.bool false))), none⟩]
 [] [2, 3, 12])
 .ret)
 .skip))
 (.seq
 (.seq
 (.ops [⟨some 5, (.mv (.c (.int .i64 (0)))), none⟩]
 [] [12])
 (.block 0
 (.loop
 (.seq
 (.seq
 (.ops [⟨some 13, (.mv (.t 5)), none⟩,
 ⟨some 14, (.fad 0 (.t 2)), none⟩,
 ⟨some 15, (.load false 1 (.t 14)), none⟩,
 ⟨some 16, (.len (.t 15)), none⟩,
 ⟨some 17, (.bin .lss (.t 13) (.t 16)), none⟩]
 [] [])
 (.cond (.t 17)
 .skip
 (.exit 0)))
 (.seq
 (.block 1
 (.seq
 (.ops [⟨some 20, (.fad 0 (.t 2)), none⟩,
 ⟨some 21, (.load false 1 (.t 20)), none⟩,
 ⟨some 22, (.mv (.t 5)), none⟩,
 ⟨some 23, (.iad 1 (.t 21) (.t 22)), none⟩,
 ⟨some 24, (.load false 1 (.t 23)), none⟩,
 ⟨some 25, (.fad 0 (.t 3)), none⟩,
 ⟨some 26, (.load false 1 (.t 25)), none⟩,
 ⟨some 27, (.mv (.t 5)), none⟩,
 ⟨some 28, (.iad 1 (.t 26) (.t 27)), none⟩,
 ⟨some 29, (.load false 1 (.t 28)), none⟩,
 ⟨some 30, (.call (.f 122) [(.t 24), (.t 29)]), none⟩,
 ⟨some 31, (.un .not (.t 30)), none⟩]
 [(0, 2), (1, 2), (0, 5), (1, 5), (2, 5), (3, 5), (4, 5), (0, 6), (1, 6), (2, 6), (3, 6), (4, 6), (0, 7), (1, 7), (2, 7), (3, 7), (4, 7), (5, 7), (6, 7), (0, 8), (1, 8), (2, 8), (3, 8), (4, 8), (0, 9), (1, 9), (2, 9), (3, 9), (4, 9)] [17])
 (.cond (.t 31)
 (.seq
 (.ops [⟨some 4, (.mv (.c (.bool false))), none⟩]
 [] [2, 3, 5, 13, 14, 15, 16, 18, 19, 20, 21, 22, 23, 24, 25, 26, 27, 28, 29, 30, 31])
 .ret)
 .skip)))
 (.ops [⟨some 18, (.mv (.t 5)), none⟩,
 ⟨some 19, (.bin .add (.t 18) (.c (.int .i64 (1)))), none⟩,
 ⟨some 5, (.mv (.t 19)), none⟩]
 [] [31]))))))
 (.seq
 (.ops [⟨some 4, (.mv (.c (.bool true))), none⟩]
 [] [2, 3, 5, 13, 14, 15, 16, 17, 18, 19, 20, 21, 22, 23, 24, 25, 26, 27, 28, 29, 30])
 .ret))))⟩
def loc58 : List Nat := [2, 3]
def fg58 : List (Nat × List Nat) := [(8, [2, 3, 5, 13, 14, 15, 16, 17, 18, 19, 20, 21, 22, 23, 24, 25, 26, 27, 28, 29, 30]), (5, [31]), (7, [2, 3, 5, 13, 14, 15, 16, 18, 19, 20, 21, 22, 23, 24, 25, 26, 27, 28, 29, 30, 31]), (6, [17]), (3, [12]), (2, [2, 3, 12]), (1, [6, 7, 8, 9, 10, 11]), (0, [0, 1, 4])]
theorem comp58 : compFn Try.prog loc58 (fun i => (fg58.lookup i).getD []) Try.f58 = some lit58 := by kernel_rfl

-- parcener/ask.Check
def lit79 : AFn := ⟨1, [.tmp 2],
 (.seq
 (.ops [⟨some 1, (.boxL (.t 0)), none⟩,
 ⟨some 2, (.mv (.c (.int .i64 (0)))), none⟩]
 [] [0, 2])
 (.seq
 (.seq
 (.ops [⟨some 8, (.fad 0 (.t 1)), none⟩,
 ⟨some 9, (.load false 1 (.t 8)), none⟩,
 ⟨some 10, (.len (.t 9)), none⟩,
 ⟨some 11, (.bin .gtr (.t 10) (.c (.int .i64 (6)))), none⟩,
 ⟨some 12, (.mv (.t 11)), none⟩,
 ⟨some 13, (.fad 1 (.t 1)), some (12, false)⟩,
 ⟨some 14, (.load false 1 (.t 13)), some (12, false)⟩,
 ⟨some 15, (.len (.t 14)), some (12, false)⟩,
 ⟨some 16, (.bin .gtr (.t 15) (.c (.int .i64 (2000)))), some (12, false)⟩,
 ⟨some 17, (.pick (.t 12) (.c (.bool true)) (.t 16)), none⟩]
 [] [8, 9, 10, 11, 12, 13, 14, 15, 16])
 (.cond (.t 17)
 (.seq
 (.ops [⟨some 2, (.mv (.c (.int .i64 (4)))), none⟩]
 [] [1, 17])
 .ret)
 .skip))
 (.seq
 (.seq
 (.ops [⟨some 18, (.fad 0 (.t 1)), none⟩,
 ⟨some 19, (.load false 1 (.t 18)), none⟩,
 ⟨some 20, (.len (.t 19)), none⟩,
 ⟨some 21, (.bin .eql (.t 20) (.c (.int .i64 (0)))), none⟩]
 [] [17, 18, 19, 20])
 (.cond (.t 21)
 (.seq
 (.ops [⟨some 2, (.mv (.c (.int .i64 (8)))), none⟩]
 [] [1, 21])
 .ret)
 .skip))
 (.seq
 (.seq
 (.ops [⟨some 22, (.fad 0 (.t 1)), none⟩,
 ⟨some 23, (.load false 1 (.t 22)), none⟩,
 ⟨some 24, (.len (.t 23)), none⟩,
 ⟨some 25, (.mv (.c (.int .i64 (0)))), none⟩]
 [] [21, 22])
 (.block 0
 (.loop
 (.seq
 (.ops [⟨some 26, (.bin .lss (.t 25) (.t 24)), none⟩]
 [] [])
 (.seq
 (.cond (.t 26)
 .skip
 (.exit 0))
 (.seq
 (.block 1
 (.seq
 (.ops [⟨some 27, (.iad 3 (.t 23) (.t 25)), none⟩,
 ⟨some 28, (.load true 3 (.t 27)), none⟩,
 ⟨some 4, (.allocL (.agg [(.int .i64 (0)), .nils, .nils])), none⟩,
 ⟨none, (.store 3 (.t 4) (.t 28)), none⟩]
 [] [26])
 (.seq
 (.ops [⟨some 29, (.load true 3 (.t 4)), none⟩,
 ⟨some 30, (.call (.f 92) [(.t 29)]), none⟩,
 ⟨some 5, (.mv (.t 30)), none⟩]
 [] [])
 (.seq
 (.ops [⟨some 31, (.mv (.t 5)), none⟩,
 ⟨some 32, (.bin .neq (.t 31) (.c (.int .i64 (0)))), none⟩]
 [] [])
 (.cond (.t 32)
 (.seq
 (.ops [⟨some 33, (.mv (.t 5)), none⟩,
 ⟨some 2, (.mv (.t 33)), none⟩]
 [] [1, 4, 5, 23, 24, 25, 27, 28, 29, 30, 31, 32, 33, 34])
 .ret)
 .skip)))))
 (.ops [⟨some 34, (.bin .add (.t 25) (.c (.int .i64 (1)))), none⟩,
 ⟨some 25, (.mv (.t 34)), none⟩]
 [] [5, 32])))))))
 (.seq
 (.seq
 (.ops [⟨some 35, (.fad 0 (.t 1)), none⟩,
 ⟨some 36, (.load false 1 (.t 35)), none⟩,
 ⟨some 37, (.len (.t 36)), none⟩,
 ⟨some 38, (.mv (.c (.int .i64 (0)))), none⟩]
 [] [4, 23, 24, 25, 26, 27, 28, 29, 30, 31, 34, 35])
 (.block 2
 (.loop
 (.seq
 (.ops [⟨some 39, (.bin .lss (.t 38) (.t 37)), none⟩]
 [] [])
 (.seq
 (.cond (.t 39)
 .skip
 (.exit 2))
 (.seq
 (.block 3
 (.seq
 (.ops [⟨some 40, (.iad 3 (.t 36) (.t 38)), none⟩,
 ⟨some 41, (.load true 3 (.t 40)), none⟩,
 ⟨some 7, (.allocL (.agg [(.int .i64 (0)), .nils, .nils])), none⟩,
 ⟨none, (.store 3 (.t 7) (.t 41)), none⟩]
 [] [39])
 (.seq
 (.ops [⟨some 42, (.fad 0 (.t 7)), none⟩,
 ⟨some 43, (.load false 1 (.t 42)), none⟩,
 ⟨some 44, (.fad 0 (.t 1)), none⟩,
 ⟨some 45, (.load false 1 (.t 44)), none⟩,
 ⟨some 46, (.iad 3 (.t 45) (.c (.int .i64 (0)))), none⟩,
 ⟨some 47, (.fad 0 (.t 46)), none⟩,
 ⟨some 48, (.load false 1 (.t 47)), none⟩,
 ⟨some 49, (.bin .neq (.t 43) (.t 48)), none⟩]
 [(0, 2), (1, 2), (0, 3), (1, 3), (0, 4), (1, 4), (0, 5), (1, 5), (0, 6), (1, 6)] [])
 (.cond (.t 49)
 (.seq
 (.ops [⟨some 2, (.mv (.c (.int .i64 (8)))), none⟩]
 [] [1, 7, 36, 37, 38, 40, 41, 42, 43, 44, 45, 46, 47, 48, 49, 50])
 .ret)
 .skip))))
 (.ops [⟨some 50, (.bin .add (.t 38) (.c (.int .i64 (1)))), none⟩,
 ⟨some 38, (.mv (.t 50)), none⟩]
 [] [49])))))))
 (.seq
 (.ops [⟨some 2, (.mv (.c (.int .i64 (0)))), none⟩]
 [] [1, 7, 36, 37, 38, 39, 40, 41, 42, 43, 44, 45, 46, 47, 48, 50])
 .ret))))))⟩
def loc79 : List Nat := [1, 4, 7]
def fg79 : List (Nat × List Nat) := [(18, [1, 7, 36, 37, 38, 39, 40, 41, 42, 43, 44, 45, 46, 47, 48, 50]), (17, [49]), (16, [1, 7, 36, 37, 38, 40, 41, 42, 43, 44, 45, 46, 47, 48, 49, 50]), (14, [39]), (12, [4, 23, 24, 25, 26, 27, 28, 29, 30, 31, 34, 35]), (11, [5, 32]), (10, [1, 4, 5, 23, 24, 25, 27, 28, 29, 30, 31, 32, 33, 34]), (7, [26]), (5, [21, 22]), (4, [1, 21]), (3, [17, 18, 19, 20]), (2, [1, 17]), (1, [8, 9, 10, 11, 12, 13, 14, 15, 16]), (0, [0, 2])]
theorem comp79 : compFn Try.prog loc79 (fun i => (fg79.lookup i).getD []) Try.f79 = some lit79 := by kernel_rfl

-- parcener/knife.whole
def lit80 : AFn := ⟨1, [.cell 2 true 2],
 (.seq
 (.ops [⟨some 2, (.allocL (.agg [(.int .i64 (0)), (.int .i64 (0))])), none⟩]
 [] [])
 (.seq
 (.ops [⟨some 3, (.mv (.t 0)), none⟩,
 ⟨some 4, (.build [(.int .i64 (0)), (.int .i64 (0))] [(0, 1, (.t 3)), (1, 1, (.c (.int .i64 (1))))]), none⟩,
 ⟨none, (.store 2 (.t 2) (.t 4)), none⟩]
 [] [0, 3, 4])
 .ret))⟩
def loc80 : List Nat := [2]
def fg80 : List (Nat × List Nat) := [(1, [0, 3, 4])]
theorem comp80 : compFn Try.prog loc80 (fun i => (fg80.lookup i).getD []) Try.f80 = some lit80 := by kernel_rfl

-- parcener/knife.sooner
def lit81 : AFn := ⟨2, [.cell 4 true 2],
 (.seq
 (.ops [⟨some 2, (.boxL (.t 0)), none⟩,
 ⟨some 3, (.boxL (.t 1)), none⟩,
 ⟨some 4, (.allocL (.agg [(.int .i64 (0)), (.int .i64 (0))])), none⟩]
 [] [0, 1])
 (.seq
 (.seq
 (.ops [⟨some 5, (.load true 2 (.t 2)), none⟩,
 ⟨some 6, (.load true 2 (.t 3)), none⟩,
 ⟨some 7, (.call (.f 91) [(.t 5), (.t 6)]), none⟩]
 [] [5, 6])
 (.cond (.t 7)
 (.seq
 (.ops [⟨some 8, (.load true 2 (.t 2)), none⟩,
 ⟨none, (.store 2 (.t 4) (.t 8)), none⟩]
 [] [2, 3, 7, 8])
 .ret)
 .skip))
 (.seq
 (.ops [⟨some 9, (.load true 2 (.t 3)), none⟩,
 ⟨none, (.store 2 (.t 4) (.t 9)), none⟩]
 [] [2, 3, 7, 9])
 .ret)))⟩
def loc81 : List Nat := [2, 3, 4]
def fg81 : List (Nat × List Nat) := [(3, [2, 3, 7, 9]), (2, [2, 3, 7, 8]), (1, [5, 6]), (0, [0, 1])]
theorem comp81 : compFn Try.prog loc81 (fun i => (fg81.lookup i).getD []) Try.f81 = some lit81 := by kernel_rfl

-- parcener/knife.next
def lit82 : AFn := ⟨2, [.cell 4 true 2],
 (.seq
 (.ops [⟨some 2, (.boxL (.t 0)), none⟩,
 ⟨some 3, (.boxL (.t 1)), none⟩,
 ⟨some 4, (.allocL (.agg [(.int .i64 (0)), (.int .i64 (0))])), none⟩]
 [] [0, 1])
 (.seq
 (.seq
 (.ops [⟨some 7, (.fad 1 (.t 2)), none⟩,
 ⟨some 8, (.load false 1 (.t 7)), none⟩,
 ⟨some 9, (.len (.t 8)), none⟩,
 ⟨some 10, (.mv (.c (.int .i64 (0)))), none⟩]
 [] [7])
 (.block 0
 (.loop
 (.seq
 (.ops [⟨some 11, (.bin .lss (.t 10) (.t 9)), none⟩]
 [] [])
 (.seq
 (.cond (.t 11)
 .skip
 (.exit 0))
 (.seq
 (.block 1
 (.seq
 (.ops [⟨some 12, (.iad 1 (.t 8) (.t 10)), none⟩,
 ⟨some 13, (.load false 1 (.t 12)), none⟩,
 ⟨some 6, (.mv (.t 13)), none⟩]
 [] [11])
 (.seq
 (.ops [⟨some 14, (.load true 2 (.t 3)), none⟩,
 ⟨some 15, (.mv (.t 6)), none⟩,
 ⟨some 16, (.call (.f 80) [(.t 15)]), none⟩,
 ⟨some 17, (.call (.f 91) [(.t 14), (.t 16)]), none⟩]
 [(0, 1), (0, 2)] [])
 (.cond (.t 17)
 (.seq
 (.ops [⟨some 18, (.mv (.t 6)), none⟩,
 ⟨some 19, (.call (.f 80) [(.t 18)]), none⟩,
 ⟨none, (.store 2 (.t 4) (.t 19)), none⟩]
 [] [2, 3, 6, 8, 9, 10, 12, 13, 14, 15, 16, 17, 18, 19, 20])
 .ret)
 .skip))))
 (.ops [⟨some 20, (.bin .add (.t 10) (.c (.int .i64 (1)))), none⟩,
 ⟨some 10, (.mv (.t 20)), none⟩]
 [] [6, 17])))))))
 (.seq
 (.ops [⟨some 21, (.fad 0 (.t 2)), none⟩,
 ⟨some 22, (.load false 1 (.t 21)), none⟩,
 ⟨some 23, (.call (.f 80) [(.t 22)]), none⟩,
 ⟨none, (.store 2 (.t 4) (.t 23)), none⟩]
 [] [2, 3, 8, 9, 10, 11, 12, 13, 14, 15, 16, 20, 21, 22, 23])
 .ret)))⟩
def loc82 : List Nat := [2, 3, 4]
def fg82 : List (Nat × List Nat) := [(7, [2, 3, 8, 9, 10, 11, 12, 13, 14, 15, 16, 20, 21, 22, 23]), (6, [6, 17]), (5, [2, 3, 6, 8, 9, 10, 12, 13, 14, 15, 16, 17, 18, 19, 20]), (3, [11]), (1, [7]), (0, [0, 1])]
theorem comp82 : compFn Try.prog loc82 (fun i => (fg82.lookup i).getD []) Try.f82 = some lit82 := by kernel_rfl

-- parcener/knife.ahead
def lit83 : AFn := ⟨2, [.cell 4 true 2],
 (.seq
 (.ops [⟨some 2, (.boxL (.t 0)), none⟩,
 ⟨some 3, (.boxL (.t 1)), none⟩,
 ⟨some 4, (.allocL (.agg [(.int .i64 (0)), (.int .i64 (0))])), none⟩]
 [] [0, 1])
 (.seq
 (.ops [⟨some 10, (.load true 3 (.t 2)), none⟩,
 ⟨some 11, (.call (.f 80) [(.c (.int .i64 (0)))]), none⟩,
 ⟨some 12, (.load true 2 (.t 3)), none⟩,
 ⟨some 13, (.call (.f 94) [(.t 10), (.t 11), (.t 12)]), none⟩,
 ⟨some 9, (.mv (.t 13)), none⟩,
 ⟨some 14, (.ext (.t 9) 0), none⟩,
 ⟨some 15, (.ext (.t 9) 1), none⟩,
 ⟨some 5, (.allocL (.agg [(.int .i64 (0)), (.int .i64 (0))])), none⟩,
 ⟨none, (.store 2 (.t 5) (.t 14)), none⟩,
 ⟨some 6, (.mv (.t 15)), none⟩]
 [(0, 1), (0, 2), (1, 2), (5, 6), (0, 7), (1, 7), (2, 7), (3, 7), (4, 7), (5, 7), (6, 7), (6, 8)] [3, 6, 9, 10, 11, 12, 13, 14, 15])
 (.seq
 (.ops [⟨some 17, (.load true 2 (.t 5)), none⟩,
 ⟨some 18, (.load true 3 (.t 2)), none⟩,
 ⟨some 19, (.call (.f 90) [(.t 18), (.c (.int .i64 (2)))]), none⟩,
 ⟨some 20, (.call (.f 84) [(.t 17), (.t 19)]), none⟩,
 ⟨some 16, (.mv (.t 20)), none⟩,
 ⟨some 21, (.ext (.t 16) 0), none⟩,
 ⟨some 22, (.ext (.t 16) 1), none⟩,
 ⟨none, (.store 2 (.t 5) (.t 21)), none⟩]
 [(0, 1), (0, 2), (5, 6), (6, 7)] [16, 17, 18, 19, 20, 21, 22])
 (.seq
 (.ops [⟨some 24, (.load true 3 (.t 2)), none⟩,
 ⟨some 25, (.call (.f 80) [(.c (.int .i64 (0)))]), none⟩,
 ⟨some 26, (.load true 2 (.t 5)), none⟩,
 ⟨some 27, (.call (.f 93) [(.t 24), (.t 25), (.t 26)]), none⟩,
 ⟨some 23, (.mv (.t 27)), none⟩,
 ⟨some 28, (.ext (.t 23) 0), none⟩,
 ⟨some 29, (.ext (.t 23) 1), none⟩,
 ⟨some 7, (.allocL (.agg [(.int .i64 (0)), (.int .i64 (0))])), none⟩,
 ⟨none, (.store 2 (.t 7) (.t 28)), none⟩,
 ⟨some 8, (.mv (.t 29)), none⟩]
 [(0, 1), (0, 2), (1, 2), (5, 6), (0, 7), (1, 7), (2, 7), (3, 7), (4, 7), (5, 7), (6, 7), (6, 8)] [2, 5, 8, 23, 24, 25, 26, 27, 28, 29])
 (.seq
 (.ops [⟨some 30, (.load true 2 (.t 7)), none⟩,
 ⟨none, (.store 2 (.t 4) (.t 30)), none⟩]
 [] [7, 30])
 .ret)))))⟩
def loc83 : List Nat := [2, 3, 4, 5, 7]
def fg83 : List (Nat × List Nat) := [(4, [7, 30]), (3, [2, 5, 8, 23, 24, 25, 26, 27, 28, 29]), (2, [16, 17, 18, 19, 20, 21, 22]), (1, [3, 6, 9, 10, 11, 12, 13, 14, 15]), (0, [0, 1])]
theorem comp83 : compFn Try.prog loc83 (fun i => (fg83.lookup i).getD []) Try.f83 = some lit83 := by kernel_rfl

-- parcener/ratio.Sub
def lit84 : AFn := ⟨2, [.cell 4 true 2, .tmp 5],
 (.seq
 (.ops [⟨some 2, (.boxL (.t 0)), none⟩,
 ⟨some 3, (.boxL (.t 1)), none⟩,
 ⟨some 4, (.allocL (.agg [(.int .i64 (0)), (.int .i64 (0))])), none⟩,
 ⟨some 5, (.mv (.c (.int .i64 (0)))), none⟩]
 [] [0, 1, 5])
 (.seq
 (.seq
 (.ops [⟨some 7, (.load true 2 (.t 2)), none⟩,
 ⟨some 8, (.load true 2 (.t 3)), none⟩,
 ⟨some 9, (.call (.f 157) [(.t 7), (.t 8)]), none⟩,
 ⟨some 6, (.mv (.t 9)), none⟩]
 [] [7, 8, 9])
 (.seq
 (.ops [⟨some 10, (.mv (.t 6)), none⟩,
 ⟨some 11, (.bin .neq (.t 10) (.c (.int .i64 (0)))), none⟩]
 [] [10])
 (.cond (.t 11)
 (.seq
 (.ops [⟨some 12, (.build [(.int .i64 (0)), (.int .i64 (0))] []), none⟩,
 ⟨some 13, (.mv (.t 6)), none⟩,
 ⟨none, (.store 2 (.t 4) (.t 12)), none⟩,
 ⟨some 5, (.mv (.t 13)), none⟩]
 [] [2, 3, 6, 11, 12, 13])
 .ret)
 .skip)))
 (.seq
 (.ops [⟨some 14, (.fad 0 (.t 3)), none⟩,
 ⟨some 15, (.load false 1 (.t 14)), none⟩,
 ⟨some 16, (.un .neg (.t 15)), none⟩,
 ⟨some 17, (.fad 0 (.t 3)), none⟩,
 ⟨none, (.store 1 (.t 17) (.t 16)), none⟩]
 [] [6, 11, 14, 15, 16, 17])
 (.seq
 (.ops [⟨some 18, (.load true 2 (.t 2)), none⟩,
 ⟨some 19, (.load true 2 (.t 3)), none⟩,
 ⟨some 20, (.call (.f 87) [(.t 18), (.t 19)]), none⟩,
 ⟨some 21, (.ext (.t 20) 0), none⟩,
 ⟨some 22, (.ext (.t 20) 1), none⟩,
 ⟨none, (.store 2 (.t 4) (.t 21)), none⟩,
 ⟨some 5, (.mv (.t 22)), none⟩]
 [] [2, 3, 18, 19, 20, 21, 22])
 .ret))))⟩
def loc84 : List Nat := [2, 3, 4]
def fg84 : List (Nat × List Nat) := [(5, [2, 3, 18, 19, 20, 21, 22]), (4, [6, 11, 14, 15, 16, 17]), (3, [2, 3, 6, 11, 12, 13]), (2, [10]), (1, [7, 8, 9]), (0, [0, 1, 5])]
theorem comp84 : compFn Try.prog loc84 (fun i => (fg84.lookup i).getD []) Try.f84 = some lit84 := by kernel_rfl

-- parcener/ratio.Div
def lit85 : AFn := ⟨2, [.cell 4 true 2, .tmp 5],
 (.seq
 (.ops [⟨some 2, (.boxL (.t 0)), none⟩,
 ⟨some 3, (.boxL (.t 1)), none⟩,
 ⟨some 4, (.allocL (.agg [(.int .i64 (0)), (.int .i64 (0))])), none⟩,
 ⟨some 5, (.mv (.c (.int .i64 (0)))), none⟩]
 [] [0, 1, 5])
 (.seq
 (.seq
 (.ops [⟨some 7, (.load true 2 (.t 2)), none⟩,
 ⟨some 8, (.load true 2 (.t 3)), none⟩,
 ⟨some 9, (.call (.f 157) [(.t 7), (.t 8)]), none⟩,
 ⟨some 6, (.mv (.t 9)), none⟩]
 [] [7, 8, 9])
 (.seq
 (.ops [⟨some 10, (.mv (.t 6)), none⟩,
 ⟨some 11, (.bin .neq (.t 10) (.c (.int .i64 (0)))), none⟩]
 [] [10])
 (.cond (.t 11)
 (.seq
 (.ops [⟨some 12, (.build [(.int .i64 (0)), (.int .i64 (0))] []), none⟩,
 ⟨some 13, (.mv (.t 6)), none⟩,
 ⟨none, (.store 2 (.t 4) (.t 12)), none⟩,
 ⟨some 5, (.mv (.t 13)), none⟩]
 [] [2, 3, 6, 11, 12, 13])
 .ret)
 .skip)))
 (.seq
 (.block 0
 (.seq
 (.ops [⟨some 15, (.fad 0 (.t 3)), none⟩,
 ⟨some 16, (.load false 1 (.t 15)), none⟩,
 ⟨some 17, (.bin .eql (.t 16) (.c (.int .i64 (0)))), none⟩,
 ⟨some 14, (.mv (.t 17)), none⟩]
 [] [6, 11, 15, 16, 17])
 (.cond (.t 14)
 (.seq
 (.ops [⟨some 18, (.build [(.int .i64 (0)), (.int .i64 (0))] []), none⟩,
 ⟨none, (.store 2 (.t 4) (.t 18)), none⟩,
 ⟨some 5, (.mv (.c (.int .i64 (18)))), none⟩]
 [] [2, 3, 14, 18])
 .ret)
 (.seq
 (.ops [⟨some 20, (.fad 0 (.t 3)), none⟩,
 ⟨some 21, (.load false 1 (.t 20)), none⟩,
 ⟨some 22, (.bin .lss (.t 21) (.c (.int .i64 (0)))), none⟩,
 ⟨some 19, (.mv (.t 22)), none⟩]
 [] [14, 20, 21, 22])
 (.cond (.t 19)
 (.seq
 (.ops [⟨some 23, (.load true 2 (.t 2)), none⟩,
 ⟨some 24, (.fad 1 (.t 3)), none⟩,
 ⟨some 25, (.load false 1 (.t 24)), none⟩,
 ⟨some 26, (.un .neg (.t 25)), none⟩,
 ⟨some 27, (.fad 0 (.t 3)), none⟩,
 ⟨some 28, (.load false 1 (.t 27)), none⟩,
 ⟨some 29, (.un .neg (.t 28)), none⟩,
 ⟨some 30, (.build [(.int .i64 (0)), (.int .i64 (0))] [(0, 1, (.t 26)), (1, 1, (.t 29))]), none⟩,
 ⟨some 31, (.call (.f 86) [(.t 23), (.t 30)]), none⟩,
 ⟨some 32, (.ext (.t 31) 0), none⟩,
 ⟨some 33, (.ext (.t 31) 1), none⟩,
 ⟨none, (.store 2 (.t 4) (.t 32)), none⟩,
 ⟨some 5, (.mv (.t 33)), none⟩]
 [] [2, 3, 19, 23, 24, 25, 26, 27, 28, 29, 30, 31, 32, 33])
 .ret)
 .skip)))))
 (.seq
 (.ops [⟨some 34, (.load true 2 (.t 2)), none⟩,
 ⟨some 35, (.fad 1 (.t 3)), none⟩,
 ⟨some 36, (.load false 1 (.t 35)), none⟩,
 ⟨some 37, (.fad 0 (.t 3)), none⟩,
 ⟨some 38, (.load false 1 (.t 37)), none⟩,
 ⟨some 39, (.build [(.int .i64 (0)), (.int .i64 (0))] [(0, 1, (.t 36)), (1, 1, (.t 38))]), none⟩,
 ⟨some 40, (.call (.f 86) [(.t 34), (.t 39)]), none⟩,
 ⟨some 41, (.ext (.t 40) 0), none⟩,
 ⟨some 42, (.ext (.t 40) 1), none⟩,
 ⟨none, (.store 2 (.t 4) (.t 41)), none⟩,
 ⟨some 5, (.mv (.t 42)), none⟩]
 [] [2, 3, 19, 34, 35, 36, 37, 38, 39, 40, 41, 42])
 .ret))))⟩
def loc85 : List Nat := [2, 3, 4]
def fg85 : List (Nat × List Nat) := [(8, [2, 3, 19, 34, 35, 36, 37, 38, 39, 40, 41, 42]), (7, [2, 3, 19, 23, 24, 25, 26, 27, 28, 29, 30, 31, 32, 33]), (6, [14, 20, 21, 22]), (5, [2, 3, 14, 18]), (4, [6, 11, 15, 16, 17]), (3, [2, 3, 6, 11, 12, 13]), (2, [10]), (1, [7, 8, 9]), (0, [0, 1, 5])]
theorem comp85 : compFn Try.prog loc85 (fun i => (fg85.lookup i).getD []) Try.f85 = some lit85 := by kernel_rfl

-- parcener/ratio.Mul
def lit86 : AFn := ⟨2, [.cell 4 true 2, .tmp 5],
 (.seq
 (.ops [⟨some 2, (.boxL (.t 0)), none⟩,
 ⟨some 3, (.boxL (.t 1)), none⟩,
 ⟨some 4, (.allocL (.agg [(.int .i64 (0)), (.int .i64 (0))])), none⟩,
 ⟨some 5, (.mv (.c (.int .i64 (0)))), none⟩]
 [] [0, 1, 5])
 (.seq
 (.seq
 (.ops [⟨some 17, (.load true 2 (.t 2)), none⟩,
 ⟨some 18, (.load true 2 (.t 3)), none⟩,
 ⟨some 19, (.call (.f 157) [(.t 17), (.t 18)]), none⟩,
 ⟨some 6, (.mv (.t 19)), none⟩]
 [] [17, 18, 19])
 (.seq
 (.ops [⟨some 20, (.mv (.t 6)), none⟩,
 ⟨some 21, (.bin .neq (.t 20) (.c (.int .i64 (0)))), none⟩]
 [] [20])
 (.cond (.t 21)
 (.seq
 (.ops [⟨some 22, (.build [(.int .i64 (0)), (.int .i64 (0))] []), none⟩,
 ⟨some 23, (.mv (.t 6)), none⟩,
 ⟨none, (.store 2 (.t 4) (.t 22)), none⟩,
 ⟨some 5, (.mv (.t 23)), none⟩]
 [] [2, 3, 6, 21, 22, 23])
 .ret)
 .skip)))
 (.seq
 (.ops [⟨some 24, (.fad 0 (.t 2)), none⟩,
 ⟨some 25, (.load false 1 (.t 24)), none⟩,
 ⟨some 26, (.call (.f 158) [(.t 25)]), none⟩,
 ⟨some 27, (.fad 1 (.t 2)), none⟩,
 ⟨some 28, (.load false 1 (.t 27)), none⟩,
 ⟨some 29, (.conv .u64 (.t 28)), none⟩,
 ⟨some 30, (.fad 0 (.t 3)), none⟩,
 ⟨some 31, (.load false 1 (.t 30)), none⟩,
 ⟨some 32, (.call (.f 158) [(.t 31)]), none⟩,
 ⟨some 33, (.fad 1 (.t 3)), none⟩,
 ⟨some 34, (.load false 1 (.t 33)), none⟩,
 ⟨some 35, (.conv .u64 (.t 34)), none⟩,
 ⟨some 7, (.mv (.t 26)), none⟩,
 ⟨some 8, (.mv (.t 29)), none⟩,
 ⟨some 9, (.mv (.t 32)), none⟩,
 ⟨some 10, (.mv (.t 35)), none⟩]
 [(0, 3), (1, 3), (2, 3), (0, 4), (1, 4), (2, 4), (0, 5), (1, 5), (2, 5), (0, 6), (1, 6), (2, 6), (3, 6), (4, 6), (5, 6), (0, 7), (1, 7), (2, 7), (3, 7), (4, 7), (5, 7), (3, 8), (4, 8), (5, 8), (0, 9), (1, 9), (2, 9), (3, 9), (4, 9), (5, 9), (6, 9), (7, 9), (8, 9), (0, 10), (1, 10), (2, 10), (3, 10), (4, 10), (5, 10), (6, 10), (7, 10), (8, 10), (0, 11), (1, 11), (2, 11), (3, 11), (4, 11), (5, 11), (6, 11), (7, 11), (8, 11), (3, 12), (4, 12), (5, 12), (9, 12), (10, 12), (11, 12), (9, 13), (10, 13), (11, 13), (9, 14), (10, 14), (11, 14)] [6, 21, 24, 25, 26, 27, 28, 29, 30, 31, 32, 33, 34, 35])
 (.seq
 (.ops [⟨some 36, (.mv (.t 7)), none⟩,
 ⟨some 37, (.mv (.t 10)), none⟩,
 ⟨some 38, (.call (.f 159) [(.t 36), (.t 37)]), none⟩,
 ⟨some 39, (.mv (.t 9)), none⟩,
 ⟨some 40, (.mv (.t 8)), none⟩,
 ⟨some 41, (.call (.f 159) [(.t 39), (.t 40)]), none⟩,
 ⟨some 11, (.mv (.t 38)), none⟩,
 ⟨some 12, (.mv (.t 41)), none⟩]
 [] [36, 37, 38, 39, 40, 41])
 (.seq
 (.ops [⟨some 43, (.mv (.t 7)), none⟩,
 ⟨some 44, (.mv (.t 11)), none⟩,
 ⟨some 45, (.bin .quo (.t 43) (.t 44)), none⟩,
 ⟨some 46, (.mv (.t 9)), none⟩,
 ⟨some 47, (.mv (.t 12)), none⟩,
 ⟨some 48, (.bin .quo (.t 46) (.t 47)), none⟩,
 ⟨some 49, (.call (.f 160) [(.t 45), (.t 48)]), none⟩,
 ⟨some 42, (.mv (.t 49)), none⟩,
 ⟨some 50, (.ext (.t 42) 0), none⟩,
 ⟨some 51, (.ext (.t 42) 1), none⟩,
 ⟨some 13, (.mv (.t 50)), none⟩,
 ⟨some 14, (.mv (.t 51)), none⟩]
 [(0, 1), (0, 3), (1, 3), (2, 3), (0, 4), (1, 4), (2, 4), (3, 4), (0, 5), (1, 5), (2, 5), (8, 9), (9, 10)] [7, 9, 42, 43, 44, 45, 46, 47, 48, 49, 50, 51])
 (.seq
 (.ops [⟨some 53, (.mv (.t 8)), none⟩,
 ⟨some 54, (.mv (.t 12)), none⟩,
 ⟨some 55, (.bin .quo (.t 53) (.t 54)), none⟩,
 ⟨some 56, (.mv (.t 10)), none⟩,
 ⟨some 57, (.mv (.t 11)), none⟩,
 ⟨some 58, (.bin .quo (.t 56) (.t 57)), none⟩,
 ⟨some 59, (.call (.f 160) [(.t 55), (.t 58)]), none⟩,
 ⟨some 52, (.mv (.t 59)), none⟩,
 ⟨some 60, (.ext (.t 52) 0), none⟩,
 ⟨some 61, (.ext (.t 52) 1), none⟩,
 ⟨some 15, (.mv (.t 60)), none⟩,
 ⟨some 16, (.mv (.t 61)), none⟩]
 [(0, 1), (0, 3), (1, 3), (2, 3), (0, 4), (1, 4), (2, 4), (3, 4), (0, 5), (1, 5), (2, 5), (8, 9), (9, 10)] [8, 10, 11, 12, 52, 53, 54, 55, 56, 57, 58, 59, 60, 61])
 (.seq
 (.seq
 (.ops [⟨some 62, (.mv (.t 13)), none⟩,
 ⟨some 63, (.mv (.t 15)), none⟩,
 ⟨some 64, (.bin .add (.t 62) (.t 63)), none⟩,
 ⟨some 65, (.bin .gtr (.t 64) (.c (.int .u64 (0)))), none⟩]
 [] [13, 15, 62, 63, 64])
 (.cond (.t 65)
 (.seq
 (.ops [⟨some 66, (.build [(.int .i64 (0)), (.int .i64 (0))] []), none⟩,
 ⟨none, (.store 2 (.t 4) (.t 66)), none⟩,
 ⟨some 5, (.mv (.c (.int .i64 (16)))), none⟩]
 [] [2, 3, 14, 16, 65, 66])
 .ret)
 .skip))
 (.seq
 (.ops [⟨some 67, (.mv (.t 14)), none⟩,
 ⟨some 68, (.bin .gtr (.t 67) (.c (.int .u64 (0)))), none⟩,
 ⟨some 69, (.mv (.t 68)), none⟩,
 ⟨some 70, (.fad 0 (.t 2)), some (69, true)⟩,
 ⟨some 71, (.load false 1 (.t 70)), some (69, true)⟩,
 ⟨some 72, (.bin .lss (.t 71) (.c (.int .i64 (0)))), some (69, true)⟩,
 ⟨some 73, (.fad 0 (.t 3)), some (69, true)⟩,
 ⟨some 74, (.load false 1 (.t 73)), some (69, true)⟩,
 ⟨some 75, (.bin .lss (.t 74) (.c (.int .i64 (0)))), some (69, true)⟩,
 ⟨some 76, (.eqB true (.t 72) (.t 75)), some (69, true)⟩,
 ⟨some 77, (.pick (.t 69) (.t 76) (.c (.bool false))), none⟩,
 ⟨some 78, (.mv (.t 14)), none⟩,
 ⟨some 79, (.mv (.t 16)), none⟩,
 ⟨some 80, (.call (.f 161) [(.t 77), (.t 78), (.t 79)]), none⟩,
 ⟨some 81, (.ext (.t 80) 0), none⟩,
 ⟨some 82, (.ext (.t 80) 1), none⟩,
 ⟨none, (.store 2 (.t 4) (.t 81)), none⟩,
 ⟨some 5, (.mv (.t 82)), none⟩]
 [] [2, 3, 14, 16, 65, 67, 68, 69, 70, 71, 72, 73, 74, 75, 76, 77, 78, 79, 80, 81, 82])
 .ret))))))))⟩
def loc86 : List Nat := [2, 3, 4]
def fg86 : List (Nat × List Nat) := [(10, [2, 3, 14, 16, 65, 67, 68, 69, 70, 71, 72, 73, 74, 75, 76, 77, 78, 79, 80, 81, 82]), (9, [2, 3, 14, 16, 65, 66]), (8, [13, 15, 62, 63, 64]), (7, [8, 10, 11, 12, 52, 53, 54, 55, 56, 57, 58, 59, 60, 61]), (6, [7, 9, 42, 43, 44, 45, 46, 47, 48, 49, 50, 51]), (5, [36, 37, 38, 39, 40, 41]), (4, [6, 21, 24, 25, 26, 27, 28, 29, 30, 31, 32, 33, 34, 35]), (3, [2, 3, 6, 21, 22, 23]), (2, [20]), (1, [17, 18, 19]), (0, [0, 1, 5])]
theorem comp86 : compFn Try.prog loc86 (fun i => (fg86.lookup i).getD []) Try.f86 = some lit86 := by kernel_rfl

-- parcener/ratio.Add
def lit87 : AFn := ⟨2, [.cell 4 true 2, .tmp 5],
 (.seq
 (.ops [⟨some 2, (.boxL (.t 0)), none⟩,
 ⟨some 3, (.boxL (.t 1)), none⟩,
 ⟨some 4, (.allocL (.agg [(.int .i64 (0)), (.int .i64 (0))])), none⟩,
 ⟨some 5, (.mv (.c (.int .i64 (0)))), none⟩]
 [] [0, 1, 5])
 (.seq
 (.seq
 (.ops [⟨some 21, (.load true 2 (.t 2)), none⟩,
 ⟨some 22, (.load true 2 (.t 3)), none⟩,
 ⟨some 23, (.call (.f 157) [(.t 21), (.t 22)]), none⟩,
 ⟨some 6, (.mv (.t 23)), none⟩]
 [] [21, 22, 23])
 (.seq
 (.ops [⟨some 24, (.mv (.t 6)), none⟩,
 ⟨some 25, (.bin .neq (.t 24) (.c (.int .i64 (0)))), none⟩]
 [] [24])
 (.cond (.t 25)
 (.seq
 (.ops [⟨some 26, (.build [(.int .i64 (0)), (.int .i64 (0))] []), none⟩,
 ⟨some 27, (.mv (.t 6)), none⟩,
 ⟨none, (.store 2 (.t 4) (.t 26)), none⟩,
 ⟨some 5, (.mv (.t 27)), none⟩]
 [] [2, 3, 6, 25, 26, 27])
 .ret)
 .skip)))
 (.seq
 (.ops [⟨some 28, (.fad 1 (.t 2)), none⟩,
 ⟨some 29, (.load false 1 (.t 28)), none⟩,
 ⟨some 30, (.conv .u64 (.t 29)), none⟩,
 ⟨some 31, (.fad 1 (.t 3)), none⟩,
 ⟨some 32, (.load false 1 (.t 31)), none⟩,
 ⟨some 33, (.conv .u64 (.t 32)), none⟩,
 ⟨some 34, (.call (.f 159) [(.t 30), (.t 33)]), none⟩,
 ⟨some 7, (.mv (.t 34)), none⟩]
 [] [6, 25, 28, 29, 30, 31, 32, 33, 34])
 (.seq
 (.ops [⟨some 36, (.fad 0 (.t 2)), none⟩,
 ⟨some 37, (.load false 1 (.t 36)), none⟩,
 ⟨some 38, (.call (.f 158) [(.t 37)]), none⟩,
 ⟨some 39, (.fad 1 (.t 3)), none⟩,
 ⟨some 40, (.load false 1 (.t 39)), none⟩,
 ⟨some 41, (.conv .u64 (.t 40)), none⟩,
 ⟨some 42, (.mv (.t 7)), none⟩,
 ⟨some 43, (.bin .quo (.t 41) (.t 42)), none⟩,
 ⟨some 44, (.call (.f 160) [(.t 38), (.t 43)]), none⟩,
 ⟨some 35, (.mv (.t 44)), none⟩,
 ⟨some 45, (.ext (.t 35) 0), none⟩,
 ⟨some 46, (.ext (.t 35) 1), none⟩,
 ⟨some 8, (.mv (.t 45)), none⟩,
 ⟨some 9, (.mv (.t 46)), none⟩]
 [(0, 3), (1, 3), (2, 3), (0, 4), (1, 4), (2, 4), (0, 5), (1, 5), (2, 5), (0, 6), (1, 6), (2, 6), (3, 6), (4, 6), (5, 6), (0, 7), (1, 7), (2, 7), (10, 11), (11, 12)] [35, 36, 37, 38, 39, 40, 41, 42, 43, 44, 45, 46])
 (.seq
 (.ops [⟨some 48, (.fad 0 (.t 3)), none⟩,
 ⟨some 49, (.load false 1 (.t 48)), none⟩,
 ⟨some 50, (.call (.f 158) [(.t 49)]), none⟩,
 ⟨some 51, (.fad 1 (.t 2)), none⟩,
 ⟨some 52, (.load false 1 (.t 51)), none⟩,
 ⟨some 53, (.conv .u64 (.t 52)), none⟩,
 ⟨some 54, (.mv (.t 7)), none⟩,
 ⟨some 55, (.bin .quo (.t 53) (.t 54)), none⟩,
 ⟨some 56, (.call (.f 160) [(.t 50), (.t 55)]), none⟩,
 ⟨some 47, (.mv (.t 56)), none⟩,
 ⟨some 57, (.ext (.t 47) 0), none⟩,
 ⟨some 58, (.ext (.t 47) 1), none⟩,
 ⟨some 10, (.mv (.t 57)), none⟩,
 ⟨some 11, (.mv (.t 58)), none⟩]
 [(0, 3), (1, 3), (2, 3), (0, 4), (1, 4), (2, 4), (0, 5), (1, 5), (2, 5), (0, 6), (1, 6), (2, 6), (3, 6), (4, 6), (5, 6), (0, 7), (1, 7), (2, 7), (10, 11), (11, 12)] [47, 48, 49, 50, 51, 52, 53, 54, 55, 56, 57, 58])
 (.seq
 (.ops [⟨some 59, (.fad 0 (.t 2)), none⟩,
 ⟨some 60, (.load false 1 (.t 59)), none⟩,
 ⟨some 61, (.bin .lss (.t 60) (.c (.int .i64 (0)))), none⟩,
 ⟨some 12, (.mv (.t 61)), none⟩]
 [] [59, 60, 61])
 (.seq
 (.ops [⟨some 13, (.mv (.c (.int .u64 (0)))), none⟩,
 ⟨some 14, (.mv (.c (.int .u64 (0)))), none⟩,
 ⟨some 15, (.mv (.c (.int .u64 (0)))), none⟩]
 [] [13, 14, 15])
 (.seq
 (.seq
 (.ops [⟨some 62, (.fad 0 (.t 2)), none⟩,
 ⟨some 63, (.load false 1 (.t 62)), none⟩,
 ⟨some 64, (.bin .lss (.t 63) (.c (.int .i64 (0)))), none⟩,
 ⟨some 65, (.fad 0 (.t 3)), none⟩,
 ⟨some 66, (.load false 1 (.t 65)), none⟩,
 ⟨some 67, (.bin .lss (.t 66) (.c (.int .i64 (0)))), none⟩,
 ⟨some 68, (.eqB false (.t 64) (.t 67)), none⟩]
 [] [62, 63, 64, 65, 66, 67])
 (.cond (.t 68)
 (.seq
 (.ops [⟨some 70, (.mv (.t 9)), none⟩,
 ⟨some 71, (.mv (.t 11)), none⟩,
 ⟨some 72, (.call (.f 162) [(.t 70), (.t 71), (.c (.int .u64 (0)))]), none⟩,
 ⟨some 69, (.mv (.t 72)), none⟩,
 ⟨some 73, (.ext (.t 69) 0), none⟩,
 ⟨some 74, (.ext (.t 69) 1), none⟩,
 ⟨some 14, (.mv (.t 73)), none⟩,
 ⟨some 15, (.mv (.t 74)), none⟩]
 [] [9, 11, 68, 69, 70, 71, 72, 73, 74])
 (.ops [⟨some 76, (.mv (.t 8)), none⟩,
 ⟨some 77, (.mv (.t 10)), none⟩,
 ⟨some 78, (.mv (.t 15)), none⟩,
 ⟨some 79, (.call (.f 162) [(.t 76), (.t 77), (.t 78)]), none⟩,
 ⟨some 75, (.mv (.t 79)), none⟩,
 ⟨some 80, (.ext (.t 75) 0), none⟩,
 ⟨some 81, (.ext (.t 75) 1), none⟩,
 ⟨some 13, (.mv (.t 80)), none⟩]
 [] [8, 10, 15, 75, 76, 77, 78, 79, 80, 81]))
 (.seq
 (.seq
 (.ops [⟨some 82, (.mv (.t 8)), none⟩,
 ⟨some 83, (.mv (.t 10)), none⟩,
 ⟨some 84, (.bin .lss (.t 82) (.t 83)), none⟩,
 ⟨some 85, (.mv (.t 84)), none⟩,
 ⟨some 86, (.mv (.t 8)), some (85, false)⟩,
 ⟨some 87, (.mv (.t 10)), some (85, false)⟩,
 ⟨some 88, (.bin .eql (.t 86) (.t 87)), some (85, false)⟩,
 ⟨some 89, (.mv (.t 88)), some (85, false)⟩,
 ⟨some 90, (.mv (.t 9)), some (89, true)⟩,
 ⟨some 91, (.mv (.t 11)), some (89, true)⟩,
 ⟨some 92, (.bin .lss (.t 90) (.t 91)), some (89, true)⟩,
 ⟨some 93, (.pick (.t 89) (.t 92) (.c (.bool false))), some (85, false)⟩,
 ⟨some 94, (.pick (.t 85) (.c (.bool true)) (.t 93)), none⟩]
 [] [68, 82, 83, 84, 85, 86, 87, 88, 89, 90, 91, 92, 93])
 (.cond (.t 94)
 (.seq
 (.ops [⟨some 95, (.mv (.t 10)), none⟩,
 ⟨some 96, (.mv (.t 11)), none⟩,
 ⟨some 97, (.mv (.t 8)), none⟩,
 ⟨some 98, (.mv (.t 9)), none⟩,
 ⟨some 8, (.mv (.t 95)), none⟩,
 ⟨some 9, (.mv (.t 96)), none⟩,
 ⟨some 10, (.mv (.t 97)), none⟩,
 ⟨some 11, (.mv (.t 98)), none⟩]
 [] [94, 95, 96, 97, 98])
 (.ops [⟨some 99, (.mv (.t 12)), none⟩,
 ⟨some 100, (.un .not (.t 99)), none⟩,
 ⟨some 12, (.mv (.t 100)), none⟩]
 [] [99, 100]))
 .skip))
 (.seq
 (.ops [⟨some 102, (.mv (.t 9)), none⟩,
 ⟨some 103, (.mv (.t 11)), none⟩,
 ⟨some 104, (.call (.f 163) [(.t 102), (.t 103), (.c (.int .u64 (0)))]), none⟩,
 ⟨some 101, (.mv (.t 104)), none⟩,
 ⟨some 105, (.ext (.t 101) 0), none⟩,
 ⟨some 106, (.ext (.t 101) 1), none⟩,
 ⟨some 14, (.mv (.t 105)), none⟩,
 ⟨some 15, (.mv (.t 106)), none⟩]
 [] [9, 11, 94, 101, 102, 103, 104, 105, 106])
 (.ops [⟨some 108, (.mv (.t 8)), none⟩,
 ⟨some 109, (.mv (.t 10)), none⟩,
 ⟨some 110, (.mv (.t 15)), none⟩,
 ⟨some 111, (.call (.f 163) [(.t 108), (.t 109), (.t 110)]), none⟩,
 ⟨some 107, (.mv (.t 111)), none⟩,
 ⟨some 112, (.ext (.t 107) 0), none⟩,
 ⟨some 113, (.ext (.t 107) 1), none⟩,
 ⟨some 13, (.mv (.t 112)), none⟩]
 [] [8, 10, 15, 107, 108, 109, 110, 111, 112, 113])))))
 (.seq
 (.seq
 (.ops [⟨some 114, (.mv (.t 13)), none⟩,
 ⟨some 115, (.bin .eql (.t 114) (.c (.int .u64 (0)))), none⟩,
 ⟨some 116, (.mv (.t 115)), none⟩,
 ⟨some 117, (.mv (.t 14)), some (116, true)⟩,
 ⟨some 118, (.bin .eql (.t 117) (.c (.int .u64 (0)))), some (116, true)⟩,
 ⟨some 119, (.pick (.t 116) (.t 118) (.c (.bool false))), none⟩]
 [] [114, 115, 116, 117, 118])
 (.cond (.t 119)
 (.seq
 (.ops [⟨some 120, (.build [(.int .i64 (0)), (.int .i64 (0))] [(1, 1, (.c (.int .i64 (1))))]), none⟩,
 ⟨none, (.store 2 (.t 4) (.t 120)), none⟩,
 ⟨some 5, (.mv (.c (.int .i64 (0)))), none⟩]
 [] [2, 3, 7, 12, 13, 14, 119, 120])
 .ret)
 .skip))
 (.seq
 (.ops [⟨some 121, (.mv (.t 13)), none⟩,
 ⟨some 122, (.mv (.t 14)), none⟩,
 ⟨some 123, (.mv (.t 7)), none⟩,
 ⟨some 124, (.call (.f 164) [(.t 121), (.t 122), (.t 123)]), none⟩,
 ⟨some 125, (.mv (.t 7)), none⟩,
 ⟨some 126, (.call (.f 159) [(.t 124), (.t 125)]), none⟩,
 ⟨some 16, (.mv (.t 126)), none⟩]
 [] [119, 121, 122, 123, 124, 125, 126])
 (.seq
 (.seq
 (.ops [⟨some 127, (.mv (.t 13)), none⟩,
 ⟨some 128, (.mv (.t 16)), none⟩,
 ⟨some 129, (.bin .geq (.t 127) (.t 128)), none⟩]
 [] [127, 128])
 (.cond (.t 129)
 (.seq
 (.ops [⟨some 130, (.build [(.int .i64 (0)), (.int .i64 (0))] []), none⟩,
 ⟨none, (.store 2 (.t 4) (.t 130)), none⟩,
 ⟨some 5, (.mv (.c (.int .i64 (16)))), none⟩]
 [] [2, 3, 7, 12, 13, 14, 16, 129, 130])
 .ret)
 .skip))
 (.seq
 (.ops [⟨some 132, (.mv (.t 13)), none⟩,
 ⟨some 133, (.mv (.t 14)), none⟩,
 ⟨some 134, (.mv (.t 16)), none⟩,
 ⟨some 135, (.call (.f 165) [(.t 132), (.t 133), (.t 134)]), none⟩,
 ⟨some 131, (.mv (.t 135)), none⟩,
 ⟨some 136, (.ext (.t 131) 0), none⟩,
 ⟨some 137, (.ext (.t 131) 1), none⟩,
 ⟨some 17, (.mv (.t 136)), none⟩,
 ⟨some 18, (.mv (.t 137)), none⟩]
 [] [13, 14, 18, 129, 131, 132, 133, 134, 135, 136, 137])
 (.seq
 (.ops [⟨some 139, (.fad 1 (.t 2)), none⟩,
 ⟨some 140, (.load false 1 (.t 139)), none⟩,
 ⟨some 141, (.conv .u64 (.t 140)), none⟩,
 ⟨some 142, (.mv (.t 7)), none⟩,
 ⟨some 143, (.bin .quo (.t 141) (.t 142)), none⟩,
 ⟨some 144, (.fad 1 (.t 3)), none⟩,
 ⟨some 145, (.load false 1 (.t 144)), none⟩,
 ⟨some 146, (.conv .u64 (.t 145)), none⟩,
 ⟨some 147, (.mv (.t 16)), none⟩,
 ⟨some 148, (.bin .quo (.t 146) (.t 147)), none⟩,
 ⟨some 149, (.call (.f 160) [(.t 143), (.t 148)]), none⟩,
 ⟨some 138, (.mv (.t 149)), none⟩,
 ⟨some 150, (.ext (.t 138) 0), none⟩,
 ⟨some 151, (.ext (.t 138) 1), none⟩,
 ⟨some 19, (.mv (.t 150)), none⟩,
 ⟨some 20, (.mv (.t 151)), none⟩]
 [(0, 3), (1, 3), (2, 3), (0, 5), (1, 5), (2, 5), (3, 5), (4, 5), (0, 6), (1, 6), (2, 6), (3, 6), (4, 6), (0, 7), (1, 7), (2, 7), (3, 7), (4, 7), (0, 8), (1, 8), (2, 8), (3, 8), (4, 8), (5, 8), (6, 8), (7, 8), (0, 9), (1, 9), (2, 9), (3, 9), (4, 9), (12, 13), (13, 14)] [2, 3, 7, 16, 138, 139, 140, 141, 142, 143, 144, 145, 146, 147, 148, 149, 150, 151])
 (.seq
 (.seq
 (.ops [⟨some 152, (.mv (.t 19)), none⟩,
 ⟨some 153, (.bin .gtr (.t 152) (.c (.int .u64 (0)))), none⟩]
 [] [19, 152])
 (.cond (.t 153)
 (.seq
 (.ops [⟨some 154, (.build [(.int .i64 (0)), (.int .i64 (0))] []), none⟩,
 ⟨none, (.store 2 (.t 4) (.t 154)), none⟩,
 ⟨some 5, (.mv (.c (.int .i64 (16)))), none⟩]
 [] [12, 17, 20, 153, 154])
 .ret)
 .skip))
 (.seq
 (.ops [⟨some 155, (.mv (.t 12)), none⟩,
 ⟨some 156, (.mv (.t 17)), none⟩,
 ⟨some 157, (.mv (.t 20)), none⟩,
 ⟨some 158, (.call (.f 161) [(.t 155), (.t 156), (.t 157)]), none⟩,
 ⟨some 159, (.ext (.t 158) 0), none⟩,
 ⟨some 160, (.ext (.t 158) 1), none⟩,
 ⟨none, (.store 2 (.t 4) (.t 159)), none⟩,
 ⟨some 5, (.mv (.t 160)), none⟩]
 [] [12, 17, 20, 153, 155, 156, 157, 158, 159, 160])
 .ret)))))))))))))))⟩
def loc87 : List Nat := [2, 3, 4]
def fg87 : List (Nat × List Nat) := [(26, [12, 17, 20, 153, 155, 156, 157, 158, 159, 160]), (25, [12, 17, 20, 153, 154]), (24, [19, 152]), (23, [2, 3, 7, 16, 138, 139, 140, 141, 142, 143, 144, 145, 146, 147, 148, 149, 150, 151]), (22, [13, 14, 18, 129, 131, 132, 133, 134, 135, 136, 137]), (21, [2, 3, 7, 12, 13, 14, 16, 129, 130]), (20, [127, 128]), (19, [119, 121, 122, 123, 124, 125, 126]), (18, [2, 3, 7, 12, 13, 14, 119, 120]), (17, [114, 115, 116, 117, 118]), (16, [8, 10, 15, 107, 108, 109, 110, 111, 112, 113]), (15, [9, 11, 94, 101, 102, 103, 104, 105, 106]), (14, [99, 100]), (13, [94, 95, 96, 97, 98]), (12, [68, 82, 83, 84, 85, 86, 87, 88, 89, 90, 91, 92, 93]), (11, [8, 10, 15, 75, 76, 77, 78, 79, 80, 81]), (10, [9, 11, 68, 69, 70, 71, 72, 73, 74]), (9, [62, 63, 64, 65, 66, 67]), (8, [13, 14, 15]), (7, [59, 60, 61]), (6, [47, 48, 49, 50, 51, 52, 53, 54, 55, 56, 57, 58]), (5, [35, 36, 37, 38, 39, 40, 41, 42, 43, 44, 45, 46]), (4, [6, 25, 28, 29, 30, 31, 32, 33, 34]), (3, [2, 3, 6, 25, 26, 27]), (2, [24]), (1, [21, 22, 23]), (0, [0, 1, 5])]
theorem comp87 : compFn Try.prog loc87 (fun i => (fg87.lookup i).getD []) Try.f87 = some lit87 := by kernel_rfl

-- parcener/ask.Open
def lit88 : AFn := ⟨1, [.cell 2 true 2, .tmp 3],
 (.seq
 (.ops [⟨some 2, (.allocL (.agg [.nils, .nils])), none⟩,
 ⟨some 3, (.mv (.c (.int .i64 (0)))), none⟩]
 [] [3])
 (.seq
 (.seq
 (.ops [⟨some 5, (.mv (.t 0)), none⟩,
 ⟨some 6, (.build [.nils, .nils] [(0, 1, (.t 5))]), none⟩,
 ⟨some 7, (.call (.f 79) [(.t 6)]), none⟩,
 ⟨some 4, (.mv (.t 7)), none⟩]
 [] [5, 6, 7])
 (.seq
 (.ops [⟨some 8, (.mv (.t 4)), none⟩,
 ⟨some 9, (.bin .neq (.t 8) (.c (.int .i64 (0)))), none⟩]
 [] [8])
 (.cond (.t 9)
 (.seq
 (.ops [⟨some 10, (.build [.nils, .nils] []), none⟩,
 ⟨some 11, (.mv (.t 4)), none⟩,
 ⟨none, (.store 2 (.t 2) (.t 10)), none⟩,
 ⟨some 3, (.mv (.t 11)), none⟩]
 [] [0, 4, 9, 10, 11])
 .ret)
 .skip)))
 (.seq
 (.ops [⟨some 12, (.mv (.t 0)), none⟩,
 ⟨some 13, (.call (.f 166) [(.t 12)]), none⟩,
 ⟨some 14, (.build [.nils, .nils] [(0, 1, (.t 13))]), none⟩,
 ⟨none, (.store 2 (.t 2) (.t 14)), none⟩,
 ⟨some 3, (.mv (.c (.int .i64 (0)))), none⟩]
 [] [0, 4, 9, 12, 13, 14])
 .ret)))⟩
def loc88 : List Nat := [2]
def fg88 : List (Nat × List Nat) := [(4, [0, 4, 9, 12, 13, 14]), (3, [0, 4, 9, 10, 11]), (2, [8]), (1, [5, 6, 7]), (0, [3])]
theorem comp88 : compFn Try.prog loc88 (fun i => (fg88.lookup i).getD []) Try.f88 = some lit88 := by kernel_rfl

-- parcener/ask.Mark
def lit89 : AFn := ⟨4, [.cell 8 true 2, .cell 9 true 2, .tmp 10],
 (.seq
 (.ops [⟨some 4, (.boxL (.t 0)), none⟩,
 ⟨some 6, (.boxL (.t 2)), none⟩,
 ⟨some 7, (.boxL (.t 3)), none⟩,
 ⟨some 8, (.allocL (.agg [.nils, .nils])), none⟩,
 ⟨some 9, (.allocL (.agg [(.int .i64 (0)), (.int .i64 (0))])), none⟩,
 ⟨some 10, (.mv (.c (.int .i64 (0)))), none⟩]
 [] [0, 2, 3, 10])
 (.seq
 (.ops [⟨some 12, (.load true 2 (.t 4)), none⟩,
 ⟨some 13, (.build [.nils, .nils] [(0, 2, (.t 12))]), none⟩,
 ⟨some 11, (.allocL (.agg [.nils, .nils])), none⟩,
 ⟨none, (.store 2 (.t 11) (.t 13)), none⟩]
 [] [4, 12, 13])
 (.seq
 (.ops [⟨some 14, (.load true 2 (.t 11)), none⟩,
 ⟨some 15, (.mv (.t 1)), none⟩,
 ⟨some 16, (.load true 2 (.t 6)), none⟩,
 ⟨some 17, (.load true 2 (.t 7)), none⟩,
 ⟨some 18, (.build [(.int .i64 (0)), (.int .u8 (0)), (.int .i64 (0)), (.int .i64 (0)), (.int .i64 (0)), (.int .i64 (0)), (.int .i64 (0)), (.int .i64 (0))] [(0, 1, (.t 15)), (1, 1, (.c (.int .u8 (2)))), (2, 2, (.t 16)), (4, 2, (.t 17))]), none⟩,
 ⟨some 19, (.load true 2 (.t 11)), none⟩,
 ⟨some 20, (.mkFn (.func 168) [(.t 19)] []), none⟩,
 ⟨some 21, (.call (.f 167) [(.t 14), (.t 18), (.t 20)]), none⟩,
 ⟨some 22, (.ext (.t 21) 0), none⟩,
 ⟨some 23, (.ext (.t 21) 1), none⟩,
 ⟨some 24, (.ext (.t 21) 2), none⟩,
 ⟨none, (.store 2 (.t 8) (.t 22)), none⟩,
 ⟨none, (.store 2 (.t 9) (.t 23)), none⟩,
 ⟨some 10, (.mv (.t 24)), none⟩]
 [] [1, 6, 7, 11, 14, 15, 16, 17, 18, 19, 20, 21, 22, 23, 24])
 .ret)))⟩
def loc89 : List Nat := [4, 6, 7, 8, 9, 11]
def fg89 : List (Nat × List Nat) := [(2, [1, 6, 7, 11, 14, 15, 16, 17, 18, 19, 20, 21, 22, 23, 24]), (1, [4, 12, 13]), (0, [0, 2, 3, 10])]
theorem comp89 : compFn Try.prog loc89 (fun i => (fg89.lookup i).getD []) Try.f89 = some lit89 := by kernel_rfl

-- parcener/knife.part
def lit90 : AFn := ⟨2, [.cell 4 true 2],
 (.seq
 (.ops [⟨some 2, (.boxL (.t 0)), none⟩,
 ⟨some 4, (.allocL (.agg [(.int .i64 (0)), (.int .i64 (0))])), none⟩]
 [] [0])
 (.seq
 (.ops [⟨some 10, (.load true 3 (.t 2)), none⟩,
 ⟨some 11, (.call (.f 133) [(.t 10)]), none⟩,
 ⟨some 9, (.mv (.t 11)), none⟩,
 ⟨some 12, (.ext (.t 9) 0), none⟩,
 ⟨some 13, (.ext (.t 9) 1), none⟩,
 ⟨some 5, (.mv (.t 12)), none⟩,
 ⟨some 6, (.mv (.t 13)), none⟩]
 [] [2, 6, 9, 10, 11, 12, 13])
 (.seq
 (.ops [⟨some 15, (.mv (.t 5)), none⟩,
 ⟨some 16, (.mv (.t 1)), none⟩,
 ⟨some 17, (.call (.f 107) [(.t 15), (.t 16)]), none⟩,
 ⟨some 14, (.mv (.t 17)), none⟩,
 ⟨some 18, (.ext (.t 14) 0), none⟩,
 ⟨some 19, (.ext (.t 14) 1), none⟩,
 ⟨some 7, (.allocL (.agg [(.int .i64 (0)), (.int .i64 (0))])), none⟩,
 ⟨none, (.store 2 (.t 7) (.t 18)), none⟩,
 ⟨some 8, (.mv (.t 19)), none⟩]
 [] [1, 5, 8, 14, 15, 16, 17, 18, 19])
 (.seq
 (.ops [⟨some 20, (.load true 2 (.t 7)), none⟩,
 ⟨none, (.store 2 (.t 4) (.t 20)), none⟩]
 [] [7, 20])
 .ret))))⟩
def loc90 : List Nat := [2, 4, 7]
def fg90 : List (Nat × List Nat) := [(3, [7, 20]), (2, [1, 5, 8, 14, 15, 16, 17, 18, 19]), (1, [2, 6, 9, 10, 11, 12, 13]), (0, [0])]
theorem comp90 : compFn Try.prog loc90 (fun i => (fg90.lookup i).getD []) Try.f90 = some lit90 := by kernel_rfl

-- parcener/knife.less
def lit91 : AFn := ⟨2, [.tmp 4],
 (.seq
 (.ops [⟨some 2, (.boxL (.t 0)), none⟩,
 ⟨some 3, (.boxL (.t 1)), none⟩,
 ⟨some 4, (.mv (.c (.bool false))), none⟩]
 [] [0, 1, 4])
 (.seq
 (.ops [⟨some 8, (.load true 2 (.t 2)), none⟩,
 ⟨some 9, (.load true 2 (.t 3)), none⟩,
 ⟨some 10, (.call (.f 149) [(.t 8), (.t 9)]), none⟩,
 ⟨some 7, (.mv (.t 10)), none⟩,
 ⟨some 11, (.ext (.t 7) 0), none⟩,
 ⟨some 12, (.ext (.t 7) 1), none⟩,
 ⟨some 5, (.mv (.t 11)), none⟩,
 ⟨some 6, (.mv (.t 12)), none⟩]
 [] [2, 3, 6, 7, 8, 9, 10, 11, 12])
 (.seq
 (.ops [⟨some 13, (.mv (.t 5)), none⟩,
 ⟨some 14, (.bin .lss (.t 13) (.c (.int .i64 (0)))), none⟩,
 ⟨some 4, (.mv (.t 14)), none⟩]
 [] [5, 13, 14])
 .ret)))⟩
def loc91 : List Nat := [2, 3]
def fg91 : List (Nat × List Nat) := [(2, [5, 13, 14]), (1, [2, 3, 6, 7, 8, 9, 10, 11, 12]), (0, [0, 1, 4])]
theorem comp91 : compFn Try.prog loc91 (fun i => (fg91.lookup i).getD []) Try.f91 = some lit91 := by kernel_rfl

-- parcener/cake.Check
def lit92 : AFn := ⟨1, [.tmp 2],
 (.seq
 (.ops [⟨some 1, (.boxL (.t 0)), none⟩,
 ⟨some 2, (.mv (.c (.int .i64 (0)))), none⟩]
 [] [0, 2])
 (.seq
 (.ops [⟨some 5, (.fad 1 (.t 1)), none⟩,
 ⟨some 6, (.load false 1 (.t 5)), none⟩,
 ⟨some 7, (.len (.t 6)), none⟩,
 ⟨some 3, (.mv (.t 7)), none⟩]
 [] [5, 6, 7])
 (.seq
 (.seq
 (.ops [⟨some 8, (.fad 0 (.t 1)), none⟩,
 ⟨some 9, (.load false 1 (.t 8)), none⟩,
 ⟨some 10, (.bin .gtr (.t 9) (.c (.int .i64 (1000)))), none⟩,
 ⟨some 11, (.mv (.t 10)), none⟩,
 ⟨some 12, (.mv (.t 3)), some (11, false)⟩,
 ⟨some 13, (.bin .gtr (.t 12) (.c (.int .i64 (40)))), some (11, false)⟩,
 ⟨some 14, (.pick (.t 11) (.c (.bool true)) (.t 13)), none⟩]
 [] [8, 9, 10, 11, 12, 13])
 (.cond (.t 14)
 (.seq
 (.ops [⟨some 2, (.mv (.c (.int .i64 (4)))), none⟩]
 [] [1, 3, 14])
 .ret)
 .skip))
 (.seq
 (.seq
 (.ops [⟨some 15, (.fad 0 (.t 1)), none⟩,
 ⟨some 16, (.load false 1 (.t 15)), none⟩,
 ⟨some 17, (.bin .lss (.t 16) (.c (.int .i64 (1)))), none⟩,
 ⟨some 18, (.mv (.t 17)), none⟩,
 ⟨some 19, (.mv (.t 3)), some (18, false)⟩,
 ⟨some 20, (.bin .lss (.t 19) (.c (.int .i64 (2)))), some (18, false)⟩,
 ⟨some 21, (.pick (.t 18) (.c (.bool true)) (.t 20)), none⟩,
 ⟨some 22, (.mv (.t 21)), none⟩,
 ⟨some 23, (.fad 2 (.t 1)), some (22, false)⟩,
 ⟨some 24, (.load false 1 (.t 23)), some (22, false)⟩,
 ⟨some 25, (.len (.t 24)), some (22, false)⟩,
 ⟨some 26, (.mv (.t 3)), some (22, false)⟩,
 ⟨some 27, (.bin .sub (.t 26) (.c (.int .i64 (1)))), some (22, false)⟩,
 ⟨some 28, (.bin .neq (.t 25) (.t 27)), some (22, false)⟩,
 ⟨some 29, (.pick (.t 22) (.c (.bool true)) (.t 28)), none⟩,
 ⟨some 30, (.mv (.t 29)), none⟩,
 ⟨some 31, (.fad 1 (.t 1)), some (30, false)⟩,
 ⟨some 32, (.load false 1 (.t 31)), some (30, false)⟩,
 ⟨some 33, (.iad 1 (.t 32) (.c (.int .i64 (0)))), some (30, false)⟩,
 ⟨some 34, (.load false 1 (.t 33)), some (30, false)⟩,
 ⟨some 35, (.bin .neq (.t 34) (.c (.int .i64 (0)))), some (30, false)⟩,
 ⟨some 36, (.pick (.t 30) (.c (.bool true)) (.t 35)), none⟩,
 ⟨some 37, (.mv (.t 36)), none⟩,
 ⟨some 38, (.fad 1 (.t 1)), some (37, false)⟩,
 ⟨some 39, (.load false 1 (.t 38)), some (37, false)⟩,
 ⟨some 40, (.mv (.t 3)), some (37, false)⟩,
 ⟨some 41, (.bin .sub (.t 40) (.c (.int .i64 (1)))), some (37, false)⟩,
 ⟨some 42, (.iad 1 (.t 39) (.t 41)), some (37, false)⟩,
 ⟨some 43, (.load false 1 (.t 42)), some (37, false)⟩,
 ⟨some 44, (.fad 0 (.t 1)), some (37, false)⟩,
 ⟨some 45, (.load false 1 (.t 44)), some (37, false)⟩,
 ⟨some 46, (.bin .neq (.t 43) (.t 45)), some (37, false)⟩,
 ⟨some 47, (.pick (.t 37) (.c (.bool true)) (.t 46)), none⟩]
 [(8, 11), (9, 11), (10, 11), (8, 12), (9, 12), (10, 12), (23, 25), (24, 25), (23, 26), (24, 26), (23, 29), (24, 29), (25, 29), (26, 29), (27, 29), (28, 29), (23, 30), (24, 30), (25, 30), (26, 30), (27, 30), (28, 30)] [14, 15, 16, 17, 18, 19, 20, 21, 22, 23, 24, 25, 26, 27, 28, 29, 30, 31, 32, 33, 34, 35, 36, 37, 38, 39, 40, 41, 42, 43, 44, 45, 46])
 (.cond (.t 47)
 (.seq
 (.ops [⟨some 2, (.mv (.c (.int .i64 (8)))), none⟩]
 [] [1, 3, 47])
 .ret)
 .skip))
 (.seq
 (.seq
 (.ops [⟨some 48, (.mv (.t 3)), none⟩,
 ⟨some 49, (.bin .sub (.t 48) (.c (.int .i64 (1)))), none⟩,
 ⟨some 50, (.mv (.c (.int .i64 (0)))), none⟩]
 [] [3, 47, 48])
 (.block 0
 (.loop
 (.seq
 (.ops [⟨some 51, (.bin .lss (.t 50) (.t 49)), none⟩]
 [] [])
 (.seq
 (.cond (.t 51)
 .skip
 (.exit 0))
 (.seq
 (.block 1
 (.seq
 (.ops [⟨some 52, (.mv (.t 50)), none⟩,
 ⟨some 4, (.mv (.t 52)), none⟩]
 [] [51])
 (.seq
 (.ops [⟨some 53, (.fad 1 (.t 1)), none⟩,
 ⟨some 54, (.load false 1 (.t 53)), none⟩,
 ⟨some 55, (.mv (.t 4)), none⟩,
 ⟨some 56, (.iad 1 (.t 54) (.t 55)), none⟩,
 ⟨some 57, (.load false 1 (.t 56)), none⟩,
 ⟨some 58, (.fad 1 (.t 1)), none⟩,
 ⟨some 59, (.load false 1 (.t 58)), none⟩,
 ⟨some 60, (.mv (.t 4)), none⟩,
 ⟨some 61, (.bin .add (.t 60) (.c (.int .i64 (1)))), none⟩,
 ⟨some 62, (.iad 1 (.t 59) (.t 61)), none⟩,
 ⟨some 63, (.load false 1 (.t 62)), none⟩,
 ⟨some 64, (.bin .geq (.t 57) (.t 63)), none⟩]
 [(0, 2), (1, 2), (0, 5), (1, 5), (2, 5), (3, 5), (4, 5), (0, 6), (1, 6), (2, 6), (3, 6), (4, 6), (0, 7), (1, 7), (2, 7), (3, 7), (4, 7), (5, 7), (6, 7), (0, 8), (1, 8), (2, 8), (3, 8), (4, 8), (5, 8), (6, 8), (0, 9), (1, 9), (2, 9), (3, 9), (4, 9), (0, 10), (1, 10), (2, 10), (3, 10), (4, 10)] [4])
 (.cond (.t 64)
 (.seq
 (.ops [⟨some 2, (.mv (.c (.int .i64 (8)))), none⟩]
 [] [1, 49, 50, 52, 53, 54, 55, 56, 57, 58, 59, 60, 61, 62, 63, 64, 65])
 .ret)
 .skip))))
 (.ops [⟨some 65, (.bin .add (.t 50) (.c (.int .i64 (1)))), none⟩,
 ⟨some 50, (.mv (.t 65)), none⟩]
 [] [64])))))))
 (.seq
 (.seq
 (.ops [⟨some 66, (.fad 2 (.t 1)), none⟩,
 ⟨some 67, (.load false 1 (.t 66)), none⟩,
 ⟨some 68, (.call (.f 169) [(.t 67)]), none⟩,
 ⟨some 69, (.bin .lss (.t 68) (.c (.int .i64 (0)))), none⟩,
 ⟨some 70, (.mv (.t 69)), none⟩,
 ⟨some 71, (.fad 2 (.t 1)), some (70, false)⟩,
 ⟨some 72, (.load false 1 (.t 71)), some (70, false)⟩,
 ⟨some 73, (.call (.f 170) [(.t 72)]), some (70, false)⟩,
 ⟨some 74, (.bin .gtr (.t 73) (.c (.int .i64 (12)))), some (70, false)⟩,
 ⟨some 75, (.pick (.t 70) (.c (.bool true)) (.t 74)), none⟩,
 ⟨some 76, (.mv (.t 75)), none⟩,
 ⟨some 77, (.fad 2 (.t 1)), some (76, false)⟩,
 ⟨some 78, (.load false 1 (.t 77)), some (76, false)⟩,
 ⟨some 79, (.call (.f 170) [(.t 78)]), some (76, false)⟩,
 ⟨some 80, (.bin .eql (.t 79) (.c (.int .i64 (0)))), some (76, false)⟩,
 ⟨some 81, (.pick (.t 76) (.c (.bool true)) (.t 80)), none⟩]
 [] [1, 49, 50, 51, 52, 53, 54, 55, 56, 57, 58, 59, 60, 61, 62, 63, 65, 66, 67, 68, 69, 70, 71, 72, 73, 74, 75, 76, 77, 78, 79, 80])
 (.cond (.t 81)
 (.seq
 (.ops [⟨some 2, (.mv (.c (.int .i64 (8)))), none⟩]
 [] [81])
 .ret)
 .skip))
 (.seq
 (.ops [⟨some 2, (.mv (.c (.int .i64 (0)))), none⟩]
 [] [81])
 .ret)))))))⟩
def loc92 : List Nat := [1]
def fg92 : List (Nat × List Nat) := [(14, [81]), (13, [81]), (12, [1, 49, 50, 51, 52, 53, 54, 55, 56, 57, 58, 59, 60, 61, 62, 63, 65, 66, 67, 68, 69, 70, 71, 72, 73, 74, 75, 76, 77, 78, 79, 80]), (11, [64]), (10, [1, 49, 50, 52, 53, 54, 55, 56, 57, 58, 59, 60, 61, 62, 63, 64, 65]), (9, [4]), (8, [51]), (6, [3, 47, 48]), (5, [1, 3, 47]), (4, [14, 15, 16, 17, 18, 19, 20, 21, 22, 23, 24, 25, 26, 27, 28, 29, 30, 31, 32, 33, 34, 35, 36, 37, 38, 39, 40, 41, 42, 43, 44, 45, 46]), (3, [1, 3, 14]), (2, [8, 9, 10, 11, 12, 13]), (1, [5, 6, 7]), (0, [0, 2])]
theorem comp92 : compFn Try.prog loc92 (fun i => (fg92.lookup i).getD []) Try.f92 = some lit92 := by kernel_rfl

-- parcener/cake.Mark
def lit93 : AFn := ⟨3, [.cell 6 true 2, .tmp 7],
 (.seq
 (.ops [⟨some 3, (.boxL (.t 0)), none⟩,
 ⟨some 4, (.boxL (.t 1)), none⟩,
 ⟨some 5, (.boxH true 2 (.t 2)), none⟩,
 ⟨some 6, (.allocL (.agg [(.int .i64 (0)), (.int .i64 (0))])), none⟩,
 ⟨some 7, (.mv (.c (.int .i64 (0)))), none⟩]
 [] [0, 1, 2, 7])
 (.seq
 (.seq
 (.ops [⟨some 12, (.load true 3 (.t 3)), none⟩,
 ⟨some 13, (.call (.f 92) [(.t 12)]), none⟩,
 ⟨some 8, (.mv (.t 13)), none⟩]
 [] [12, 13])
 (.seq
 (.ops [⟨some 14, (.mv (.t 8)), none⟩,
 ⟨some 15, (.bin .neq (.t 14) (.c (.int .i64 (0)))), none⟩]
 [] [14])
 (.cond (.t 15)
 (.seq
 (.ops [⟨some 16, (.build [(.int .i64 (0)), (.int .i64 (0))] []), none⟩,
 ⟨some 17, (.mv (.t 8)), none⟩,
 ⟨none, (.store 2 (.t 6) (.t 16)), none⟩,
 ⟨some 7, (.mv (.t 17)), none⟩]
 [] [3, 4, 5, 8, 15, 16, 17])
 .ret)
 .skip)))
 (.seq
 (.seq
 (.ops [⟨some 18, (.load true 3 (.t 3)), none⟩,
 ⟨some 19, (.load true 2 (.t 4)), none⟩,
 ⟨some 20, (.call (.f 171) [(.t 18), (.t 19)]), none⟩,
 ⟨some 21, (.un .not (.t 20)), none⟩,
 ⟨some 22, (.mv (.t 21)), none⟩,
 ⟨some 23, (.load true 2 (.t 5)), some (22, false)⟩,
 ⟨some 24, (.call (.f 95) [(.t 23)]), some (22, false)⟩,
 ⟨some 25, (.bin .neq (.t 24) (.c (.int .i64 (0)))), some (22, false)⟩,
 ⟨some 26, (.pick (.t 22) (.c (.bool true)) (.t 25)), none⟩,
 ⟨some 27, (.mv (.t 26)), none⟩,
 ⟨some 28, (.fad 0 (.t 5)), some (27, false)⟩,
 ⟨some 29, (.load false 1 (.t 28)), some (27, false)⟩,
 ⟨some 30, (.bin .lss (.t 29) (.c (.int .i64 (0)))), some (27, false)⟩,
 ⟨some 31, (.pick (.t 27) (.c (.bool true)) (.t 30)), none⟩]
 [] [8, 15, 18, 19, 20, 21, 22, 23, 24, 25, 26, 27, 28, 29, 30])
 (.cond (.t 31)
 (.seq
 (.ops [⟨some 32, (.build [(.int .i64 (0)), (.int .i64 (0))] []), none⟩,
 ⟨none, (.store 2 (.t 6) (.t 32)), none⟩,
 ⟨some 7, (.mv (.c (.int .i64 (2)))), none⟩]
 [] [3, 4, 5, 31, 32])
 .ret)
 .skip))
 (.seq
 (.seq
 (.ops [⟨some 33, (.fad 0 (.t 5)), none⟩,
 ⟨some 34, (.load false 1 (.t 33)), none⟩,
 ⟨some 35, (.bin .eql (.t 34) (.c (.int .i64 (0)))), none⟩]
 [] [31, 33, 34])
 (.cond (.t 35)
 (.seq
 (.ops [⟨some 36, (.load true 2 (.t 4)), none⟩,
 ⟨none, (.store 2 (.t 6) (.t 36)), none⟩,
 ⟨some 7, (.mv (.c (.int .i64 (0)))), none⟩]
 [] [3, 4, 5, 35, 36])
 .ret)
 .skip))
 (.seq
 (.ops [⟨some 9, (.allocH true 2 (.agg [(.int .i64 (0)), (.int .i64 (0))])), none⟩]
 [] [35])
 (.seq
 (.ops [⟨some 10, (.allocH true 1 (.int .i64 (0))), none⟩,
 ⟨none, (.store 1 (.t 10) (.c (.int .i64 (6)))), none⟩]
 [] [])
 (.seq
 (.ops [⟨some 37, (.load true 3 (.t 3)), none⟩,
 ⟨some 38, (.load true 2 (.t 4)), none⟩,
 ⟨some 39, (.mkFn (.func 173) [] [(.t 5), (.t 10), (.t 9)]), none⟩,
 ⟨some 40, (.call (.f 172) [(.t 37), (.t 38), (.t 39)]), none⟩,
 ⟨some 11, (.mv (.t 40)), none⟩]
 [] [3, 4, 5, 37, 38, 39, 40])
 (.seq
 (.seq
 (.ops [⟨some 41, (.mv (.t 11)), none⟩,
 ⟨some 42, (.bin .neq (.t 41) (.c (.int .i64 (0)))), none⟩]
 [] [41])
 (.cond (.t 42)
 (.ops [⟨some 43, (.mv (.t 11)), none⟩,
 ⟨none, (.store 1 (.t 10) (.t 43)), none⟩]
 [] [11, 42, 43])
 .skip))
 (.seq
 (.seq
 (.ops [⟨some 44, (.load false 1 (.t 10)), none⟩,
 ⟨some 45, (.bin .neq (.t 44) (.c (.int .i64 (0)))), none⟩]
 [] [11, 42, 44])
 (.cond (.t 45)
 (.seq
 (.ops [⟨some 46, (.build [(.int .i64 (0)), (.int .i64 (0))] []), none⟩,
 ⟨some 47, (.load false 1 (.t 10)), none⟩,
 ⟨none, (.store 2 (.t 6) (.t 46)), none⟩,
 ⟨some 7, (.mv (.t 47)), none⟩]
 [(0, 1), (1, 2)] [9, 10, 45, 46, 47])
 .ret)
 .skip))
 (.seq
 (.ops [⟨some 48, (.load true 2 (.t 9)), none⟩,
 ⟨none, (.store 2 (.t 6) (.t 48)), none⟩,
 ⟨some 7, (.mv (.c (.int .i64 (0)))), none⟩]
 [] [9, 10, 45, 48])
 .ret))))))))))⟩
def loc93 : List Nat := [3, 4, 6]
def fg93 : List (Nat × List Nat) := [(15, [9, 10, 45, 48]), (14, [9, 10, 45, 46, 47]), (13, [11, 42, 44]), (12, [11, 42, 43]), (11, [41]), (10, [3, 4, 5, 37, 38, 39, 40]), (8, [35]), (7, [3, 4, 5, 35, 36]), (6, [31, 33, 34]), (5, [3, 4, 5, 31, 32]), (4, [8, 15, 18, 19, 20, 21, 22, 23, 24, 25, 26, 27, 28, 29, 30]), (3, [3, 4, 5, 8, 15, 16, 17]), (2, [14]), (1, [12, 13]), (0, [0, 1, 2, 7])]
theorem comp93 : compFn Try.prog loc93 (fun i => (fg93.lookup i).getD []) Try.f93 = some lit93 := by kernel_rfl

-- parcener/cake.Value
def lit94 : AFn := ⟨3, [.cell 6 true 2, .tmp 7],
 (.seq
 (.ops [⟨some 3, (.boxL (.t 0)), none⟩,
 ⟨some 4, (.boxL (.t 1)), none⟩,
 ⟨some 5, (.boxL (.t 2)), none⟩,
 ⟨some 6, (.allocL (.agg [(.int .i64 (0)), (.int .i64 (0))])), none⟩,
 ⟨some 7, (.mv (.c (.int .i64 (0)))), none⟩]
 [] [0, 1, 2, 7])
 (.seq
 (.seq
 (.ops [⟨some 17, (.load true 3 (.t 3)), none⟩,
 ⟨some 18, (.call (.f 92) [(.t 17)]), none⟩,
 ⟨some 8, (.mv (.t 18)), none⟩]
 [] [17, 18])
 (.seq
 (.ops [⟨some 19, (.mv (.t 8)), none⟩,
 ⟨some 20, (.bin .neq (.t 19) (.c (.int .i64 (0)))), none⟩]
 [] [19])
 (.cond (.t 20)
 (.seq
 (.ops [⟨some 21, (.build [(.int .i64 (0)), (.int .i64 (0))] []), none⟩,
 ⟨some 22, (.mv (.t 8)), none⟩,
 ⟨none, (.store 2 (.t 6) (.t 21)), none⟩,
 ⟨some 7, (.mv (.t 22)), none⟩]
 [] [3, 4, 5, 8, 20, 21, 22])
 .ret)
 .skip)))
 (.seq
 (.seq
 (.ops [⟨some 23, (.load true 3 (.t 3)), none⟩,
 ⟨some 24, (.load true 2 (.t 4)), none⟩,
 ⟨some 25, (.call (.f 171) [(.t 23), (.t 24)]), none⟩,
 ⟨some 26, (.un .not (.t 25)), none⟩,
 ⟨some 27, (.mv (.t 26)), none⟩,
 ⟨some 28, (.load true 3 (.t 3)), some (27, false)⟩,
 ⟨some 29, (.load true 2 (.t 5)), some (27, false)⟩,
 ⟨some 30, (.call (.f 171) [(.t 28), (.t 29)]), some (27, false)⟩,
 ⟨some 31, (.un .not (.t 30)), some (27, false)⟩,
 ⟨some 32, (.pick (.t 27) (.c (.bool true)) (.t 31)), none⟩,
 ⟨some 33, (.mv (.t 32)), none⟩,
 ⟨some 34, (.load true 2 (.t 5)), some (33, false)⟩,
 ⟨some 35, (.load true 2 (.t 4)), some (33, false)⟩,
 ⟨some 36, (.call (.f 174) [(.t 34), (.t 35)]), some (33, false)⟩,
 ⟨some 37, (.pick (.t 33) (.c (.bool true)) (.t 36)), none⟩]
 [] [8, 20, 23, 24, 25, 26, 27, 28, 29, 30, 31, 32, 33, 34, 35, 36])
 (.cond (.t 37)
 (.seq
 (.ops [⟨some 38, (.build [(.int .i64 (0)), (.int .i64 (0))] []), none⟩,
 ⟨none, (.store 2 (.t 6) (.t 38)), none⟩,
 ⟨some 7, (.mv (.c (.int .i64 (2)))), none⟩]
 [] [3, 4, 5, 37, 38])
 .ret)
 .skip))
 (.seq
 (.ops [⟨some 39, (.call (.f 175) [(.c (.int .i64 (0)))]), none⟩,
 ⟨some 9, (.allocL (.agg [(.int .i64 (0)), (.int .i64 (0))])), none⟩,
 ⟨none, (.store 2 (.t 9) (.t 39)), none⟩]
 [] [37, 39])
 (.seq
 (.ops [⟨some 40, (.load true 2 (.t 4)), none⟩,
 ⟨some 10, (.allocL (.agg [(.int .i64 (0)), (.int .i64 (0))])), none⟩,
 ⟨none, (.store 2 (.t 10) (.t 40)), none⟩]
 [] [4, 40])
 (.seq
 (.seq
 (.ops [⟨some 41, (.fad 2 (.t 3)), none⟩,
 ⟨some 42, (.load false 1 (.t 41)), none⟩,
 ⟨some 43, (.len (.t 42)), none⟩,
 ⟨some 44, (.mv (.c (.int .i64 (0)))), none⟩]
 [] [41])
 (.block 0
 (.loop
 (.seq
 (.ops [⟨some 45, (.bin .lss (.t 44) (.t 43)), none⟩]
 [] [])
 (.seq
 (.cond (.t 45)
 .skip
 (.exit 0))
 (.seq
 (.block 1
 (.seq
 (.ops [⟨some 46, (.mv (.t 44)), none⟩,
 ⟨some 47, (.iad 1 (.t 42) (.t 44)), none⟩,
 ⟨some 48, (.load false 1 (.t 47)), none⟩,
 ⟨some 11, (.mv (.t 46)), none⟩,
 ⟨some 12, (.mv (.t 48)), none⟩]
 [] [45])
 (.seq
 (.ops [⟨some 49, (.fad 1 (.t 3)), none⟩,
 ⟨some 50, (.load false 1 (.t 49)), none⟩,
 ⟨some 51, (.mv (.t 11)), none⟩,
 ⟨some 52, (.bin .add (.t 51) (.c (.int .i64 (1)))), none⟩,
 ⟨some 53, (.iad 1 (.t 50) (.t 52)), none⟩,
 ⟨some 54, (.load false 1 (.t 53)), none⟩,
 ⟨some 55, (.call (.f 175) [(.t 54)]), none⟩,
 ⟨some 13, (.allocL (.agg [(.int .i64 (0)), (.int .i64 (0))])), none⟩,
 ⟨none, (.store 2 (.t 13) (.t 55)), none⟩]
 [] [11])
 (.seq
 (.seq
 (.ops [⟨some 56, (.load true 2 (.t 5)), none⟩,
 ⟨some 57, (.load true 2 (.t 13)), none⟩,
 ⟨some 58, (.call (.f 174) [(.t 56), (.t 57)]), none⟩]
 [] [])
 (.cond (.t 58)
 (.ops [⟨some 59, (.load true 2 (.t 5)), none⟩,
 ⟨none, (.store 2 (.t 13) (.t 59)), none⟩]
 [] [58])
 .skip))
 (.seq
 (.seq
 (.ops [⟨some 60, (.mv (.t 12)), none⟩,
 ⟨some 61, (.bin .eql (.t 60) (.c (.int .i64 (0)))), none⟩,
 ⟨some 62, (.mv (.t 61)), none⟩,
 ⟨some 63, (.load true 2 (.t 10)), some (62, false)⟩,
 ⟨some 64, (.load true 2 (.t 13)), some (62, false)⟩,
 ⟨some 65, (.call (.f 174) [(.t 63), (.t 64)]), some (62, false)⟩,
 ⟨some 66, (.un .not (.t 65)), some (62, false)⟩,
 ⟨some 67, (.pick (.t 62) (.c (.bool true)) (.t 66)), none⟩]
 [] [58])
 (.cond (.t 67)
 (.seq
 (.seq
 (.ops [⟨some 68, (.load true 2 (.t 10)), none⟩,
 ⟨some 69, (.load true 2 (.t 13)), none⟩,
 ⟨some 70, (.call (.f 174) [(.t 68), (.t 69)]), none⟩]
 [] [12, 67])
 (.cond (.t 70)
 (.ops [⟨some 71, (.load true 2 (.t 13)), none⟩,
 ⟨none, (.store 2 (.t 10) (.t 71)), none⟩]
 [] [70])
 .skip))
 (.exit 1))
 .skip))
 (.seq
 (.ops [⟨some 73, (.load true 2 (.t 13)), none⟩,
 ⟨some 74, (.load true 2 (.t 10)), none⟩,
 ⟨some 75, (.call (.f 84) [(.t 73), (.t 74)]), none⟩,
 ⟨some 72, (.mv (.t 75)), none⟩,
 ⟨some 76, (.ext (.t 72) 0), none⟩,
 ⟨some 77, (.ext (.t 72) 1), none⟩,
 ⟨some 14, (.allocL (.agg [(.int .i64 (0)), (.int .i64 (0))])), none⟩,
 ⟨none, (.store 2 (.t 14) (.t 76)), none⟩,
 ⟨some 15, (.mv (.t 77)), none⟩]
 [] [67])
 (.seq
 (.seq
 (.ops [⟨some 78, (.mv (.t 15)), none⟩,
 ⟨some 79, (.bin .neq (.t 78) (.c (.int .i64 (0)))), none⟩]
 [] [])
 (.cond (.t 79)
 (.seq
 (.ops [⟨some 80, (.build [(.int .i64 (0)), (.int .i64 (0))] []), none⟩,
 ⟨some 81, (.mv (.t 15)), none⟩,
 ⟨none, (.store 2 (.t 6) (.t 80)), none⟩,
 ⟨some 7, (.mv (.t 81)), none⟩]
 [] [3, 5, 9, 10, 12, 13, 14, 15, 16, 42, 43, 44, 46, 47, 48, 49, 50, 51, 52, 53, 54, 55, 56, 57, 59, 60, 61, 62, 63, 64, 65, 66, 68, 69, 71, 72, 73, 74, 75, 76, 77, 78, 79, 80, 81, 82, 83, 84, 85, 86, 87, 88, 89, 93, 94, 95, 96, 97, 98, 99, 103, 104])
 .ret)
 .skip))
 (.seq
 (.ops [⟨some 83, (.load true 2 (.t 14)), none⟩,
 ⟨some 84, (.mv (.t 12)), none⟩,
 ⟨some 85, (.call (.f 175) [(.t 84)]), none⟩,
 ⟨some 86, (.call (.f 86) [(.t 83), (.t 85)]), none⟩,
 ⟨some 82, (.mv (.t 86)), none⟩,
 ⟨some 87, (.ext (.t 82) 0), none⟩,
 ⟨some 88, (.ext (.t 82) 1), none⟩,
 ⟨some 16, (.allocL (.agg [(.int .i64 (0)), (.int .i64 (0))])), none⟩,
 ⟨none, (.store 2 (.t 16) (.t 87)), none⟩,
 ⟨some 15, (.mv (.t 88)), none⟩]
 [(0, 1), (0, 2), (5, 6), (0, 7), (1, 7), (2, 7), (3, 7), (4, 7), (5, 7), (6, 7), (6, 8)] [12, 79])
 (.seq
 (.seq
 (.ops [⟨some 89, (.mv (.t 15)), none⟩,
 ⟨some 90, (.bin .neq (.t 89) (.c (.int .i64 (0)))), none⟩]
 [] [])
 (.cond (.t 90)
 (.seq
 (.ops [⟨some 91, (.build [(.int .i64 (0)), (.int .i64 (0))] []), none⟩,
 ⟨some 92, (.mv (.t 15)), none⟩,
 ⟨none, (.store 2 (.t 6) (.t 91)), none⟩,
 ⟨some 7, (.mv (.t 92)), none⟩]
 [] [3, 5, 9, 10, 13, 14, 15, 16, 42, 43, 44, 46, 47, 48, 49, 50, 51, 52, 53, 54, 55, 56, 57, 59, 60, 61, 62, 63, 64, 65, 66, 68, 69, 71, 72, 73, 74, 75, 76, 77, 78, 82, 83, 84, 85, 86, 87, 88, 89, 90, 91, 92, 93, 94, 95, 96, 97, 98, 99, 103, 104])
 .ret)
 .skip))
 (.seq
 (.seq
 (.ops [⟨some 94, (.load true 2 (.t 9)), none⟩,
 ⟨some 95, (.load true 2 (.t 16)), none⟩,
 ⟨some 96, (.call (.f 87) [(.t 94), (.t 95)]), none⟩,
 ⟨some 93, (.mv (.t 96)), none⟩,
 ⟨some 97, (.ext (.t 93) 0), none⟩,
 ⟨some 98, (.ext (.t 93) 1), none⟩,
 ⟨none, (.store 2 (.t 9) (.t 97)), none⟩,
 ⟨some 15, (.mv (.t 98)), none⟩]
 [] [90])
 (.seq
 (.ops [⟨some 99, (.mv (.t 15)), none⟩,
 ⟨some 100, (.bin .neq (.t 99) (.c (.int .i64 (0)))), none⟩]
 [] [])
 (.cond (.t 100)
 (.seq
 (.ops [⟨some 101, (.build [(.int .i64 (0)), (.int .i64 (0))] []), none⟩,
 ⟨some 102, (.mv (.t 15)), none⟩,
 ⟨none, (.store 2 (.t 6) (.t 101)), none⟩,
 ⟨some 7, (.mv (.t 102)), none⟩]
 [] [3, 5, 9, 10, 13, 14, 15, 16, 42, 43, 44, 46, 47, 48, 49, 50, 51, 52, 53, 54, 55, 56, 57, 59, 60, 61, 62, 63, 64, 65, 66, 68, 69, 71, 72, 73, 74, 75, 76, 77, 78, 82, 83, 84, 85, 86, 87, 88, 89, 93, 94, 95, 96, 97, 98, 99, 100, 101, 102, 103, 104])
 .ret)
 .skip)))
 (.ops [⟨some 103, (.load true 2 (.t 13)), none⟩,
 ⟨none, (.store 2 (.t 10) (.t 103)), none⟩]
 [] [15, 100])))))))))))
 (.ops [⟨some 104, (.bin .add (.t 44) (.c (.int .i64 (1)))), none⟩,
 ⟨some 44, (.mv (.t 104)), none⟩]
 [] [70])))))))
 (.seq
 (.ops [⟨some 105, (.load true 2 (.t 9)), none⟩,
 ⟨none, (.store 2 (.t 6) (.t 105)), none⟩,
 ⟨some 7, (.mv (.c (.int .i64 (0)))), none⟩]
 [] [3, 5, 9, 10, 13, 14, 16, 42, 43, 44, 45, 46, 47, 48, 49, 50, 51, 52, 53, 54, 55, 56, 57, 59, 60, 61, 62, 63, 64, 65, 66, 68, 69, 71, 72, 73, 74, 75, 76, 77, 78, 82, 83, 84, 85, 86, 87, 88, 89, 93, 94, 95, 96, 97, 98, 99, 103, 104, 105])
 .ret)))))))⟩
def loc94 : List Nat := [3, 4, 5, 6, 9, 10, 13, 14, 16]
def fg94 : List (Nat × List Nat) := [(28, [3, 5, 9, 10, 13, 14, 16, 42, 43, 44, 45, 46, 47, 48, 49, 50, 51, 52, 53, 54, 55, 56, 57, 59, 60, 61, 62, 63, 64, 65, 66, 68, 69, 71, 72, 73, 74, 75, 76, 77, 78, 82, 83, 84, 85, 86, 87, 88, 89, 93, 94, 95, 96, 97, 98, 99, 103, 104, 105]), (27, [70]), (26, [15, 100]), (25, [3, 5, 9, 10, 13, 14, 15, 16, 42, 43, 44, 46, 47, 48, 49, 50, 51, 52, 53, 54, 55, 56, 57, 59, 60, 61, 62, 63, 64, 65, 66, 68, 69, 71, 72, 73, 74, 75, 76, 77, 78, 82, 83, 84, 85, 86, 87, 88, 89, 93, 94, 95, 96, 97, 98, 99, 100, 101, 102, 103, 104]), (23, [90]), (22, [3, 5, 9, 10, 13, 14, 15, 16, 42, 43, 44, 46, 47, 48, 49, 50, 51, 52, 53, 54, 55, 56, 57, 59, 60, 61, 62, 63, 64, 65, 66, 68, 69, 71, 72, 73, 74, 75, 76, 77, 78, 82, 83, 84, 85, 86, 87, 88, 89, 90, 91, 92, 93, 94, 95, 96, 97, 98, 99, 103, 104]), (20, [12, 79]), (19, [3, 5, 9, 10, 12, 13, 14, 15, 16, 42, 43, 44, 46, 47, 48, 49, 50, 51, 52, 53, 54, 55, 56, 57, 59, 60, 61, 62, 63, 64, 65, 66, 68, 69, 71, 72, 73, 74, 75, 76, 77, 78, 79, 80, 81, 82, 83, 84, 85, 86, 87, 88, 89, 93, 94, 95, 96, 97, 98, 99, 103, 104]), (17, [67]), (16, [70]), (15, [12, 67]), (14, [58]), (13, [58]), (11, [11]), (10, [45]), (8, [41]), (7, [4, 40]), (6, [37, 39]), (5, [3, 4, 5, 37, 38]), (4, [8, 20, 23, 24, 25, 26, 27, 28, 29, 30, 31, 32, 33, 34, 35, 36]), (3, [3, 4, 5, 8, 20, 21, 22]), (2, [19]), (1, [17, 18]), (0, [0, 1, 2, 7])]
theorem comp94 : compFn Try.prog loc94 (fun i => (fg94.lookup i).getD []) Try.f94 = some lit94 := by kernel_rfl

-- parcener/ratio.Check
def lit95 : AFn := ⟨1, [.tmp 2],
 (.seq
 (.ops [⟨some 1, (.boxL (.t 0)), none⟩,
 ⟨some 2, (.mv (.c (.int .i64 (0)))), none⟩]
 [] [0, 2])
 (.seq
 (.seq
 (.ops [⟨some 3, (.fad 1 (.t 1)), none⟩,
 ⟨some 4, (.load false 1 (.t 3)), none⟩,
 ⟨some 5, (.bin .lss (.t 4) (.c (.int .i64 (1)))), none⟩,
 ⟨some 6, (.mv (.t 5)), none⟩,
 ⟨some 7, (.fad 0 (.t 1)), some (6, false)⟩,
 ⟨some 8, (.load false 1 (.t 7)), some (6, false)⟩,
 ⟨some 9, (.call (.f 158) [(.t 8)]), some (6, false)⟩,
 ⟨some 10, (.fad 1 (.t 1)), some (6, false)⟩,
 ⟨some 11, (.load false 1 (.t 10)), some (6, false)⟩,
 ⟨some 12, (.conv .u64 (.t 11)), some (6, false)⟩,
 ⟨some 13, (.minmax true [(.t 9), (.t 12)]), some (6, false)⟩,
 ⟨some 14, (.bin .gtr (.t 13) (.c (.int .u64 (1000000000000000000)))), some (6, false)⟩,
 ⟨some 15, (.pick (.t 6) (.c (.bool true)) (.t 14)), none⟩,
 ⟨some 16, (.mv (.t 15)), none⟩,
 ⟨some 17, (.fad 0 (.t 1)), some (16, false)⟩,
 ⟨some 18, (.load false 1 (.t 17)), some (16, false)⟩,
 ⟨some 19, (.call (.f 158) [(.t 18)]), some (16, false)⟩,
 ⟨some 20, (.fad 1 (.t 1)), some (16, false)⟩,
 ⟨some 21, (.load false 1 (.t 20)), some (16, false)⟩,
 ⟨some 22, (.conv .u64 (.t 21)), some (16, false)⟩,
 ⟨some 23, (.call (.f 159) [(.t 19), (.t 22)]), some (16, false)⟩,
 ⟨some 24, (.bin .gtr (.t 23) (.c (.int .u64 (1)))), some (16, false)⟩,
 ⟨some 25, (.pick (.t 16) (.c (.bool true)) (.t 24)), none⟩]
 [(4, 7), (5, 7), (6, 7), (4, 8), (5, 8), (6, 8), (4, 9), (5, 9), (6, 9), (14, 17), (15, 17), (16, 17), (14, 18), (15, 18), (16, 18), (14, 19), (15, 19), (16, 19)] [1, 3, 4, 5, 6, 7, 8, 9, 10, 11, 12, 13, 14, 15, 16, 17, 18, 19, 20, 21, 22, 23, 24])
 (.cond (.t 25)
 (.seq
 (.ops [⟨some 2, (.mv (.c (.int .i64 (8)))), none⟩]
 [] [25])
 .ret)
 .skip))
 (.seq
 (.ops [⟨some 2, (.mv (.c (.int .i64 (0)))), none⟩]
 [] [25])
 .ret)))⟩
def loc95 : List Nat := [1]
def fg95 : List (Nat × List Nat) := [(3, [25]), (2, [25]), (1, [1, 3, 4, 5, 6, 7, 8, 9, 10, 11, 12, 13, 14, 15, 16, 17, 18, 19, 20, 21, 22, 23, 24]), (0, [0, 2])]
theorem comp95 : compFn Try.prog loc95 (fun i => (fg95.lookup i).getD []) Try.f95 = some lit95 := by kernel_rfl

-- parcener/ratio.Make
def lit107 : AFn := ⟨2, [.cell 4 true 2, .tmp 5],
 (.seq
 (.ops [⟨some 4, (.allocL (.agg [(.int .i64 (0)), (.int .i64 (0))])), none⟩,
 ⟨some 5, (.mv (.c (.int .i64 (0)))), none⟩]
 [] [5])
 (.seq
 (.seq
 (.ops [⟨some 9, (.mv (.t 1)), none⟩,
 ⟨some 10, (.bin .eql (.t 9) (.c (.int .i64 (0)))), none⟩]
 [] [9])
 (.cond (.t 10)
 (.seq
 (.ops [⟨some 11, (.build [(.int .i64 (0)), (.int .i64 (0))] []), none⟩,
 ⟨none, (.store 2 (.t 4) (.t 11)), none⟩,
 ⟨some 5, (.mv (.c (.int .i64 (18)))), none⟩]
 [] [0, 1, 10, 11])
 .ret)
 .skip))
 (.seq
 (.ops [⟨some 12, (.mv (.t 0)), none⟩,
 ⟨some 13, (.call (.f 158) [(.t 12)]), none⟩,
 ⟨some 14, (.mv (.t 1)), none⟩,
 ⟨some 15, (.call (.f 158) [(.t 14)]), none⟩,
 ⟨some 6, (.mv (.t 13)), none⟩,
 ⟨some 7, (.mv (.t 15)), none⟩]
 [] [10, 12, 13, 14, 15])
 (.seq
 (.ops [⟨some 16, (.mv (.t 6)), none⟩,
 ⟨some 17, (.mv (.t 7)), none⟩,
 ⟨some 18, (.call (.f 159) [(.t 16), (.t 17)]), none⟩,
 ⟨some 8, (.mv (.t 18)), none⟩]
 [] [16, 17, 18])
 (.seq
 (.ops [⟨some 19, (.mv (.t 0)), none⟩,
 ⟨some 20, (.bin .lss (.t 19) (.c (.int .i64 (0)))), none⟩,
 ⟨some 21, (.mv (.t 1)), none⟩,
 ⟨some 22, (.bin .lss (.t 21) (.c (.int .i64 (0)))), none⟩,
 ⟨some 23, (.eqB true (.t 20) (.t 22)), none⟩,
 ⟨some 24, (.mv (.t 6)), none⟩,
 ⟨some 25, (.mv (.t 8)), none⟩,
 ⟨some 26, (.bin .quo (.t 24) (.t 25)), none⟩,
 ⟨some 27, (.mv (.t 7)), none⟩,
 ⟨some 28, (.mv (.t 8)), none⟩,
 ⟨some 29, (.bin .quo (.t 27) (.t 28)), none⟩,
 ⟨some 30, (.call (.f 161) [(.t 23), (.t 26), (.t 29)]), none⟩,
 ⟨some 31, (.ext (.t 30) 0), none⟩,
 ⟨some 32, (.ext (.t 30) 1), none⟩,
 ⟨none, (.store 2 (.t 4) (.t 31)), none⟩,
 ⟨some 5, (.mv (.t 32)), none⟩]
 [(0, 2), (1, 2), (0, 3), (1, 3), (0, 5), (1, 5), (2, 5), (3, 5), (4, 5), (0, 6), (1, 6), (2, 6), (3, 6), (4, 6), (5, 6), (0, 7), (1, 7), (2, 7), (3, 7), (4, 7), (0, 8), (1, 8), (2, 8), (3, 8), (4, 8), (5, 8), (6, 8), (7, 8), (0, 9), (1, 9), (2, 9), (3, 9), (4, 9), (5, 9), (6, 9), (7, 9), (8, 9), (0, 10), (1, 10), (2, 10), (3, 10), (4, 10), (5, 10), (6, 10), (7, 10), (12, 13)] [0, 1, 6, 7, 8, 19, 20, 21, 22, 23, 24, 25, 26, 27, 28, 29, 30, 31, 32])
 .ret)))))⟩
def loc107 : List Nat := [4]
def fg107 : List (Nat × List Nat) := [(5, [0, 1, 6, 7, 8, 19, 20, 21, 22, 23, 24, 25, 26, 27, 28, 29, 30, 31, 32]), (4, [16, 17, 18]), (3, [10, 12, 13, 14, 15]), (2, [0, 1, 10, 11]), (1, [9]), (0, [5])]
theorem comp107 : compFn Try.prog loc107 (fun i => (fg107.lookup i).getD []) Try.f107 = some lit107 := by kernel_rfl

-- parcener/parcenerref03.Same
def lit122 : AFn := ⟨2, [.tmp 4],
 (.seq
 (.ops [⟨some 4, (.mv (.c (.bool false))), none⟩]
 [] [4])
 (.seq
 (.seq
 (.ops [⟨some 6, (.mv (.t 0)), none⟩,
 ⟨some 7, (.len (.t 6)), none⟩,
 ⟨some 8, (.mv (.t 1)), none⟩,
 ⟨some 9, (.len (.t 8)), none⟩,
 ⟨some 10, (.bin .neq (.t 7) (.t 9)), none⟩]
 [] [6, 7, 8, 9])
 (.cond (.t 10)
 (.seq
 (.ops [⟨some 4, (.mv (.c (.bool false))), none⟩]
 [] [0, 1, 10])
 .ret)
 .skip))
 (.seq
 (.seq
 (.ops [⟨some 5, (.mv (.c (.int .i64 (0)))), none⟩]
 [] [10])
 (.block 0
 (.loop
 (.seq
 (.seq
 (.ops [⟨some 11, (.mv (.t 5)), none⟩,
 ⟨some 12, (.mv (.t 0)), none⟩,
 ⟨some 13, (.len (.t 12)), none⟩,
 ⟨some 14, (.bin .lss (.t 11) (.t 13)), none⟩]
 [] [])
 (.cond (.t 14)
 .skip
 (.exit 0)))
 (.seq
 (.block 1
 (.seq
 (.ops [⟨some 17, (.mv (.t 0)), none⟩,
 ⟨some 18, (.mv (.t 5)), none⟩,
 ⟨some 19, (.iad 4 (.t 17) (.t 18)), none⟩,
 ⟨some 20, (.load true 4 (.t 19)), none⟩,
 ⟨some 21, (.mv (.t 1)), none⟩,
 ⟨some 22, (.mv (.t 5)), none⟩,
 ⟨some 23, (.iad 4 (.t 21) (.t 22)), none⟩,
 ⟨some 24, (.load true 4 (.t 23)), none⟩,
 ⟨some 25, (.eqA true 4 [(0, (some .i64)), (1, (some .i64)), (2, (some .i64)), (3, (some .i64))] (.t 20) (.t 24)), none⟩]
 [(0, 1), (0, 4), (1, 4), (2, 4), (3, 4), (0, 5), (1, 5), (2, 5), (3, 5), (4, 5), (0, 6), (1, 6), (2, 6), (3, 6), (0, 7), (1, 7), (2, 7), (3, 7)] [14])
 (.cond (.t 25)
 (.seq
 (.ops [⟨some 4, (.mv (.c (.bool false))), none⟩]
 [] [0, 1, 5, 11, 12, 13, 15, 16, 17, 18, 19, 20, 21, 22, 23, 24, 25])
 .ret)
 .skip)))
 (.ops [⟨some 15, (.mv (.t 5)), none⟩,
 ⟨some 16, (.bin .add (.t 15) (.c (.int .i64 (1)))), none⟩,
 ⟨some 5, (.mv (.t 16)), none⟩]
 [] [25]))))))
 (.seq
 (.ops [⟨some 4, (.mv (.c (.bool true))), none⟩]
 [] [0, 1, 5, 11, 12, 13, 14, 15, 16, 17, 18, 19, 20, 21, 22, 23, 24])
 .ret))))⟩
def loc122 : List Nat := []
def fg122 : List (Nat × List Nat) := [(8, [0, 1, 5, 11, 12, 13, 14, 15, 16, 17, 18, 19, 20, 21, 22, 23, 24]), (5, [25]), (7, [0, 1, 5, 11, 12, 13, 15, 16, 17, 18, 19, 20, 21, 22, 23, 24, 25]), (6, [14]), (3, [10]), (2, [0, 1, 10]), (1, [6, 7, 8, 9]), (0, [4])]
theorem comp122 : compFn Try.prog loc122 (fun i => (fg122.lookup i).getD []) Try.f122 = some lit122 := by kernel_rfl

-- parcener/cake.Total
def lit133 : AFn := ⟨1, [.tmp 2, .tmp 3],
 (.seq
 (.ops [⟨some 1, (.boxL (.t 0)), none⟩,
 ⟨some 2, (.mv (.c (.int .i64 (0)))), none⟩,
 ⟨some 3, (.mv (.c (.int .i64 (0)))), none⟩]
 [] [0, 2, 3])
 (.seq
 (.seq
 (.ops [⟨some 8, (.load true 3 (.t 1)), none⟩,
 ⟨some 9, (.call (.f 92) [(.t 8)]), none⟩,
 ⟨some 4, (.mv (.t 9)), none⟩]
 [] [8, 9])
 (.seq
 (.ops [⟨some 10, (.mv (.t 4)), none⟩,
 ⟨some 11, (.bin .neq (.t 10) (.c (.int .i64 (0)))), none⟩]
 [] [10])
 (.cond (.t 11)
 (.seq
 (.ops [⟨some 12, (.mv (.t 4)), none⟩,
 ⟨some 2, (.mv (.c (.int .i64 (0)))), none⟩,
 ⟨some 3, (.mv (.t 12)), none⟩]
 [] [1, 4, 11, 12])
 .ret)
 .skip)))
 (.seq
 (.ops [⟨some 5, (.mv (.c (.int .i64 (0)))), none⟩]
 [] [4, 11])
 (.seq
 (.seq
 (.ops [⟨some 13, (.fad 2 (.t 1)), none⟩,
 ⟨some 14, (.load false 1 (.t 13)), none⟩,
 ⟨some 15, (.len (.t 14)), none⟩,
 ⟨some 16, (.mv (.c (.int .i64 (0)))), none⟩]
 [] [13])
 (.block 0
 (.loop
 (.seq
 (.ops [⟨some 17, (.bin .lss (.t 16) (.t 15)), none⟩]
 [] [])
 (.seq
 (.cond (.t 17)
 .skip
 (.exit 0))
 (.seq
 (.block 1
 (.seq
 (.ops [⟨some 18, (.mv (.t 16)), none⟩,
 ⟨some 19, (.iad 1 (.t 14) (.t 16)), none⟩,
 ⟨some 20, (.load false 1 (.t 19)), none⟩,
 ⟨some 6, (.mv (.t 18)), none⟩,
 ⟨some 7, (.mv (.t 20)), none⟩]
 [] [17])
 (.ops [⟨some 21, (.mv (.t 5)), none⟩,
 ⟨some 22, (.mv (.t 7)), none⟩,
 ⟨some 23, (.fad 1 (.t 1)), none⟩,
 ⟨some 24, (.load false 1 (.t 23)), none⟩,
 ⟨some 25, (.mv (.t 6)), none⟩,
 ⟨some 26, (.bin .add (.t 25) (.c (.int .i64 (1)))), none⟩,
 ⟨some 27, (.iad 1 (.t 24) (.t 26)), none⟩,
 ⟨some 28, (.load false 1 (.t 27)), none⟩,
 ⟨some 29, (.fad 1 (.t 1)), none⟩,
 ⟨some 30, (.load false 1 (.t 29)), none⟩,
 ⟨some 31, (.mv (.t 6)), none⟩,
 ⟨some 32, (.iad 1 (.t 30) (.t 31)), none⟩,
 ⟨some 33, (.load false 1 (.t 32)), none⟩,
 ⟨some 34, (.bin .sub (.t 28) (.t 33)), none⟩,
 ⟨some 35, (.bin .mul (.t 22) (.t 34)), none⟩,
 ⟨some 36, (.bin .add (.t 21) (.t 35)), none⟩,
 ⟨some 5, (.mv (.t 36)), none⟩]
 [(0, 1), (0, 2), (1, 2), (0, 3), (1, 3), (0, 4), (1, 4), (2, 4), (3, 4), (0, 5), (1, 5), (2, 5), (3, 5), (0, 6), (1, 6), (0, 7), (1, 7), (0, 8), (1, 8), (2, 8), (3, 8), (4, 8), (5, 8), (6, 8), (7, 8), (0, 9), (1, 9), (2, 9), (3, 9), (4, 9), (5, 9), (6, 9), (7, 9), (0, 10), (1, 10), (2, 10), (3, 10), (4, 10), (5, 10), (6, 10), (7, 10), (8, 10), (9, 10), (0, 11), (1, 11), (2, 11), (3, 11), (4, 11), (5, 11), (6, 11), (7, 11), (0, 12), (1, 12), (2, 12), (3, 12), (4, 12), (5, 12), (6, 12), (7, 12), (0, 13), (1, 13), (0, 14)] [6, 7])))
 (.ops [⟨some 37, (.bin .add (.t 16) (.c (.int .i64 (1)))), none⟩,
 ⟨some 16, (.mv (.t 37)), none⟩]
 [] [])))))))
 (.seq
 (.ops [⟨some 38, (.mv (.t 5)), none⟩,
 ⟨some 2, (.mv (.t 38)), none⟩,
 ⟨some 3, (.mv (.c (.int .i64 (0)))), none⟩]
 [] [1, 5, 14, 15, 16, 17, 18, 19, 20, 21, 22, 23, 24, 25, 26, 27, 28, 29, 30, 31, 32, 33, 34, 35, 36, 37, 38])
 .ret)))))⟩
def loc133 : List Nat := [1]
def fg133 : List (Nat × List Nat) := [(10, [1, 5, 14, 15, 16, 17, 18, 19, 20, 21, 22, 23, 24, 25, 26, 27, 28, 29, 30, 31, 32, 33, 34, 35, 36, 37, 38]), (8, [6, 7]), (7, [17]), (5, [13]), (4, [4, 11]), (3, [1, 4, 11, 12]), (2, [10]), (1, [8, 9]), (0, [0, 2, 3])]
theorem comp133 : compFn Try.prog loc133 (fun i => (fg133.lookup i).getD []) Try.f133 = some lit133 := by kernel_rfl

-- parcener/ratio.Cmp
def lit149 : AFn := ⟨2, [.tmp 4, .tmp 5],
 (.seq
 (.ops [⟨some 2, (.boxL (.t 0)), none⟩,
 ⟨some 3, (.boxL (.t 1)), none⟩,
 ⟨some 4, (.mv (.c (.int .i64 (0)))), none⟩,
 ⟨some 5, (.mv (.c (.int .i64 (0)))), none⟩]
 [] [0, 1, 4, 5])
 (.seq
 (.seq
 (.ops [⟨some 12, (.load true 2 (.t 2)), none⟩,
 ⟨some 13, (.load true 2 (.t 3)), none⟩,
 ⟨some 14, (.call (.f 157) [(.t 12), (.t 13)]), none⟩,
 ⟨some 6, (.mv (.t 14)), none⟩]
 [] [12, 13, 14])
 (.seq
 (.ops [⟨some 15, (.mv (.t 6)), none⟩,
 ⟨some 16, (.bin .neq (.t 15) (.c (.int .i64 (0)))), none⟩]
 [] [15])
 (.cond (.t 16)
 (.seq
 (.ops [⟨some 17, (.mv (.t 6)), none⟩,
 ⟨some 4, (.mv (.c (.int .i64 (0)))), none⟩,
 ⟨some 5, (.mv (.t 17)), none⟩]
 [] [2, 3, 6, 16, 17])
 .ret)
 .skip)))
 (.seq
 (.seq
 (.ops [⟨some 18, (.fad 0 (.t 2)), none⟩,
 ⟨some 19, (.load false 1 (.t 18)), none⟩,
 ⟨some 20, (.bin .lss (.t 19) (.c (.int .i64 (0)))), none⟩,
 ⟨some 21, (.fad 0 (.t 3)), none⟩,
 ⟨some 22, (.load false 1 (.t 21)), none⟩,
 ⟨some 23, (.bin .lss (.t 22) (.c (.int .i64 (0)))), none⟩,
 ⟨some 24, (.eqB true (.t 20) (.t 23)), none⟩]
 [] [6, 16, 18, 19, 20, 21, 22, 23])
 (.cond (.t 24)
 (.seq
 (.ops [⟨some 25, (.fad 0 (.t 2)), none⟩,
 ⟨some 26, (.load false 1 (.t 25)), none⟩,
 ⟨some 27, (.fad 0 (.t 3)), none⟩,
 ⟨some 28, (.load false 1 (.t 27)), none⟩,
 ⟨some 29, (.call (.f 226) [(.t 26), (.t 28)]), none⟩,
 ⟨some 4, (.mv (.t 29)), none⟩,
 ⟨some 5, (.mv (.c (.int .i64 (0)))), none⟩]
 [] [2, 3, 24, 25, 26, 27, 28, 29])
 .ret)
 .skip))
 (.seq
 (.ops [⟨some 31, (.fad 0 (.t 2)), none⟩,
 ⟨some 32, (.load false 1 (.t 31)), none⟩,
 ⟨some 33, (.call (.f 158) [(.t 32)]), none⟩,
 ⟨some 34, (.fad 1 (.t 3)), none⟩,
 ⟨some 35, (.load false 1 (.t 34)), none⟩,
 ⟨some 36, (.conv .u64 (.t 35)), none⟩,
 ⟨some 37, (.call (.f 160) [(.t 33), (.t 36)]), none⟩,
 ⟨some 30, (.mv (.t 37)), none⟩,
 ⟨some 38, (.ext (.t 30) 0), none⟩,
 ⟨some 39, (.ext (.t 30) 1), none⟩,
 ⟨some 7, (.mv (.t 38)), none⟩,
 ⟨some 8, (.mv (.t 39)), none⟩]
 [(0, 3), (1, 3), (2, 3), (0, 4), (1, 4), (2, 4), (0, 5), (1, 5), (2, 5), (8, 9), (9, 10)] [24, 30, 31, 32, 33, 34, 35, 36, 37, 38, 39])
 (.seq
 (.ops [⟨some 41, (.fad 0 (.t 3)), none⟩,
 ⟨some 42, (.load false 1 (.t 41)), none⟩,
 ⟨some 43, (.call (.f 158) [(.t 42)]), none⟩,
 ⟨some 44, (.fad 1 (.t 2)), none⟩,
 ⟨some 45, (.load false 1 (.t 44)), none⟩,
 ⟨some 46, (.conv .u64 (.t 45)), none⟩,
 ⟨some 47, (.call (.f 160) [(.t 43), (.t 46)]), none⟩,
 ⟨some 40, (.mv (.t 47)), none⟩,
 ⟨some 48, (.ext (.t 40) 0), none⟩,
 ⟨some 49, (.ext (.t 40) 1), none⟩,
 ⟨some 9, (.mv (.t 48)), none⟩,
 ⟨some 10, (.mv (.t 49)), none⟩]
 [(0, 3), (1, 3), (2, 3), (0, 4), (1, 4), (2, 4), (0, 5), (1, 5), (2, 5), (8, 9), (9, 10)] [3, 40, 41, 42, 43, 44, 45, 46, 47, 48, 49])
 (.seq
 (.ops [⟨some 50, (.mv (.t 7)), none⟩,
 ⟨some 51, (.mv (.t 9)), none⟩,
 ⟨some 52, (.call (.f 228) [(.t 50), (.t 51)]), none⟩,
 ⟨some 53, (.mv (.t 8)), none⟩,
 ⟨some 54, (.mv (.t 10)), none⟩,
 ⟨some 55, (.call (.f 228) [(.t 53), (.t 54)]), none⟩,
 ⟨some 56, (.buildSl true 1 (.int .i64 (0)) 2 [(0, (.t 52)), (1, (.t 55))]), none⟩,
 ⟨some 57, (.call (.f 227) [(.t 56)]), none⟩,
 ⟨some 11, (.mv (.t 57)), none⟩]
 [] [7, 8, 9, 10, 50, 51, 52, 53, 54, 55, 56, 57])
 (.seq
 (.seq
 (.ops [⟨some 58, (.fad 0 (.t 2)), none⟩,
 ⟨some 59, (.load false 1 (.t 58)), none⟩,
 ⟨some 60, (.bin .lss (.t 59) (.c (.int .i64 (0)))), none⟩]
 [] [2, 58, 59])
 (.cond (.t 60)
 (.ops [⟨some 61, (.mv (.t 11)), none⟩,
 ⟨some 62, (.un .neg (.t 61)), none⟩,
 ⟨some 11, (.mv (.t 62)), none⟩]
 [] [60, 61, 62])
 .skip))
 (.seq
 (.ops [⟨some 63, (.mv (.t 11)), none⟩,
 ⟨some 4, (.mv (.t 63)), none⟩,
 ⟨some 5, (.mv (.c (.int .i64 (0)))), none⟩]
 [] [11, 60, 63])
 .ret))))))))⟩
def loc149 : List Nat := [2, 3]
def fg149 : List (Nat × List Nat) := [(11, [11, 60, 63]), (10, [60, 61, 62]), (9, [2, 58, 59]), (8, [7, 8, 9, 10, 50, 51, 52, 53, 54, 55, 56, 57]), (7, [3, 40, 41, 42, 43, 44, 45, 46, 47, 48, 49]), (6, [24, 30, 31, 32, 33, 34, 35, 36, 37, 38, 39]), (5, [2, 3, 24, 25, 26, 27, 28, 29]), (4, [6, 16, 18, 19, 20, 21, 22, 23]), (3, [2, 3, 6, 16, 17]), (2, [15]), (1, [12, 13, 14]), (0, [0, 1, 4, 5])]
theorem comp149 : compFn Try.prog loc149 (fun i => (fg149.lookup i).getD []) Try.f149 = some lit149 := by kernel_rfl

-- parcener/ratio.check
def lit157 : AFn := ⟨2, [.tmp 4],
 (.seq
 (.ops [⟨some 2, (.boxL (.t 0)), none⟩,
 ⟨some 3, (.boxL (.t 1)), none⟩,
 ⟨some 4, (.mv (.c (.int .i64 (0)))), none⟩]
 [] [0, 1, 4])
 (.seq
 (.ops [⟨some 5, (.load true 2 (.t 2)), none⟩,
 ⟨some 6, (.call (.f 95) [(.t 5)]), none⟩,
 ⟨some 7, (.load true 2 (.t 3)), none⟩,
 ⟨some 8, (.call (.f 95) [(.t 7)]), none⟩,
 ⟨some 9, (.buildD 1 (.int .i64 (0)) 2 [(0, (.t 6)), (1, (.t 8))]), none⟩,
 ⟨some 10, (.call (.f 234) [(.t 9)]), none⟩,
 ⟨some 4, (.mv (.t 10)), none⟩]
 [(0, 2), (1, 2)] [2, 3, 5, 6, 7, 8, 9, 10])
 .ret))⟩
def loc157 : List Nat := [9, 2, 3]
def fg157 : List (Nat × List Nat) := [(1, [2, 3, 5, 6, 7, 8, 9, 10]), (0, [0, 1, 4])]
theorem comp157 : compFn Try.prog loc157 (fun i => (fg157.lookup i).getD []) Try.f157 = some lit157 := by kernel_rfl

-- parcener/ratio.size
def lit158 : AFn := ⟨1, [.tmp 2],
 (.seq
 (.ops [⟨some 2, (.mv (.c (.int .u64 (0)))), none⟩]
 [] [2])
 (.seq
 (.seq
 (.ops [⟨some 3, (.mv (.t 0)), none⟩,
 ⟨some 4, (.bin .lss (.t 3) (.c (.int .i64 (0)))), none⟩]
 [] [3])
 (.cond (.t 4)
 (.seq
 (.ops [⟨some 5, (.mv (.t 0)), none⟩,
 ⟨some 6, (.conv .u64 (.t 5)), none⟩,
 ⟨some 7, (.un .neg (.t 6)), none⟩,
 ⟨some 2, (.mv (.t 7)), none⟩]
 [] [0, 4, 5, 6, 7])
 .ret)
 .skip))
 (.seq
 (.ops [⟨some 8, (.mv (.t 0)), none⟩,
 ⟨some 9, (.conv .u64 (.t 8)), none⟩,
 ⟨some 2, (.mv (.t 9)), none⟩]
 [] [0, 4, 8, 9])
 .ret)))⟩
def loc158 : List Nat := []
def fg158 : List (Nat × List Nat) := [(3, [0, 4, 8, 9]), (2, [0, 4, 5, 6, 7]), (1, [3]), (0, [2])]
theorem comp158 : compFn Try.prog loc158 (fun i => (fg158.lookup i).getD []) Try.f158 = some lit158 := by kernel_rfl

-- parcener/ratio.gcd
def lit159 : AFn := ⟨2, [.tmp 4],
 (.seq
 (.ops [⟨some 4, (.mv (.c (.int .u64 (0)))), none⟩]
 [] [4])
 (.seq
 (.block 0
 (.loop
 (.seq
 (.seq
 (.ops [⟨some 5, (.mv (.t 1)), none⟩,
 ⟨some 6, (.bin .gtr (.t 5) (.c (.int .u64 (0)))), none⟩]
 [] [])
 (.cond (.t 6)
 .skip
 (.exit 0)))
 (.block 1
 (.ops [⟨some 7, (.mv (.t 1)), none⟩,
 ⟨some 8, (.mv (.t 0)), none⟩,
 ⟨some 9, (.mv (.t 1)), none⟩,
 ⟨some 10, (.bin .rem (.t 8) (.t 9)), none⟩,
 ⟨some 0, (.mv (.t 7)), none⟩,
 ⟨some 1, (.mv (.t 10)), none⟩]
 [(0, 1), (0, 2), (1, 2), (0, 3), (2, 4), (3, 4)] [6])))))
 (.seq
 (.ops [⟨some 11, (.mv (.t 0)), none⟩,
 ⟨some 4, (.mv (.t 11)), none⟩]
 [] [0, 1, 5, 6, 7, 8, 9, 10, 11])
 .ret)))⟩
def loc159 : List Nat := []
def fg159 : List (Nat × List Nat) := [(3, [0, 1, 5, 6, 7, 8, 9, 10, 11]), (2, [6]), (0, [4])]
theorem comp159 : compFn Try.prog loc159 (fun i => (fg159.lookup i).getD []) Try.f159 = some lit159 := by kernel_rfl

def tab0 : List (Nat × AFn) := [(3, lit3), (11, lit11), (12, lit12), (13, lit13), (14, lit14), (15, lit15), (16, lit16), (17, lit17), (18, lit18), (19, lit19), (22, lit22), (58, lit58), (79, lit79), (80, lit80), (81, lit81), (82, lit82), (83, lit83), (84, lit84), (85, lit85), (86, lit86), (87, lit87), (88, lit88), (89, lit89), (90, lit90), (91, lit91), (92, lit92), (93, lit93), (94, lit94), (95, lit95), (107, lit107), (122, lit122), (133, lit133), (149, lit149), (157, lit157), (158, lit158), (159, lit159)]
theorem tabOk0 : AllOk Try.prog tab0 := ⟨⟨_, _, _, Try.func3, comp3⟩, ⟨_, _, _, Try.func11, comp11⟩, ⟨_, _, _, Try.func12, comp12⟩, ⟨_, _, _, Try.func13, comp13⟩, ⟨_, _, _, Try.func14, comp14⟩, ⟨_, _, _, Try.func15, comp15⟩, ⟨_, _, _, Try.func16, comp16⟩, ⟨_, _, _, Try.func17, comp17⟩, ⟨_, _, _, Try.func18, comp18⟩, ⟨_, _, _, Try.func19, comp19⟩, ⟨_, _, _, Try.func22, comp22⟩, ⟨_, _, _, Try.func58, comp58⟩, ⟨_, _, _, Try.func79, comp79⟩, ⟨_, _, _, Try.func80, comp80⟩, ⟨_, _, _, Try.func81, comp81⟩, ⟨_, _, _, Try.func82, comp82⟩, ⟨_, _, _, Try.func83, comp83⟩, ⟨_, _, _, Try.func84, comp84⟩, ⟨_, _, _, Try.func85, comp85⟩, ⟨_, _, _, Try.func86, comp86⟩, ⟨_, _, _, Try.func87, comp87⟩, ⟨_, _, _, Try.func88, comp88⟩, ⟨_, _, _, Try.func89, comp89⟩, ⟨_, _, _, Try.func90, comp90⟩, ⟨_, _, _, Try.func91, comp91⟩, ⟨_, _, _, Try.func92, comp92⟩, ⟨_, _, _, Try.func93, comp93⟩, ⟨_, _, _, Try.func94, comp94⟩, ⟨_, _, _, Try.func95, comp95⟩, ⟨_, _, _, Try.func107, comp107⟩, ⟨_, _, _, Try.func122, comp122⟩, ⟨_, _, _, Try.func133, comp133⟩, ⟨_, _, _, Try.func149, comp149⟩, ⟨_, _, _, Try.func157, comp157⟩, ⟨_, _, _, Try.func158, comp158⟩, ⟨_, _, _, Try.func159, comp159⟩, trivial⟩
end Go.Proofs.Ytfkfmlifhdcolaa.Kn
